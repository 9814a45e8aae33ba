/-
  Parts of the proofs for this seat: G1 G2 G3.
-/
import Derived.Test.YtdbnflilbkjbhaaP9
set_option linter.unusedSectionVars false
set_option linter.unusedSimpArgs false
set_option linter.unusedVariables false
set_option maxRecDepth 100000
set_option maxHeartbeats 4000000
namespace Go.Proofs.Ytdbnflilbkjbhaa
open Go.AM
theorem Z8n{a:List Int}{r:AV×List Blk}(h:(some (Bo (decide (1048576<(a.length:Int))),[])=some r)):Zn0 a=some r:=by
 unfold Zn0;refine run Z52 rfl ?_;refine Ya ?_ h;clear h;simp +decide[*,kk,tI,tII,Zwk]
theorem Zsn{c:List Int}{h1 i:Int}{r:AV×List Blk}(h:(if i<(c.length:Int)then(if i<4000 then(0<=i/\(∃(e1:Int),c[i.toNat]?=some e1/\(Zhu c (andI (w ((w ((w (h1*131))+(w e1)))+7)) 1073741823) (w (i+1))=some r)))else(some (.ptr 0 0,[.box [L 1 (c.map (kc .u8)),I 0,I h1]])=some r))else(some (.ptr 0 0,[.box [L 1 (c.map (kc .u8)),I 0,I h1]])=some r))):Zhu c h1 i=some r:=by
 unfold Zhu;rw[Zm Zp9.eq_1]
 try simp only[itb]at h
 try simp only[itf,gS,kk]at h
 rcases h with⟨q1,(⟨q2,q3,e1,⟨g4,q4⟩,h⟩|⟨q2,h⟩)⟩|⟨q1,h⟩
 all_goals (refine Ya ?_ h;clear h;simp +decide[*,kk,tI,tII,Zhu,Zqa])
theorem Z8o{a:List Int}{r:AV×List Blk}(h:(Zhu a (w (10101+(a.length:Int))) 0=some r)):Zht a=some r:=by
 unfold Zht;refine run Z53 rfl ?_;refine Ya ?_ h;clear h;simp +decide[*,kk,tI,tII,Zwl,Zhu]
theorem Zz3{x:Za}{r:AV×List Blk}(h:(if x.i<(x.b.length:Int)then(0<=x.i/\(∃(e1:Int),x.b[x.i.toNat]?=some e1/\(some (I (andI (w ((andI (xorI (shrI (w ((w (x.h*6364136223846793005))+1442695040888963407)) 33) (shrI (w ((w (x.h*6364136223846793005))+1442695040888963407)) 45)) 255)+(w e1))) 255),[.box [L 1 (x.b.map (kc .u8)),I (w (x.i+1)),I (w ((w (x.h*6364136223846793005))+1442695040888963407))]])=some r)))else(some (I (andI (xorI (shrI (w ((w (x.h*6364136223846793005))+1442695040888963407)) 33) (shrI (w ((w (x.h*6364136223846793005))+1442695040888963407)) 45)) 255),[.box [L 1 (x.b.map (kc .u8)),I x.i,I (w ((w (x.h*6364136223846793005))+1442695040888963407))]])=some r))):Ze7 x=some r:=by
 unfold Ze7;refine runM Z54 rfl ?_
 try simp only[itb]at h
 try simp only[itf,gS,kk]at h
 rcases h with⟨q1,q2,e1,⟨g3,q3⟩,h⟩|⟨q1,h⟩
 all_goals (refine Ya ?_ h;clear h;simp +decide[*,kk,tI,tII,Zwn,Zwm])
theorem Zso{x:Za}{a:Int}{r:AV×List Blk}(h:(if a<=0 then(some (I 0,[.box (x.c.map .t)])=some r)else(if a<=256 then(∃(v:Za) (v1:Int),Ze7 x=some (I v1,[.box (v.c.map .t)])/\(¬a=0/\(some (I (Int.tmod v1 a),[.box (v.c.map .t)])=some r)))else(∃(v2:Za) (v3:Int),Ze7 x=some (I v3,[.box (v2.c.map .t)])/\(∃(v4:Za) (v5:Int),Ze7 v2=some (I v5,[.box (v4.c.map .t)])/\(∃(v6:Za) (v7:Int),Ze7 v4=some (I v7,[.box (v6.c.map .t)])/\(∃(v8:Za) (v9:Int),Ze7 v6=some (I v9,[.box (v8.c.map .t)])/\(¬a=0/\(some (I (Int.tmod (w ((w ((w ((w (v3*16777216))+(w (v5*65536))))+(w (v7*256))))+v9)) a),[.box (v8.c.map .t)])=some r))))))))):Zq x a=some r:=by
 unfold Zq;refine runM Z55 rfl ?_;simp only[Ze7,Za.c_def,mpl,dfs]at h
 try simp only[itb]at h
 try simp only[itf,gS,kk]at h
 rcases h with⟨q1,h⟩|⟨q1,(⟨q2,v,v1,q3,q4,h⟩|⟨q2,v2,v3,q5,v4,v5,q6,v6,v7,q7,v8,v9,q8,q9,h⟩)⟩
 all_goals (refine Ya ?_ h;clear h;simp +decide[*,kk,tI,tII,Zwo])
theorem Z8p{x:Za}{a:Int}{r:AV×List Blk}(h:(∃(v:Za) (v1:Int),Zq x a=some (I v1,[.box (v.c.map .t)])/\(some (Bo (decide (v1=0)),[.box (v.c.map .t)])=some r))):Zbm x a=some r:=by
 unfold Zbm;refine runM Z56 rfl ?_;simp only[Zq,Za.c_def,mpl,dfs]at h;rcases h with⟨v,v1,q1,h⟩
 all_goals (refine Ya ?_ h;clear h;simp +decide[*,kk,tI,tII,Zwp])
theorem Z8q{r:AV×List Blk}(h:(some (.agg [I 1,I 1,I 0,I 0,I 0,.own 0,I 2,I 3,I 0,I 0,I 0,.own 1,I 4,I 2,I 1,I 1,I 0,.own 2,I 1,I 1,I 1,I 1,I 0,.own 3,I 1,I 0,I 0,I 1,I 1,.own 4],[.arr 60 2 true (([]:List Zd).map Zd.c),.arr 60 2 true (([(⟨17,20⟩:Zd)]).map Zd.c),.arr 60 2 true (([]:List Zd).map Zd.c),.arr 60 2 true (([]:List Zd).map Zd.c),.arr 60 2 true (([]:List Zd).map Zd.c)])=some r)):Zn1=some r:=by
 unfold Zn1;refine run Z57 rfl ?_;refine Ya ?_ h;clear h;simp +decide[*,kk,tI,tII,Zwq]
theorem Z8r{x:Za}{x1:List Int}{r:AV×List Blk}(h:(∃(v:Za) (v1:Int),Zq x (x1.length:Int)=some (I v1,[.box (v.c.map .t)])/\(0<=v1/\(∃(e2:Int),x1[v1.toNat]?=some e2/\(some (I e2,[.box (v.c.map .t),.arr 3 1 true (x1.map ic)])=some r))))):Zbr x x1=some r:=by
 unfold Zbr;refine runM Zzy rfl ?_;simp only[Zq,Za.c_def,mpl,dfs]at h
 try simp only[itb]at h
 try simp only[itf,gS,kk]at h
 rcases h with⟨v,v1,q1,q2,e2,⟨g3,q3⟩,h⟩
 all_goals (refine Ya ?_ h;clear h;simp +decide[*,kk,tI,tII,Zqb])
theorem Zop{x:Za}{r:AV×List Blk}(h:(∃(v:Za) (v1:Int),Zq x 5=some (I v1,[.box (v.c.map .t)])/\(∃(v2:Za) (v3:Int),Zq v 4=some (I v3,[.box (v2.c.map .t)])/\(∃(v4:Za) (v5:Int),Zq v2 4=some (I v5,[.box (v4.c.map .t)])/\(∃(v6:Za) (v7:Int),Zq v4 3=some (I v7,[.box (v6.c.map .t)])/\(∃(v8:Za) (v9:Bool),Zbm v6 3=some (Bo v9,[.box (v8.c.map .t)])/\(if v9=true then(∃(v10:Za) (v11:Int),Zq v8 3=some (I v11,[.box (v10.c.map .t)])/\(∃(v12:Za) (v13:Bool),Zbm v10 3=some (Bo v13,[.box (v12.c.map .t)])/\(if v13=true then(∃(v14:Za) (v15:List Int) (v16:Int),Zbr v12 ([1,5,17,32])=some (I v16,[.box (v14.c.map .t),.arr 3 1 true (v15.map ic)])/\(∃(v17:Za) (v18:Int),Zq v14 20=some (I v18,[.box (v17.c.map .t)])/\(some (.agg [I (w (1+v1)),I v3,I v5,I v7,I v11,.own 1],[.box (v17.c.map .t),.arr 60 2 true (([(⟨v16,v18⟩:Zd)]).map Zd.c)])=some r)))else(some (.agg [I (w (1+v1)),I v3,I v5,I v7,I v11,.own 1],[.box (v12.c.map .t),.arr 60 2 true (([]:List Zd).map Zd.c)])=some r))))else(∃(v19:Za) (v20:Bool),Zbm v8 3=some (Bo v20,[.box (v19.c.map .t)])/\(if v20=true then(∃(v21:Za) (v22:List Int) (v23:Int),Zbr v19 ([1,5,17,32])=some (I v23,[.box (v21.c.map .t),.arr 3 1 true (v22.map ic)])/\(∃(v24:Za) (v25:Int),Zq v21 20=some (I v25,[.box (v24.c.map .t)])/\(some (.agg [I (w (1+v1)),I v3,I v5,I v7,I 0,.own 1],[.box (v24.c.map .t),.arr 60 2 true (([(⟨v23,v25⟩:Zd)]).map Zd.c)])=some r)))else(some (.agg [I (w (1+v1)),I v3,I v5,I v7,I 0,.own 1],[.box (v19.c.map .t),.arr 60 2 true (([]:List Zd).map Zd.c)])=some r)))))))))):Zd8 x=some r:=by
 unfold Zd8;refine runM Z58 rfl ?_;simp only[Zq,Zbm,Zbr,Za.c_def,mpl,dfs]at h
 try simp only[itb]at h
 try simp only[itf,gS,kk]at h
 rcases h with⟨v,v1,q1,v2,v3,q2,v4,v5,q3,v6,v7,q4,v8,v9,q5,(⟨q6,v10,v11,q7,v12,v13,q8,(⟨q9,v14,v15,v16,q10,v17,v18,q11,h⟩|⟨q9,h⟩)⟩|⟨q6,v19,v20,q12,(⟨q13,v21,v22,v23,q14,v24,v25,q15,h⟩|⟨q13,h⟩)⟩)⟩
 all_goals (refine Ya ?_ h;clear h;simp +decide[*,kk,tI,tII,Zwt,Zwr,Zws])
theorem Zz4{x:Za}{r:AV×List Blk}(h:(∃(v:Za) (v1:Bool),Zbm x 3=some (Bo v1,[.box (v.c.map .t)])/\(if v1=true then(∃(v2:List Zd) (v3:List Zd) (v4:List Zd) (v5:List Zd) (v6:List Zd) (v7:Int) (v8:Int) (v9:Int) (v10:Int) (v11:Int) (v12:Int) (v13:Int) (v14:Int) (v15:Int) (v16:Int) (v17:Int) (v18:Int) (v19:Int) (v20:Int) (v21:Int) (v22:Int) (v23:Int) (v24:Int) (v25:Int) (v26:Int) (v27:Int) (v28:Int) (v29:Int) (v30:Int) (v31:Int),Zn1=some (.agg [I v7,I v8,I v9,I v10,I v11,.own 0,I v12,I v13,I v14,I v15,I v16,.own 1,I v17,I v18,I v19,I v20,I v21,.own 2,I v22,I v23,I v24,I v25,I v26,.own 3,I v27,I v28,I v29,I v30,I v31,.own 4],[.arr 60 2 true (v2.map Zd.c),.arr 60 2 true (v3.map Zd.c),.arr 60 2 true (v4.map Zd.c),.arr 60 2 true (v5.map Zd.c),.arr 60 2 true (v6.map Zd.c)])/\(some (.agg [I v7,I v8,I v9,I v10,I v11,L 2 (v2.map Zd.c),I v12,I v13,I v14,I v15,I v16,L 2 (v3.map Zd.c),I v17,I v18,I v19,I v20,I v21,L 2 (v4.map Zd.c),I v22,I v23,I v24,I v25,I v26,L 2 (v5.map Zd.c),I v27,I v28,I v29,I v30,I v31,L 2 (v6.map Zd.c)],[.box (v.c.map .t)])=some r))else(∃(v32:Za) (v33:List Zd) (v34:Int) (v35:Int) (v36:Int) (v37:Int) (v38:Int),Zd8 v=some (.agg [I v34,I v35,I v36,I v37,I v38,.own 1],[.box (v32.c.map .t),.arr 60 2 true (v33.map Zd.c)])/\(∃(v39:Za) (v40:List Zd) (v41:Int) (v42:Int) (v43:Int) (v44:Int) (v45:Int),Zd8 v32=some (.agg [I v41,I v42,I v43,I v44,I v45,.own 1],[.box (v39.c.map .t),.arr 60 2 true (v40.map Zd.c)])/\(∃(v46:Za) (v47:List Zd) (v48:Int) (v49:Int) (v50:Int) (v51:Int) (v52:Int),Zd8 v39=some (.agg [I v48,I v49,I v50,I v51,I v52,.own 1],[.box (v46.c.map .t),.arr 60 2 true (v47.map Zd.c)])/\(∃(v53:Za) (v54:List Zd) (v55:Int) (v56:Int) (v57:Int) (v58:Int) (v59:Int),Zd8 v46=some (.agg [I v55,I v56,I v57,I v58,I v59,.own 1],[.box (v53.c.map .t),.arr 60 2 true (v54.map Zd.c)])/\(∃(v60:Za) (v61:List Zd) (v62:Int) (v63:Int) (v64:Int) (v65:Int) (v66:Int),Zd8 v53=some (.agg [I v62,I v63,I v64,I v65,I v66,.own 1],[.box (v60.c.map .t),.arr 60 2 true (v61.map Zd.c)])/\(some (.agg [I v34,I v35,I v36,I v37,I v38,L 2 (v33.map Zd.c),I v41,I v42,I v43,I v44,I v45,L 2 (v40.map Zd.c),I v48,I v49,I v50,I v51,I v52,L 2 (v47.map Zd.c),I v55,I v56,I v57,I v58,I v59,L 2 (v54.map Zd.c),I v62,I v63,I v64,I v65,I v66,L 2 (v61.map Zd.c)],[.box (v60.c.map .t)])=some r))))))))):Zhv x=some r:=by
 unfold Zhv;refine runM Z59 rfl ?_;simp only[Zbm,Zn1,Zd8,Za.c_def,mpl,dfs]at h
 try simp only[itb]at h
 try simp only[itf,gS,kk]at h
 rcases h with⟨v,v1,q1,(⟨q2,v2,v3,v4,v5,v6,v7,v8,v9,v10,v11,v12,v13,v14,v15,v16,v17,v18,v19,v20,v21,v22,v23,v24,v25,v26,v27,v28,v29,v30,v31,q3,h⟩|⟨q2,v32,v33,v34,v35,v36,v37,v38,q4,v39,v40,v41,v42,v43,v44,v45,q5,v46,v47,v48,v49,v50,v51,v52,q6,v53,v54,v55,v56,v57,v58,v59,q7,v60,v61,v62,v63,v64,v65,v66,q8,h⟩)⟩
 all_goals (refine Ya ?_ h;clear h;simp +decide[*,kk,tI,tII,Zwu])
theorem Zoq{x:Za}{r:AV×List Blk}(h:(∃(v:Za) (v1:List Zd) (v2:Int) (v3:Int) (v4:Int) (v5:Int) (v6:Int),Zd8 x=some (.agg [I v2,I v3,I v4,I v5,I v6,.own 1],[.box (v.c.map .t),.arr 60 2 true (v1.map Zd.c)])/\(∃(v7:Za) (v8:Int),Zq v 10=some (I v8,[.box (v7.c.map .t)])/\(if v8=0 then(∃(v9:Za) (v10:List Int) (v11:Int),Zbr v7 ([(-1),99,100,(-100)])=some (I v11,[.box (v9.c.map .t),.arr 3 1 true (v10.map ic)])/\(some (.agg [I v2,I v11,I v4,I v5,I v6,.own 1],[.box (v9.c.map .t),.arr 60 2 true (v1.map Zd.c)])=some r))else(if v8=1 then(∃(v12:Za) (v13:List Int) (v14:Int),Zbr v7 ([0,1,64,8192,8193])=some (I v14,[.box (v12.c.map .t),.arr 3 1 true (v13.map ic)])/\(∃(v15:Za) (v16:List Int) (v17:Int),Zbr v12 ([(-3),(-99),4,100])=some (I v17,[.box (v15.c.map .t),.arr 3 1 true (v16.map ic)])/\(v1.length+1<=68719476736/\(some (.agg [I v2,I v3,I v4,I v5,I v6,.own 1],[.box (v15.c.map .t),.arr 60 2 true ((v1++[(⟨v14,v17⟩:Zd)]).map Zd.c)])=some r))))else(if v8=2 then(∃(v18:Za) (v19:List Int) (v20:Int),Zbr v7 ([0,(-5),99,9223372036854775807])=some (I v20,[.box (v18.c.map .t),.arr 3 1 true (v19.map ic)])/\(some (.agg [I v20,I v3,I v4,I v5,I v6,.own 1],[.box (v18.c.map .t),.arr 60 2 true (v1.map Zd.c)])=some r))else(some (.agg [I v2,I v3,I v4,I v5,I v6,.own 1],[.box (v7.c.map .t),.arr 60 2 true (v1.map Zd.c)])=some r))))))):Zhw x=some r:=by
 unfold Zhw;refine runM Z6a rfl ?_;simp only[Zd8,Zq,Zbr,Za.c_def,mpl,dfs]at h
 try simp only[itb]at h
 try simp only[itf,gS,kk]at h
 rcases h with⟨v,v1,v2,v3,v4,v5,v6,q1,v7,v8,q2,(⟨q3,v9,v10,v11,q4,h⟩|⟨q3,(⟨q5,v12,v13,v14,q6,v15,v16,v17,q7,q8,h⟩|⟨q5,(⟨q9,v18,v19,v20,q10,h⟩|⟨q9,h⟩)⟩)⟩)⟩
 all_goals (refine Ya ?_ h;clear h;simp +decide[*,kk,tI,tII,Zww,Zwv])
theorem Zor{x:Za}{r:AV×List Blk}(h:(∃(v:Za) (v1:Zj),Zhv x=some (.agg (v1.c.map .t),[.box (v.c.map .t)])/\(∃(v2:Za) (v3:Bool),Zbm v 6=some (Bo v3,[.box (v2.c.map .t)])/\(if v3=true then(∃(v4:Za) (v5:List Zd) (v6:Int) (v7:Int) (v8:Int) (v9:Int) (v10:Int),Zhw v2=some (.agg [I v6,I v7,I v8,I v9,I v10,.own 1],[.box (v4.c.map .t),.arr 60 2 true (v5.map Zd.c)])/\(∃(v11:Za) (v12:Bool),Zbm v4 12=some (Bo v12,[.box (v11.c.map .t)])/\(if v12=true then(∃(v13:Za) (v14:List Zd) (v15:Int) (v16:Int) (v17:Int) (v18:Int) (v19:Int),Zhw v11=some (.agg [I v15,I v16,I v17,I v18,I v19,.own 1],[.box (v13.c.map .t),.arr 60 2 true (v14.map Zd.c)])/\(some (.agg [I v1.Scan.Fixed,I v1.Scan.Z9,I v1.Scan.Zba,I v1.Scan.Zbb,I v1.Scan.Zbc,L 2 (v1.Scan.Steps.map Zd.c),I v15,I v16,I v17,I v18,I v19,L 2 (v14.map Zd.c),I v6,I v7,I v8,I v9,I v10,L 2 (v5.map Zd.c),I v1.Merge.Fixed,I v1.Merge.Z9,I v1.Merge.Zba,I v1.Merge.Zbb,I v1.Merge.Zbc,L 2 (v1.Merge.Steps.map Zd.c),I v1.Nested.Fixed,I v1.Nested.Z9,I v1.Nested.Zba,I v1.Nested.Zbb,I v1.Nested.Zbc,L 2 (v1.Nested.Steps.map Zd.c)],[.box (v13.c.map .t)])=some r))else(some (.agg [I v1.Scan.Fixed,I v1.Scan.Z9,I v1.Scan.Zba,I v1.Scan.Zbb,I v1.Scan.Zbc,L 2 (v1.Scan.Steps.map Zd.c),I v1.Sort_.Fixed,I v1.Sort_.Z9,I v1.Sort_.Zba,I v1.Sort_.Zbb,I v1.Sort_.Zbc,L 2 (v1.Sort_.Steps.map Zd.c),I v6,I v7,I v8,I v9,I v10,L 2 (v5.map Zd.c),I v1.Merge.Fixed,I v1.Merge.Z9,I v1.Merge.Zba,I v1.Merge.Zbb,I v1.Merge.Zbc,L 2 (v1.Merge.Steps.map Zd.c),I v1.Nested.Fixed,I v1.Nested.Z9,I v1.Nested.Zba,I v1.Nested.Zbb,I v1.Nested.Zbc,L 2 (v1.Nested.Steps.map Zd.c)],[.box (v11.c.map .t)])=some r))))else(∃(v20:Za) (v21:Bool),Zbm v2 12=some (Bo v21,[.box (v20.c.map .t)])/\(if v21=true then(∃(v22:Za) (v23:List Zd) (v24:Int) (v25:Int) (v26:Int) (v27:Int) (v28:Int),Zhw v20=some (.agg [I v24,I v25,I v26,I v27,I v28,.own 1],[.box (v22.c.map .t),.arr 60 2 true (v23.map Zd.c)])/\(some (.agg [I v1.Scan.Fixed,I v1.Scan.Z9,I v1.Scan.Zba,I v1.Scan.Zbb,I v1.Scan.Zbc,L 2 (v1.Scan.Steps.map Zd.c),I v24,I v25,I v26,I v27,I v28,L 2 (v23.map Zd.c),I v1.Hash.Fixed,I v1.Hash.Z9,I v1.Hash.Zba,I v1.Hash.Zbb,I v1.Hash.Zbc,L 2 (v1.Hash.Steps.map Zd.c),I v1.Merge.Fixed,I v1.Merge.Z9,I v1.Merge.Zba,I v1.Merge.Zbb,I v1.Merge.Zbc,L 2 (v1.Merge.Steps.map Zd.c),I v1.Nested.Fixed,I v1.Nested.Z9,I v1.Nested.Zba,I v1.Nested.Zbb,I v1.Nested.Zbc,L 2 (v1.Nested.Steps.map Zd.c)],[.box (v22.c.map .t)])=some r))else(some (.agg (v1.c.map .t),[.box (v20.c.map .t)])=some r))))))):Zhx x=some r:=by
 unfold Zhx;refine runM Z6b rfl ?_;simp only[Zhv,Zbm,Zhw,Za.c_def,Zj.c_def,Zc.c_def,mpl,dfs]at h
 try simp only[itb]at h
 try simp only[itf,gS,kk]at h
 rcases h with⟨v,v1,q1,v2,v3,q2,(⟨q3,v4,v5,v6,v7,v8,v9,v10,q4,v11,v12,q5,(⟨q6,v13,v14,v15,v16,v17,v18,v19,q7,h⟩|⟨q6,h⟩)⟩|⟨q3,v20,v21,q8,(⟨q9,v22,v23,v24,v25,v26,v27,v28,q10,h⟩|⟨q9,h⟩)⟩)⟩
 all_goals (refine Ya ?_ h;clear h;simp +decide[*,kk,tI,tII,Zwz,Zwx,Zwy])
theorem Z8s{a:List Int}{r:AV×List Blk}(h:(∃(v:Za),Zht a=some (.ptr 0 0,[.box (v.c.map .t)])/\(∃(v1:Za) (v2:Zj),Zhx v=some (.agg (v2.c.map .t),[.box (v1.c.map .t)])/\(∃(v3:Za) (v4:Int),Zq v1 8=some (I v4,[.box (v3.c.map .t)])/\(∃(v5:Za) (v6:List Int) (v7:Int),Zbr v3 ([(-1),0,1,3,17,64,4096,4097])=some (I v7,[.box (v5.c.map .t),.arr 3 1 true (v6.map ic)])/\(some (.tup [.agg (v2.c.map .t),I (w (v4-1)),I v7],[])=some r)))))):Zk1 a=some r:=by
 unfold Zk1;refine run Z6c rfl ?_;simp only[Zht,Zhx,Zq,Zbr,Za.c_def,Zj.c_def,Zc.c_def,mpl,dfs]at h;rcases h with⟨v,q1,v1,v2,q2,v3,v4,q3,v5,v6,v7,q4,h⟩
 all_goals (refine Ya ?_ h;clear h;simp +decide[*,kk,tI,tII,Zw0])
theorem Z8t{a a1 a2:Int}{r:AV×List Blk}(h:(if a1<=a then(some (Bo (decide (a<=a2)),[])=some r)else(some (Bo false,[])=some r))):Zbj a a1 a2=some r:=by
 unfold Zbj;refine run Z6d rfl ?_
 try simp only[itb]at h
 try simp only[itf,gS,kk]at h
 rcases h with⟨q1,h⟩|⟨q1,h⟩
 all_goals (refine Ya ?_ h;clear h;simp +decide[*,kk,tI,tII,Zw1])
theorem Zz5{x:Zj}{r:AV×List Blk}(h:(some (.bsl 1 5,[.box (x.c.map .t),.box [.ptr 0 0,.ptr 0 6,.ptr 0 12,.ptr 0 18,.ptr 0 24]])=some r)):Zgb x=some r:=by
 unfold Zgb;refine runM Z6e rfl ?_;refine Ya ?_ h;clear h;simp +decide[*,kk,tI,tII,Zw2]
theorem Z8u{x:Zc}{r:AV×List Blk}(h:(some (.bsl 1 5,[.box (x.c.map .t),.box [.ptr 0 0,.ptr 0 1,.ptr 0 2,.ptr 0 3,.ptr 0 4]])=some r)):Zk2 x=some r:=by
 unfold Zk2;refine runM Z6f rfl ?_;refine Ya ?_ h;clear h;simp +decide[*,kk,tI,tII,Zw3]
theorem Zjs{o:Zc}{x x1:Int}{r:AV×List Blk}(h:(if x1<x then(if x1=0 then(∃(v:Bool),Zbj o.Fixed (-99) 99=some (Bo v,[])/\(if v=true then(Zc5 o x (w (x1+1))=some r)else(some (Bo false,[])=some r)))else(if x1=1 then(∃(v1:Bool),Zbj o.Z9 (-99) 99=some (Bo v1,[])/\(if v1=true then(Zc5 o x (w (x1+1))=some r)else(some (Bo false,[])=some r)))else(if x1=2 then(∃(v2:Bool),Zbj o.Zba (-99) 99=some (Bo v2,[])/\(if v2=true then(Zc5 o x (w (x1+1))=some r)else(some (Bo false,[])=some r)))else(if x1=3 then(∃(v3:Bool),Zbj o.Zbb (-99) 99=some (Bo v3,[])/\(if v3=true then(Zc5 o x (w (x1+1))=some r)else(some (Bo false,[])=some r)))else(if x1=4 then(∃(v4:Bool),Zbj o.Zbc (-99) 99=some (Bo v4,[])/\(if v4=true then(Zc5 o x (w (x1+1))=some r)else(some (Bo false,[])=some r)))else False)))))else(Ze8 o o.Steps (o.Steps.length:Int) 0=some r))):Zc5 o x x1=some r:=by
 unfold Zc5;rw[Zm Zqc.eq_1];by_cases q1:x1<x
 .rw[if_pos q1]at h;by_cases q2:x1=0
  .rw[if_pos q2]at h;subst q2;obtain⟨v,q3,h⟩:=h;unfold Zbj at q3
   try simp at q3
   by_cases q4:v=true
   .rw[if_pos q4]at h;refine Ya ?_ h;clear h;simp +decide[*,tI,tII,Zc5]
   .rw[if_neg q4]at h;refine Ya ?_ h;clear h;simp +decide[*,tI,tII]
  .rw[if_neg q2]at h;replace q2:=eq_false q2;by_cases q5:x1=1
   .rw[if_pos q5]at h;subst q5;obtain⟨v1,q6,h⟩:=h;unfold Zbj at q6
    try simp at q6
    by_cases q7:v1=true
    .rw[if_pos q7]at h;refine Ya ?_ h;clear h;simp +decide[*,tI,tII,Zc5]
    .rw[if_neg q7]at h;refine Ya ?_ h;clear h;simp +decide[*,tI,tII]
   .rw[if_neg q5]at h;replace q5:=eq_false q5;by_cases q8:x1=2
    .rw[if_pos q8]at h;subst q8;obtain⟨v2,q9,h⟩:=h;unfold Zbj at q9
     try simp at q9
     by_cases q10:v2=true
     .rw[if_pos q10]at h;refine Ya ?_ h;clear h;simp +decide[*,tI,tII,Zc5]
     .rw[if_neg q10]at h;refine Ya ?_ h;clear h;simp +decide[*,tI,tII]
    .rw[if_neg q8]at h;replace q8:=eq_false q8;by_cases q11:x1=3
     .rw[if_pos q11]at h;subst q11;obtain⟨v3,q12,h⟩:=h;unfold Zbj at q12
      try simp at q12
      by_cases q13:v3=true
      .rw[if_pos q13]at h;refine Ya ?_ h;clear h;simp +decide[*,tI,tII,Zc5]
      .rw[if_neg q13]at h;refine Ya ?_ h;clear h;simp +decide[*,tI,tII]
     .rw[if_neg q11]at h;replace q11:=eq_false q11;by_cases q14:x1=4
      .rw[if_pos q14]at h;subst q14;obtain⟨v4,q15,h⟩:=h;unfold Zbj at q15
       try simp at q15
       by_cases q16:v4=true
       .rw[if_pos q16]at h;refine Ya ?_ h;clear h;simp +decide[*,tI,tII,Zc5]
       .rw[if_neg q16]at h;refine Ya ?_ h;clear h;simp +decide[*,tI,tII]
      .rw[if_neg q14]at h;replace q14:=eq_false q14;cases h
 .rw[if_neg q1]at h;refine Ya ?_ h;clear h;simp +decide[*,tI,tII,Ze8,Zqf]
theorem Zz6{o:Zc}{x:List Zd}{x1 x2:Int}{r:AV×List Blk}(h:(if x2<x1 then(0<=x2/\(∃(e1:Zd),x[x2.toNat]?=some e1/\(∃(v:Bool),Zbj e1.Add (-99) 99=some (Bo v,[])/\(if v=true then(∃(v1:Bool),Zbj e1.From 1 8192=some (Bo v1,[])/\(if v1=true then(if 0<x2 then(0<=(w (x2-1))/\(∃(e4:Zd),o.Steps[(w (x2-1)).toNat]?=some e4/\(if e1.From<=e4.From then(some (Bo false,[])=some r)else(Ze8 o x x1 (w (x2+1))=some r))))else(Ze8 o x x1 (w (x2+1))=some r))else(some (Bo false,[])=some r)))else(some (Bo false,[])=some r)))))else(some (Bo (decide ((o.Steps.length:Int)<=4)),[])=some r))):Ze8 o x x1 x2=some r:=by
 unfold Ze8;rw[Zm Zqd.eq_1];simp only[Zbj,mpl,dfs]at h
 try simp only[itb]at h
 try simp only[itf,gS,kk]at h
 rcases h with⟨q1,q2,e1,⟨g3,q3⟩,v,q4,(⟨q5,v1,q6,(⟨q7,(⟨q8,q9,e4,⟨g10,q10⟩,(⟨q11,h⟩|⟨q11,h⟩)⟩|⟨q8,h⟩)⟩|⟨q7,h⟩)⟩|⟨q5,h⟩)⟩|⟨q1,h⟩
 all_goals (refine Ya ?_ h;clear h;simp +decide[*,kk,tI,tII,Ze8,Zqe])
theorem Z8v{a:Zc}{r:AV×List Blk}(h:(Zk2 a=some (.bsl 1 5,[.box (a.c.map .t),.box [.ptr 0 0,.ptr 0 1,.ptr 0 2,.ptr 0 3,.ptr 0 4]])/\(Zc5 a 5 0=some r))):Zbu a=some r:=by
 unfold Zbu;refine run Z6g rfl ?_;simp only[Zk2,Zc.c_def,mpl,dfs]at h;rcases h with⟨q1,h⟩
 all_goals (refine Ya ?_ h;clear h;simp +decide[*,kk,tI,tII,Zw4,Zc5])
theorem Zz7{c:List (List Int)}{a:Int}{r:AV×List Blk}(h:(if a<=7 then(Ze9 c a 0=some r)else(some (.own 0,[.arr 49 1 true (c.map isc)])=some r))):Zgc c a=some r:=by
 unfold Zgc;rw[Zm Zk3.eq_1]
 try simp only[itb]at h
 try simp only[itf,gS,kk]at h
 rcases h with⟨q1,h⟩|⟨q1,h⟩
 all_goals (refine Ya ?_ h;clear h;simp +decide[*,kk,tI,tII,Ze9,Zk4])
theorem Zz8{c:List (List Int)}{a b:Int}{r:AV×List Blk}(h:(if b<=7 then(Zgd c a b 0=some r)else(Zgc c (w (a+1))=some r))):Ze9 c a b=some r:=by
 unfold Ze9;rw[Zm Zn2.eq_1]
 try simp only[itb]at h
 try simp only[itf,gS,kk]at h
 rcases h with⟨q1,h⟩|⟨q1,h⟩
 all_goals (refine Ya ?_ h;clear h;simp +decide[*,kk,tI,tII,Zgd,Zgc,Zn3])
theorem Zz9{cc:List (List Int)}{a b c:Int}{r:AV×List Blk}(h:(if c<=7 then(cc.length+1<=68719476736/\(Zgd (cc++[[a,b,c]]) a b (w (c+1))=some r))else(Ze9 cc a (w (b+1))=some r))):Zgd cc a b c=some r:=by
 unfold Zgd;rw[Zm Zqg.eq_1]
 try simp only[itb]at h
 try simp only[itf,gS,kk]at h
 rcases h with⟨q1,q2,h⟩|⟨q1,h⟩
 all_goals (refine Ya ?_ h;clear h;simp +decide[*,kk,tI,tII,Zgd,Ze9,Zqh])
theorem Z8w{r:AV×List Blk}(h:(Zgc ([]:List (List Int)) 0=some r)):Zcv=some r:=by
 unfold Zcv;refine run Z6h rfl ?_;refine Ya ?_ h;clear h;simp +decide[*,kk,tI,tII,Zw5,Zgc]
theorem Z8x{a:List Int}{r:AV×List Blk}(h:(a.length<=68719476736/\(some (.own 0,[.arr 3 1 true (a.map ic)])=some r))):Zk5 a=some r:=by
 unfold Zk5;refine run Z6i rfl ?_;rcases h with⟨q1,h⟩
 all_goals (refine Ya ?_ h;clear h;simp +decide[*,kk,tI,tII,Zw6])
theorem Z8y{a:Int}{r:AV×List Blk}(h:(∃(v:Bool),Zbj a 0 7=some (Bo v,[])/\(if v=true then(if a=0 then(some (I 0,[])=some r)else(¬(w (2*(w (a-1))))<0/\(some (I (shlI 1 (w (2*(w (a-1))))),[])=some r)))else(some (I (-1),[])=some r)))):Zd9 a=some r:=by
 unfold Zd9;refine run Z6j rfl ?_;simp only[Zbj,mpl,dfs]at h
 try simp only[itb]at h
 try simp only[itf,gS,kk]at h
 rcases h with⟨v,q1,(⟨q2,(⟨q3,h⟩|⟨q3,q4,h⟩)⟩|⟨q2,h⟩)⟩
 all_goals (refine Ya ?_ h;clear h;simp +decide[*,kk,tI,tII,Zw7])
theorem Z0a{cc c n:Int}{x:List Zd}{x1 x2:Int}{r:AV×List Blk}(h:(if x2<x1 then(0<=x2/\(∃(e1:Zd),x[x2.toNat]?=some e1/\(if e1.From<=(w (cc+c))then(Zge cc c (w (n+e1.Add)) x x1 (w (x2+1))=some r)else(Zge cc c n x x1 (w (x2+1))=some r))))else(some (I n,[])=some r))):Zge cc c n x x1 x2=some r:=by
 unfold Zge;rw[Zm Zqi.eq_1]
 try simp only[itb]at h
 try simp only[itf,gS,kk]at h
 rcases h with⟨q1,q2,e1,⟨g3,q3⟩,(⟨q4,h⟩|⟨q4,h⟩)⟩|⟨q1,h⟩
 all_goals (refine Ya ?_ h;clear h;simp +decide[*,kk,tI,tII,Zge,Zw8,Zqj])
theorem Z8z{a:Zc}{a1 a2 a3:Int}{r:AV×List Blk}(h:(Zge a1 a2 (w ((w ((w ((w (a.Fixed+(w (a.Z9*a1))))+(w (a.Zba*a2))))+(w (a.Zbb*a3))))+(w ((w (a.Zbc*a1))*a2)))) a.Steps (a.Steps.length:Int) 0=some r)):Zhy a a1 a2 a3=some r:=by
 unfold Zhy;refine run Z6k rfl ?_;refine Ya ?_ h;clear h;simp +decide[*,kk,tI,tII,Zw9,Zge]
theorem Z80{a:Zc}{a1:List Int}{r:AV×List Blk}(h:(∃(e1:Int),a1[0]?=some e1/\(∃(v:Int),Zd9 e1=some (I v,[])/\(∃(e3:Int),a1[1]?=some e3/\(∃(v1:Int),Zd9 e3=some (I v1,[])/\(∃(e5:Int),a1[2]?=some e5/\(∃(v2:Int),Zd9 e5=some (I v2,[])/\(∃(v3:Int),Zhy a v v1 v2=some (I v3,[])/\(some (I v3,[])=some r))))))))):Zck a a1=some r:=by
 unfold Zck;refine run Z6l rfl ?_;simp only[Zd9,Zhy,Zc.c_def,mpl,dfs]at h
 try simp only[itb]at h
 try simp only[itf,gS,kk]at h
 rcases h with⟨e1,⟨g1,q1⟩,v,q2,e3,⟨g3,q3⟩,v1,q4,e5,⟨g5,q5⟩,v2,q6,v3,q7,h⟩
 all_goals (refine Ya ?_ h;clear h;simp +decide[*,kk,tI,tII,Zxa])
theorem Z0b{o:Zc}{x:List (List Int)}{x1 x2:Int}{r:AV×List Blk}(h:(if x2<x1 then(0<=x2/\(∃(e1:List Int),x[x2.toNat]?=some e1/\(Zc6 o x e1 x1 x2 (e1.length:Int) 0=some r)))else(some (.tup [.t .nil,.t .nil,Bo false],[])=some r))):Zev o x x1 x2=some r:=by
 unfold Zev;rw[Zm Zn4.eq_1]
 try simp only[itb]at h
 try simp only[itf,gS,kk]at h
 rcases h with⟨q1,q2,e1,⟨g3,q3⟩,h⟩|⟨q1,h⟩
 all_goals (refine Ya ?_ h;clear h;simp +decide[*,kk,tI,tII,Zc6,Zn5])
theorem Zsp{o:Zc}{x:List (List Int)}{t:List Int}{x1 x2 x3 x4:Int}{r:AV×List Blk}(h:(if x4<x3 then(0<=x4/\(∃(e1:Int),t[x4.toNat]?=some e1/\(if e1=7 then(Zc6 o x t x1 x2 x3 (w (x4+1))=some r)else(∃(v:List Int),Zk5 t=some (.own 0,[.arr 3 1 true (v.map ic)])/\(∃(e3:Int),v[x4.toNat]?=some e3/\(∃(v1:Int),Zck o (v.set x4.toNat (w (e3+1)))=some (I v1,[])/\(∃(v2:Int),Zck o t=some (I v2,[])/\(if v1<v2 then(some (.tup [L 1 (t.map ic),.own 0,Bo true],[.arr 3 1 true ((v.set x4.toNat (w (e3+1))).map ic)])=some r)else(Zc6 o x t x1 x2 x3 (w (x4+1))=some r)))))))))else(Zev o x x1 (w (x2+1))=some r))):Zc6 o x t x1 x2 x3 x4=some r:=by
 unfold Zc6;rw[Zm Zqk.eq_1];simp only[Zk5,Zck,Zc.c_def,mpl,dfs]at h
 try simp only[itb]at h
 try simp only[itf,gS,kk]at h
 rcases h with⟨q1,q2,e1,⟨g3,q3⟩,(⟨q4,h⟩|⟨q4,v,q5,e3,⟨g6,q6⟩,v1,q7,v2,q8,(⟨q9,h⟩|⟨q9,h⟩)⟩)⟩|⟨q1,h⟩
 all_goals (refine Ya ?_ h;clear h;simp +decide[*,kk,tI,tII,Zc6,Zxb,Zev,Zql])
theorem Z81{a:Zc}{r:AV×List Blk}(h:(∃(v:Bool),Zbu a=some (Bo v,[])/\(if v=true then(∃(v1:List (List Int)),Zcv=some (.own 0,[.arr 49 1 true (v1.map isc)])/\(Zev a v1 (v1.length:Int) 0=some r))else(some (.tup [.t .nil,.t .nil,Bo false],[])=some r)))):Zbs a=some r:=by
 unfold Zbs;refine run Z6m rfl ?_;simp only[Zbu,Zcv,Zc.c_def,mpl,dfs]at h
 try simp only[itb]at h
 try simp only[itf,gS,kk]at h
 rcases h with⟨v,q1,(⟨q2,v1,q3,h⟩|⟨q2,h⟩)⟩
 all_goals (refine Ya ?_ h;clear h;simp +decide[*,kk,tI,tII,Zxc,Zev])
theorem Zjt{x:Zj}{x1 x2:Int}{r:AV×List Blk}(h:(if x2<x1 then(if x2=0 then(∃(v:Bool),Zbu x.Scan=some (Bo v,[])/\(if v=true then((Zbs x.Scan=some (.tup [.t .nil,.t .nil,Bo false],[])/\(∃(v1:List (List Int)),Zcv=some (.own 0,[.arr 49 1 true (v1.map isc)])/\(Zfa x v1 (w (1+x2)) x1 x2 (v1.length:Int) 0=some r)))\/(∃(v2:List Int) (v3:List Int),Zbs x.Scan=some (.tup [L 1 (v3.map ic),.own 0,Bo true],[.arr 3 1 true (v2.map ic)])/\(some (.tup [I (w (1+x2)),L 1 (v3.map ic),.own 0],[.arr 3 1 true (v2.map ic)])=some r)))else(some (.tup [I (w (1+x2)),.t .nil,.t .nil],[])=some r)))else(if x2=1 then(∃(v4:Bool),Zbu x.Sort_=some (Bo v4,[])/\(if v4=true then((Zbs x.Sort_=some (.tup [.t .nil,.t .nil,Bo false],[])/\(∃(v5:List (List Int)),Zcv=some (.own 0,[.arr 49 1 true (v5.map isc)])/\(Zfb x v5 (w (1+x2)) x1 x2 (v5.length:Int) 0=some r)))\/(∃(v6:List Int) (v7:List Int),Zbs x.Sort_=some (.tup [L 1 (v7.map ic),.own 0,Bo true],[.arr 3 1 true (v6.map ic)])/\(some (.tup [I (w (1+x2)),L 1 (v7.map ic),.own 0],[.arr 3 1 true (v6.map ic)])=some r)))else(some (.tup [I (w (1+x2)),.t .nil,.t .nil],[])=some r)))else(if x2=2 then(∃(v8:Bool),Zbu x.Hash=some (Bo v8,[])/\(if v8=true then((Zbs x.Hash=some (.tup [.t .nil,.t .nil,Bo false],[])/\(∃(v9:List (List Int)),Zcv=some (.own 0,[.arr 49 1 true (v9.map isc)])/\(Zfc x v9 (w (1+x2)) x1 x2 (v9.length:Int) 0=some r)))\/(∃(v10:List Int) (v11:List Int),Zbs x.Hash=some (.tup [L 1 (v11.map ic),.own 0,Bo true],[.arr 3 1 true (v10.map ic)])/\(some (.tup [I (w (1+x2)),L 1 (v11.map ic),.own 0],[.arr 3 1 true (v10.map ic)])=some r)))else(some (.tup [I (w (1+x2)),.t .nil,.t .nil],[])=some r)))else(if x2=3 then(∃(v12:Bool),Zbu x.Merge=some (Bo v12,[])/\(if v12=true then((Zbs x.Merge=some (.tup [.t .nil,.t .nil,Bo false],[])/\(∃(v13:List (List Int)),Zcv=some (.own 0,[.arr 49 1 true (v13.map isc)])/\(Zfd x v13 (w (1+x2)) x1 x2 (v13.length:Int) 0=some r)))\/(∃(v14:List Int) (v15:List Int),Zbs x.Merge=some (.tup [L 1 (v15.map ic),.own 0,Bo true],[.arr 3 1 true (v14.map ic)])/\(some (.tup [I (w (1+x2)),L 1 (v15.map ic),.own 0],[.arr 3 1 true (v14.map ic)])=some r)))else(some (.tup [I (w (1+x2)),.t .nil,.t .nil],[])=some r)))else(if x2=4 then(∃(v16:Bool),Zbu x.Nested=some (Bo v16,[])/\(if v16=true then((Zbs x.Nested=some (.tup [.t .nil,.t .nil,Bo false],[])/\(∃(v17:List (List Int)),Zcv=some (.own 0,[.arr 49 1 true (v17.map isc)])/\(Zfe x v17 (w (1+x2)) x1 x2 (v17.length:Int) 0=some r)))\/(∃(v18:List Int) (v19:List Int),Zbs x.Nested=some (.tup [L 1 (v19.map ic),.own 0,Bo true],[.arr 3 1 true (v18.map ic)])/\(some (.tup [I (w (1+x2)),L 1 (v19.map ic),.own 0],[.arr 3 1 true (v18.map ic)])=some r)))else(some (.tup [I (w (1+x2)),.t .nil,.t .nil],[])=some r)))else False)))))else(some (.tup [I 0,.t .nil,.t .nil],[])=some r))):Z5 x x1 x2=some r:=by
 unfold Z5;rw[Zm Zgf.eq_1];by_cases q1:x2<x1
 .rw[if_pos q1]at h;by_cases q2:x2=0
  .rw[if_pos q2]at h;subst q2;obtain⟨v,q3,h⟩:=h;unfold Zbu at q3
   try simp at q3
   by_cases q4:v=true
   .rw[if_pos q4]at h;rcases h with h|h
    .obtain⟨q5,h⟩:=h;unfold Zbs at q5
     try simp at q5
     obtain⟨v1,q6,h⟩:=h;unfold Zcv at q6
     try simp at q6
     refine Ya ?_ h;clear h;simp +decide[*,tI,tII,Zfa]
    .obtain⟨v2,v3,q7,h⟩:=h;unfold Zbs at q7
     try simp at q7
     refine Ya ?_ h;clear h;simp +decide[*,tI,tII]
   .rw[if_neg q4]at h;refine Ya ?_ h;clear h;simp +decide[*,tI,tII]
  .rw[if_neg q2]at h;replace q2:=eq_false q2;by_cases q8:x2=1
   .rw[if_pos q8]at h;subst q8;obtain⟨v4,q9,h⟩:=h;unfold Zbu at q9
    try simp at q9
    by_cases q10:v4=true
    .rw[if_pos q10]at h;rcases h with h|h
     .obtain⟨q11,h⟩:=h;unfold Zbs at q11
      try simp at q11
      obtain⟨v5,q12,h⟩:=h;unfold Zcv at q12
      try simp at q12
      refine Ya ?_ h;clear h;simp +decide[*,tI,tII,Zfb]
     .obtain⟨v6,v7,q13,h⟩:=h;unfold Zbs at q13
      try simp at q13
      refine Ya ?_ h;clear h;simp +decide[*,tI,tII]
    .rw[if_neg q10]at h;refine Ya ?_ h;clear h;simp +decide[*,tI,tII]
   .rw[if_neg q8]at h;replace q8:=eq_false q8;by_cases q14:x2=2
    .rw[if_pos q14]at h;subst q14;obtain⟨v8,q15,h⟩:=h;unfold Zbu at q15
     try simp at q15
     by_cases q16:v8=true
     .rw[if_pos q16]at h;rcases h with h|h
      .obtain⟨q17,h⟩:=h;unfold Zbs at q17
       try simp at q17
       obtain⟨v9,q18,h⟩:=h;unfold Zcv at q18
       try simp at q18
       refine Ya ?_ h;clear h;simp +decide[*,tI,tII,Zfc]
      .obtain⟨v10,v11,q19,h⟩:=h;unfold Zbs at q19
       try simp at q19
       refine Ya ?_ h;clear h;simp +decide[*,tI,tII]
     .rw[if_neg q16]at h;refine Ya ?_ h;clear h;simp +decide[*,tI,tII]
    .rw[if_neg q14]at h;replace q14:=eq_false q14;by_cases q20:x2=3
     .rw[if_pos q20]at h;subst q20;obtain⟨v12,q21,h⟩:=h;unfold Zbu at q21
      try simp at q21
      by_cases q22:v12=true
      .rw[if_pos q22]at h;rcases h with h|h
       .obtain⟨q23,h⟩:=h;unfold Zbs at q23
        try simp at q23
        obtain⟨v13,q24,h⟩:=h;unfold Zcv at q24
        try simp at q24
        refine Ya ?_ h;clear h;simp +decide[*,tI,tII,Zfd]
       .obtain⟨v14,v15,q25,h⟩:=h;unfold Zbs at q25
        try simp at q25
        refine Ya ?_ h;clear h;simp +decide[*,tI,tII]
      .rw[if_neg q22]at h;refine Ya ?_ h;clear h;simp +decide[*,tI,tII]
     .rw[if_neg q20]at h;replace q20:=eq_false q20;by_cases q26:x2=4
      .rw[if_pos q26]at h;subst q26;obtain⟨v16,q27,h⟩:=h;unfold Zbu at q27
       try simp at q27
       by_cases q28:v16=true
       .rw[if_pos q28]at h;rcases h with h|h
        .obtain⟨q29,h⟩:=h;unfold Zbs at q29
         try simp at q29
         obtain⟨v17,q30,h⟩:=h;unfold Zcv at q30
         try simp at q30
         refine Ya ?_ h;clear h;simp +decide[*,tI,tII,Zfe]
        .obtain⟨v18,v19,q31,h⟩:=h;unfold Zbs at q31
         try simp at q31
         refine Ya ?_ h;clear h;simp +decide[*,tI,tII]
       .rw[if_neg q28]at h;refine Ya ?_ h;clear h;simp +decide[*,tI,tII]
      .rw[if_neg q26]at h;replace q26:=eq_false q26;cases h
 .rw[if_neg q1]at h;refine Ya ?_ h;clear h;simp +decide[*,tI,tII,Zgg]
theorem Z0c{o:Zj}{x:List (List Int)}{c x1 x2 x3 x4:Int}{r:AV×List Blk}(h:(if x4<x3 then(0<=x4/\(∃(e1:List Int),x[x4.toNat]?=some e1/\(∃(v:Int),Zck o.Scan e1=some (I v,[])/\(if v<1 then(some (.tup [I c,L 1 (e1.map ic),.t .nil],[])=some r)else(Zfa o x c x1 x2 x3 (w (x4+1))=some r)))))else(Z5 o x1 (w (x2+1))=some r))):Zfa o x c x1 x2 x3 x4=some r:=by
 unfold Zfa;rw[Zm Zea.eq_1];simp only[Zck,Zc.c_def,mpl,dfs]at h
 try simp only[itb]at h
 try simp only[itf,gS,kk]at h
 rcases h with⟨q1,q2,e1,⟨g3,q3⟩,v,q4,(⟨q5,h⟩|⟨q5,h⟩)⟩|⟨q1,h⟩
 all_goals (refine Ya ?_ h;clear h;simp +decide[*,kk,tI,tII,Zfa,Z5,Zeb])
theorem Z0d{o:Zj}{x:List (List Int)}{c x1 x2 x3 x4:Int}{r:AV×List Blk}(h:(if x4<x3 then(0<=x4/\(∃(e1:List Int),x[x4.toNat]?=some e1/\(∃(v:Int),Zck o.Sort_ e1=some (I v,[])/\(if v<1 then(some (.tup [I c,L 1 (e1.map ic),.t .nil],[])=some r)else(Zfb o x c x1 x2 x3 (w (x4+1))=some r)))))else(Z5 o x1 (w (x2+1))=some r))):Zfb o x c x1 x2 x3 x4=some r:=by
 unfold Zfb;rw[Zm Zea.eq_1];simp only[Zck,Zc.c_def,mpl,dfs]at h
 try simp only[itb]at h
 try simp only[itf,gS,kk]at h
 rcases h with⟨q1,q2,e1,⟨g3,q3⟩,v,q4,(⟨q5,h⟩|⟨q5,h⟩)⟩|⟨q1,h⟩
 all_goals (refine Ya ?_ h;clear h;simp +decide[*,kk,tI,tII,Zfb,Z5,Zeb])
theorem Z0e{o:Zj}{x:List (List Int)}{c x1 x2 x3 x4:Int}{r:AV×List Blk}(h:(if x4<x3 then(0<=x4/\(∃(e1:List Int),x[x4.toNat]?=some e1/\(∃(v:Int),Zck o.Hash e1=some (I v,[])/\(if v<1 then(some (.tup [I c,L 1 (e1.map ic),.t .nil],[])=some r)else(Zfc o x c x1 x2 x3 (w (x4+1))=some r)))))else(Z5 o x1 (w (x2+1))=some r))):Zfc o x c x1 x2 x3 x4=some r:=by
 unfold Zfc;rw[Zm Zea.eq_1];simp only[Zck,Zc.c_def,mpl,dfs]at h
 try simp only[itb]at h
 try simp only[itf,gS,kk]at h
 rcases h with⟨q1,q2,e1,⟨g3,q3⟩,v,q4,(⟨q5,h⟩|⟨q5,h⟩)⟩|⟨q1,h⟩
 all_goals (refine Ya ?_ h;clear h;simp +decide[*,kk,tI,tII,Zfc,Z5,Zeb])
theorem Z0f{o:Zj}{x:List (List Int)}{c x1 x2 x3 x4:Int}{r:AV×List Blk}(h:(if x4<x3 then(0<=x4/\(∃(e1:List Int),x[x4.toNat]?=some e1/\(∃(v:Int),Zck o.Merge e1=some (I v,[])/\(if v<1 then(some (.tup [I c,L 1 (e1.map ic),.t .nil],[])=some r)else(Zfd o x c x1 x2 x3 (w (x4+1))=some r)))))else(Z5 o x1 (w (x2+1))=some r))):Zfd o x c x1 x2 x3 x4=some r:=by
 unfold Zfd;rw[Zm Zea.eq_1];simp only[Zck,Zc.c_def,mpl,dfs]at h
 try simp only[itb]at h
 try simp only[itf,gS,kk]at h
 rcases h with⟨q1,q2,e1,⟨g3,q3⟩,v,q4,(⟨q5,h⟩|⟨q5,h⟩)⟩|⟨q1,h⟩
 all_goals (refine Ya ?_ h;clear h;simp +decide[*,kk,tI,tII,Zfd,Z5,Zeb])
theorem Z0g{o:Zj}{x:List (List Int)}{c x1 x2 x3 x4:Int}{r:AV×List Blk}(h:(if x4<x3 then(0<=x4/\(∃(e1:List Int),x[x4.toNat]?=some e1/\(∃(v:Int),Zck o.Nested e1=some (I v,[])/\(if v<1 then(some (.tup [I c,L 1 (e1.map ic),.t .nil],[])=some r)else(Zfe o x c x1 x2 x3 (w (x4+1))=some r)))))else(Z5 o x1 (w (x2+1))=some r))):Zfe o x c x1 x2 x3 x4=some r:=by
 unfold Zfe;rw[Zm Zea.eq_1];simp only[Zck,Zc.c_def,mpl,dfs]at h
 try simp only[itb]at h
 try simp only[itf,gS,kk]at h
 rcases h with⟨q1,q2,e1,⟨g3,q3⟩,v,q4,(⟨q5,h⟩|⟨q5,h⟩)⟩|⟨q1,h⟩
 all_goals (refine Ya ?_ h;clear h;simp +decide[*,kk,tI,tII,Zfe,Z5,Zeb])
theorem Z82{a:Zj}{r:AV×List Blk}(h:(Zgb a=some (.bsl 1 5,[.box (a.c.map .t),.box [.ptr 0 0,.ptr 0 6,.ptr 0 12,.ptr 0 18,.ptr 0 24]])/\(Z5 a 5 0=some r))):Zhz a=some r:=by
 unfold Zhz;refine run Z6n rfl ?_;simp only[Zgb,Zj.c_def,Zc.c_def,mpl,dfs]at h;rcases h with⟨q1,h⟩
 all_goals (refine Ya ?_ h;clear h;simp +decide[*,kk,tI,tII,Zxd,Z5])
theorem Z83{a:Zj}{r:AV×List Blk}(h:((∃(v:List Int) (v1:Int) (v2:List Int),Zhz a=some (.tup [I v1,L 1 (v2.map ic),.own 0],[.arr 3 1 true (v.map ic)])/\(some (Bo (decide (v1=0)),[])=some r))\/(∃(v3:Int),Zhz a=some (.tup [I v3,.t .nil,.t .nil],[])/\(some (Bo (decide (v3=0)),[])=some r))\/(∃(v4:Int) (v5:List Int),Zhz a=some (.tup [I v4,L 1 (v5.map ic),.t .nil],[])/\(some (Bo (decide (v4=0)),[])=some r)))):Zk6 a=some r:=by
 unfold Zk6;refine run Z6o rfl ?_;simp only[Zhz,Zj.c_def,Zc.c_def,mpl,dfs]at h;rcases h with⟨v,v1,v2,q2,h⟩|⟨v3,q3,h⟩|⟨v4,v5,q4,h⟩
 all_goals (refine Ya ?_ h;clear h;simp +decide[*,kk,tI,tII,Zxe])
theorem Zg9{n c:Int}{r:AV×List Blk}(h:(∃(v:Int),Zd9 c=some (I v,[])/\(if n<=v then(some (I c,[])=some r)else(Zh0 n (w (c+1))=some r)))):Zh0 n c=some r:=by
 unfold Zh0;rw[Zm Zqm.eq_1];simp only[Zd9,mpl,dfs]at h
 try simp only[itb]at h
 try simp only[itf,gS,kk]at h
 rcases h with⟨v,q1,(⟨q2,h⟩|⟨q2,h⟩)⟩
 all_goals (refine Ya ?_ h;clear h;simp +decide[*,kk,tI,tII,Zh0])
theorem Z84{a:Int}{r:AV×List Blk}(h:(∃(v:Bool),Zbj a 0 4096=some (Bo v,[])/\(if v=true then(Zh0 a 0=some r)else(some (I (-1),[])=some r)))):Zk7 a=some r:=by
 unfold Zk7;refine run Z6p rfl ?_;simp only[Zbj,mpl,dfs]at h
 try simp only[itb]at h
 try simp only[itf,gS,kk]at h
 rcases h with⟨v,q1,(⟨q2,h⟩|⟨q2,h⟩)⟩
 all_goals (refine Ya ?_ h;clear h;simp +decide[*,kk,tI,tII,Zxf,Zh0])
theorem Z85{a:Int}{r:AV×List Blk}(h:(∃(v:Int),Zk7 a=some (I v,[])/\(∃(v1:Int),Zd9 v=some (I v1,[])/\(some (I v1,[])=some r)))):Zcw a=some r:=by
 unfold Zcw;refine run Z6q rfl ?_;simp only[Zk7,Zd9,mpl,dfs]at h;rcases h with⟨v,q1,v1,q2,h⟩
 all_goals (refine Ya ?_ h;clear h;simp +decide[*,kk,tI,tII,Zxg])
theorem Z86{a:Zc}{a1 a2 a3:Int}{r:AV×List Blk}(h:(∃(v:Bool),Zbu a=some (Bo v,[])/\(if v=true then(∃(v1:Bool),Zbj a1 0 4096=some (Bo v1,[])/\(if v1=true then(∃(v2:Bool),Zbj a2 0 4096=some (Bo v2,[])/\(if v2=true then(∃(v3:Bool),Zbj a3 0 4096=some (Bo v3,[])/\(if v3=true then(∃(v4:Int),Zhy a a1 a2 a3=some (I v4,[])/\(some (I v4,[])=some r))else(some (I 0,[])=some r)))else(some (I 0,[])=some r)))else(some (I 0,[])=some r)))else(some (I 0,[])=some r)))):Zcx a a1 a2 a3=some r:=by
 unfold Zcx;refine run Z6r rfl ?_;simp only[Zbu,Zbj,Zhy,Zc.c_def,mpl,dfs]at h
 try simp only[itb]at h
 try simp only[itf,gS,kk]at h
 rcases h with⟨v,q1,(⟨q2,v1,q3,(⟨q4,v2,q5,(⟨q6,v3,q7,(⟨q8,v4,q9,h⟩|⟨q8,h⟩)⟩|⟨q6,h⟩)⟩|⟨q4,h⟩)⟩|⟨q2,h⟩)⟩
 all_goals (refine Ya ?_ h;clear h;simp +decide[*,kk,tI,tII,Zxh])
theorem Z87{a:Zj}{a1:Int}{r:AV×List Blk}(h:(∃(v:Int),Zcw a1=some (I v,[])/\(if v<0 then(some (I (-1),[])=some r)else(∃(v1:Int),Zcx a.Scan v 0 v=some (I v1,[])/\(some (I v1,[])=some r))))):Zh1 a a1=some r:=by
 unfold Zh1;refine run Z6s rfl ?_;simp only[Zcw,Zcx,Zc.c_def,mpl,dfs]at h
 try simp only[itb]at h
 try simp only[itf,gS,kk]at h
 rcases h with⟨v,q1,(⟨q2,h⟩|⟨q2,v1,q3,h⟩)⟩
 all_goals (refine Ya ?_ h;clear h;simp +decide[*,kk,tI,tII,Zxi])
theorem Z88{a:Zj}{a1 a2:Int}{r:AV×List Blk}(h:(∃(v:Bool),Zbj a1 3 5=some (Bo v,[])/\(if v=true then(∃(v1:Bool),Zbj a2 0 4096=some (Bo v1,[])/\(if v1=true then(∃(v2:Bool),Zk6 a=some (Bo v2,[])/\(if v2=true then(∃(v3:Int),Zh1 a a2=some (I v3,[])/\(Zgb a=some (.bsl 1 5,[.box (a.c.map .t),.box [.ptr 0 0,.ptr 0 6,.ptr 0 12,.ptr 0 18,.ptr 0 24]])/\(if(w (a1-1))=0 then(∃(v4:Int),Zcw a2=some (I v4,[])/\(∃(v5:Int),Zcx a.Scan 0 0 v4=some (I v5,[])/\(some (Bo (decide (v3<=v5)),[])=some r)))else(if(w (a1-1))=1 then(∃(v6:Int),Zcw a2=some (I v6,[])/\(∃(v7:Int),Zcx a.Sort_ 0 0 v6=some (I v7,[])/\(some (Bo (decide (v3<=v7)),[])=some r)))else(if(w (a1-1))=2 then(∃(v8:Int),Zcw a2=some (I v8,[])/\(∃(v9:Int),Zcx a.Hash 0 0 v8=some (I v9,[])/\(some (Bo (decide (v3<=v9)),[])=some r)))else(if(w (a1-1))=3 then(∃(v10:Int),Zcw a2=some (I v10,[])/\(∃(v11:Int),Zcx a.Merge 0 0 v10=some (I v11,[])/\(some (Bo (decide (v3<=v11)),[])=some r)))else(if(w (a1-1))=4 then(∃(v12:Int),Zcw a2=some (I v12,[])/\(∃(v13:Int),Zcx a.Nested 0 0 v12=some (I v13,[])/\(some (Bo (decide (v3<=v13)),[])=some r)))else False)))))))else(some (Bo false,[])=some r)))else(some (Bo false,[])=some r)))else(some (Bo false,[])=some r)))):Zk8 a a1 a2=some r:=by
 unfold Zk8;refine run Z6t rfl ?_;obtain⟨v,q1,h⟩:=h;unfold Zbj at q1
 try simp at q1
 by_cases q2:v=true
 .rw[if_pos q2]at h;obtain⟨v1,q3,h⟩:=h;unfold Zbj at q3
  try simp at q3
  by_cases q4:v1=true
  .rw[if_pos q4]at h;obtain⟨v2,q5,h⟩:=h;unfold Zk6 at q5
   try simp at q5
   by_cases q6:v2=true
   .rw[if_pos q6]at h;obtain⟨v3,q7,h⟩:=h;unfold Zh1 at q7
    try simp at q7
    obtain⟨q8,h⟩:=h;unfold Zgb at q8
    try simp at q8
    by_cases q9:(w (a1-1))=0
    .rw[if_pos q9]at h;obtain⟨v4,q10,h⟩:=h;unfold Zcw at q10
     try simp at q10
     obtain⟨v5,q11,h⟩:=h;unfold Zcx at q11
     try simp at q11
     refine Ya ?_ h;clear h;simp +decide[*,Zff,tI,tII]
    .rw[if_neg q9]at h;replace q9:=eq_false q9;by_cases q12:(w (a1-1))=1
     .rw[if_pos q12]at h;obtain⟨v6,q13,h⟩:=h;unfold Zcw at q13
      try simp at q13
      obtain⟨v7,q14,h⟩:=h;unfold Zcx at q14
      try simp at q14
      refine Ya ?_ h;clear h;simp +decide[*,Zff,tI,tII]
     .rw[if_neg q12]at h;replace q12:=eq_false q12;by_cases q15:(w (a1-1))=2
      .rw[if_pos q15]at h;obtain⟨v8,q16,h⟩:=h;unfold Zcw at q16
       try simp at q16
       obtain⟨v9,q17,h⟩:=h;unfold Zcx at q17
       try simp at q17
       refine Ya ?_ h;clear h;simp +decide[*,Zff,tI,tII]
      .rw[if_neg q15]at h;replace q15:=eq_false q15;by_cases q18:(w (a1-1))=3
       .rw[if_pos q18]at h;obtain⟨v10,q19,h⟩:=h;unfold Zcw at q19
        try simp at q19
        obtain⟨v11,q20,h⟩:=h;unfold Zcx at q20
        try simp at q20
        refine Ya ?_ h;clear h;simp +decide[*,Zff,tI,tII]
       .rw[if_neg q18]at h;replace q18:=eq_false q18;by_cases q21:(w (a1-1))=4
        .rw[if_pos q21]at h;obtain⟨v12,q22,h⟩:=h;unfold Zcw at q22
         try simp at q22
         obtain⟨v13,q23,h⟩:=h;unfold Zcx at q23
         try simp at q23
         refine Ya ?_ h;clear h;simp +decide[*,Zff,tI,tII]
        .rw[if_neg q21]at h;replace q21:=eq_false q21;cases h
   .rw[if_neg q6]at h;refine Ya ?_ h;clear h;simp +decide[*,Zff,tI,tII]
  .rw[if_neg q4]at h;refine Ya ?_ h;clear h;simp +decide[*,Zff,tI,tII]
 .rw[if_neg q2]at h;refine Ya ?_ h;clear h;simp +decide[*,Zff,tI,tII]
end Go.Proofs.Ytdbnflilbkjbhaa
