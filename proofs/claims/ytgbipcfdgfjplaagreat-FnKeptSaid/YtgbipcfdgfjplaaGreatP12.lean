/-
  Parts of the proofs for this seat: G1 G2 G3.
-/
import Derived.Test.YtgbipcfdgfjplaaGreatP11
set_option linter.unusedSectionVars false
set_option linter.unusedSimpArgs false
set_option linter.unusedVariables false
set_option maxRecDepth 100000
set_option maxHeartbeats 4000000
namespace Go.Proofs.YtgbipcfdgfjplaaGreat
open Go.AM
theorem Wv:((((∀a r,Im (Zhp a=some r) (qb (decide (1048576<(a.length:Int))) r))/\
 (∀cn h1 i r,Im (Zek cn h1 i=some r) (if i<(cn.length:Int)then if i<4000 then qG cn i (λe1=>Zek cn (andI (w ((w ((w (h1*131))+(w e1)))+7)) 1073741823) (w (i+1))=some r)else some (.ptr 0 0,[.box [L 1 (cn.map (kc .u8)),I 0,I h1]])=some r else some (.ptr 0 0,[.box [L 1 (cn.map (kc .u8)),I 0,I h1]])=some r)))/\
 ((∀a r,Im (Zej a=some r) (Zek a (w (10101+(a.length:Int))) 0=some r))/\
 (∀x r,Im (K2 x=some r) (if x.i<(x.b.length:Int)then qG x.b x.i (λe1=>some (I (andI (w ((andI (xorI (shrI (w ((w (x.h*6364136223846793005))+1442695040888963407)) 33) (shrI (w ((w (x.h*6364136223846793005))+1442695040888963407)) 45)) 255)+(w e1))) 255),[.box [L 1 (x.b.map (kc .u8)),I (w (x.i+1)),I (w ((w (x.h*6364136223846793005))+1442695040888963407))]])=some r)else some (I (andI (xorI (shrI (w ((w (x.h*6364136223846793005))+1442695040888963407)) 33) (shrI (w ((w (x.h*6364136223846793005))+1442695040888963407)) 45)) 255),[.box [L 1 (x.b.map (kc .u8)),I x.i,I (w ((w (x.h*6364136223846793005))+1442695040888963407))]])=some r))))/\
 (((∀x a r,Im (Z7 x a=some r) (if a<=0 then some (I 0,[.box (x.c.map .t)])=some r else if a<=256 then ∃(v:Zf),∃v1,K2 x=some (I v1,[.box (v.c.map .t)])/\¬a=0/\some (I (Int.tmod v1 a),[.box (v.c.map .t)])=some r else ∃(v7:Zf),∃v8,K2 x=some (I v8,[.box (v7.c.map .t)])/\∃(v37:Zf),∃v38,K2 v7=some (I v38,[.box (v37.c.map .t)])/\∃(v44:Zf),∃v45,K2 v37=some (I v45,[.box (v44.c.map .t)])/\∃(v51:Zf),∃v52,K2 v44=some (I v52,[.box (v51.c.map .t)])/\¬a=0/\some (I (Int.tmod (w ((w ((w ((w (v8*16777216))+(w (v38*65536))))+(w (v45*256))))+v52)) a),[.box (v51.c.map .t)])=some r))/\
 (∀x a r,Im (XC x a=some r) (∃(v:Zf),∃v1,Z7 x a=some (I v1,[.box (v.c.map .t)])/\some (Bo (decide (v1=0)),[.box (v.c.map .t)])=some r)))/\
 ((∀r,Im (ZkV=some r) (some (.agg [I 1,I 1,I 0,I 0,I 0,.own 0,I 2,I 3,I 0,I 0,I 0,.own 1,I 4,I 2,I 1,I 1,I 0,.own 2,I 1,I 1,I 1,I 1,I 0,.own 3,I 1,I 0,I 0,I 1,I 1,.own 4],[.arr 179 2 true (([]:List Zp).map Zp.c),.arr 179 2 true (([(⟨17,20⟩:Zp)]).map Zp.c),.arr 179 2 true (([]:List Zp).map Zp.c),.arr 179 2 true (([]:List Zp).map Zp.c),.arr 179 2 true (([]:List Zp).map Zp.c)])=some r))/\
 ((∀x x1 r,Im (XU x x1=some r) (∃(v:Zf),∃v1,Z7 x (x1.length:Int)=some (I v1,[.box (v.c.map .t)])/\qG x1 v1 (λe2=>some (I e2,[.box (v.c.map .t),.arr 3 1 true (x1.map ic)])=some r)))/\
 (∀x r,Im (QF x=some r) (∃(v:Zf),∃v1,Z7 x 5=some (I v1,[.box (v.c.map .t)])/\∃(v7:Zf),∃v8,Z7 v 4=some (I v8,[.box (v7.c.map .t)])/\∃(v37:Zf),∃v38,Z7 v7 4=some (I v38,[.box (v37.c.map .t)])/\∃(v44:Zf),∃v45,Z7 v37 3=some (I v45,[.box (v44.c.map .t)])/\∃(v51:Zf),∃v52,XC v44 3=some (Bo v52,[.box (v51.c.map .t)])/\if v52=true then ∃(v58:Zf),∃v59,Z7 v51 3=some (I v59,[.box (v58.c.map .t)])/\∃(v65:Zf),∃v66,XC v58 3=some (Bo v66,[.box (v65.c.map .t)])/\if v66=true then ∃(v72:Zf),∃(v73:WA),∃v74,XU v65 ([1,5,17,32])=some (I v74,[.box (v72.c.map .t),.arr 3 1 true (v73.map ic)])/\∃(v75:Zf),∃v76,Z7 v72 20=some (I v76,[.box (v75.c.map .t)])/\some (.agg [I (w (1+v1)),I v8,I v38,I v45,I v59,.own 1],[.box (v75.c.map .t),.arr 179 2 true (([(⟨v74,v76⟩:Zp)]).map Zp.c)])=some r else some (.agg [I (w (1+v1)),I v8,I v38,I v45,I v59,.own 1],[.box (v65.c.map .t),.arr 179 2 true (([]:List Zp).map Zp.c)])=some r else ∃(v77:Zf),∃v78,XC v51 3=some (Bo v78,[.box (v77.c.map .t)])/\if v78=true then ∃(v79:Zf),∃(v80:WA),∃v81,XU v77 ([1,5,17,32])=some (I v81,[.box (v79.c.map .t),.arr 3 1 true (v80.map ic)])/\∃(v82:Zf),∃v83,Z7 v79 20=some (I v83,[.box (v82.c.map .t)])/\some (.agg [I (w (1+v1)),I v8,I v38,I v45,I 0,.own 1],[.box (v82.c.map .t),.arr 179 2 true (([(⟨v81,v83⟩:Zp)]).map Zp.c)])=some r else some (.agg [I (w (1+v1)),I v8,I v38,I v45,I 0,.own 1],[.box (v77.c.map .t),.arr 179 2 true (([]:List Zp).map Zp.c)])=some r))))))/\
 ((((∀x r,Im (Zb9 x=some r) (∃(v:Zf),∃v1,XC x 3=some (Bo v1,[.box (v.c.map .t)])/\if v1=true then ∃(v7:List Zp),∃(v8:List Zp),∃(v9:List Zp),∃(v10:List Zp),∃(v11:List Zp),∃v12,∃v13,∃v14,∃v15,∃v16,∃v17,∃v18,∃v19,∃v20,∃v21,∃v22,∃v23,∃v24,∃v25,∃v26,∃v27,∃v28,∃v29,∃v30,∃v31,∃v32,∃v33,∃v34,∃v35,∃v36,ZkV=some (.agg [I v12,I v13,I v14,I v15,I v16,.own 0,I v17,I v18,I v19,I v20,I v21,.own 1,I v22,I v23,I v24,I v25,I v26,.own 2,I v27,I v28,I v29,I v30,I v31,.own 3,I v32,I v33,I v34,I v35,I v36,.own 4],[.arr 179 2 true (v7.map Zp.c),.arr 179 2 true (v8.map Zp.c),.arr 179 2 true (v9.map Zp.c),.arr 179 2 true (v10.map Zp.c),.arr 179 2 true (v11.map Zp.c)])/\some (.agg [I v12,I v13,I v14,I v15,I v16,L 2 (v7.map Zp.c),I v17,I v18,I v19,I v20,I v21,L 2 (v8.map Zp.c),I v22,I v23,I v24,I v25,I v26,L 2 (v9.map Zp.c),I v27,I v28,I v29,I v30,I v31,L 2 (v10.map Zp.c),I v32,I v33,I v34,I v35,I v36,L 2 (v11.map Zp.c)],[.box (v.c.map .t)])=some r else ∃(v37:Zf),∃(v38:List Zp),∃v39,∃v40,∃v41,∃v42,∃v43,QF v=some (.agg [I v39,I v40,I v41,I v42,I v43,.own 1],[.box (v37.c.map .t),.arr 179 2 true (v38.map Zp.c)])/\∃(v44:Zf),∃(v45:List Zp),∃v46,∃v47,∃v48,∃v49,∃v50,QF v37=some (.agg [I v46,I v47,I v48,I v49,I v50,.own 1],[.box (v44.c.map .t),.arr 179 2 true (v45.map Zp.c)])/\∃(v51:Zf),∃(v52:List Zp),∃v53,∃v54,∃v55,∃v56,∃v57,QF v44=some (.agg [I v53,I v54,I v55,I v56,I v57,.own 1],[.box (v51.c.map .t),.arr 179 2 true (v52.map Zp.c)])/\∃(v58:Zf),∃(v59:List Zp),∃v60,∃v61,∃v62,∃v63,∃v64,QF v51=some (.agg [I v60,I v61,I v62,I v63,I v64,.own 1],[.box (v58.c.map .t),.arr 179 2 true (v59.map Zp.c)])/\∃(v65:Zf),∃(v66:List Zp),∃v67,∃v68,∃v69,∃v70,∃v71,QF v58=some (.agg [I v67,I v68,I v69,I v70,I v71,.own 1],[.box (v65.c.map .t),.arr 179 2 true (v66.map Zp.c)])/\some (.agg [I v39,I v40,I v41,I v42,I v43,L 2 (v38.map Zp.c),I v46,I v47,I v48,I v49,I v50,L 2 (v45.map Zp.c),I v53,I v54,I v55,I v56,I v57,L 2 (v52.map Zp.c),I v60,I v61,I v62,I v63,I v64,L 2 (v59.map Zp.c),I v67,I v68,I v69,I v70,I v71,L 2 (v66.map Zp.c)],[.box (v65.c.map .t)])=some r))/\
 (∀x r,Im (ZbA x=some r) (∃(v:Zf),∃(v1:List Zp),∃v2,∃v3,∃v4,∃v5,∃v6,QF x=some (.agg [I v2,I v3,I v4,I v5,I v6,.own 1],[.box (v.c.map .t),.arr 179 2 true (v1.map Zp.c)])/\∃(v7:Zf),∃v8,Z7 v 10=some (I v8,[.box (v7.c.map .t)])/\if v8=0 then ∃(v37:Zf),∃(v38:WA),∃v39,XU v7 ([(-1),99,100,(-100)])=some (I v39,[.box (v37.c.map .t),.arr 3 1 true (v38.map ic)])/\some (.agg [I v2,I v39,I v4,I v5,I v6,.own 1],[.box (v37.c.map .t),.arr 179 2 true (v1.map Zp.c)])=some r else if v8=1 then ∃(v44:Zf),∃(v45:WA),∃v46,XU v7 ([0,1,64,8192,8193])=some (I v46,[.box (v44.c.map .t),.arr 3 1 true (v45.map ic)])/\∃(v51:Zf),∃(v52:WA),∃v53,XU v44 ([(-3),(-99),4,100])=some (I v53,[.box (v51.c.map .t),.arr 3 1 true (v52.map ic)])/\v1.length+1<=68719476736/\some (.agg [I v2,I v3,I v4,I v5,I v6,.own 1],[.box (v51.c.map .t),.arr 179 2 true ((v1++[(⟨v46,v53⟩:Zp)]).map Zp.c)])=some r else if v8=2 then ∃(v58:Zf),∃(v59:WA),∃v60,XU v7 ([0,(-5),99,9223372036854775807])=some (I v60,[.box (v58.c.map .t),.arr 3 1 true (v59.map ic)])/\some (.agg [I v60,I v3,I v4,I v5,I v6,.own 1],[.box (v58.c.map .t),.arr 179 2 true (v1.map Zp.c)])=some r else some (.agg [I v2,I v3,I v4,I v5,I v6,.own 1],[.box (v7.c.map .t),.arr 179 2 true (v1.map Zp.c)])=some r)))/\
 ((∀x r,Im (Zel x=some r) (∃(v:Zf) (v1:Zm),Zb9 x=some (.agg (v1.c.map .t),[.box (v.c.map .t)])/\∃(v7:Zf),∃v8,XC v 6=some (Bo v8,[.box (v7.c.map .t)])/\if v8=true then ∃(v37:Zf),∃(v38:List Zp),∃v39,∃v40,∃v41,∃v42,∃v43,ZbA v7=some (.agg [I v39,I v40,I v41,I v42,I v43,.own 1],[.box (v37.c.map .t),.arr 179 2 true (v38.map Zp.c)])/\∃(v44:Zf),∃v45,XC v37 12=some (Bo v45,[.box (v44.c.map .t)])/\if v45=true then ∃(v51:Zf),∃(v52:List Zp),∃v53,∃v54,∃v55,∃v56,∃v57,ZbA v44=some (.agg [I v53,I v54,I v55,I v56,I v57,.own 1],[.box (v51.c.map .t),.arr 179 2 true (v52.map Zp.c)])/\some (.agg [I v1.Scan.Fixed,I v1.Scan.Xb,I v1.Scan.Xc,I v1.Scan.Xd,I v1.Scan.Xe,L 2 (v1.Scan.Steps.map Zp.c),I v53,I v54,I v55,I v56,I v57,L 2 (v52.map Zp.c),I v39,I v40,I v41,I v42,I v43,L 2 (v38.map Zp.c),I v1.Merge.Fixed,I v1.Merge.Xb,I v1.Merge.Xc,I v1.Merge.Xd,I v1.Merge.Xe,L 2 (v1.Merge.Steps.map Zp.c),I v1.Nested.Fixed,I v1.Nested.Xb,I v1.Nested.Xc,I v1.Nested.Xd,I v1.Nested.Xe,L 2 (v1.Nested.Steps.map Zp.c)],[.box (v51.c.map .t)])=some r else some (.agg [I v1.Scan.Fixed,I v1.Scan.Xb,I v1.Scan.Xc,I v1.Scan.Xd,I v1.Scan.Xe,L 2 (v1.Scan.Steps.map Zp.c),I v1.Sort_.Fixed,I v1.Sort_.Xb,I v1.Sort_.Xc,I v1.Sort_.Xd,I v1.Sort_.Xe,L 2 (v1.Sort_.Steps.map Zp.c),I v39,I v40,I v41,I v42,I v43,L 2 (v38.map Zp.c),I v1.Merge.Fixed,I v1.Merge.Xb,I v1.Merge.Xc,I v1.Merge.Xd,I v1.Merge.Xe,L 2 (v1.Merge.Steps.map Zp.c),I v1.Nested.Fixed,I v1.Nested.Xb,I v1.Nested.Xc,I v1.Nested.Xd,I v1.Nested.Xe,L 2 (v1.Nested.Steps.map Zp.c)],[.box (v44.c.map .t)])=some r else ∃(v58:Zf),∃v59,XC v7 12=some (Bo v59,[.box (v58.c.map .t)])/\if v59=true then ∃(v65:Zf),∃(v66:List Zp),∃v67,∃v68,∃v69,∃v70,∃v71,ZbA v58=some (.agg [I v67,I v68,I v69,I v70,I v71,.own 1],[.box (v65.c.map .t),.arr 179 2 true (v66.map Zp.c)])/\some (.agg [I v1.Scan.Fixed,I v1.Scan.Xb,I v1.Scan.Xc,I v1.Scan.Xd,I v1.Scan.Xe,L 2 (v1.Scan.Steps.map Zp.c),I v67,I v68,I v69,I v70,I v71,L 2 (v66.map Zp.c),I v1.Hash.Fixed,I v1.Hash.Xb,I v1.Hash.Xc,I v1.Hash.Xd,I v1.Hash.Xe,L 2 (v1.Hash.Steps.map Zp.c),I v1.Merge.Fixed,I v1.Merge.Xb,I v1.Merge.Xc,I v1.Merge.Xd,I v1.Merge.Xe,L 2 (v1.Merge.Steps.map Zp.c),I v1.Nested.Fixed,I v1.Nested.Xb,I v1.Nested.Xc,I v1.Nested.Xd,I v1.Nested.Xe,L 2 (v1.Nested.Steps.map Zp.c)],[.box (v65.c.map .t)])=some r else some (.agg (v1.c.map .t),[.box (v58.c.map .t)])=some r))/\
 (∀cc cd co i r,Im (Zla cc cd co i=some r) (if i<0 then False else if co=true then some (.own 0,[.arr 42 1 true (cc.map isc)])=some r else cd.length<=68719476736/\cc.length+1<=68719476736/\some (.own 0,[.arr 42 1 true ((cc++[cd]).map isc)])=some r))))/\
 (((∀a r,Im (K3 a=some r) (Zla ([]:XS) a false 0=some r))/\
 (∀a b i r,Im (Zem a b i=some r) (if i<(a.length:Int)then if i<(b.length:Int)then qG a i (λe1=>qH b i (λe2=>if e1<e2 then qi (-1) r else if e2<e1 then qi 1 r else Zem a b (w (i+1))=some r))else Zen a b i false=some r else Zen a b i false=some r)))/\
 ((∀a b i x r,Im (Zen a b i x=some r) (if(a.length:Int)<(b.length:Int)then qi (-1) r else if(b.length:Int)<(a.length:Int)then qi 1 r else qi 0 r))/\
 ((∀a a1 r,Im (QG a a1=some r) (Zem a a1 0=some r))/\
 (∀cc cl cd co i r,Im (Wu cc cl cd co i=some r) (if i<(cl.length:Int)then qG cl i (λe1=>qI (QG e1 cd) (λv7=>if v7=0 then if 0<v7 then e1.length<=68719476736/\cc.length+1<=68719476736/\Wu (cc++[e1]) cl cd true (w (i+1))=some r else e1.length<=68719476736/\cc.length+1<=68719476736/\Wu (cc++[e1]) cl cd true (w (i+1))=some r else if 0<v7 then if co=true then e1.length<=68719476736/\cc.length+1<=68719476736/\Wu (cc++[e1]) cl cd true (w (i+1))=some r else cd.length<=68719476736/\cc.length+1<=68719476736/\e1.length<=68719476736/\cc.length+1+1<=68719476736/\Wu ((cc++[cd])++[e1]) cl cd true (w (i+1))=some r else e1.length<=68719476736/\cc.length+1<=68719476736/\Wu (cc++[e1]) cl cd co (w (i+1))=some r))else if co=true then some (.own 0,[.arr 42 1 true (cc.map isc)])=some r else cd.length<=68719476736/\cc.length+1<=68719476736/\some (.own 0,[.arr 42 1 true ((cc++[cd]).map isc)])=some r)))))):=by
 and_intros
 all_goals(intros;unfold Im;(try simp only[Zhp,Zek,Zej,K2,Z7,XC,ZkV,XU,QF,Zb9,ZbA,Zel,Zla,K3,Zem,QG,Wu,Zf.c_def,Zm.c_def,Zr.c_def,Zen,mpl,dfs,qs]);(try simp only[itb]);(try simp only[itf,gS,kk]))
 all_goals(repeat' first|refine exI λ_=>?_|refine anJ λ_ _=>?_|refine anI λ_=>?_|refine orE2 ?_ ?_|exact False.elim)
 all_goals(intro h;first|refine run Z3M rfl ?_|rw[Zl ZkT.eq_1]|refine run Z3N rfl ?_|refine ZR Z3O rfl ?_|refine ZR Z3P rfl ?_|refine ZR Z3Q rfl ?_|refine run Z3R rfl ?_|refine ZR Zw7 rfl ?_|refine ZR Z3S rfl ?_|refine ZR Z3T rfl ?_|refine ZR Z3U rfl ?_|refine ZR Z3V rfl ?_|rw[Zl Zhq.eq_1]|refine run Zw8 rfl ?_|rw[Zl Zlc.eq_1]|rw[Ev_eq Zhs.eq_1]|refine run Z3W rfl ?_)
 all_goals (refine Yc ?_ h;clear h;simp +decide[*,kk,tI,tII,ZsP,ZkU,ZsQ,ZsT,ZsS,ZsU,ZsV,ZsW,ZkW,ZsZ,ZsX,ZsY,Zta,Ztd,Ztc,Ztg,Zte,Ztf,Ztj,Zhr,ZkZ,Ztk,Zth,Zti])
abbrev Z6B:=uq Wv.1.1.1.1
abbrev Zpo:=uq Wv.1.1.1.2
abbrev Z6C:=uq Wv.1.1.2.1
abbrev ZwG:=uq Wv.1.1.2.2
abbrev Zpp:=uq Wv.1.2.1.1
abbrev Z6D:=uq Wv.1.2.1.2
abbrev Z6E:=uq Wv.1.2.2.1
abbrev Z6F:=uq Wv.1.2.2.2.1
abbrev ZiX:=uq Wv.1.2.2.2.2
abbrev ZwH:=uq Wv.2.1.1.1
abbrev ZiY:=uq Wv.2.1.1.2
abbrev ZiZ:=uq Wv.2.1.2.1
abbrev ZwI:=uq Wv.2.1.2.2
abbrev ZwJ:=uq Wv.2.2.1.1
abbrev ZwK:=uq Wv.2.2.1.2
abbrev Z6G:=uq Wv.2.2.2.1
abbrev Z6H:=uq Wv.2.2.2.2.1
abbrev Zgc:=uq Wv.2.2.2.2.2
theorem Z6I:∀a a1 r,Im (K4 a a1=some r) (Wu ([]:XS) a a1 false 0=some r):=by
 all_goals(intros;unfold Im;(try simp only[K4,Wu,mpl,dfs,qs]);(try simp only[itb]);(try simp only[itf,gS,kk]))
 all_goals(repeat' first|refine exI λ_=>?_|refine anJ λ_ _=>?_|refine anI λ_=>?_|refine orE2 ?_ ?_|exact False.elim)
 all_goals(intro h;first|refine run Zw8 rfl ?_)
 all_goals (refine Yc ?_ h;clear h;simp +decide[*,kk,tI,tII,ZkZ])
abbrev ZwL:=uq Z6I
theorem Zja(a b:V5)(l:List UInt8)(h:b.data.toList=l):(a.toList=l)↔a=b:=by
 rw[<-Zsx,ByteArray.toList_eq b,h]
theorem Vv:(((∀c co cn cd cc cl cu n r,Im (Zld c co cn cd cc cl cu n=some r) (if 0<n then Zeo c co cn cd cc ([]:WA) cl cu n 0=some r else some (.agg [.t (.str cd),I cc,.own 1],[.box (c.c.map .t),.arr 42 1 true (([]:XS).map isc)])=some r))/\
 ((∀c co cn cd cc cy cl cu n i r,Im (Zeo c co cn cd cc cy cl cu n i=some r) (if i<cl then ∃(v:Zf),∃v1,Z7 c cu=some (I v1,[.box (v.c.map .t)])/\cy.length+1<=68719476736/\Zeo v co cn cd cc (cy++[v1]) cl cu n (w (i+1))=some r else qO 42 1 isc (K3 cy) (λv3=>ZbF c co cn cd cc v3 cl cu (w (n-1))=some r)))/\
 (∀c co cn cd cc x cl cu n r,Im (ZbF c co cn cd cc x cl cu n=some r) (if 0<n then Zep c co cn cd cc x ([]:WA) cl cu n 0=some r else some (.agg [.t (.str cd),I cc,.own 1],[.box (c.c.map .t),.arr 42 1 true (x.map isc)])=some r))))/\
 (((∀c co cn cd cc x cy cl cu n i r,Im (Zep c co cn cd cc x cy cl cu n i=some r) (if i<cl then ∃(v:Zf),∃v1,Z7 c cu=some (I v1,[.box (v.c.map .t)])/\cy.length+1<=68719476736/\Zep v co cn cd cc x (cy++[v1]) cl cu n (w (i+1))=some r else qO 42 1 isc (K4 x cy) (λv3=>ZbF c co cn cd cc v3 cl cu (w (n-1))=some r)))/\
 (∀x a a1 a2 a3 r,Im (Vr x a a1 a2 a3=some r) (∃(v:Zf),∃v1,Z7 x (w (a2+1))=some (I v1,[.box (v.c.map .t)])/\Zld v (⟨#[]⟩:V5) 0 a a1 a1 a3 v1=some r)))/\
 ((∀x r,Im (ZbH x=some r) (∃(v:Zf),∃(v1:WA),∃v2,XU x ([2,3,4,6])=some (I v2,[.box (v.c.map .t),.arr 3 1 true (v1.map ic)])/\∃(v3:Zf),∃(v4:WA),∃v5,XU v ([2,4,6,8])=some (I v5,[.box (v3.c.map .t),.arr 3 1 true (v4.map ic)])/\Zhw v3 ([(⟨#[114]⟩:V5),(⟨#[115]⟩:V5),(⟨#[116]⟩:V5),(⟨#[117]⟩:V5),(⟨#[118]⟩:V5)]) v2 v5 (([(⟨#[114]⟩:V5),(⟨#[115]⟩:V5),(⟨#[116]⟩:V5),(⟨#[117]⟩:V5),(⟨#[118]⟩:V5)]).length:Int) 0=some r))/\
 (∀x x1 r,Im (JF x x1=some r) (∃(v:Zf),∃v1,Z7 x (x1.length:Int)=some (I v1,[.box (v.c.map .t)])/\qG x1 v1 (λe2=>some (.t (.str e2),[.box (v.c.map .t),.arr 9 1 true (x1.map sc)])=some r))))))/\
 ((((∀a a1 a2 r,Im (ZB a a1 a2=some r) (if a1<=a then qb (decide (a<=a2)) r else qb false r))/\
 (∀cp r,Im (Zev cp=some r) (qB (ZB cp 1 4) (qB (ZB 0 1 4) (Ztp cp 0 0=some r) (qb false r)) (qb false r))))/\
 ((∀a r,Im (ZbI a=some r) (if(a.size:Int)=1 then ∃b1,a[0]?=some b1/\if 97<=(b1.toNat:Int)then qb (decide ((b1.toNat:Int)<=122)) r else qb false r else qb false r))/\
 (∀l x i r,Im (Zew l x i=some r) (if i<(l.length:Int)then qG l i (λe1=>if e1=x then qb true r else Zew l x (w (i+1))=some r)else qb false r))))/\
 (((∀a a1 r,Im (VX a a1=some r) (Zew a a1 0=some r))/\
 (∀q cv i r,Im (ZbJ q cv i=some r) (if i<(q.Atoms.length:Int)then qG q.Atoms i (λe1=>qB (ZbI e1.Name) (qB (ZB (e1.Vars.length:Int) 1 3) (Zex q e1 cv i 0=some r) (qb false r)) (qb false r))else ¬q.Zk<0/\qb (decide (cv=(w ((shlI 1 q.Zk)-1)))) r)))/\
 ((∀q a cv i k r,Im (Zex q a cv i k=some r) (if k<(a.Vars.length:Int)then qG a.Vars k (λe1=>qB (ZB e1 0 (w (q.Zk-1))) (k.toNat<=a.Vars.length/\qB (VX (a.Vars.take k.toNat) e1) (qb false r) (¬e1<0/\Zex q a (orI cv (shlI 1 e1)) i (w (k+1))=some r)) (qb false r))else ZbJ q cv (w (i+1))=some r))/\
 (∀a r,Im (Uq a=some r) (qB (ZB a.Zk 1 4) (qB (ZB (a.Atoms.length:Int) 1 4) (ZbJ a 0 0=some r) (qb false r)) (qb false r)))))):=by
 and_intros
 all_goals(intros;unfold Im;(try simp only[Zld,Zeo,ZbF,Zep,Vr,ZbH,JF,ZB,Zev,ZbI,Zew,VX,ZbJ,Zex,Uq,Z7,K3,Zf.c_def,K4,XU,Zhw,Ztp,mpl,dfs,qs]);(try simp only[itb]);(try simp only[itf,gS,kk]))
 all_goals(repeat' first|refine exI λ_=>?_|refine anJ λ_ _=>?_|refine anI λ_=>?_|refine orE2 ?_ ?_|exact False.elim)
 all_goals(intro h;first|rw[Zl ZbD.eq_1]|rw[Zl Zht.eq_1]|refine ZR Z3X rfl ?_|refine ZR Z3Y rfl ?_|refine ZR Z3Z rfl ?_|refine run Zw9 rfl ?_|refine run ZwA rfl ?_|refine run ZwB rfl ?_|rw[Zl Zln.eq_1]|refine run ZwC rfl ?_|rw[Zl Zet.eq_1]|rw[Zl Zli.eq_1])
 all_goals (refine Yc ?_ h;clear h;simp +decide[*,kk,tI,tII,ZbE,Zhv,Zhu,Ztl,Ztm,Ztn,Zlh,Zlk,Zll,Zlo,Zlp,Zeu,Zlj])
abbrev ZwM:=uq Vv.1.1.1
abbrev ZwN:=uq Vv.1.1.2.1
abbrev ZwO:=uq Vv.1.1.2.2
abbrev ZwP:=uq Vv.1.2.1.1
abbrev ZwQ:=uq Vv.1.2.1.2
abbrev Z6J:=uq Vv.1.2.2.1
abbrev Z6K:=uq Vv.1.2.2.2
abbrev Z6L:=uq Vv.2.1.1.1
abbrev Z6M:=uq Vv.2.1.1.2
abbrev Z6N:=uq Vv.2.1.2.1
abbrev ZwR:=uq Vv.2.1.2.2
abbrev Z6O:=uq Vv.2.2.1.1
abbrev ZwS:=uq Vv.2.2.1.2
abbrev ZwT:=uq Vv.2.2.2.1
abbrev Z6P:=uq Vv.2.2.2.2
theorem Z6Q{c:Zf}{x:List V5}{cd cc x1 x2:Int}{r:XR}(h:(if x2<x1 then(0<=x2/\(∃(e1:V5),x[x2.toNat]?=some e1/\(if e1=(⟨#[117]⟩:V5)then(if e1=(⟨#[118]⟩:V5)then(∃(v:Zf) (v1:XS) (v2:V5) (v3:Int),Vr c e1 1 cc cd=some (.agg [.t (.str v2),I v3,.own 1],[.box (v.c.map .t),.arr 42 1 true (v1.map isc)])/\(VC v ([(⟨v2,v3,v1⟩:Zq)]) x cd cc x1 (w (x2+1))=some r))else(∃(v4:Zf) (v5:XS) (v6:V5) (v7:Int),Vr c e1 3 cc cd=some (.agg [.t (.str v6),I v7,.own 1],[.box (v4.c.map .t),.arr 42 1 true (v5.map isc)])/\(VC v4 ([(⟨v6,v7,v5⟩:Zq)]) x cd cc x1 (w (x2+1))=some r)))else(if e1=(⟨#[118]⟩:V5)then(∃(v8:Zf) (v9:XS) (v10:V5) (v11:Int),Vr c e1 1 cc cd=some (.agg [.t (.str v10),I v11,.own 1],[.box (v8.c.map .t),.arr 42 1 true (v9.map isc)])/\(VC v8 ([(⟨v10,v11,v9⟩:Zq)]) x cd cc x1 (w (x2+1))=some r))else(∃(v12:Zf) (v13:XS) (v14:V5) (v15:Int),Vr c e1 2 cc cd=some (.agg [.t (.str v14),I v15,.own 1],[.box (v12.c.map .t),.arr 42 1 true (v13.map isc)])/\(VC v12 ([(⟨v14,v15,v13⟩:Zq)]) x cd cc x1 (w (x2+1))=some r))))))else(∃(v16:Zf) (v17:Bool),XC c 8=some (Bo v17,[.box (v16.c.map .t)])/\(if v17=true then(∃(v18:Zf) (v19:Int),Z7 v16 5=some (I v19,[.box (v18.c.map .t)])/\False)else(some (.agg [L 3 (([]:List Zq).map Zq.c)],[.box (v16.c.map .t)])=some r))))):Zhw c x cd cc x1 x2=some r:=by
 unfold Zhw;rw[Zl Zeq.eq_1];simp only[Vr,XC,Z7,Zf.c_def,mpl,dfs]at h
 try simp only[itb]at h
 try simp only[itf,gS,kk]at h
 rcases h with⟨q1,q2,e1,⟨g3,q3⟩,(⟨q4,(⟨q5,v,v1,v2,v3,q6,h⟩|⟨q5,v4,v5,v6,v7,q7,h⟩)⟩|⟨q4,(⟨q8,v8,v9,v10,v11,q9,h⟩|⟨q8,v12,v13,v14,v15,q10,h⟩)⟩)⟩|⟨q1,v16,v17,q11,(⟨q12,v18,v19,q13,⟨⟩⟩|⟨q12,h⟩)⟩
 all_goals try (have s1:=Zja e1 ⟨#[117]⟩ [117] rfl;have s2:=Zja e1 ⟨#[118]⟩ [118] rfl)
 all_goals try exact absurd ((of_eq_true q4).symm.trans (of_eq_true q5)) (by decide)
 all_goals (refine Yc ?_ h;clear h;simp +decide[*,kk,tI,tII,VC,Zle,Zlf,Zlg,Zer])
theorem Zgd{c:Zf}{x:List Zq}{x1:List V5}{cd cc x2 x3:Int}{r:XR}(h:(if x3<x2 then(0<=x3/\(∃(e1:V5),x1[x3.toNat]?=some e1/\(if e1=(⟨#[117]⟩:V5)then(if e1=(⟨#[118]⟩:V5)then(∃(v:Zf) (v1:XS) (v2:V5) (v3:Int),Vr c e1 1 cc cd=some (.agg [.t (.str v2),I v3,.own 1],[.box (v.c.map .t),.arr 42 1 true (v1.map isc)])/\(x.length+1<=68719476736/\(VC v (x++[(⟨v2,v3,v1⟩:Zq)]) x1 cd cc x2 (w (x3+1))=some r)))else(∃(v4:Zf) (v5:XS) (v6:V5) (v7:Int),Vr c e1 3 cc cd=some (.agg [.t (.str v6),I v7,.own 1],[.box (v4.c.map .t),.arr 42 1 true (v5.map isc)])/\(x.length+1<=68719476736/\(VC v4 (x++[(⟨v6,v7,v5⟩:Zq)]) x1 cd cc x2 (w (x3+1))=some r))))else(if e1=(⟨#[118]⟩:V5)then(∃(v8:Zf) (v9:XS) (v10:V5) (v11:Int),Vr c e1 1 cc cd=some (.agg [.t (.str v10),I v11,.own 1],[.box (v8.c.map .t),.arr 42 1 true (v9.map isc)])/\(x.length+1<=68719476736/\(VC v8 (x++[(⟨v10,v11,v9⟩:Zq)]) x1 cd cc x2 (w (x3+1))=some r)))else(∃(v12:Zf) (v13:XS) (v14:V5) (v15:Int),Vr c e1 2 cc cd=some (.agg [.t (.str v14),I v15,.own 1],[.box (v12.c.map .t),.arr 42 1 true (v13.map isc)])/\(x.length+1<=68719476736/\(VC v12 (x++[(⟨v14,v15,v13⟩:Zq)]) x1 cd cc x2 (w (x3+1))=some r)))))))else(∃(v16:Zf) (v17:Bool),XC c 8=some (Bo v17,[.box (v16.c.map .t)])/\(if v17=true then(∃(v18:Zf) (v19:Int),Z7 v16 5=some (I v19,[.box (v18.c.map .t)])/\(0<=v19/\(∃(e8:Zq),x[v19.toNat]?=some e8/\(some (.agg [L 3 ((x.set v19.toNat (⟨e8.Name,e8.Arity,[]⟩:Zq)).map Zq.c)],[.box (v18.c.map .t)])=some r))))else(some (.agg [L 3 (x.map Zq.c)],[.box (v16.c.map .t)])=some r))))):VC c x x1 cd cc x2 x3=some r:=by
 unfold VC;rw[Zl Zeq.eq_1];simp only[Vr,XC,Z7,Zf.c_def,mpl,dfs]at h
 try simp only[itb]at h
 try simp only[itf,gS,kk]at h
 rcases h with⟨q1,q2,e1,⟨g3,q3⟩,(⟨q4,(⟨q5,v,v1,v2,v3,q6,q7,h⟩|⟨q5,v4,v5,v6,v7,q8,q9,h⟩)⟩|⟨q4,(⟨q10,v8,v9,v10,v11,q11,q12,h⟩|⟨q10,v12,v13,v14,v15,q13,q14,h⟩)⟩)⟩|⟨q1,v16,v17,q15,(⟨q16,v18,v19,q17,q18,e8,⟨g19,q19⟩,h⟩|⟨q16,h⟩)⟩
 all_goals try (have s1:=Zja e1 ⟨#[117]⟩ [117] rfl;have s2:=Zja e1 ⟨#[118]⟩ [118] rfl)
 all_goals try exact absurd ((of_eq_true q4).symm.trans (of_eq_true q5)) (by decide)
 all_goals (refine Yc ?_ h;clear h;simp +decide[*,kk,tI,tII,VC,Zle,Zlf,Zlg,Zer])
end Go.Proofs.YtgbipcfdgfjplaaGreat
