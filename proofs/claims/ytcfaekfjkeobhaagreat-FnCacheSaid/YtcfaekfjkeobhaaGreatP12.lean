/-
  Parts of the proofs for this seat: G1 G2 G3.
-/
import Derived.Test.YtcfaekfjkeobhaaGreatP11
set_option linter.unusedSectionVars false
set_option linter.unusedSimpArgs false
set_option linter.unusedVariables false
set_option maxRecDepth 100000
set_option maxHeartbeats 4000000
namespace Go.Proofs.YtcfaekfjkeobhaaGreat
open Go.AM
theorem Zdh:((((∀a r,Im (Zvx a=some r) (qb (decide (1048576<(a.length:Int))) r))/\
 (∀cd h1 i r,Im (Zqt cd h1 i=some r) (if i<(cd.length:Int)then if i<4000 then qG cd i (λe1=>Zqt cd (andI (w ((w ((w (h1*131))+(w e1)))+7)) 1073741823) (w (i+1))=some r)else some (.ptr 0 0,[.box [L 1 (cd.map (kc .u8)),I 0,I h1]])=some r else some (.ptr 0 0,[.box [L 1 (cd.map (kc .u8)),I 0,I h1]])=some r)))/\
 ((∀a r,Im (Zjk a=some r) (Zqt a (w (10101+(a.length:Int))) 0=some r))/\
 (∀x r,Im (Zjl x=some r) (if x.i<(x.b.length:Int)then qG x.b x.i (λe1=>some (I (andI (w ((andI (xorI (shrI (w ((w (x.h*6364136223846793005))+1442695040888963407)) 33) (shrI (w ((w (x.h*6364136223846793005))+1442695040888963407)) 45)) 255)+(w e1))) 255),[.box [L 1 (x.b.map (kc .u8)),I (w (x.i+1)),I (w ((w (x.h*6364136223846793005))+1442695040888963407))]])=some r)else some (I (andI (xorI (shrI (w ((w (x.h*6364136223846793005))+1442695040888963407)) 33) (shrI (w ((w (x.h*6364136223846793005))+1442695040888963407)) 45)) 255),[.box [L 1 (x.b.map (kc .u8)),I x.i,I (w ((w (x.h*6364136223846793005))+1442695040888963407))]])=some r))))/\
 (((∀x a r,Im (Z2 x a=some r) (if a<=0 then some (I 0,[.box (x.c.map .t)])=some r else if a<=256 then ∃(v:Zg),∃v1,Zjl x=some (I v1,[.box (v.c.map .t)])/\¬a=0/\some (I (Int.tmod v1 a),[.box (v.c.map .t)])=some r else ∃(v2:Zg),∃v3,Zjl x=some (I v3,[.box (v2.c.map .t)])/\∃(v32:Zg),∃v33,Zjl v2=some (I v33,[.box (v32.c.map .t)])/\∃(v39:Zg),∃v40,Zjl v32=some (I v40,[.box (v39.c.map .t)])/\∃(v46:Zg),∃v47,Zjl v39=some (I v47,[.box (v46.c.map .t)])/\¬a=0/\some (I (Int.tmod (w ((w ((w ((w (v3*16777216))+(w (v33*65536))))+(w (v40*256))))+v47)) a),[.box (v46.c.map .t)])=some r))/\
 (∀x a r,Im (Zc0 x a=some r) (∃(v:Zg),∃v1,Z2 x a=some (I v1,[.box (v.c.map .t)])/\some (Bo (decide (v1=0)),[.box (v.c.map .t)])=some r)))/\
 ((∀r,Im (Z03=some r) (some (.agg [I 1,I 1,I 0,I 0,I 0,.own 0,I 2,I 3,I 0,I 0,I 0,.own 1,I 4,I 2,I 1,I 1,I 0,.own 2,I 1,I 1,I 1,I 1,I 0,.own 3,I 1,I 0,I 0,I 1,I 1,.own 4],[.arr 259 2 true (([]:List Zj).map Zj.c),.arr 259 2 true (([(⟨17,20⟩:Zj)]).map Zj.c),.arr 259 2 true (([]:List Zj).map Zj.c),.arr 259 2 true (([]:List Zj).map Zj.c),.arr 259 2 true (([]:List Zj).map Zj.c)])=some r))/\
 ((∀x x1 r,Im (Zdd x x1=some r) (∃(v:Zg),∃v1,Z2 x (x1.length:Int)=some (I v1,[.box (v.c.map .t)])/\qG x1 v1 (λe2=>some (I e2,[.box (v.c.map .t),.arr 3 1 true (x1.map ic)])=some r)))/\
 (∀x r,Im (Zjm x=some r) (∃(v:Zg),∃v1,Z2 x 5=some (I v1,[.box (v.c.map .t)])/\∃(v2:Zg),∃v3,Z2 v 4=some (I v3,[.box (v2.c.map .t)])/\∃(v32:Zg),∃v33,Z2 v2 4=some (I v33,[.box (v32.c.map .t)])/\∃(v39:Zg),∃v40,Z2 v32 3=some (I v40,[.box (v39.c.map .t)])/\∃(v46:Zg),∃v47,Zc0 v39 3=some (Bo v47,[.box (v46.c.map .t)])/\if v47=true then ∃(v53:Zg),∃v54,Z2 v46 3=some (I v54,[.box (v53.c.map .t)])/\∃(v60:Zg),∃v61,Zc0 v53 3=some (Bo v61,[.box (v60.c.map .t)])/\if v61=true then ∃(v67:Zg),∃(v68:List Int),∃v69,Zdd v60 ([1,5,17,32])=some (I v69,[.box (v67.c.map .t),.arr 3 1 true (v68.map ic)])/\∃(v70:Zg),∃v71,Z2 v67 20=some (I v71,[.box (v70.c.map .t)])/\some (.agg [I (w (1+v1)),I v3,I v33,I v40,I v54,.own 1],[.box (v70.c.map .t),.arr 259 2 true (([(⟨v69,v71⟩:Zj)]).map Zj.c)])=some r else some (.agg [I (w (1+v1)),I v3,I v33,I v40,I v54,.own 1],[.box (v60.c.map .t),.arr 259 2 true (([]:List Zj).map Zj.c)])=some r else ∃(v72:Zg),∃v73,Zc0 v46 3=some (Bo v73,[.box (v72.c.map .t)])/\if v73=true then ∃(v74:Zg),∃(v75:List Int),∃v76,Zdd v72 ([1,5,17,32])=some (I v76,[.box (v74.c.map .t),.arr 3 1 true (v75.map ic)])/\∃(v77:Zg),∃v78,Z2 v74 20=some (I v78,[.box (v77.c.map .t)])/\some (.agg [I (w (1+v1)),I v3,I v33,I v40,I 0,.own 1],[.box (v77.c.map .t),.arr 259 2 true (([(⟨v76,v78⟩:Zj)]).map Zj.c)])=some r else some (.agg [I (w (1+v1)),I v3,I v33,I v40,I 0,.own 1],[.box (v72.c.map .t),.arr 259 2 true (([]:List Zj).map Zj.c)])=some r))))))/\
 ((((∀x r,Im (Zqu x=some r) (∃(v:Zg),∃v1,Zc0 x 3=some (Bo v1,[.box (v.c.map .t)])/\if v1=true then ∃(v2:List Zj),∃(v3:List Zj),∃(v4:List Zj),∃(v5:List Zj),∃(v6:List Zj),∃v7,∃v8,∃v9,∃v10,∃v11,∃v12,∃v13,∃v14,∃v15,∃v16,∃v17,∃v18,∃v19,∃v20,∃v21,∃v22,∃v23,∃v24,∃v25,∃v26,∃v27,∃v28,∃v29,∃v30,∃v31,Z03=some (.agg [I v7,I v8,I v9,I v10,I v11,.own 0,I v12,I v13,I v14,I v15,I v16,.own 1,I v17,I v18,I v19,I v20,I v21,.own 2,I v22,I v23,I v24,I v25,I v26,.own 3,I v27,I v28,I v29,I v30,I v31,.own 4],[.arr 259 2 true (v2.map Zj.c),.arr 259 2 true (v3.map Zj.c),.arr 259 2 true (v4.map Zj.c),.arr 259 2 true (v5.map Zj.c),.arr 259 2 true (v6.map Zj.c)])/\some (.agg [I v7,I v8,I v9,I v10,I v11,L 2 (v2.map Zj.c),I v12,I v13,I v14,I v15,I v16,L 2 (v3.map Zj.c),I v17,I v18,I v19,I v20,I v21,L 2 (v4.map Zj.c),I v22,I v23,I v24,I v25,I v26,L 2 (v5.map Zj.c),I v27,I v28,I v29,I v30,I v31,L 2 (v6.map Zj.c)],[.box (v.c.map .t)])=some r else ∃(v32:Zg),∃(v33:List Zj),∃v34,∃v35,∃v36,∃v37,∃v38,Zjm v=some (.agg [I v34,I v35,I v36,I v37,I v38,.own 1],[.box (v32.c.map .t),.arr 259 2 true (v33.map Zj.c)])/\∃(v39:Zg),∃(v40:List Zj),∃v41,∃v42,∃v43,∃v44,∃v45,Zjm v32=some (.agg [I v41,I v42,I v43,I v44,I v45,.own 1],[.box (v39.c.map .t),.arr 259 2 true (v40.map Zj.c)])/\∃(v46:Zg),∃(v47:List Zj),∃v48,∃v49,∃v50,∃v51,∃v52,Zjm v39=some (.agg [I v48,I v49,I v50,I v51,I v52,.own 1],[.box (v46.c.map .t),.arr 259 2 true (v47.map Zj.c)])/\∃(v53:Zg),∃(v54:List Zj),∃v55,∃v56,∃v57,∃v58,∃v59,Zjm v46=some (.agg [I v55,I v56,I v57,I v58,I v59,.own 1],[.box (v53.c.map .t),.arr 259 2 true (v54.map Zj.c)])/\∃(v60:Zg),∃(v61:List Zj),∃v62,∃v63,∃v64,∃v65,∃v66,Zjm v53=some (.agg [I v62,I v63,I v64,I v65,I v66,.own 1],[.box (v60.c.map .t),.arr 259 2 true (v61.map Zj.c)])/\some (.agg [I v34,I v35,I v36,I v37,I v38,L 2 (v33.map Zj.c),I v41,I v42,I v43,I v44,I v45,L 2 (v40.map Zj.c),I v48,I v49,I v50,I v51,I v52,L 2 (v47.map Zj.c),I v55,I v56,I v57,I v58,I v59,L 2 (v54.map Zj.c),I v62,I v63,I v64,I v65,I v66,L 2 (v61.map Zj.c)],[.box (v60.c.map .t)])=some r))/\
 (∀x x1 r,Im (Zqv x x1=some r) (∃(v:Zg),∃v1,Z2 x (x1.length:Int)=some (I v1,[.box (v.c.map .t)])/\qG x1 v1 (λe2=>some (.t (.str e2),[.box (v.c.map .t),.arr 9 1 true (x1.map sc)])=some r))))/\
 ((∀cl s cn x i r,Im (Zm7 cl s cn x i=some r) (if i<(s.size:Int)then 0<=i/\∃b1,s[i.toNat]?=some b1/\if(b1.toNat:Int)=cn then 0<=x/\x.toNat<=i.toNat/\i.toNat<=s.size/\cl.length+1<=68719476736/\Zm7 (cl++[(s.extract x.toNat i.toNat)]) s cn (w (i+1)) (w (i+1))=some r else Zm7 cl s cn x (w (i+1))=some r else 0<=x/\x.toNat<=s.size/\cl.length+1<=68719476736/\some (.own 0,[.arr 9 1 true ((cl++[(s.extract x.toNat s.size)]).map sc)])=some r))/\
 (∀a a1 r,Im (Zqw a a1=some r) (Zm7 ([]:List ByteArray) a a1 0 0=some r))))/\
 (((∀a a1 a2 r,Im (Zbk a a1 a2=some r) (if a1<=a then qb (decide (a<=a2)) r else qb false r))/\
 (∀cc r,Im (Zk8 cc=some r) (qB (Zbk cc 1 4) (qB (Zbk 0 1 4) (Zbbt cc 0 0=some r) (qb false r)) (qb false r))))/\
 ((∀a r,Im (Zho a=some r) (qB (Zbk a 0 3) (0<=a/\0<=(w (a+1))/\a.toNat<=(w (a+1)).toNat/\(w (a+1)).toNat<=(⟨#[88,89,90,85]⟩:ByteArray).size/\some (.t (.str ((⟨#[88,89,90,85]⟩:ByteArray).extract a.toNat ((w (a+1)).toNat))),[])=some r) (some (.t (.str (⟨#[]⟩:ByteArray)),[])=some r)))/\
 ((∀a r,Im (Zqz a=some r) (if(a.size:Int)=1 then ∃b1,a[0]?=some b1/\if 97<=(b1.toNat:Int)then qb (decide ((b1.toNat:Int)<=122)) r else qb false r else qb false r))/\
 (∀l x i r,Im (Zm9 l x i=some r) (if i<(l.length:Int)then qG l i (λe1=>if e1=x then qb true r else Zm9 l x (w (i+1))=some r)else qb false r)))))):=by
 and_intros
 all_goals(intros;unfold Im;(try simp only[Zvx,Zqt,Zjk,Zjl,Z2,Zc0,Z03,Zdd,Zjm,Zqu,Zqv,Zm7,Zqw,Zbk,Zk8,Zho,Zqz,Zm9,Zg.c_def,bgS,Zbbt,mpl,dfs,qs]);(try simp only[itb]);(try simp only[itf,gS,kk]))
 all_goals(repeat' first|refine exI λ_=>?_|refine anJ λ_ _=>?_|refine anI λ_=>?_|refine orE2 ?_ ?_|exact False.elim)
 all_goals(intro h;first|refine run Zbqp rfl ?_|rw[Zl Z01.eq_1]|refine run Zbqq rfl ?_|refine runM Zbqr rfl ?_|refine runM Zbqs rfl ?_|refine runM Zbqt rfl ?_|refine run Zbqu rfl ?_|refine runM Zbho rfl ?_|refine runM Zbqv rfl ?_|refine runM Zbqw rfl ?_|refine runM Zbhp rfl ?_|rw[Zl Z06.eq_1]|refine run Zbqx rfl ?_|refine run Zbqy rfl ?_|refine run Zbhq rfl ?_|refine run Zbq0 rfl ?_|refine run Zbq1 rfl ?_|rw[Zl Z1d.eq_1])
 all_goals (refine Yb ?_ h;clear h;simp +decide[*,kk,tI,tII,Zbbf,Z02,Zbbg,Zbbi,Zbbh,Zbbj,Zbbk,Zbbl,Z04,Zbbo,Zbbm,Zbbn,Zbbp,Z05,Zbbq,Z07,Zbbr,Zbbs,Z1a,Zbbx,Zbby,Z1e])
abbrev Zbvr:=uq Zdh.1.1.1.1
abbrev Z5x:=uq Zdh.1.1.1.2
abbrev Zbvs:=uq Zdh.1.1.2.1
abbrev Zbhx:=uq Zdh.1.1.2.2
abbrev Z5y:=uq Zdh.1.2.1.1
abbrev Zbvt:=uq Zdh.1.2.1.2
abbrev Zbvu:=uq Zdh.1.2.2.1
abbrev Zbvv:=uq Zdh.1.2.2.2.1
abbrev Zye:=uq Zdh.1.2.2.2.2
abbrev Zbhy:=uq Zdh.2.1.1.1
abbrev Zbvw:=uq Zdh.2.1.1.2
abbrev Z5z:=uq Zdh.2.1.2.1
abbrev Zbvx:=uq Zdh.2.1.2.2
abbrev Zbvy:=uq Zdh.2.2.1.1
abbrev Zbvz:=uq Zdh.2.2.1.2
abbrev Zbhz:=uq Zdh.2.2.2.1
abbrev Zbv0:=uq Zdh.2.2.2.2.1
abbrev Zbh0:=uq Zdh.2.2.2.2.2
theorem Zpe:((∀a a1 r,Im (Zm8 a a1=some r) (Zm9 a a1 0=some r))/\
 ((∀q c i r,Im (Zna q c i=some r) (if i<(q.Atoms.length:Int)then qG q.Atoms i (λe1=>qB (Zqz e1.Name) (qB (Zbk (e1.Vars.length:Int) 1 3) (Zq0 q e1 c i 0=some r) (qb false r)) (qb false r))else ¬q.Zf<0/\qb (decide (c=(w ((shlI 1 q.Zf)-1)))) r))/\
 (∀q a c i k r,Im (Zq0 q a c i k=some r) (if k<(a.Vars.length:Int)then qG a.Vars k (λe1=>qB (Zbk e1 0 (w (q.Zf-1))) (k.toNat<=a.Vars.length/\qB (Zm8 (a.Vars.take k.toNat) e1) (qb false r) (¬e1<0/\Zq0 q a (orI c (shlI 1 e1)) i (w (k+1))=some r)) (qb false r))else Zna q c (w (i+1))=some r))))/\
 ((∀a r,Im (Zep a=some r) (qB (Zbk a.Zf 1 4) (qB (Zbk (a.Atoms.length:Int) 1 4) (Zna a 0 0=some r) (qb false r)) (qb false r)))/\
 ((∀l s i r,Im (Zq1 l s i=some r) (if i<(l.length:Int)then qG l i (λe1=>∃v,Zho e1=some (.t (.str v),[])/\s.size+v.size<=9223372036854775807/\Zq1 l (s++v) (w (i+1))=some r)else some (.t (.str s),[])=some r))/\
 (∀a r,Im (Znb a=some r) (Zq1 a (⟨#[]⟩:ByteArray) 0=some r)))):=by
 and_intros
 all_goals(intros;unfold Im;(try simp only[Zm8,Zna,Zq0,Zep,Zq1,Znb,Zqz,Zbk,Zho,Zm9,mpl,dfs,qs]);(try simp only[itb]);(try simp only[itf,gS,kk]))
 all_goals(repeat' first|refine exI λ_=>?_|refine anJ λ_ _=>?_|refine anI λ_=>?_|refine orE2 ?_ ?_|exact False.elim)
 all_goals(intro h;first|refine run Zbq2 rfl ?_|rw[Zl Zqx.eq_1]|rw[Zl Z08.eq_1]|refine run Zbhq rfl ?_|rw[Zl Z1f.eq_1]|refine run Zbq3 rfl ?_)
 all_goals (refine Yb ?_ h;clear h;simp +decide[*,kk,tI,tII,Zbbz,Zqy,Z09,Z1a,Z1g,Zbb0])
abbrev Zbv1:=uq Zpe.1.1
abbrev Zbh1:=uq Zpe.1.2.1
abbrev Zbh2:=uq Zpe.1.2.2
abbrev Zbv2:=uq Zpe.2.1
abbrev Zbh3:=uq Zpe.2.2.1
abbrev Zbv3:=uq Zpe.2.2.2
theorem Zes:(((∀q s i r,Im (Znc q s i=some r) (if i<(q.Atoms.length:Int)then qB (Zep q) (if 0<i then s.size+(⟨#[32]⟩:ByteArray).size<=9223372036854775807/\qG q.Atoms i (λe2=>s.size+(⟨#[32]⟩:ByteArray).size+e2.Name.size<=9223372036854775807/\s.size+(⟨#[32]⟩:ByteArray).size+e2.Name.size+(⟨#[40]⟩:ByteArray).size<=9223372036854775807/\∃v3,Znb e2.Vars=some (.t (.str v3),[])/\s.size+(⟨#[32]⟩:ByteArray).size+e2.Name.size+(⟨#[40]⟩:ByteArray).size+v3.size<=9223372036854775807/\s.size+(⟨#[32]⟩:ByteArray).size+e2.Name.size+(⟨#[40]⟩:ByteArray).size+v3.size+(⟨#[41]⟩:ByteArray).size<=9223372036854775807/\Znc q (((((s++(⟨#[32]⟩:ByteArray))++e2.Name)++(⟨#[40]⟩:ByteArray))++v3)++(⟨#[41]⟩:ByteArray)) (w (i+1))=some r)else qG q.Atoms i (λe4=>s.size+e4.Name.size<=9223372036854775807/\s.size+e4.Name.size+(⟨#[40]⟩:ByteArray).size<=9223372036854775807/\∃v4,Znb e4.Vars=some (.t (.str v4),[])/\s.size+e4.Name.size+(⟨#[40]⟩:ByteArray).size+v4.size<=9223372036854775807/\s.size+e4.Name.size+(⟨#[40]⟩:ByteArray).size+v4.size+(⟨#[41]⟩:ByteArray).size<=9223372036854775807/\Znc q ((((s++e4.Name)++(⟨#[40]⟩:ByteArray))++v4)++(⟨#[41]⟩:ByteArray)) (w (i+1))=some r)) (some (.t (.str s),[])=some r)else some (.t (.str s),[])=some r))/\
 ((∀a r,Im (Zvy a=some r) (Znc a (⟨#[]⟩:ByteArray) 0=some r))/\
 (∀cd cc w1 s i r,Im (Zvz cd cc w1 s i=some r) (if i<(w1.length:Int)then if i<=4 then qG w1 i (λe1=>if(e1.size:Int)<4 then some (.tup [.agg [I 0,.own 0],Bo false],[.arr 213 2 true (([]:List Atom).map Atom.c)])=some r else if 6<(e1.size:Int)then some (.tup [.agg [I 0,.own 0],Bo false],[.arr 213 2 true (([]:List Atom).map Atom.c)])=some r else 0<=1/\1<=e1.size/\Znf cd cc w1 (e1.extract 0 1) s i 2=some r)else Zq2 cd cc w1 s i false=some r else Zq2 cd cc w1 s i false=some r))))/\
 (((∀cd cc w1 cl s i k r,Im (Znf cd cc w1 cl s i k=some r) (qG w1 i (λe1=>if k<(w ((e1.size:Int)-1))then Zq3 cd cc w1 cl s i k 0=some r else Zgt cd cc ([(⟨cl,[]⟩:Atom)]) w1 s (w (i+1))=some r)))/\
 (∀cd cc w1 s i x r,Im (Zq2 cd cc w1 s i x=some r) (qB (Zk8 cc) (∃v2,Zbbw cc=some (.t (.str v2),[])/\if v2=s then some (.tup [.agg [I cc,.own 0],Bo true],[.arr 213 2 true (([]:List Atom).map Atom.c)])=some r else some (.tup [.agg [I 0,.own 0],Bo false],[.arr 213 2 true (([]:List Atom).map Atom.c)])=some r) (some (.tup [.agg [I 0,.own 0],Bo false],[.arr 213 2 true (([]:List Atom).map Atom.c)])=some r))))/\
 ((∀cd cc w1 cl s i k v r,Im (Zq3 cd cc w1 cl s i k v=some r) (if v<4 then ∃v1,Zho v=some (.t (.str v1),[])/\qG w1 i (λe2=>0<=k/\0<=(w (k+1))/\k.toNat<=(w (k+1)).toNat/\(w (k+1)).toNat<=e2.size/\if v1=(e2.extract k.toNat ((w (k+1)).toNat))then Zla cd (if cc<(w (v+1))then(w (v+1))else cc) w1 cl ([v]) s i k (w (v+1))=some r else Zq3 cd cc w1 cl s i k (w (v+1))=some r)else Znf cd cc w1 cl s i (w (k+1))=some r))/\
 (∀cd cc x w1 s i r,Im (Zgt cd cc x w1 s i=some r) (if i<(w1.length:Int)then if i<=4 then qG w1 i (λe1=>if(e1.size:Int)<4 then some (.tup [.agg [I 0,.own 0],Bo false],[.arr 213 2 true (([]:List Atom).map Atom.c)])=some r else if 6<(e1.size:Int)then some (.tup [.agg [I 0,.own 0],Bo false],[.arr 213 2 true (([]:List Atom).map Atom.c)])=some r else 0<=1/\1<=e1.size/\Zng cd cc x w1 (e1.extract 0 1) s i 2=some r)else Zq4 cd cc x w1 s i false=some r else Zq4 cd cc x w1 s i false=some r)))))/\
 ((((∀cd cc w1 cl x s i k v r,Im (Zla cd cc w1 cl x s i k v=some r) (if v<4 then ∃v1,Zho v=some (.t (.str v1),[])/\qG w1 i (λe2=>0<=k/\0<=(w (k+1))/\k.toNat<=(w (k+1)).toNat/\(w (k+1)).toNat<=e2.size/\if v1=(e2.extract k.toNat ((w (k+1)).toNat))then x.length+1<=68719476736/\Zla cd (if cc<(w (v+1))then(w (v+1))else cc) w1 cl (x++[v]) s i k (w (v+1))=some r else Zla cd cc w1 cl x s i k (w (v+1))=some r)else Znh cd cc w1 cl x s i (w (k+1))=some r))/\
 (∀cd cc x w1 cl s i k r,Im (Zng cd cc x w1 cl s i k=some r) (qG w1 i (λe1=>if k<(w ((e1.size:Int)-1))then Zq5 cd cc x w1 cl s i k 0=some r else x.length+1<=68719476736/\Zgt cd cc (x++[(⟨cl,[]⟩:Atom)]) w1 s (w (i+1))=some r))))/\
 ((∀cd cc x w1 s i x1 r,Im (Zq4 cd cc x w1 s i x1=some r) (qB (Zep (⟨cc,x⟩:Zc)) (∃v2,Zvy (⟨cc,x⟩:Zc)=some (.t (.str v2),[])/\if v2=s then some (.tup [.agg [I cc,.own 0],Bo true],[.arr 213 2 true (x.map Atom.c)])=some r else some (.tup [.agg [I 0,.own 0],Bo false],[.arr 213 2 true (([]:List Atom).map Atom.c)])=some r) (some (.tup [.agg [I 0,.own 0],Bo false],[.arr 213 2 true (([]:List Atom).map Atom.c)])=some r)))/\
 (∀cd cc w1 cl x s i k r,Im (Znh cd cc w1 cl x s i k=some r) (qG w1 i (λe1=>if k<(w ((e1.size:Int)-1))then Zla cd cc w1 cl x s i k 0=some r else Zgt cd cc ([(⟨cl,x⟩:Atom)]) w1 s (w (i+1))=some r)))))/\
 (((∀cd cc x w1 cl s i k v r,Im (Zq5 cd cc x w1 cl s i k v=some r) (if v<4 then ∃v1,Zho v=some (.t (.str v1),[])/\qG w1 i (λe2=>0<=k/\0<=(w (k+1))/\k.toNat<=(w (k+1)).toNat/\(w (k+1)).toNat<=e2.size/\if v1=(e2.extract k.toNat ((w (k+1)).toNat))then Zlb cd (if cc<(w (v+1))then(w (v+1))else cc) x w1 cl ([v]) s i k (w (v+1))=some r else Zq5 cd cc x w1 cl s i k (w (v+1))=some r)else Zng cd cc x w1 cl s i (w (k+1))=some r))/\
 (∀cd cc x w1 cl x1 s i k v r,Im (Zlb cd cc x w1 cl x1 s i k v=some r) (if v<4 then ∃v1,Zho v=some (.t (.str v1),[])/\qG w1 i (λe2=>0<=k/\0<=(w (k+1))/\k.toNat<=(w (k+1)).toNat/\(w (k+1)).toNat<=e2.size/\if v1=(e2.extract k.toNat ((w (k+1)).toNat))then x1.length+1<=68719476736/\Zlb cd (if cc<(w (v+1))then(w (v+1))else cc) x w1 cl (x1++[v]) s i k (w (v+1))=some r else Zlb cd cc x w1 cl x1 s i k (w (v+1))=some r)else Zni cd cc x w1 cl x1 s i (w (k+1))=some r)))/\
 ((∀cd cc x w1 cl x1 s i k r,Im (Zni cd cc x w1 cl x1 s i k=some r) (qG w1 i (λe1=>if k<(w ((e1.size:Int)-1))then Zlb cd cc x w1 cl x1 s i k 0=some r else x.length+1<=68719476736/\Zgt cd cc (x++[(⟨cl,x1⟩:Atom)]) w1 s (w (i+1))=some r)))/\
 (∀a r,Im (Zk9 a=some r) (qO 9 1 sc (Zqw a 32) (λv1=>Zvz 0 0 v1 a 0=some r)))))):=by
 and_intros
 all_goals(intros;unfold Im;(try simp only[Znc,Zvy,Zvz,Znf,Zq3,Zgt,Zla,Zng,Znh,Zq5,Zlb,Zni,Zk9,Zep,Znb,Zc.c_def,Zk8,Zbbw,Zho,Zqw,Zq2,Zq4,mpl,dfs,qs]);(try simp only[itb]);(try simp only[itf,gS,kk]))
 all_goals(repeat' first|refine exI λ_=>?_|refine anJ λ_ _=>?_|refine anI λ_=>?_|refine orE2 ?_ ?_|exact False.elim)
 all_goals(intro h;first|rw[Zl Z1b.eq_1]|refine run Zbqz rfl ?_|rw[Zl Zf2.eq_1]|rw[Zl Zhp.eq_1]|rw[Zhn Zez.eq_1]|rw[Zl Znd.eq_1]|refine run Zbq4 rfl ?_)
 all_goals (refine Yb ?_ h;clear h;simp +decide[*,kk,tI,tII,Zbbu,Z1c,Zbbv,Zhr,Zhq,Zbb1,Zne,Zbb2])
abbrev Zto:=uq Zes.1.1.1
abbrev Zbv4:=uq Zes.1.1.2.1
abbrev Zyf:=uq Zes.1.1.2.2
abbrev Zbh4:=uq Zes.1.2.1.1
abbrev Zbv5:=uq Zes.1.2.1.2
abbrev Z50:=uq Zes.1.2.2.1
abbrev Ztp:=uq Zes.1.2.2.2
abbrev Z51:=uq Zes.2.1.1.1
abbrev Zbh5:=uq Zes.2.1.1.2
abbrev Z52:=uq Zes.2.1.2.1
abbrev Zbh6:=uq Zes.2.1.2.2
abbrev Z53:=uq Zes.2.2.1.1
abbrev Z54:=uq Zes.2.2.1.2
abbrev Zbh7:=uq Zes.2.2.2.1
abbrev Zbv6:=uq Zes.2.2.2.2
theorem litG2{α β:Type}(f:α->β){l:List α}{i:Nat}{e:α}(g:i<l.length)(q:l[i]=e):∃g2:i<(l.map f).length,(l.map f)[i]=f e:=⟨by simpa using g,by simp[q]⟩
theorem Zbh8{c:Zg}{cl cd:Int}{x:List Atom}{cc n:Int}{r:AV×List Blk}(h:(if 0<n then(∃(v:Zg) (v1:Int),Z2 c 5=some (I v1,[.box (v.c.map .t)])/\(0<=v1/\(∃(e2:ByteArray),([(⟨#[114]⟩:ByteArray),(⟨#[115]⟩:ByteArray),(⟨#[116]⟩:ByteArray),(⟨#[117]⟩:ByteArray),(⟨#[118]⟩:ByteArray)])[v1.toNat]?=some e2/\(∃(e3:Int),([2,2,2,3,1])[v1.toNat]?=some e3/\(∃(v2:Zg) (v3:Int),Z2 v 4=some (I v3,[.box (v2.c.map .t)])/\(Zq7 v2 cl cd x cc e2 n e3 v3 0=some r))))))else(∃(v4:Bool),Zk8 cc=some (Bo v4,[])/\(if v4=true then(some (.agg [I cc,L 2 (([]:List Atom).map Atom.c)],[.box (c.c.map .t)])=some r)else(some (.agg [I cd,L 2 (x.map Atom.c)],[.box (c.c.map .t)])=some r))))):Zq6 c cl cd x cc n=some r:=by
 unfold Zq6;rw[Zl Zic.eq_1];simp only[Z2,Zk8,Zg.c_def,mpl,dfs]at h
 try simp only[itb]at h
 try simp only[itf,gS,kk]at h
 rcases h with⟨q1,v,v1,q2,q3,e2,⟨g4,q4⟩,e3,⟨g5,q5⟩,v2,v3,q6,h⟩|⟨q1,v4,q7,(⟨q8,h⟩|⟨q8,h⟩)⟩
 all_goals try (have z_q4:=litG2 sc g4 q4;simp only[Y2,Yb9,dfs]at z_q4;obtain⟨x_q4,z_q4⟩:=z_q4;have y_q4:v1<5:=by(have y:=g4;simp at y;omega))
 all_goals try (have z_q5:=litG2 ic g5 q5;simp only[Y2,Yb9,dfs]at z_q5;obtain⟨x_q5,z_q5⟩:=z_q5;have y_q5:v1<5:=by(have y:=g5;simp at y;omega))
 all_goals (refine Yb ?_ h;clear h;simp +decide[*,kk,tI,tII,Zq7,Zid])
theorem Zdi:((((∀c cl cd x cc co n m v i r,Im (Zq7 c cl cd x cc co n m v i=some r) (if i<m then Zq8 c cl cd x (if cc<(w (v+1))then(w (v+1))else cc) co ([v]) n m (Int.tmod (w (v+1)) 4) (w (i+1))=some r else Zf3 c cl cd x cc ([(⟨co,[]⟩:Atom)]) (w (n-1))=some r))/\
 (∀c cl cd x cc co x1 n m v i r,Im (Zq8 c cl cd x cc co x1 n m v i=some r) (if i<m then x1.length+1<=68719476736/\Zq8 c cl cd x (if cc<(w (v+1))then(w (v+1))else cc) co (x1++[v]) n m (Int.tmod (w (v+1)) 4) (w (i+1))=some r else Zf3 c cl cd x cc ([(⟨co,x1⟩:Atom)]) (w (n-1))=some r)))/\
 ((∀c cl cd x cc x1 co n m v i r,Im (Zq9 c cl cd x cc x1 co n m v i=some r) (if i<m then Zra c cl cd x (if cc<(w (v+1))then(w (v+1))else cc) x1 co ([v]) n m (Int.tmod (w (v+1)) 4) (w (i+1))=some r else x1.length+1<=68719476736/\Zf3 c cl cd x cc (x1++[(⟨co,[]⟩:Atom)]) (w (n-1))=some r))/\
 (∀c cl cd x cc x1 co x2 n m v i r,Im (Zra c cl cd x cc x1 co x2 n m v i=some r) (if i<m then x2.length+1<=68719476736/\Zra c cl cd x (if cc<(w (v+1))then(w (v+1))else cc) x1 co (x2++[v]) n m (Int.tmod (w (v+1)) 4) (w (i+1))=some r else x1.length+1<=68719476736/\Zf3 c cl cd x cc (x1++[(⟨co,x2⟩:Atom)]) (w (n-1))=some r))))/\
 (((∀x r,Im (Zv0 x=some r) (∃(v1:Zg),∃(v2:List ByteArray),∃v3,Zqv x ([(⟨#[114,40,88,89,41]⟩:ByteArray),(⟨#[114,40,88,89,41,32,115,40,89,90,41]⟩:ByteArray),(⟨#[114,40,88,89,41,32,115,40,89,90,41,32,116,40,90,85,41]⟩:ByteArray),(⟨#[114,40,88,89,41,32,115,40,89,90,41,32,116,40,90,88,41]⟩:ByteArray),(⟨#[114,40,88,89,41,32,115,40,88,90,41,32,116,40,88,85,41]⟩:ByteArray),(⟨#[114,40,88,89,41,32,115,40,89,90,41,32,118,40,89,41]⟩:ByteArray),(⟨#[117,40,88,89,90,41,32,115,40,90,85,41]⟩:ByteArray),(⟨#[117,40,88,89,90,41,32,114,40,88,89,41,32,118,40,90,41]⟩:ByteArray),(⟨#[114,40,88,89,41,32,115,40,89,90,41,32,116,40,90,85,41,32,118,40,88,41]⟩:ByteArray),(⟨#[114,40,88,89,41,32,114,40,89,90,41]⟩:ByteArray),(⟨#[114,40,88,89,41,32,115,40,89,88,41]⟩:ByteArray),(⟨#[118,40,88,41,32,114,40,88,89,41,32,115,40,89,90,41,32,116,40,90,85,41]⟩:ByteArray),(⟨#[114,40,88,89,41,32,115,40,89,90,41,32,116,40,90,85,41,32,115,40,85,88,41]⟩:ByteArray)])=some (.t (.str v3),[.box (v1.c.map .t),.arr 9 1 true (v2.map sc)])/\∃(v4:List Atom),∃v5,∃v6,Zk9 v3=some (.tup [.agg [I v5,.own 0],Bo v6],[.arr 213 2 true (v4.map Atom.c)])/\∃(v7:Zg),∃v8,Zc0 v1 4=some (Bo v8,[.box (v7.c.map .t)])/\if v8=true then ∃(v9:Zg),∃v10,Z2 v7 4=some (I v10,[.box (v9.c.map .t)])/\Zq6 v9 0 v5 v4 0 (w (1+v10))=some r else some (.agg [I v5,L 2 (v4.map Atom.c)],[.box (v7.c.map .t)])=some r))/\
 (∀x a r,Im (Zv1 x a=some r) (∃(v1:Zg),∃v2,Z2 x (a.length:Int)=some (I v2,[.box (v1.c.map .t)])/\qG a v2 (λe2=>some (.t (.str e2),[.box (v1.c.map .t)])=some r))))/\
 ((∀x r,Im (Zv2 x=some r) (∃(v1:Zg) (v2:Zc),Zv0 x=some (.agg (v2.c.map .t),[.box (v1.c.map .t)])/\if 3<(v2.Atoms.length:Int)then ∃(v4:Zg),∃v5,Zc0 v1 8=some (Bo v5,[.box (v4.c.map .t)])/\if v5=true then some (.agg (v2.c.map .t),[.box (v4.c.map .t)])=some r else ∃(v7:Zg),∃v8,Zv1 v4 ([(⟨#[114,40,88,89,41,32,115,40,89,90,41]⟩:ByteArray),(⟨#[114,40,88,89,41,32,115,40,89,90,41,32,116,40,90,88,41]⟩:ByteArray),(⟨#[114,40,88,89,41,32,115,40,89,90,41,32,118,40,89,41]⟩:ByteArray),(⟨#[114,40,88,89,41,32,114,40,89,90,41]⟩:ByteArray)])=some (.t (.str v8),[.box (v7.c.map .t)])/\∃(v9:List Atom),∃v10,∃v11,Zk9 v8=some (.tup [.agg [I v10,.own 0],Bo v11],[.arr 213 2 true (v9.map Atom.c)])/\some (.agg [I v10,L 2 (v9.map Atom.c)],[.box (v7.c.map .t)])=some r else some (.agg (v2.c.map .t),[.box (v1.c.map .t)])=some r))/\
 ((∀a r,Im (Zdw a=some r) (qB (Zep a) (¬(a.Atoms.length:Int)<0/\qi (w ((shlI 1 (a.Atoms.length:Int))-1)) r) (qi 0 r)))/\
 (∀a a1 r,Im (Znm a a1=some r) (qB (Zep a) (¬(a.Atoms.length:Int)<0/\qV (Zbk a1 0 (w ((shlI 1 (a.Atoms.length:Int))-1))) (λv4=>qb v4 r)) (qb false r)))))))/\
 ((((∀q cn x i r,Im (Zlc q cn x i=some r) (if i<(q.Atoms.length:Int)then Znn q cn x i 0=some r else qi x r))/\
 (∀q cn x i k r,Im (Znn q cn x i k=some r) (qG q.Atoms i (λe1=>if k<(e1.Vars.length:Int)then ¬i<0/\if(andI (shrI cn i) 1)=1 then qG e1.Vars k (λe2=>¬e2<0/\Znn q cn (orI x (shlI 1 e2)) i (w (k+1))=some r)else Zlc q cn x (w (i+1))=some r else Zlc q cn x (w (i+1))=some r))))/\
 ((∀a a1 r,Im (Zeq a a1=some r) (Zlc a a1 0 0=some r))/\
 (∀q cn cu cp i r,Im (Zld q cn cu cp i=some r) (if i<(q.Atoms.length:Int)then ¬i<0/\if(andI (shrI cn i) 1)=0 then qI (Zeq q (shlI 1 i)) (λv1=>if(andI v1 cp)=0 then Zld q cn cu cp (w (i+1))=some r else Zld q cn (orI cu (shlI 1 i)) cp (w (i+1))=some r)else Zld q cn cu cp (w (i+1))=some r else qi cu r))))/\
 (((∀a a1 r,Im (Zv5 a a1=some r) (qI (Zeq a a1) (λv1=>Zld a a1 0 v1 0=some r)))/\
 (∀q cn x n r,Im (Zrb q cn x n=some r) (if n<(q.Atoms.length:Int)then qI (Zv5 q x) (λv1=>Zrb q cn (orI x (andI v1 cn)) (w (n+1))=some r)else qb (decide (x=cn)) r)))/\
 ((∀a a1 r,Im (Zjn a a1=some r) (Zrb a a1 (andI a1 (w (0-a1))) 0=some r))/\
 ((∀a a1 r,Im (Zgu a a1=some r) (qB (Znm a a1) (if 0<a1 then qV (Zjn a a1) (λv4=>qb v4 r)else qb false r) (qb false r)))/\
 (∀x r,Im (Zie x=some r) (∃(v1:Zg) (v2:Zc),Zv2 x=some (.agg (v2.c.map .t),[.box (v1.c.map .t)])/\qI (Zdw v2) (λv4=>qB (Zgu v2 v4) (some (.agg (v2.c.map .t),[.box (v1.c.map .t)])=some r) (∃(v9:List Atom),∃v10,∃v11,Zk9 (⟨#[114,40,88,89,41,32,115,40,89,90,41]⟩:ByteArray)=some (.tup [.agg [I v10,.own 0],Bo v11],[.arr 213 2 true (v9.map Atom.c)])/\some (.agg [I v10,L 2 (v9.map Atom.c)],[.box (v1.c.map .t)])=some r)))))))):=by
 and_intros
 all_goals(intros;unfold Im;(try simp only[Zq7,Zq8,Zq9,Zra,Zv0,Zv1,Zv2,Zdw,Znm,Zlc,Znn,Zeq,Zld,Zv5,Zrb,Zjn,Zgu,Zie,Zqv,Zk9,Zc0,Z2,Zg.c_def,Zc.c_def,Zep,Zbk,Zf3,Zq6,mpl,dfs,qs]);(try simp only[itb]);(try simp only[itf,gS,kk]))
 all_goals(repeat' first|refine exI λ_=>?_|refine anJ λ_ _=>?_|refine anI λ_=>?_|refine orE2 ?_ ?_|exact False.elim)
 all_goals(intro h;first|rw[Zl Znj.eq_1]|refine runM Zbq5 rfl ?_|refine runM Zbhp rfl ?_|refine runM Zbq6 rfl ?_|refine run Zbq7 rfl ?_|refine run Zbq8 rfl ?_|rw[Zl Zv3.eq_1]|rw[Zl Z1h.eq_1]|refine run Zbq9 rfl ?_|rw[Zl Z1j.eq_1]|refine run Zbra rfl ?_|rw[Zl Z1l.eq_1]|refine run Zbrb rfl ?_|refine run Zbrc rfl ?_|refine runM Zbrd rfl ?_)
 all_goals (refine Yb ?_ h;clear h;simp +decide[*,kk,tI,tII,Znl,Znk,Zbb3,Z05,Zbb5,Zbb4,Zbb6,Zbb7,Zv4,Z1i,Zbb8,Zbb9,Z1k,Zbca,Z1m,Zbcb,Zbcc,Zbce,Zbcd])
abbrev Zbh9:=uq Zdi.1.1.1.1
abbrev Zbia:=uq Zdi.1.1.1.2
abbrev Zbib:=uq Zdi.1.1.2.1
abbrev Zbic:=uq Zdi.1.1.2.2
abbrev Zbid:=uq Zdi.1.2.1.1
abbrev Zbv7:=uq Zdi.1.2.1.2
abbrev Z55:=uq Zdi.1.2.2.1
abbrev Zbv8:=uq Zdi.1.2.2.2.1
abbrev Zbv9:=uq Zdi.1.2.2.2.2
abbrev Zbie:=uq Zdi.2.1.1.1
abbrev Z56:=uq Zdi.2.1.1.2
abbrev Zbwa:=uq Zdi.2.1.2.1
abbrev Zbif:=uq Zdi.2.1.2.2
abbrev Zbwb:=uq Zdi.2.2.1.1
abbrev Zbig:=uq Zdi.2.2.1.2
abbrev Zbwc:=uq Zdi.2.2.2.1
abbrev Zbwd:=uq Zdi.2.2.2.2.1
abbrev Zbih:=uq Zdi.2.2.2.2.2
theorem Z57{c:Zg}{cl cd:Int}{x:List Atom}{cc:Int}{x1:List Atom}{n:Int}{r:AV×List Blk}(h:(if 0<n then(∃(v:Zg) (v1:Int),Z2 c 5=some (I v1,[.box (v.c.map .t)])/\(0<=v1/\(∃(e2:ByteArray),([(⟨#[114]⟩:ByteArray),(⟨#[115]⟩:ByteArray),(⟨#[116]⟩:ByteArray),(⟨#[117]⟩:ByteArray),(⟨#[118]⟩:ByteArray)])[v1.toNat]?=some e2/\(∃(e3:Int),([2,2,2,3,1])[v1.toNat]?=some e3/\(∃(v2:Zg) (v3:Int),Z2 v 4=some (I v3,[.box (v2.c.map .t)])/\(Zq9 v2 cl cd x cc x1 e2 n e3 v3 0=some r))))))else(∃(v4:Bool),Zep (⟨cc,x1⟩:Zc)=some (Bo v4,[])/\(if v4=true then(some (.agg [I cc,L 2 (x1.map Atom.c)],[.box (c.c.map .t)])=some r)else(some (.agg [I cd,L 2 (x.map Atom.c)],[.box (c.c.map .t)])=some r))))):Zf3 c cl cd x cc x1 n=some r:=by
 unfold Zf3;rw[Zl Zic.eq_1];simp only[Z2,Zep,Zg.c_def,Zc.c_def,mpl,dfs]at h
 try simp only[itb]at h
 try simp only[itf,gS,kk]at h
 rcases h with⟨q1,v,v1,q2,q3,e2,⟨g4,q4⟩,e3,⟨g5,q5⟩,v2,v3,q6,h⟩|⟨q1,v4,q7,(⟨q8,h⟩|⟨q8,h⟩)⟩
 all_goals try (have z_q4:=litG2 sc g4 q4;simp only[Y2,Yb9,dfs]at z_q4;obtain⟨x_q4,z_q4⟩:=z_q4;have y_q4:v1<5:=by(have y:=g4;simp at y;omega))
 all_goals try (have z_q5:=litG2 ic g5 q5;simp only[Y2,Yb9,dfs]at z_q5;obtain⟨x_q5,z_q5⟩:=z_q5;have y_q5:v1<5:=by(have y:=g5;simp at y;omega))
 all_goals (refine Yb ?_ h;clear h;simp +decide[*,kk,tI,tII,Zq9,Zid])
end Go.Proofs.YtcfaekfjkeobhaaGreat
