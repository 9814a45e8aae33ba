/-
  Parts of the proofs for this seat: G1 G2 G3.
-/
import Derived.Test.YtcfaekfjkeobhaaGreatP9
set_option linter.unusedSectionVars false
set_option linter.unusedSimpArgs false
set_option linter.unusedVariables false
set_option maxRecDepth 100000
set_option maxHeartbeats 4000000
namespace Go.Proofs.YtcfaekfjkeobhaaGreat
open Go.AM
theorem Zdb:((((∀cd h1 i r,Im (Zpk cd h1 i=some r) (if i<(cd.length:Int)then if i<4000 then qG cd i (λe1=>Zpk cd (andI (w ((w ((w (h1*131))+(w e1)))+7)) 1073741823) (w (i+1))=some r)else some (.ptr 0 0,[.box [L 1 (cd.map (kc .u8)),I 0,I h1]])=some r else some (.ptr 0 0,[.box [L 1 (cd.map (kc .u8)),I 0,I h1]])=some r))/\
 (∀a r,Im (Zkh a=some r) (Zpk a (w (10101+(a.length:Int))) 0=some r)))/\
 ((∀x r,Im (Ziv x=some r) (if x.i<(x.b.length:Int)then qG x.b x.i (λe1=>some (I (andI (w ((andI (xorI (shrI (w ((w (x.h*6364136223846793005))+1442695040888963407)) 33) (shrI (w ((w (x.h*6364136223846793005))+1442695040888963407)) 45)) 255)+(w e1))) 255),[.box [L 1 (x.b.map (kc .u8)),I (w (x.i+1)),I (w ((w (x.h*6364136223846793005))+1442695040888963407))]])=some r)else some (I (andI (xorI (shrI (w ((w (x.h*6364136223846793005))+1442695040888963407)) 33) (shrI (w ((w (x.h*6364136223846793005))+1442695040888963407)) 45)) 255),[.box [L 1 (x.b.map (kc .u8)),I x.i,I (w ((w (x.h*6364136223846793005))+1442695040888963407))]])=some r))/\
 (∀x a r,Im (Zbg x a=some r) (if a<=0 then some (I 0,[.box (x.c.map .t)])=some r else if a<=256 then ∃(v:Zh),∃v1,Ziv x=some (I v1,[.box (v.c.map .t)])/\¬a=0/\some (I (Int.tmod v1 a),[.box (v.c.map .t)])=some r else ∃(v2:Zh),∃v3,Ziv x=some (I v3,[.box (v2.c.map .t)])/\∃(v32:Zh),∃v33,Ziv v2=some (I v33,[.box (v32.c.map .t)])/\∃(v39:Zh),∃v40,Ziv v32=some (I v40,[.box (v39.c.map .t)])/\∃(v46:Zh),∃v47,Ziv v39=some (I v47,[.box (v46.c.map .t)])/\¬a=0/\some (I (Int.tmod (w ((w ((w ((w (v3*16777216))+(w (v33*65536))))+(w (v40*256))))+v47)) a),[.box (v46.c.map .t)])=some r))))/\
 (((∀x a r,Im (Zc2 x a=some r) (∃(v:Zh),∃v1,Zbg x a=some (I v1,[.box (v.c.map .t)])/\some (Bo (decide (v1=0)),[.box (v.c.map .t)])=some r))/\
 (∀r,Im (Zyh=some r) (some (.agg [I 1,I 1,I 0,I 0,I 0,.own 0,I 2,I 3,I 0,I 0,I 0,.own 1,I 4,I 2,I 1,I 1,I 0,.own 2,I 1,I 1,I 1,I 1,I 0,.own 3,I 1,I 0,I 0,I 1,I 1,.own 4],[.arr 259 2 true (([]:List Zi).map Zi.c),.arr 259 2 true (([(⟨17,20⟩:Zi)]).map Zi.c),.arr 259 2 true (([]:List Zi).map Zi.c),.arr 259 2 true (([]:List Zi).map Zi.c),.arr 259 2 true (([]:List Zi).map Zi.c)])=some r)))/\
 ((∀x x1 r,Im (Zdw x x1=some r) (∃(v:Zh),∃v1,Zbg x (x1.length:Int)=some (I v1,[.box (v.c.map .t)])/\qG x1 v1 (λe2=>some (I e2,[.box (v.c.map .t),.arr 3 1 true (x1.map ic)])=some r)))/\
 ((∀x r,Im (Ziw x=some r) (∃(v:Zh),∃v1,Zbg x 5=some (I v1,[.box (v.c.map .t)])/\∃(v2:Zh),∃v3,Zbg v 4=some (I v3,[.box (v2.c.map .t)])/\∃(v32:Zh),∃v33,Zbg v2 4=some (I v33,[.box (v32.c.map .t)])/\∃(v39:Zh),∃v40,Zbg v32 3=some (I v40,[.box (v39.c.map .t)])/\∃(v46:Zh),∃v47,Zc2 v39 3=some (Bo v47,[.box (v46.c.map .t)])/\if v47=true then ∃(v53:Zh),∃v54,Zbg v46 3=some (I v54,[.box (v53.c.map .t)])/\∃(v60:Zh),∃v61,Zc2 v53 3=some (Bo v61,[.box (v60.c.map .t)])/\if v61=true then ∃(v67:Zh),∃(v68:List Int),∃v69,Zdw v60 ([1,5,17,32])=some (I v69,[.box (v67.c.map .t),.arr 3 1 true (v68.map ic)])/\∃(v70:Zh),∃v71,Zbg v67 20=some (I v71,[.box (v70.c.map .t)])/\some (.agg [I (w (1+v1)),I v3,I v33,I v40,I v54,.own 1],[.box (v70.c.map .t),.arr 259 2 true (([(⟨v69,v71⟩:Zi)]).map Zi.c)])=some r else some (.agg [I (w (1+v1)),I v3,I v33,I v40,I v54,.own 1],[.box (v60.c.map .t),.arr 259 2 true (([]:List Zi).map Zi.c)])=some r else ∃(v72:Zh),∃v73,Zc2 v46 3=some (Bo v73,[.box (v72.c.map .t)])/\if v73=true then ∃(v74:Zh),∃(v75:List Int),∃v76,Zdw v72 ([1,5,17,32])=some (I v76,[.box (v74.c.map .t),.arr 3 1 true (v75.map ic)])/\∃(v77:Zh),∃v78,Zbg v74 20=some (I v78,[.box (v77.c.map .t)])/\some (.agg [I (w (1+v1)),I v3,I v33,I v40,I 0,.own 1],[.box (v77.c.map .t),.arr 259 2 true (([(⟨v76,v78⟩:Zi)]).map Zi.c)])=some r else some (.agg [I (w (1+v1)),I v3,I v33,I v40,I 0,.own 1],[.box (v72.c.map .t),.arr 259 2 true (([]:List Zi).map Zi.c)])=some r))/\
 (∀x r,Im (Zpl x=some r) (∃(v:Zh),∃v1,Zc2 x 3=some (Bo v1,[.box (v.c.map .t)])/\if v1=true then ∃(v2:List Zi),∃(v3:List Zi),∃(v4:List Zi),∃(v5:List Zi),∃(v6:List Zi),∃v7,∃v8,∃v9,∃v10,∃v11,∃v12,∃v13,∃v14,∃v15,∃v16,∃v17,∃v18,∃v19,∃v20,∃v21,∃v22,∃v23,∃v24,∃v25,∃v26,∃v27,∃v28,∃v29,∃v30,∃v31,Zyh=some (.agg [I v7,I v8,I v9,I v10,I v11,.own 0,I v12,I v13,I v14,I v15,I v16,.own 1,I v17,I v18,I v19,I v20,I v21,.own 2,I v22,I v23,I v24,I v25,I v26,.own 3,I v27,I v28,I v29,I v30,I v31,.own 4],[.arr 259 2 true (v2.map Zi.c),.arr 259 2 true (v3.map Zi.c),.arr 259 2 true (v4.map Zi.c),.arr 259 2 true (v5.map Zi.c),.arr 259 2 true (v6.map Zi.c)])/\some (.agg [I v7,I v8,I v9,I v10,I v11,L 2 (v2.map Zi.c),I v12,I v13,I v14,I v15,I v16,L 2 (v3.map Zi.c),I v17,I v18,I v19,I v20,I v21,L 2 (v4.map Zi.c),I v22,I v23,I v24,I v25,I v26,L 2 (v5.map Zi.c),I v27,I v28,I v29,I v30,I v31,L 2 (v6.map Zi.c)],[.box (v.c.map .t)])=some r else ∃(v32:Zh),∃(v33:List Zi),∃v34,∃v35,∃v36,∃v37,∃v38,Ziw v=some (.agg [I v34,I v35,I v36,I v37,I v38,.own 1],[.box (v32.c.map .t),.arr 259 2 true (v33.map Zi.c)])/\∃(v39:Zh),∃(v40:List Zi),∃v41,∃v42,∃v43,∃v44,∃v45,Ziw v32=some (.agg [I v41,I v42,I v43,I v44,I v45,.own 1],[.box (v39.c.map .t),.arr 259 2 true (v40.map Zi.c)])/\∃(v46:Zh),∃(v47:List Zi),∃v48,∃v49,∃v50,∃v51,∃v52,Ziw v39=some (.agg [I v48,I v49,I v50,I v51,I v52,.own 1],[.box (v46.c.map .t),.arr 259 2 true (v47.map Zi.c)])/\∃(v53:Zh),∃(v54:List Zi),∃v55,∃v56,∃v57,∃v58,∃v59,Ziw v46=some (.agg [I v55,I v56,I v57,I v58,I v59,.own 1],[.box (v53.c.map .t),.arr 259 2 true (v54.map Zi.c)])/\∃(v60:Zh),∃(v61:List Zi),∃v62,∃v63,∃v64,∃v65,∃v66,Ziw v53=some (.agg [I v62,I v63,I v64,I v65,I v66,.own 1],[.box (v60.c.map .t),.arr 259 2 true (v61.map Zi.c)])/\some (.agg [I v34,I v35,I v36,I v37,I v38,L 2 (v33.map Zi.c),I v41,I v42,I v43,I v44,I v45,L 2 (v40.map Zi.c),I v48,I v49,I v50,I v51,I v52,L 2 (v47.map Zi.c),I v55,I v56,I v57,I v58,I v59,L 2 (v54.map Zi.c),I v62,I v63,I v64,I v65,I v66,L 2 (v61.map Zi.c)],[.box (v60.c.map .t)])=some r))))))/\
 ((((∀x x1 r,Im (Zpm x x1=some r) (∃(v:Zh),∃v1,Zbg x (x1.length:Int)=some (I v1,[.box (v.c.map .t)])/\qG x1 v1 (λe2=>some (.t (.str e2),[.box (v.c.map .t),.arr 9 1 true (x1.map sc)])=some r)))/\
 (∀cl s cn x i r,Im (Zme cl s cn x i=some r) (if i<(s.size:Int)then 0<=i/\∃b1,s[i.toNat]?=some b1/\if(b1.toNat:Int)=cn then 0<=x/\x.toNat<=i.toNat/\i.toNat<=s.size/\cl.length+1<=68719476736/\Zme (cl++[(s.extract x.toNat i.toNat)]) s cn (w (i+1)) (w (i+1))=some r else Zme cl s cn x (w (i+1))=some r else 0<=x/\x.toNat<=s.size/\cl.length+1<=68719476736/\some (.own 0,[.arr 9 1 true ((cl++[(s.extract x.toNat s.size)]).map sc)])=some r)))/\
 ((∀a a1 r,Im (Zpn a a1=some r) (Zme ([]:List ByteArray) a a1 0 0=some r))/\
 (∀a a1 a2 r,Im (Zbv a a1 a2=some r) (if a1<=a then qb (decide (a<=a2)) r else qb false r))))/\
 (((∀cc r,Im (Zki cc=some r) (qB (Zbv cc 1 4) (qB (Zbv 0 1 4) (Z8b cc 0 0=some r) (qb false r)) (qb false r)))/\
 (∀a r,Im (Zg0 a=some r) (qB (Zbv a 0 3) (0<=a/\0<=(w (a+1))/\a.toNat<=(w (a+1)).toNat/\(w (a+1)).toNat<=(⟨#[88,89,90,85]⟩:ByteArray).size/\some (.t (.str ((⟨#[88,89,90,85]⟩:ByteArray).extract a.toNat ((w (a+1)).toNat))),[])=some r) (some (.t (.str (⟨#[]⟩:ByteArray)),[])=some r))))/\
 ((∀a r,Im (Zpq a=some r) (if(a.size:Int)=1 then ∃b1,a[0]?=some b1/\if 97<=(b1.toNat:Int)then qb (decide ((b1.toNat:Int)<=122)) r else qb false r else qb false r))/\
 ((∀l x i r,Im (Zpr l x i=some r) (if i<(l.length:Int)then qG l i (λe1=>if e1=x then qb true r else Zpr l x (w (i+1))=some r)else qb false r))/\
 (∀a a1 r,Im (Zkj a a1=some r) (Zpr a a1 0=some r)))))):=by
 and_intros
 all_goals(intros;unfold Im;(try simp only[Zpk,Zkh,Ziv,Zbg,Zc2,Zyh,Zdw,Ziw,Zpl,Zpm,Zme,Zpn,Zbv,Zki,Zg0,Zpq,Zpr,Zkj,Zh.c_def,bgS,Z8b,mpl,dfs,qs]);(try simp only[itb]);(try simp only[itf,gS,kk]))
 all_goals(repeat' first|refine exI λ_=>?_|refine anJ λ_ _=>?_|refine anI λ_=>?_|refine orE2 ?_ ?_|exact False.elim)
 all_goals(intro h;first|rw[Zl Zyf.eq_1]|refine run Zbly rfl ?_|refine runM Zblz rfl ?_|refine runM Zbl0 rfl ?_|refine runM Zbl1 rfl ?_|refine run Zbl2 rfl ?_|refine runM Zbdf rfl ?_|refine runM Zbl3 rfl ?_|refine runM Zbl4 rfl ?_|refine runM Zbdg rfl ?_|rw[Zl Zyk.eq_1]|refine run Zbl5 rfl ?_|refine run Zbl6 rfl ?_|refine run Zbdh rfl ?_|refine run Zbl8 rfl ?_|refine run Zbl9 rfl ?_|rw[Zl Zyr.eq_1]|refine run Zbma rfl ?_)
 all_goals (refine Ya ?_ h;clear h;simp +decide[*,kk,tI,tII,Zyg,Z7y,Z70,Z7z,Z71,Z72,Z73,Zyi,Z76,Z74,Z75,Z77,Zyj,Z78,Zyl,Z79,Z8a,Zyo,Z8f,Z8g,Zys,Z8h])
abbrev Z2n:=uq Zdb.1.1.1.1
abbrev Zbp9:=uq Zdb.1.1.1.2
abbrev Zbdk:=uq Zdb.1.1.2.1
abbrev Z2o:=uq Zdb.1.1.2.2
abbrev Zbqa:=uq Zdb.1.2.1.1
abbrev Zbqb:=uq Zdb.1.2.1.2
abbrev Zbqc:=uq Zdb.1.2.2.1
abbrev Zvx:=uq Zdb.1.2.2.2.1
abbrev Zbdl:=uq Zdb.1.2.2.2.2
abbrev Zbqd:=uq Zdb.2.1.1.1
abbrev Z2p:=uq Zdb.2.1.1.2
abbrev Zbqe:=uq Zdb.2.1.2.1
abbrev Zbqf:=uq Zdb.2.1.2.2
abbrev Zbqg:=uq Zdb.2.2.1.1
abbrev Zbdm:=uq Zdb.2.2.1.2
abbrev Zbqh:=uq Zdb.2.2.2.1
abbrev Zbdn:=uq Zdb.2.2.2.2.1
abbrev Zbqi:=uq Zdb.2.2.2.2.2
theorem Zr6:((∀q c i r,Im (Zmf q c i=some r) (if i<(q.Atoms.length:Int)then qG q.Atoms i (λe1=>qB (Zpq e1.Name) (qB (Zbv (e1.Vars.length:Int) 1 3) (Zps q e1 c i 0=some r) (qb false r)) (qb false r))else ¬q.Ze<0/\qb (decide (c=(w ((shlI 1 q.Ze)-1)))) r))/\
 (∀q a c i k r,Im (Zps q a c i k=some r) (if k<(a.Vars.length:Int)then qG a.Vars k (λe1=>qB (Zbv e1 0 (w (q.Ze-1))) (k.toNat<=a.Vars.length/\qB (Zkj (a.Vars.take k.toNat) e1) (qb false r) (¬e1<0/\Zps q a (orI c (shlI 1 e1)) i (w (k+1))=some r)) (qb false r))else Zmf q c (w (i+1))=some r)))/\
 ((∀a r,Im (Zej a=some r) (qB (Zbv a.Ze 1 4) (qB (Zbv (a.Atoms.length:Int) 1 4) (Zmf a 0 0=some r) (qb false r)) (qb false r)))/\
 ((∀l s i r,Im (Zpt l s i=some r) (if i<(l.length:Int)then qG l i (λe1=>∃v,Zg0 e1=some (.t (.str v),[])/\s.size+v.size<=9223372036854775807/\Zpt l (s++v) (w (i+1))=some r)else some (.t (.str s),[])=some r))/\
 (∀a r,Im (Zmg a=some r) (Zpt a (⟨#[]⟩:ByteArray) 0=some r)))):=by
 and_intros
 all_goals(intros;unfold Im;(try simp only[Zmf,Zps,Zej,Zpt,Zmg,Zpq,Zbv,Zkj,Zg0,mpl,dfs,qs]);(try simp only[itb]);(try simp only[itf,gS,kk]))
 all_goals(repeat' first|refine exI λ_=>?_|refine anJ λ_ _=>?_|refine anI λ_=>?_|refine orE2 ?_ ?_|exact False.elim)
 all_goals(intro h;first|rw[Zl Zpo.eq_1]|rw[Zl Zym.eq_1]|refine run Zbdh rfl ?_|rw[Zl Zyt.eq_1]|refine run Zbmb rfl ?_)
 all_goals (refine Ya ?_ h;clear h;simp +decide[*,kk,tI,tII,Zpp,Zyn,Zyo,Zyu,Z8i])
abbrev Zbdo:=uq Zr6.1.1
abbrev Zbdp:=uq Zr6.1.2
abbrev Zbqj:=uq Zr6.2.1
abbrev Zbdq:=uq Zr6.2.2.1
abbrev Zbqk:=uq Zr6.2.2.2
theorem Zen:(((∀q s i r,Im (Zmh q s i=some r) (if i<(q.Atoms.length:Int)then qB (Zej q) (if 0<i then s.size+(⟨#[32]⟩:ByteArray).size<=9223372036854775807/\qG q.Atoms i (λe2=>s.size+(⟨#[32]⟩:ByteArray).size+e2.Name.size<=9223372036854775807/\s.size+(⟨#[32]⟩:ByteArray).size+e2.Name.size+(⟨#[40]⟩:ByteArray).size<=9223372036854775807/\∃v3,Zmg e2.Vars=some (.t (.str v3),[])/\s.size+(⟨#[32]⟩:ByteArray).size+e2.Name.size+(⟨#[40]⟩:ByteArray).size+v3.size<=9223372036854775807/\s.size+(⟨#[32]⟩:ByteArray).size+e2.Name.size+(⟨#[40]⟩:ByteArray).size+v3.size+(⟨#[41]⟩:ByteArray).size<=9223372036854775807/\Zmh q (((((s++(⟨#[32]⟩:ByteArray))++e2.Name)++(⟨#[40]⟩:ByteArray))++v3)++(⟨#[41]⟩:ByteArray)) (w (i+1))=some r)else qG q.Atoms i (λe4=>s.size+e4.Name.size<=9223372036854775807/\s.size+e4.Name.size+(⟨#[40]⟩:ByteArray).size<=9223372036854775807/\∃v4,Zmg e4.Vars=some (.t (.str v4),[])/\s.size+e4.Name.size+(⟨#[40]⟩:ByteArray).size+v4.size<=9223372036854775807/\s.size+e4.Name.size+(⟨#[40]⟩:ByteArray).size+v4.size+(⟨#[41]⟩:ByteArray).size<=9223372036854775807/\Zmh q ((((s++e4.Name)++(⟨#[40]⟩:ByteArray))++v4)++(⟨#[41]⟩:ByteArray)) (w (i+1))=some r)) (some (.t (.str s),[])=some r)else some (.t (.str s),[])=some r))/\
 ((∀a r,Im (Zt2 a=some r) (Zmh a (⟨#[]⟩:ByteArray) 0=some r))/\
 (∀cd cc w1 s i r,Im (Zt3 cd cc w1 s i=some r) (if i<(w1.length:Int)then if i<=4 then qG w1 i (λe1=>if(e1.size:Int)<4 then some (.tup [.agg [I 0,.own 0],Bo false],[.arr 213 2 true (([]:List Atom).map Atom.c)])=some r else if 6<(e1.size:Int)then some (.tup [.agg [I 0,.own 0],Bo false],[.arr 213 2 true (([]:List Atom).map Atom.c)])=some r else 0<=1/\1<=e1.size/\Zmk cd cc w1 (e1.extract 0 1) s i 2=some r)else Zpu cd cc w1 s i false=some r else Zpu cd cc w1 s i false=some r))))/\
 (((∀cd cc w1 cl s i k r,Im (Zmk cd cc w1 cl s i k=some r) (qG w1 i (λe1=>if k<(w ((e1.size:Int)-1))then Zpv cd cc w1 cl s i k 0=some r else Zgd cd cc ([(⟨cl,[]⟩:Atom)]) w1 s (w (i+1))=some r)))/\
 (∀cd cc w1 s i x r,Im (Zpu cd cc w1 s i x=some r) (qB (Zki cc) (∃v2,Z8e cc=some (.t (.str v2),[])/\if v2=s then some (.tup [.agg [I cc,.own 0],Bo true],[.arr 213 2 true (([]:List Atom).map Atom.c)])=some r else some (.tup [.agg [I 0,.own 0],Bo false],[.arr 213 2 true (([]:List Atom).map Atom.c)])=some r) (some (.tup [.agg [I 0,.own 0],Bo false],[.arr 213 2 true (([]:List Atom).map Atom.c)])=some r))))/\
 ((∀cd cc w1 cl s i k v r,Im (Zpv cd cc w1 cl s i k v=some r) (if v<4 then ∃v1,Zg0 v=some (.t (.str v1),[])/\qG w1 i (λe2=>0<=k/\0<=(w (k+1))/\k.toNat<=(w (k+1)).toNat/\(w (k+1)).toNat<=e2.size/\if v1=(e2.extract k.toNat ((w (k+1)).toNat))then Zkl cd (if cc<(w (v+1))then(w (v+1))else cc) w1 cl ([v]) s i k (w (v+1))=some r else Zpv cd cc w1 cl s i k (w (v+1))=some r)else Zmk cd cc w1 cl s i (w (k+1))=some r))/\
 (∀cd cc x w1 s i r,Im (Zgd cd cc x w1 s i=some r) (if i<(w1.length:Int)then if i<=4 then qG w1 i (λe1=>if(e1.size:Int)<4 then some (.tup [.agg [I 0,.own 0],Bo false],[.arr 213 2 true (([]:List Atom).map Atom.c)])=some r else if 6<(e1.size:Int)then some (.tup [.agg [I 0,.own 0],Bo false],[.arr 213 2 true (([]:List Atom).map Atom.c)])=some r else 0<=1/\1<=e1.size/\Zml cd cc x w1 (e1.extract 0 1) s i 2=some r)else Zpw cd cc x w1 s i false=some r else Zpw cd cc x w1 s i false=some r)))))/\
 ((((∀cd cc w1 cl x s i k v r,Im (Zkl cd cc w1 cl x s i k v=some r) (if v<4 then ∃v1,Zg0 v=some (.t (.str v1),[])/\qG w1 i (λe2=>0<=k/\0<=(w (k+1))/\k.toNat<=(w (k+1)).toNat/\(w (k+1)).toNat<=e2.size/\if v1=(e2.extract k.toNat ((w (k+1)).toNat))then x.length+1<=68719476736/\Zkl cd (if cc<(w (v+1))then(w (v+1))else cc) w1 cl (x++[v]) s i k (w (v+1))=some r else Zkl cd cc w1 cl x s i k (w (v+1))=some r)else Zmm cd cc w1 cl x s i (w (k+1))=some r))/\
 (∀cd cc x w1 cl s i k r,Im (Zml cd cc x w1 cl s i k=some r) (qG w1 i (λe1=>if k<(w ((e1.size:Int)-1))then Zpx cd cc x w1 cl s i k 0=some r else x.length+1<=68719476736/\Zgd cd cc (x++[(⟨cl,[]⟩:Atom)]) w1 s (w (i+1))=some r))))/\
 ((∀cd cc x w1 s i x1 r,Im (Zpw cd cc x w1 s i x1=some r) (qB (Zej (⟨cc,x⟩:Zc)) (∃v2,Zt2 (⟨cc,x⟩:Zc)=some (.t (.str v2),[])/\if v2=s then some (.tup [.agg [I cc,.own 0],Bo true],[.arr 213 2 true (x.map Atom.c)])=some r else some (.tup [.agg [I 0,.own 0],Bo false],[.arr 213 2 true (([]:List Atom).map Atom.c)])=some r) (some (.tup [.agg [I 0,.own 0],Bo false],[.arr 213 2 true (([]:List Atom).map Atom.c)])=some r)))/\
 (∀cd cc w1 cl x s i k r,Im (Zmm cd cc w1 cl x s i k=some r) (qG w1 i (λe1=>if k<(w ((e1.size:Int)-1))then Zkl cd cc w1 cl x s i k 0=some r else Zgd cd cc ([(⟨cl,x⟩:Atom)]) w1 s (w (i+1))=some r)))))/\
 (((∀cd cc x w1 cl s i k v r,Im (Zpx cd cc x w1 cl s i k v=some r) (if v<4 then ∃v1,Zg0 v=some (.t (.str v1),[])/\qG w1 i (λe2=>0<=k/\0<=(w (k+1))/\k.toNat<=(w (k+1)).toNat/\(w (k+1)).toNat<=e2.size/\if v1=(e2.extract k.toNat ((w (k+1)).toNat))then Zkm cd (if cc<(w (v+1))then(w (v+1))else cc) x w1 cl ([v]) s i k (w (v+1))=some r else Zpx cd cc x w1 cl s i k (w (v+1))=some r)else Zml cd cc x w1 cl s i (w (k+1))=some r))/\
 (∀cd cc x w1 cl x1 s i k v r,Im (Zkm cd cc x w1 cl x1 s i k v=some r) (if v<4 then ∃v1,Zg0 v=some (.t (.str v1),[])/\qG w1 i (λe2=>0<=k/\0<=(w (k+1))/\k.toNat<=(w (k+1)).toNat/\(w (k+1)).toNat<=e2.size/\if v1=(e2.extract k.toNat ((w (k+1)).toNat))then x1.length+1<=68719476736/\Zkm cd (if cc<(w (v+1))then(w (v+1))else cc) x w1 cl (x1++[v]) s i k (w (v+1))=some r else Zkm cd cc x w1 cl x1 s i k (w (v+1))=some r)else Zmn cd cc x w1 cl x1 s i (w (k+1))=some r)))/\
 ((∀cd cc x w1 cl x1 s i k r,Im (Zmn cd cc x w1 cl x1 s i k=some r) (qG w1 i (λe1=>if k<(w ((e1.size:Int)-1))then Zkm cd cc x w1 cl x1 s i k 0=some r else x.length+1<=68719476736/\Zgd cd cc (x++[(⟨cl,x1⟩:Atom)]) w1 s (w (i+1))=some r)))/\
 (∀a r,Im (Zkk a=some r) (qO 9 1 sc (Zpn a 32) (λv1=>Zt3 0 0 v1 a 0=some r)))))):=by
 and_intros
 all_goals(intros;unfold Im;(try simp only[Zmh,Zt2,Zt3,Zmk,Zpv,Zgd,Zkl,Zml,Zmm,Zpx,Zkm,Zmn,Zkk,Zej,Zmg,Zc.c_def,Zki,Z8e,Zg0,Zpn,Zpu,Zpw,mpl,dfs,qs]);(try simp only[itb]);(try simp only[itf,gS,kk]))
 all_goals(repeat' first|refine exI λ_=>?_|refine anJ λ_ _=>?_|refine anI λ_=>?_|refine orE2 ?_ ?_|exact False.elim)
 all_goals(intro h;first|rw[Zl Zyp.eq_1]|refine run Zbl7 rfl ?_|rw[Zl Zfr.eq_1]|rw[Zl Zg1.eq_1]|rw[Zir Zev.eq_1]|rw[Zl Zmi.eq_1]|refine run Zbmc rfl ?_)
 all_goals (refine Ya ?_ h;clear h;simp +decide[*,kk,tI,tII,Z8c,Zyq,Z8d,Zg3,Zg2,Z8j,Zmj,Z8k])
abbrev Zr7:=uq Zen.1.1.1
abbrev Zbql:=uq Zen.1.1.2.1
abbrev Zvy:=uq Zen.1.1.2.2
abbrev Zbdr:=uq Zen.1.2.1.1
abbrev Zbqm:=uq Zen.1.2.1.2
abbrev Z2q:=uq Zen.1.2.2.1
abbrev Zr8:=uq Zen.1.2.2.2
abbrev Z2r:=uq Zen.2.1.1.1
abbrev Zbds:=uq Zen.2.1.1.2
abbrev Z2s:=uq Zen.2.1.2.1
abbrev Zbdt:=uq Zen.2.1.2.2
abbrev Z2t:=uq Zen.2.2.1.1
abbrev Z2u:=uq Zen.2.2.1.2
abbrev Zbdu:=uq Zen.2.2.2.1
abbrev Zbqn:=uq Zen.2.2.2.2
theorem litG2{α β:Type}(f:α->β){l:List α}{i:Nat}{e:α}(g:i<l.length)(q:l[i]=e):∃g2:i<(l.map f).length,(l.map f)[i]=f e:=⟨by simpa using g,by simp[q]⟩
theorem Zbdv{c:Zh}{cl cd:Int}{x:List Atom}{cc n:Int}{r:AV×List Blk}(h:(if 0<n then(∃(v:Zh) (v1:Int),Zbg c 5=some (I v1,[.box (v.c.map .t)])/\(0<=v1/\(∃(e2:ByteArray),([(⟨#[114]⟩:ByteArray),(⟨#[115]⟩:ByteArray),(⟨#[116]⟩:ByteArray),(⟨#[117]⟩:ByteArray),(⟨#[118]⟩:ByteArray)])[v1.toNat]?=some e2/\(∃(e3:Int),([2,2,2,3,1])[v1.toNat]?=some e3/\(∃(v2:Zh) (v3:Int),Zbg v 4=some (I v3,[.box (v2.c.map .t)])/\(Zpz v2 cl cd x cc e2 n e3 v3 0=some r))))))else(∃(v4:Bool),Zki cc=some (Bo v4,[])/\(if v4=true then(some (.agg [I cc,L 2 (([]:List Atom).map Atom.c)],[.box (c.c.map .t)])=some r)else(some (.agg [I cd,L 2 (x.map Atom.c)],[.box (c.c.map .t)])=some r))))):Zpy c cl cd x cc n=some r:=by
 unfold Zpy;rw[Zl Zhp.eq_1];simp only[Zbg,Zki,Zh.c_def,mpl,dfs]at h
 try simp only[itb]at h
 try simp only[itf,gS,kk]at h
 rcases h with⟨q1,v,v1,q2,q3,e2,⟨g4,q4⟩,e3,⟨g5,q5⟩,v2,v3,q6,h⟩|⟨q1,v4,q7,(⟨q8,h⟩|⟨q8,h⟩)⟩
 all_goals try (have z_q4:=litG2 sc g4 q4;simp only[Yw,Yb3,dfs]at z_q4;obtain⟨x_q4,z_q4⟩:=z_q4;have y_q4:v1<5:=by(have y:=g4;simp at y;omega))
 all_goals try (have z_q5:=litG2 ic g5 q5;simp only[Yw,Yb3,dfs]at z_q5;obtain⟨x_q5,z_q5⟩:=z_q5;have y_q5:v1<5:=by(have y:=g5;simp at y;omega))
 all_goals (refine Ya ?_ h;clear h;simp +decide[*,kk,tI,tII,Zpz,Zhq])
theorem Zdc:((((∀c cl cd x cc co n m v i r,Im (Zpz c cl cd x cc co n m v i=some r) (if i<m then Zp0 c cl cd x (if cc<(w (v+1))then(w (v+1))else cc) co ([v]) n m (Int.tmod (w (v+1)) 4) (w (i+1))=some r else Zfs c cl cd x cc ([(⟨co,[]⟩:Atom)]) (w (n-1))=some r))/\
 (∀c cl cd x cc co x1 n m v i r,Im (Zp0 c cl cd x cc co x1 n m v i=some r) (if i<m then x1.length+1<=68719476736/\Zp0 c cl cd x (if cc<(w (v+1))then(w (v+1))else cc) co (x1++[v]) n m (Int.tmod (w (v+1)) 4) (w (i+1))=some r else Zfs c cl cd x cc ([(⟨co,x1⟩:Atom)]) (w (n-1))=some r)))/\
 ((∀c cl cd x cc x1 co n m v i r,Im (Zp1 c cl cd x cc x1 co n m v i=some r) (if i<m then Zp2 c cl cd x (if cc<(w (v+1))then(w (v+1))else cc) x1 co ([v]) n m (Int.tmod (w (v+1)) 4) (w (i+1))=some r else x1.length+1<=68719476736/\Zfs c cl cd x cc (x1++[(⟨co,[]⟩:Atom)]) (w (n-1))=some r))/\
 (∀c cl cd x cc x1 co x2 n m v i r,Im (Zp2 c cl cd x cc x1 co x2 n m v i=some r) (if i<m then x2.length+1<=68719476736/\Zp2 c cl cd x (if cc<(w (v+1))then(w (v+1))else cc) x1 co (x2++[v]) n m (Int.tmod (w (v+1)) 4) (w (i+1))=some r else x1.length+1<=68719476736/\Zfs c cl cd x cc (x1++[(⟨co,x2⟩:Atom)]) (w (n-1))=some r))))/\
 (((∀x r,Im (Zt4 x=some r) (∃(v1:Zh),∃(v2:List ByteArray),∃v3,Zpm x ([(⟨#[114,40,88,89,41]⟩:ByteArray),(⟨#[114,40,88,89,41,32,115,40,89,90,41]⟩:ByteArray),(⟨#[114,40,88,89,41,32,115,40,89,90,41,32,116,40,90,85,41]⟩:ByteArray),(⟨#[114,40,88,89,41,32,115,40,89,90,41,32,116,40,90,88,41]⟩:ByteArray),(⟨#[114,40,88,89,41,32,115,40,88,90,41,32,116,40,88,85,41]⟩:ByteArray),(⟨#[114,40,88,89,41,32,115,40,89,90,41,32,118,40,89,41]⟩:ByteArray),(⟨#[117,40,88,89,90,41,32,115,40,90,85,41]⟩:ByteArray),(⟨#[117,40,88,89,90,41,32,114,40,88,89,41,32,118,40,90,41]⟩:ByteArray),(⟨#[114,40,88,89,41,32,115,40,89,90,41,32,116,40,90,85,41,32,118,40,88,41]⟩:ByteArray),(⟨#[114,40,88,89,41,32,114,40,89,90,41]⟩:ByteArray),(⟨#[114,40,88,89,41,32,115,40,89,88,41]⟩:ByteArray),(⟨#[118,40,88,41,32,114,40,88,89,41,32,115,40,89,90,41,32,116,40,90,85,41]⟩:ByteArray),(⟨#[114,40,88,89,41,32,115,40,89,90,41,32,116,40,90,85,41,32,115,40,85,88,41]⟩:ByteArray)])=some (.t (.str v3),[.box (v1.c.map .t),.arr 9 1 true (v2.map sc)])/\∃(v4:List Atom),∃v5,∃v6,Zkk v3=some (.tup [.agg [I v5,.own 0],Bo v6],[.arr 213 2 true (v4.map Atom.c)])/\∃(v7:Zh),∃v8,Zc2 v1 4=some (Bo v8,[.box (v7.c.map .t)])/\if v8=true then ∃(v9:Zh),∃v10,Zbg v7 4=some (I v10,[.box (v9.c.map .t)])/\Zpy v9 0 v5 v4 0 (w (1+v10))=some r else some (.agg [I v5,L 2 (v4.map Atom.c)],[.box (v7.c.map .t)])=some r))/\
 (∀x a r,Im (Zt5 x a=some r) (∃(v1:Zh),∃v2,Zbg x (a.length:Int)=some (I v2,[.box (v1.c.map .t)])/\qG a v2 (λe2=>some (.t (.str e2),[.box (v1.c.map .t)])=some r))))/\
 ((∀x r,Im (Zt6 x=some r) (∃(v1:Zh) (v2:Zc),Zt4 x=some (.agg (v2.c.map .t),[.box (v1.c.map .t)])/\if 3<(v2.Atoms.length:Int)then ∃(v4:Zh),∃v5,Zc2 v1 8=some (Bo v5,[.box (v4.c.map .t)])/\if v5=true then some (.agg (v2.c.map .t),[.box (v4.c.map .t)])=some r else ∃(v7:Zh),∃v8,Zt5 v4 ([(⟨#[114,40,88,89,41,32,115,40,89,90,41]⟩:ByteArray),(⟨#[114,40,88,89,41,32,115,40,89,90,41,32,116,40,90,88,41]⟩:ByteArray),(⟨#[114,40,88,89,41,32,115,40,89,90,41,32,118,40,89,41]⟩:ByteArray),(⟨#[114,40,88,89,41,32,114,40,89,90,41]⟩:ByteArray)])=some (.t (.str v8),[.box (v7.c.map .t)])/\∃(v9:List Atom),∃v10,∃v11,Zkk v8=some (.tup [.agg [I v10,.own 0],Bo v11],[.arr 213 2 true (v9.map Atom.c)])/\some (.agg [I v10,L 2 (v9.map Atom.c)],[.box (v7.c.map .t)])=some r else some (.agg (v2.c.map .t),[.box (v1.c.map .t)])=some r))/\
 ((∀a r,Im (Zch a=some r) (qB (Zej a) (¬(a.Atoms.length:Int)<0/\qi (w ((shlI 1 (a.Atoms.length:Int))-1)) r) (qi 0 r)))/\
 (∀a a1 r,Im (Zmr a a1=some r) (qB (Zej a) (¬(a.Atoms.length:Int)<0/\qV (Zbv a1 0 (w ((shlI 1 (a.Atoms.length:Int))-1))) (λv4=>qb v4 r)) (qb false r)))))))/\
 ((((∀q cn x i r,Im (Zkn q cn x i=some r) (if i<(q.Atoms.length:Int)then Zms q cn x i 0=some r else qi x r))/\
 (∀q cn x i k r,Im (Zms q cn x i k=some r) (qG q.Atoms i (λe1=>if k<(e1.Vars.length:Int)then ¬i<0/\if(andI (shrI cn i) 1)=1 then qG e1.Vars k (λe2=>¬e2<0/\Zms q cn (orI x (shlI 1 e2)) i (w (k+1))=some r)else Zkn q cn x (w (i+1))=some r else Zkn q cn x (w (i+1))=some r))))/\
 ((∀a a1 r,Im (Zek a a1=some r) (Zkn a a1 0 0=some r))/\
 (∀q cn cu cp i r,Im (Zko q cn cu cp i=some r) (if i<(q.Atoms.length:Int)then ¬i<0/\if(andI (shrI cn i) 1)=0 then qI (Zek q (shlI 1 i)) (λv1=>if(andI v1 cp)=0 then Zko q cn cu cp (w (i+1))=some r else Zko q cn (orI cu (shlI 1 i)) cp (w (i+1))=some r)else Zko q cn cu cp (w (i+1))=some r else qi cu r))))/\
 (((∀a a1 r,Im (Zt9 a a1=some r) (qI (Zek a a1) (λv1=>Zko a a1 0 v1 0=some r)))/\
 (∀q cn x n r,Im (Zp3 q cn x n=some r) (if n<(q.Atoms.length:Int)then qI (Zt9 q x) (λv1=>Zp3 q cn (orI x (andI v1 cn)) (w (n+1))=some r)else qb (decide (x=cn)) r)))/\
 ((∀a a1 r,Im (Zhr a a1=some r) (Zp3 a a1 (andI a1 (w (0-a1))) 0=some r))/\
 ((∀a a1 r,Im (Zft a a1=some r) (qB (Zmr a a1) (if 0<a1 then qV (Zhr a a1) (λv4=>qb v4 r)else qb false r) (qb false r)))/\
 (∀x r,Im (Zp4 x=some r) (∃(v1:Zh) (v2:Zc),Zt6 x=some (.agg (v2.c.map .t),[.box (v1.c.map .t)])/\qI (Zch v2) (λv4=>qB (Zft v2 v4) (some (.agg (v2.c.map .t),[.box (v1.c.map .t)])=some r) (∃(v9:List Atom),∃v10,∃v11,Zkk (⟨#[114,40,88,89,41,32,115,40,89,90,41]⟩:ByteArray)=some (.tup [.agg [I v10,.own 0],Bo v11],[.arr 213 2 true (v9.map Atom.c)])/\some (.agg [I v10,L 2 (v9.map Atom.c)],[.box (v1.c.map .t)])=some r)))))))):=by
 and_intros
 all_goals(intros;unfold Im;(try simp only[Zpz,Zp0,Zp1,Zp2,Zt4,Zt5,Zt6,Zch,Zmr,Zkn,Zms,Zek,Zko,Zt9,Zp3,Zhr,Zft,Zp4,Zpm,Zkk,Zc2,Zbg,Zh.c_def,Zc.c_def,Zej,Zbv,Zfs,Zpy,mpl,dfs,qs]);(try simp only[itb]);(try simp only[itf,gS,kk]))
 all_goals(repeat' first|refine exI λ_=>?_|refine anJ λ_ _=>?_|refine anI λ_=>?_|refine orE2 ?_ ?_|exact False.elim)
 all_goals(intro h;first|rw[Zl Zmo.eq_1]|refine runM Zbmd rfl ?_|refine runM Zbdg rfl ?_|refine runM Zbme rfl ?_|refine run Zbmf rfl ?_|refine run Zbmg rfl ?_|rw[Zl Zt7.eq_1]|rw[Zl Zyv.eq_1]|refine run Zbmh rfl ?_|rw[Zl Zyx.eq_1]|refine run Zbmi rfl ?_|rw[Zl Zyz.eq_1]|refine run Zbmj rfl ?_|refine run Zbmk rfl ?_|refine runM Zbml rfl ?_)
 all_goals (refine Ya ?_ h;clear h;simp +decide[*,kk,tI,tII,Zmq,Zmp,Z8l,Zyj,Z8n,Z8m,Z8o,Z8p,Zt8,Zyw,Z8q,Z8r,Zyy,Z8s,Zy0,Z8t,Z8u,Z8w,Z8v])
abbrev Zbdw:=uq Zdc.1.1.1.1
abbrev Zbdx:=uq Zdc.1.1.1.2
abbrev Zbdy:=uq Zdc.1.1.2.1
abbrev Zbdz:=uq Zdc.1.1.2.2
abbrev Zbd0:=uq Zdc.1.2.1.1
abbrev Zbqo:=uq Zdc.1.2.1.2
abbrev Z2v:=uq Zdc.1.2.2.1
abbrev Zbqp:=uq Zdc.1.2.2.2.1
abbrev Zbqq:=uq Zdc.1.2.2.2.2
abbrev Zbd1:=uq Zdc.2.1.1.1
abbrev Z2w:=uq Zdc.2.1.1.2
abbrev Zbqr:=uq Zdc.2.1.2.1
abbrev Zbd2:=uq Zdc.2.1.2.2
abbrev Zbqs:=uq Zdc.2.2.1.1
abbrev Zbd3:=uq Zdc.2.2.1.2
abbrev Zbqt:=uq Zdc.2.2.2.1
abbrev Zbqu:=uq Zdc.2.2.2.2.1
abbrev Zbd4:=uq Zdc.2.2.2.2.2
theorem Z2x{c:Zh}{cl cd:Int}{x:List Atom}{cc:Int}{x1:List Atom}{n:Int}{r:AV×List Blk}(h:(if 0<n then(∃(v:Zh) (v1:Int),Zbg c 5=some (I v1,[.box (v.c.map .t)])/\(0<=v1/\(∃(e2:ByteArray),([(⟨#[114]⟩:ByteArray),(⟨#[115]⟩:ByteArray),(⟨#[116]⟩:ByteArray),(⟨#[117]⟩:ByteArray),(⟨#[118]⟩:ByteArray)])[v1.toNat]?=some e2/\(∃(e3:Int),([2,2,2,3,1])[v1.toNat]?=some e3/\(∃(v2:Zh) (v3:Int),Zbg v 4=some (I v3,[.box (v2.c.map .t)])/\(Zp1 v2 cl cd x cc x1 e2 n e3 v3 0=some r))))))else(∃(v4:Bool),Zej (⟨cc,x1⟩:Zc)=some (Bo v4,[])/\(if v4=true then(some (.agg [I cc,L 2 (x1.map Atom.c)],[.box (c.c.map .t)])=some r)else(some (.agg [I cd,L 2 (x.map Atom.c)],[.box (c.c.map .t)])=some r))))):Zfs c cl cd x cc x1 n=some r:=by
 unfold Zfs;rw[Zl Zhp.eq_1];simp only[Zbg,Zej,Zh.c_def,Zc.c_def,mpl,dfs]at h
 try simp only[itb]at h
 try simp only[itf,gS,kk]at h
 rcases h with⟨q1,v,v1,q2,q3,e2,⟨g4,q4⟩,e3,⟨g5,q5⟩,v2,v3,q6,h⟩|⟨q1,v4,q7,(⟨q8,h⟩|⟨q8,h⟩)⟩
 all_goals try (have z_q4:=litG2 sc g4 q4;simp only[Yw,Yb3,dfs]at z_q4;obtain⟨x_q4,z_q4⟩:=z_q4;have y_q4:v1<5:=by(have y:=g4;simp at y;omega))
 all_goals try (have z_q5:=litG2 ic g5 q5;simp only[Yw,Yb3,dfs]at z_q5;obtain⟨x_q5,z_q5⟩:=z_q5;have y_q5:v1<5:=by(have y:=g5;simp at y;omega))
 all_goals (refine Ya ?_ h;clear h;simp +decide[*,kk,tI,tII,Zp1,Zhq])
end Go.Proofs.YtcfaekfjkeobhaaGreat
