/-
  Parts of the proofs for this seat: G16 G17 G18 G19.
-/
import Derived.Test.YtnnjbejcffjgfaaGreatP11
import Derived.Test.YtnnjbejcffjgfaaGreatP12
set_option linter.unusedSectionVars false
set_option linter.unusedSimpArgs false
set_option linter.unusedVariables false
set_option maxRecDepth 100000
set_option maxHeartbeats 4000000
namespace Go.Proofs.YtnnjbejcffjgfaaGreat
open Go.AM
theorem Zdj:((((∀⦃a a1 a2 r⦄,Im (Zfs a a1 a2=some r) (0<=a2/\(∃e1,a1.Atoms[a2.toNat]?=some e1/\(∃(v5:List Zh),∃v6,∃v7,∃v8,∃v9,Zws a.Zl e1.Name=some (.tup [.agg [.t (.str v6),I v7,I v8,.own 0],Bo v9],[.arr 200 3 true (v5.map Zh.c)])/\(some (.agg [.t (.str v6),I v7,I v8,.own 0],[.arr 200 3 true (v5.map Zh.c)])=some r)))))/\
 (∀⦃s q cc n i r⦄,Im (Zqy s q cc n i=some r) (if i<(q.Atoms.length:Int)then(¬i<0/\(if(andI (shrI cc i) 1)=1 then(∃(v1:List Zh),∃v2,∃v3,∃v4,Zfs s q i=some (.agg [.t (.str v2),I v3,I v4,.own 0],[.arr 200 3 true (v1.map Zh.c)])/\(Zqy s q cc (w (n*v4)) (w (i+1))=some r))else(Zqy s q cc n (w (i+1))=some r)))else(some (I n,[])=some r))))/\
 ((∀⦃a a1 a2 r⦄,Im (Zwt a a1 a2=some r) (∃v1,Zcv a a1 a2=some (Bo v1,[])/\(if v1=true then(Zqy a a1 a2 1 0=some r)else(some (I (-1),[])=some r))))/\
 (∀⦃q cc x i r⦄,Im (Zna q cc x i=some r) (if i<(q.Atoms.length:Int)then(Zqz q cc x i 0=some r)else(some (I x,[])=some r)))))/\
 (((∀⦃q cc x i k r⦄,Im (Zqz q cc x i k=some r) (0<=i/\(∃e1,q.Atoms[i.toNat]?=some e1/\(if k<(e1.Vars.length:Int)then(¬i<0/\(if(andI (shrI cc i) 1)=1 then(0<=k/\(∃e2,e1.Vars[k.toNat]?=some e2/\(¬e2<0/\(Zqz q cc (orI x (shlI 1 e2)) i (w (k+1))=some r))))else(Zna q cc x (w (i+1))=some r)))else(Zna q cc x (w (i+1))=some r)))))/\
 (∀⦃a a1 r⦄,Im (Zix a a1=some r) (Zna a a1 0 0=some r)))/\
 ((∀⦃cd co v r⦄,Im (Zq1 cd co v=some r) (if v<4 then(¬v<0/\(if(andI (shrI co v) 1)=1 then(cd.length+1<=68719476736/\(Zq1 (cd++[v]) co (w (v+1))=some r))else(Zq1 cd co (w (v+1))=some r)))else(some (.own 0,[.arr 3 1 true (cd.map ic)])=some r)))/\
 ((∀⦃a r⦄,Im (Zq0 a=some r) (Zq1 ([]:List Int) a 0=some r))/\
 (∀⦃a cd cp i r⦄,Im (Zq2 a cd cp i=some r) (if i<(a.Vars.length:Int)then(0<=i/\(∃e1,a.Vars[i.toNat]?=some e1/\(∃v5,Zes cp e1=some (Bo v5,[])/\(if v5=true then(cd.length+1<=68719476736/\(Zq2 a (cd++[i]) cp (w (i+1))=some r))else(Zq2 a cd cp (w (i+1))=some r)))))else(some (.own 0,[.arr 3 1 true (cd.map ic)])=some r)))))))/\
 ((((∀⦃a a1 r⦄,Im (Znb a a1=some r) (Zq2 a ([]:List Int) a1 0=some r))/\
 (∀⦃cd l i r⦄,Im (Ziy cd l i=some r) (if i<(l.length:Int)then(Znc cd l i (cd.length:Int)=some r)else(some (.own 0,[.arr 3 1 true (cd.map ic)])=some r))))/\
 ((∀⦃a r⦄,Im (Z3n a=some r) (Ziy ([]:List Int) a 0=some r))/\
 (∀⦃s cu i r⦄,Im (Zwv s cu i=some r) (if i<(s.Groups.length:Int)then(0<=i/\(∃e1,s.Groups[i.toNat]?=some e1/\(∃v5,Zd2 e1.Columns cu=some (I v5,[])/\(if v5=0 then(∃(v10:List Int),Z3n e1.Counts=some (.own 0,[.arr 3 1 true (v10.map ic)])/\(some (.own 0,[.arr 3 1 true (v10.map ic)])=some r))else(Zwv s cu (w (i+1))=some r)))))else(some (.own 0,[.arr 3 1 true (([]:List Int).map ic)])=some r)))))/\
 (((∀⦃a a1 r⦄,Im (Zq4 a a1=some r) (if(a1.length:Int)=0 then(if a.RowCount=0 then(some (.own 0,[.arr 3 1 true (([]:List Int).map ic)])=some r)else(some (.own 0,[.arr 3 1 true (([a.RowCount]).map ic)])=some r))else(Zwv a a1 0=some r)))/\
 (∀⦃q s cc cl cn i r⦄,Im (Ziz q s cc cl cn i=some r) (if i<(q.Atoms.length:Int)then(¬i<0/\(if(andI (shrI cc i) 1)=1 then(if(andI (shrI cl i) 1)=0 then(0<=i/\(∃e1,s[i.toNat]?=some e1/\(∃e2,q.Atoms[i.toNat]?=some e2/\(∃v10,Zix q cl=some (I v10,[])/\(∃(v11:List Int),Zq0 v10=some (.own 0,[.arr 3 1 true (v11.map ic)])/\(∃(v12:List Int),Znb e2 v11=some (.own 0,[.arr 3 1 true (v12.map ic)])/\(∃(v13:List Int),Zq4 e1 v12=some (.own 0,[.arr 3 1 true (v13.map ic)])/\(v13.length+1<=68719476736/\(∃e7,(v13++[0])[0]?=some e7/\(∃v14,Zq5 s q cc (orI cl (shlI 1 i))=some (I v14,[])/\(if cn<0 then(Ziz q s cc cl (w (e7*v14)) (w (i+1))=some r)else(if(w (e7*v14))<cn then(Ziz q s cc cl (w (e7*v14)) (w (i+1))=some r)else(Ziz q s cc cl cn (w (i+1))=some r)))))))))))))else(Ziz q s cc cl cn (w (i+1))=some r))else(Ziz q s cc cl cn (w (i+1))=some r)))else(some (I cn,[])=some r))))/\
 ((∀⦃a a1 a2 a3 r⦄,Im (Zq5 a a1 a2 a3=some r) (if a3=a2 then(some (I 1,[])=some r)else(Ziz a1 a a2 a3 (-1) 0=some r)))/\
 ((∀⦃s q l cc i r⦄,Im (Zwx s q l cc i=some r) (if i<(q.Atoms.length:Int)then(∃(v1:List Zh),∃v2,∃v3,∃v4,Zfs s q i=some (.agg [.t (.str v2),I v3,I v4,.own 0],[.arr 200 3 true (v1.map Zh.c)])/\(l.length+1<=68719476736/\(Zwx s q (l++[(⟨v2,v3,v4,v1⟩:Zg)]) cc (w (i+1))=some r)))else(∃v5,Zq5 l q cc 0=some (I v5,[])/\(some (I v5,[])=some r))))/\
 (∀⦃a a1 a2 r⦄,Im (Zww a a1 a2=some r) (∃v1,Zcv a a1 a2=some (Bo v1,[])/\(if v1=true then(Zwx a a1 ([]:List Zg) a2 0=some r)else(some (I (-1),[])=some r)))))))):=by
 and_intros
 all_goals intros
 all_goals unfold Im
 all_goals try simp only[Zfs,Zqy,Zwt,Zna,Zqz,Zix,Zq1,Zq0,Zq2,Znb,Ziy,Z3n,Zwv,Zq4,Ziz,Zq5,Zwx,Zww,Zws,Zl.c_def,Zi.c_def,Zb.c_def,Zf.c_def,Zcv,Zes,Zd2,Atom.c_def,Zg.c_def,Znc,mpl,dfs]
 all_goals try simp only[itb]
 all_goals try simp only[itf,gS,kk]
 all_goals repeat' first|refine exI λ_=>?_|refine anJ λ_ _=>?_|refine anI λ_=>?_|refine orE2 ?_ ?_|exact False.elim
 all_goals (intro h;first|refine run Zcjr rfl ?_|rw[Zd Zbfl.eq_1]|refine run Zcjs rfl ?_|rw[Zd Z3f.eq_1]|rw[Zd Zbfn.eq_1]|refine run Zcjt rfl ?_|rw[Zd Zbfp.eq_1]|refine run Zcju rfl ?_|rw[Zd Zbfr.eq_1]|refine run Zcjv rfl ?_|rw[Zd Z3l.eq_1]|refine run Zcjw rfl ?_|rw[Zd Zbfv.eq_1]|refine run Zcjx rfl ?_|rw[Zd Zbfx.eq_1]|refine run Zcjy rfl ?_|rw[Zd Zbf0.eq_1]|refine run Zcjz rfl ?_)
 all_goals (refine Yf ?_ h;clear h;simp +decide[*,kk,tI,tII,Zbu8,Zbu9,Zbfm,Zbva,Z3g,Zbfo,Zbvb,Zbvc,Zbfq,Zbvd,Zbve,Zbfs,Zbvf,Z3m,Zbvg,Zbfw,Zbvh,Zbvi,Zbfy,Zbvj,Zbf1,Zbvk])
abbrev Zcqu:=Zdj.1.1.1.1
abbrev Zb18:=Zdj.1.1.1.2
abbrev Zcqv:=Zdj.1.1.2.1
abbrev Zb19:=Zdj.1.1.2.2
abbrev Zbjq:=Zdj.1.2.1.1
abbrev Zcqw:=Zdj.1.2.1.2
abbrev Zb2a:=Zdj.1.2.2.1
abbrev Zb2b:=Zdj.1.2.2.2.1
abbrev Zb2c:=Zdj.1.2.2.2.2
abbrev Zcqx:=Zdj.2.1.1.1
abbrev Zb2d:=Zdj.2.1.1.2
abbrev Zcqy:=Zdj.2.1.2.1
abbrev Zcqz:=Zdj.2.1.2.2
abbrev Zcq0:=Zdj.2.2.1.1
abbrev Zb2e:=Zdj.2.2.1.2
abbrev Zb2f:=Zdj.2.2.2.1
abbrev Zb2g:=Zdj.2.2.2.2.1
abbrev Zcq1:=Zdj.2.2.2.2.2
theorem Zi8:(((∀⦃c cc i r⦄,Im (Zq7 c cc i=some r) (if i<4 then(∃v,Z0 cc 0 15=some (Bo v,[])/\(if v=true then(¬i<0/\(if(andI (shrI cc i) 1)=1 then(c.length+1<=68719476736/\(Zq7 (c++[i]) cc (w (i+1))=some r))else(Zq7 c cc (w (i+1))=some r)))else(some (.own 0,[.arr 3 1 true (c.map ic)])=some r)))else(some (.own 0,[.arr 3 1 true (c.map ic)])=some r)))/\
 (∀⦃a r⦄,Im (Zq6 a=some r) (Zq7 ([]:List Int) a 0=some r)))/\
 ((∀⦃a a1 r⦄,Im (Zq8 a a1=some r) (∃v,Zm6 a=some (Bo v,[])/\(if v=true then(¬(a.Atoms.length:Int)<0/\(∃v1,Z0 a1 0 (w ((shlI 1 (a.Atoms.length:Int))-1))=some (Bo v1,[])/\(some (Bo v1,[])=some r)))else(some (Bo false,[])=some r))))/\
 (∀⦃a a1 r⦄,Im (Znd a a1=some r) (∃v,Zq8 a a1=some (Bo v,[])/\(if v=true then(∃v1,Zix a a1=some (I v1,[])/\(∃(v2:List Int),Zq0 v1=some (.own 0,[.arr 3 1 true (v2.map ic)])/\(some (.own 0,[.arr 3 1 true (v2.map ic)])=some r)))else(some (.own 0,[.arr 3 1 true (([]:List Int).map ic)])=some r))))))/\
 (((∀⦃c x y i r⦄,Im (Zq9 c x y i=some r) (if i<(x.length:Int)then(0<=i/\(∃e1,x[i.toNat]?=some e1/\(∃v1,Zes y e1=some (Bo v1,[])/\(if v1=true then(c.length+1<=68719476736/\(Zq9 (c++[e1]) x y (w (i+1))=some r))else(Zq9 c x y (w (i+1))=some r)))))else(some (.own 0,[.arr 3 1 true (c.map ic)])=some r)))/\
 (∀⦃a a1 a2 r⦄,Im (Zne a a1 a2=some r) (∃(v:List Int),Znd a a1=some (.own 0,[.arr 3 1 true (v.map ic)])/\(∃(v1:List Int),Znd a a2=some (.own 0,[.arr 3 1 true (v1.map ic)])/\(Zq9 ([]:List Int) v v1 0=some r)))))/\
 ((∀⦃a a1 r⦄,Im (Znf a a1=some r) (∃v,Ziw a=some (Bo v,[])/\(if v=true then(∃(v1:List Int),Zq4 a a1=some (.own 0,[.arr 3 1 true (v1.map ic)])/\(some (.own 0,[.arr 3 1 true (v1.map ic)])=some r))else(some (.own 0,[.arr 3 1 true (([]:List Int).map ic)])=some r))))/\
 ((∀⦃l n i r⦄,Im (Zrb l n i=some r) (if i<(l.length:Int)then(0<=i/\(∃e1,l[i.toNat]?=some e1/\(∃v1,Z0 e1 1 (w (8-n))=some (Bo v1,[])/\(if v1=true then(if 0<i then(0<=(w (i-1))/\(∃e3,l[(w (i-1)).toNat]?=some e3/\(if e3<e1 then(some (Bo false,[])=some r)else(Zrb l (w (n+e1)) (w (i+1))=some r))))else(Zrb l (w (n+e1)) (w (i+1))=some r))else(some (Bo false,[])=some r)))))else(some (Bo true,[])=some r)))/\
 (∀⦃a r⦄,Im (Zra a=some r) (Zrb a 0 0=some r))))):=by
 and_intros
 all_goals intros
 all_goals unfold Im
 all_goals try simp only[Zq7,Zq6,Zq8,Znd,Zq9,Zne,Znf,Zrb,Zra,Z0,Zm6,Zb.c_def,Zix,Zq0,Zes,Ziw,Zq4,Zg.c_def,mpl,dfs]
 all_goals try simp only[itb]
 all_goals try simp only[itf,gS,kk]
 all_goals repeat' first|refine exI λ_=>?_|refine anJ λ_ _=>?_|refine anI λ_=>?_|refine orE2 ?_ ?_|exact False.elim
 all_goals (intro h;first|rw[Zd Zbf2.eq_1]|refine run Zcj0 rfl ?_|refine run Zcj1 rfl ?_|refine run Zcj2 rfl ?_|rw[Zd Zbf4.eq_1]|refine run Zcj3 rfl ?_|refine run Zcj4 rfl ?_|rw[Zd Zbf7.eq_1]|refine run Zcj5 rfl ?_)
 all_goals (refine Yf ?_ h;clear h;simp +decide[*,kk,tI,tII,Zbvl,Zbf3,Zbvm,Zbvn,Zbvo,Zbvp,Zbf5,Zbvq,Zbvr,Zbf8,Zbvs])
abbrev Zb2h:=Zi8.1.1.1
abbrev Zcq2:=Zi8.1.1.2
abbrev Zcq3:=Zi8.1.2.1
abbrev Zcq4:=Zi8.1.2.2
abbrev Zb2i:=Zi8.2.1.1
abbrev Zcq5:=Zi8.2.1.2
abbrev Zcq6:=Zi8.2.2.1
abbrev Zb2j:=Zi8.2.2.2.1
abbrev Zcq7:=Zi8.2.2.2.2
theorem Zb2k{c l:List Int}{i k:Int}{r:AV×List Blk}(h:(if 0<k then(0<=(w (k-1))/\(∃(e1:Int),c[(w (k-1)).toNat]?=some e1/\(0<=i/\(∃(e2:Int),l[i.toNat]?=some e2/\(if e1<e2 then(Znc c l i (w (k-1))=some r)else(0<=k/\(k.toNat<=c.length/\((c.take k.toNat).length<=68719476736/\((c.take k.toNat).length+1<=68719476736/\((c.take k.toNat).length+1+(c.drop k.toNat).length<=68719476736/\(Ziy (((c.take k.toNat)++[e2])++(c.drop k.toNat)) l (w (i+1))=some r)))))))))))else(0<=k/\(k.toNat<=c.length/\((c.take k.toNat).length<=68719476736/\(0<=i/\(∃(e3:Int),l[i.toNat]?=some e3/\((c.take k.toNat).length+1<=68719476736/\((c.take k.toNat).length+1+(c.drop k.toNat).length<=68719476736/\(Ziy (((c.take k.toNat)++[e3])++(c.drop k.toNat)) l (w (i+1))=some r)))))))))):Znc c l i k=some r:=by
 unfold Znc;rw[Zd Zbft.eq_1];by_cases q1:0<k
 .rw[if_pos q1]at h;obtain⟨q2,h⟩:=h;obtain⟨e1,q3,h⟩:=h;have gq3:=Zil q3;have kq3:=Zj9 q3;obtain⟨q4,h⟩:=h;obtain⟨e2,q5,h⟩:=h;have gq5:=Zil q5;have kq5:=Zj9 q5;by_cases q6:e1<e2
  .rw[if_pos q6]at h;refine Yf ?_ h;clear h;simp +decide[*,tI,tII,Znc]
  .rw[if_neg q6]at h;obtain⟨q7,h⟩:=h;obtain⟨q8,h⟩:=h;have zq8:=q8;try simp at zq8
   obtain⟨q9,h⟩:=h;have rq9:=Zfm (b:=8) q9 (by omega);have sq9:=Zfn q9
   try simp[*]at rq9
   try simp[*]at sq9
   obtain⟨q10,h⟩:=h;have rq10:=Zfm (b:=8) q10 (by omega);have sq10:=Zfn q10
   try simp[*]at rq10
   try simp[*]at sq10
   obtain⟨q11,h⟩:=h;have rq11:=Zfm (b:=8) q11 (by omega);have sq11:=Zfn q11
   try simp[*]at rq11
   try simp[*]at sq11
   refine Yf ?_ h;clear h;simp +decide[*,tI,tII,Ziy,Z3k,Z3j]
 .rw[if_neg q1]at h;obtain⟨q12,h⟩:=h;obtain⟨q13,h⟩:=h;have zq13:=q13;try simp at zq13
  obtain⟨q14,h⟩:=h;have rq14:=Zfm (b:=8) q14 (by omega);have sq14:=Zfn q14
  try simp[*]at rq14
  try simp[*]at sq14
  obtain⟨q15,h⟩:=h;obtain⟨e3,q16,h⟩:=h;have gq16:=Zil q16;have kq16:=Zj9 q16;obtain⟨q17,h⟩:=h;have rq17:=Zfm (b:=8) q17 (by omega);have sq17:=Zfn q17
  try simp[*]at rq17
  try simp[*]at sq17
  obtain⟨q18,h⟩:=h;have rq18:=Zfm (b:=8) q18 (by omega);have sq18:=Zfn q18
  try simp[*]at rq18
  try simp[*]at sq18
  refine Yf ?_ h;clear h;simp +decide[*,tI,tII,Ziy,Z3k,Z3j]
theorem Zdk:((((∀⦃a b n i r⦄,Im (Zwy a b n i=some r) (if i<(a.length:Int)then(if i<(b.length:Int)then(∃v,Zra a=some (Bo v,[])/\(if v=true then(∃v4,Zra b=some (Bo v4,[])/\(if v4=true then(0<=i/\(∃e3,a[i.toNat]?=some e3/\(∃e4,b[i.toNat]?=some e4/\(Zwy a b (w (n+(w (e3*e4)))) (w (i+1))=some r))))else(some (I n,[])=some r)))else(some (I n,[])=some r)))else(some (I n,[])=some r))else(some (I n,[])=some r)))/\
 (∀⦃a a1 r⦄,Im (Z3r a a1=some r) (Zwy a a1 0 0=some r)))/\
 ((∀⦃a a1 a2 a3 r⦄,Im (Zrc a a1 a2 a3=some r) (∃v,Zfr a1=some (I v,[])/\(∃v4,Zcv a a1 v=some (Bo v4,[])/\(if v4=true then(∃v5,Z0 a2 0 (w ((a1.Atoms.length:Int)-1))=some (Bo v5,[])/\(if v5=true then(∃v6,Z0 a3 0 (w ((a1.Atoms.length:Int)-1))=some (Bo v6,[])/\(if v6=true then(if a2=a3 then(some (I (-1),[])=some r)else(¬a2<0/\(¬a3<0/\(∃(v7:List Int),Zne a1 (shlI 1 a2) (shlI 1 a3)=some (.own 0,[.arr 3 1 true (v7.map ic)])/\(∃(v8:List Zh),∃v9,∃v10,∃v11,Zfs a a1 a2=some (.agg [.t (.str v9),I v10,I v11,.own 0],[.arr 200 3 true (v8.map Zh.c)])/\(0<=a2/\(∃e7,a1.Atoms[a2.toNat]?=some e7/\(∃(v12:List Int),Znb e7 v7=some (.own 0,[.arr 3 1 true (v12.map ic)])/\(∃(v13:List Int),Znf (⟨v9,v10,v11,v8⟩:Zg) v12=some (.own 0,[.arr 3 1 true (v13.map ic)])/\(∃(v14:List Zh),∃v15,∃v16,∃v17,Zfs a a1 a3=some (.agg [.t (.str v15),I v16,I v17,.own 0],[.arr 200 3 true (v14.map Zh.c)])/\(0<=a3/\(∃e11,a1.Atoms[a3.toNat]?=some e11/\(∃(v18:List Int),Znb e11 v7=some (.own 0,[.arr 3 1 true (v18.map ic)])/\(∃(v19:List Int),Znf (⟨v15,v16,v17,v14⟩:Zg) v18=some (.own 0,[.arr 3 1 true (v19.map ic)])/\(∃v20,Z3r v13 v19=some (I v20,[])/\(some (I v20,[])=some r))))))))))))))))else(some (I (-1),[])=some r)))else(some (I (-1),[])=some r)))else(some (I (-1),[])=some r)))))/\
 (∀⦃a m x k r⦄,Im (Zng a m x k=some r) (if k<(a.Vars.length:Int)then(if k<3 then(¬k<0/\(if(andI (shrI m k) 1)=1 then(0<=k/\(∃e1,a.Vars[k.toNat]?=some e1/\(∃v4,Z0 e1 0 3=some (Bo v4,[])/\(if v4=true then(¬e1<0/\(Zng a m (orI x (shlI 1 e1)) (w (k+1))=some r))else(Zng a m x (w (k+1))=some r)))))else(Zng a m x (w (k+1))=some r)))else(some (I x,[])=some r))else(some (I x,[])=some r)))))/\
 (((∀⦃a a1 r⦄,Im (Z3t a a1=some r) (Zng a a1 0 0=some r))/\
 (∀⦃l m i r⦄,Im (Zrd l m i=some r) (if i<(l.length:Int)then(0<=i/\(∃e1,l[i.toNat]?=some e1/\(∃v4,Z0 e1 0 3=some (Bo v4,[])/\(if v4=true then(¬e1<0/\(Zrd l (orI m (shlI 1 e1)) (w (i+1))=some r))else(Zrd l m (w (i+1))=some r)))))else(some (I m,[])=some r))))/\
 ((∀⦃a r⦄,Im (Z3v a=some r) (Zrd a 0 0=some r))/\
 ((∀⦃a a1 r⦄,Im (Z3w a a1=some r) (∃(v:List Int),Znf a a1=some (.own 0,[.arr 3 1 true (v.map ic)])/\(if(v.length:Int)=0 then(some (I 0,[])=some r)else(∃e2,v[0]?=some e2/\(some (I e2,[])=some r)))))/\
 (∀⦃n b r⦄,Im (Zwz n b=some r) (¬b<0/\(if(shlI 1 b)<n then(Zwz n (w (b+1))=some r)else(some (I b,[])=some r))))))))/\
 ((((∀⦃a r⦄,Im (Z3x a=some r) (∃v,Z0 a 1 4096=some (Bo v,[])/\(if v=true then(Zwz a 0=some r)else(some (I (-1),[])=some r))))/\
 (∀⦃s a cc m r⦄,Im (Zw1 s a cc m=some r) (¬s.Arity<0/\(if m<(w ((shlI 1 s.Arity)-1))then(∃v,Z3t a m=some (I v,[])/\(∃v4,Z3v a.Vars=some (I v4,[])/\(∃(v5:List Int),Zer m=some (.own 0,[.arr 3 1 true (v5.map ic)])/\(∃v6,Z3w s v5=some (I v6,[])/\(∃v7,Z3x v6=some (I v7,[])/\(cc.length+1<=68719476736/\(Zw1 s a (cc++[(⟨v,v4,v7⟩:Zm)]) (w (m+1))=some r)))))))else(some (.own 0,[.arr 251 3 true (cc.map Zm.c)])=some r)))))/\
 ((∀⦃a a1 r⦄,Im (Zw0 a a1=some r) (∃v,Ziw a=some (Bo v,[])/\(if v=true then(if a.RowCount=0 then(some (.own 0,[.arr 251 3 true (([]:List Zm).map Zm.c)])=some r)else(if(a1.Vars.length:Int)=a.Arity then(Zw1 a a1 ([]:List Zm) 0=some r)else(some (.own 0,[.arr 251 3 true (([]:List Zm).map Zm.c)])=some r)))else(some (.own 0,[.arr 251 3 true (([]:List Zm).map Zm.c)])=some r))))/\
 (∀⦃s q cc cl i r⦄,Im (Zre s q cc cl i=some r) (if i<(q.Atoms.length:Int)then(¬i<0/\(if(andI (shrI cl i) 1)=0 then(Zre s q cc cl (w (i+1))=some r)else(∃(v:List Zh),∃v1,∃v2,∃v3,Zfs s q i=some (.agg [.t (.str v1),I v2,I v3,.own 0],[.arr 200 3 true (v.map Zh.c)])/\(0<=i/\(∃e2,q.Atoms[i.toNat]?=some e2/\(∃(v5:List Zm),Zw0 (⟨v1,v2,v3,v⟩:Zg) e2=some (.own 0,[.arr 251 3 true (v5.map Zm.c)])/\(if(v5.length:Int)=0 then(some (.own 0,[.arr 251 3 true (([]:List Zm).map Zm.c)])=some r)else(cc.length+v5.length<=68719476736/\(Zre s q (cc++v5) cl (w (i+1))=some r)))))))))else(some (.own 0,[.arr 251 3 true (cc.map Zm.c)])=some r)))))/\
 (((∀⦃a a1 a2 r⦄,Im (Zw2 a a1 a2=some r) (∃v,Zcv a a1 a2=some (Bo v,[])/\(if v=true then(Zre a a1 ([]:List Zm) a2 0=some r)else(some (.own 0,[.arr 251 3 true (([]:List Zm).map Zm.c)])=some r))))/\
 (∀⦃m cd x i r⦄,Im (Znh m cd x i=some r) (if i<(cd.length:Int)then(if i<4 then(0<=i/\(∃e1,cd[i.toNat]?=some e1/\(∃v4,Z0 e1 0 3=some (Bo v4,[])/\(if v4=true then(¬e1<0/\(if(andI (shrI m e1) 1)=1 then(¬i<0/\(Znh m cd (orI x (shlI 1 i)) (w (i+1))=some r))else(Znh m cd x (w (i+1))=some r)))else(Znh m cd x (w (i+1))=some r)))))else(some (I x,[])=some r))else(some (I x,[])=some r))))/\
 ((∀⦃a a1 r⦄,Im (Zw3 a a1=some r) (Znh a a1 0 0=some r))/\
 ((∀⦃cc l cd i r⦄,Im (Zw5 cc l cd i=some r) (if i<(l.length:Int)then(0<=i/\(∃e1,l[i.toNat]?=some e1/\(∃v4,Zw3 e1.From cd=some (I v4,[])/\(∃v5,Zw3 e1.To cd=some (I v5,[])/\(cc.length+1<=68719476736/\(Zw5 (cc++[(⟨v4,v5,e1.Bits⟩:Zm)]) l cd (w (i+1))=some r))))))else(some (.own 0,[.arr 251 3 true (cc.map Zm.c)])=some r)))/\
 (∀⦃a a1 r⦄,Im (Zw4 a a1=some r) (Zw5 ([]:List Zm) a a1 0=some r)))))):=by
 and_intros
 all_goals intros
 all_goals unfold Im
 all_goals try simp only[Zwy,Z3r,Zrc,Zng,Z3t,Zrd,Z3v,Z3w,Zwz,Z3x,Zw1,Zw0,Zre,Zw2,Znh,Zw3,Zw5,Zw4,Zra,Zfr,Zcv,Z0,Zne,Zfs,Znb,Znf,Atom.c_def,Zl.c_def,Zi.c_def,Zb.c_def,Zf.c_def,Zg.c_def,Zer,Ziw,mpl,dfs]
 all_goals try simp only[itb]
 all_goals try simp only[itf,gS,kk]
 all_goals repeat' first|refine exI λ_=>?_|refine anJ λ_ _=>?_|refine anI λ_=>?_|refine orE2 ?_ ?_|exact False.elim
 all_goals (intro h;first|rw[Zd Zbga.eq_1]|refine run Zcj6 rfl ?_|refine run Zcj7 rfl ?_|rw[Zd Zbgc.eq_1]|refine run Zcj8 rfl ?_|rw[Zd Zbge.eq_1]|refine run Zcj9 rfl ?_|refine run Zcka rfl ?_|rw[Zd Zbgh.eq_1]|refine run Zckb rfl ?_|rw[Zd Zbgk.eq_1]|refine run Zckc rfl ?_|rw[Zd Zbgm.eq_1]|refine run Zckd rfl ?_|rw[Zd Zbgo.eq_1]|refine run Zcke rfl ?_|rw[Zd Zbgr.eq_1]|refine run Zckf rfl ?_)
 all_goals (refine Yf ?_ h;clear h;simp +decide[*,kk,tI,tII,Zbgb,Zbvt,Zbvu,Zbvv,Zbgd,Zbvw,Zbvx,Zbgf,Zbvy,Zbvz,Zbgi,Zbv0,Zbgl,Zbv1,Zbv2,Zbgn,Zbv3,Zbv4,Zbgp,Zbv5,Zbgs,Zbv6])
abbrev Zbjr:=Zdk.1.1.1.1
abbrev Zcq8:=Zdk.1.1.1.2
abbrev Zcq9:=Zdk.1.1.2.1
abbrev Zb2l:=Zdk.1.1.2.2
abbrev Zcra:=Zdk.1.2.1.1
abbrev Zb2m:=Zdk.1.2.1.2
abbrev Zcrb:=Zdk.1.2.2.1
abbrev Zcrc:=Zdk.1.2.2.2.1
abbrev Zb2n:=Zdk.1.2.2.2.2
abbrev Zcrd:=Zdk.2.1.1.1
abbrev Zb2o:=Zdk.2.1.1.2
abbrev Zcre:=Zdk.2.1.2.1
abbrev Zb2p:=Zdk.2.1.2.2
abbrev Zcrf:=Zdk.2.2.1.1
abbrev Zb2q:=Zdk.2.2.1.2
abbrev Zcrg:=Zdk.2.2.2.1
abbrev Zb2r:=Zdk.2.2.2.2.1
abbrev Zcrh:=Zdk.2.2.2.2.2
theorem Znz:((∀⦃cl cn cd i r⦄,Im (Znj cl cn cd i=some r) (if i<(cn.length:Int)then(0<=i/\(∃e1,cn[i.toNat]?=some e1/\(if 0<e1 then(0<=(w (e1-1))/\(∃e2,cl[(w (e1-1)).toNat]?=some e2/\(Znj (cl.set ((w (e1-1)).toNat) 1) cn cd (w (i+1))=some r)))else(Znj cl cn cd (w (i+1))=some r))))else(Zrf cl cd 0=some r)))/\
 ((∀⦃cl cd i r⦄,Im (Zrf cl cd i=some r) (if i<(cd.length:Int)then(0<=i/\(∃e1,cd[i.toNat]?=some e1/\(if 0<e1 then(0<=(w (e1-1))/\(∃e2,cl[(w (e1-1)).toNat]?=some e2/\(Zrf (cl.set ((w (e1-1)).toNat) (-1)) cd (w (i+1))=some r)))else(Zrf cl cd (w (i+1))=some r))))else(some (.own 0,[.arr 3 1 true (cl.map ic)])=some r)))/\
 (∀⦃cc n c i r⦄,Im (Zw9 cc n c i=some r) (if i<n then(¬i<0/\(∃(v:List Int),Zhw n ([(w (c-(shlI 1 i)))]) ([c])=some (.own 0,[.arr 3 1 true (v.map ic)])/\(cc.length+1<=68719476736/\(Zw9 (cc++[v]) n c (w (i+1))=some r))))else(Zrg cc n c 0=some r)))))/\
 (((∀⦃cc n c i r⦄,Im (Zrg cc n c i=some r) (if i<n then(Zrh cc n c i (w (i+1))=some r)else(some (.own 0,[.arr 56 1 true (cc.map isc)])=some r)))/\
 (∀⦃cc n c i j r⦄,Im (Zrh cc n c i j=some r) (if j<n then(Znk cc n c i j 0=some r)else(Zrg cc n c (w (i+1))=some r))))/\
 ((∀⦃cc n c i j s r⦄,Im (Znk cc n c i j s=some r) (if s<=c then(¬i<0/\(if(andI (shrI s i) 1)=0 then(¬j<0/\(if(andI (shrI s j) 1)=0 then(∃(v:List Int),Zhw n ([s,(orI (orI s (shlI 1 i)) (shlI 1 j))]) ([(orI s (shlI 1 i)),(orI s (shlI 1 j))])=some (.own 0,[.arr 3 1 true (v.map ic)])/\(cc.length+1<=68719476736/\(Znk (cc++[v]) n c i j (w (s+1))=some r)))else(Znk cc n c i j (w (s+1))=some r)))else(Znk cc n c i j (w (s+1))=some r)))else(Zrh cc n c i (w (j+1))=some r)))/\
 (∀⦃a r⦄,Im (Zw8 a=some r) (∃v,Z0 a 1 4=some (Bo v,[])/\(if v=true then(¬a<0/\(Zw9 ([]:List (List Int)) a (w ((shlI 1 a)-1)) 0=some r))else(some (.own 0,[.arr 56 1 true (([]:List (List Int)).map isc)])=some r)))))):=by
 and_intros
 all_goals intros
 all_goals unfold Im
 all_goals try simp only[Znj,Zrf,Zw9,Zrg,Zrh,Znk,Zw8,Zhw,Z0,mpl,dfs]
 all_goals try simp only[itb]
 all_goals try simp only[itf,gS,kk]
 all_goals repeat' first|refine exI λ_=>?_|refine anJ λ_ _=>?_|refine anI λ_=>?_|refine orE2 ?_ ?_|exact False.elim
 all_goals (intro h;first|rw[Zd Zbgt.eq_1]|rw[Zd Zbgu.eq_1]|rw[Zd Zbgx.eq_1]|rw[Zd Zw6.eq_1]|rw[Zd Z30.eq_1]|rw[Zd Zbgy.eq_1]|refine run Zckh rfl ?_)
 all_goals (refine Yf ?_ h;clear h;simp +decide[*,kk,tI,tII,Zbv7,Zbgw,Zbv8,Zbgv,Zbg0,Zw7,Z31,Zbwa,Zbgz,Zbwb])
abbrev Zb2s:=Znz.1.1
abbrev Zb2t:=Znz.1.2.1
abbrev Zb2u:=Znz.1.2.2
abbrev Zb2v:=Znz.2.1.1
abbrev Zb2w:=Znz.2.1.2
abbrev Zb2x:=Znz.2.2.1
abbrev Zcri:=Znz.2.2.2
theorem Zcrj{a:Int}{a1 a2:List Int}{r:AV×List Blk}(h:(¬a<0/\(0<=(w ((shlI 1 a)-1))/\((w ((shlI 1 a)-1))<=(w ((shlI 1 a)-1))/\((w ((shlI 1 a)-1)).toNat*8<=room/\((w ((shlI 1 a)-1))<=140737488355328/\(Znj (List.replicate ((w ((shlI 1 a)-1))).toNat 0) a1 a2 0=some r))))))):Zhw a a1 a2=some r:=by
 unfold Zhw;refine run Zckg rfl ?_;obtain⟨q1,h⟩:=h;obtain⟨q2,h⟩:=h;obtain⟨q3,h⟩:=h;obtain⟨q4,h⟩:=h;have zq4:=q4;try simp at zq4
 obtain⟨q5,h⟩:=h;refine Yf ?_ h;clear h;simp +decide[*,Zbv9,tI,tII,Znj]
theorem Zdt:((((∀⦃p n k r⦄,Im (Zxb p n k=some r) (if k<n then(0<=k/\(∃e1,p.Objective[k.toNat]?=some e1/\(∃v1,Z0 e1 (-9) 9=some (Bo v1,[])/\(if v1=true then(Zxb p n (w (k+1))=some r)else(some (Bo false,[])=some r)))))else(Zri p n 0=some r)))/\
 (∀⦃p n i r⦄,Im (Zri p n i=some r) (if i<(p.Rows.length:Int)then(0<=i/\(∃e1,p.Rows[i.toNat]?=some e1/\(if(e1.length:Int)=n then(∃e2,p.Limits[i.toNat]?=some e2/\(∃v2,Z0 e2 0 99=some (Bo v2,[])/\(if v2=true then(Zxc p n i 0=some r)else(some (Bo false,[])=some r))))else(some (Bo false,[])=some r))))else(some (Bo true,[])=some r))))/\
 ((∀⦃p n i k r⦄,Im (Zxc p n i k=some r) (if k<n then(0<=i/\(∃e1,p.Rows[i.toNat]?=some e1/\(0<=k/\(∃e2,e1[k.toNat]?=some e2/\(∃v2,Z0 e2 (-9) 9=some (Bo v2,[])/\(if v2=true then(Zxc p n i (w (k+1))=some r)else(some (Bo false,[])=some r)))))))else(Zri p n (w (i+1))=some r)))/\
 (∀⦃a r⦄,Im (Zxa a=some r) (∃v,Z0 (a.Objective.length:Int) 1 15=some (Bo v,[])/\(if v=true then(if 64<(a.Rows.length:Int)then(some (Bo false,[])=some r)else(if(a.Rows.length:Int)=(a.Limits.length:Int)then(Zxb a (a.Objective.length:Int) 0=some r)else(some (Bo false,[])=some r)))else(some (Bo false,[])=some r))))))/\
 (((∀⦃x x1 x2 l n cn i r⦄,Im (Zrj x x1 x2 l n cn i=some r) (if i<(l.length:Int)then(0<=i/\(∃e1,l[i.toNat]?=some e1/\(∃v1,Z0 e1.To 1 cn=some (Bo v1,[])/\(if v1=true then(∃v2,Z0 e1.From 0 cn=some (Bo v2,[])/\(if v2=true then(if(andI e1.From e1.To)=e1.From then(if e1.From=e1.To then(some (.tup [.agg [.own 0,.own 1,.own 2],Bo false],[.arr 3 1 true (([]:List Int).map ic),.arr 56 1 true (([]:List (List Int)).map isc),.arr 3 1 true (([]:List Int).map ic)])=some r)else(if 64<=i then(some (.tup [.agg [.own 0,.own 1,.own 2],Bo false],[.arr 3 1 true (([]:List Int).map ic),.arr 56 1 true (([]:List (List Int)).map isc),.arr 3 1 true (([]:List Int).map ic)])=some r)else(∃(v3:List Int),Zhw n ([e1.To]) ([e1.From])=some (.own 0,[.arr 3 1 true (v3.map ic)])/\(x1.length+1<=68719476736/\(x2.length+1<=68719476736/\(Zrj x (x1++[v3]) (x2++[e1.Bits]) l n cn (w (i+1))=some r))))))else(some (.tup [.agg [.own 0,.own 1,.own 2],Bo false],[.arr 3 1 true (([]:List Int).map ic),.arr 56 1 true (([]:List (List Int)).map isc),.arr 3 1 true (([]:List Int).map ic)])=some r))else(some (.tup [.agg [.own 0,.own 1,.own 2],Bo false],[.arr 3 1 true (([]:List Int).map ic),.arr 56 1 true (([]:List (List Int)).map isc),.arr 3 1 true (([]:List Int).map ic)])=some r)))else(some (.tup [.agg [.own 0,.own 1,.own 2],Bo false],[.arr 3 1 true (([]:List Int).map ic),.arr 56 1 true (([]:List (List Int)).map isc),.arr 3 1 true (([]:List Int).map ic)])=some r)))))else(∃v7,Zxa (⟨x,x1,x2⟩:Program)=some (Bo v7,[])/\(if v7=true then(some (.tup [.agg [.own 0,.own 1,.own 2],Bo true],[.arr 3 1 true (x.map ic),.arr 56 1 true (x1.map isc),.arr 3 1 true (x2.map ic)])=some r)else(some (.tup [.agg [.own 0,.own 1,.own 2],Bo false],[.arr 3 1 true (([]:List Int).map ic),.arr 56 1 true (([]:List (List Int)).map isc),.arr 3 1 true (([]:List Int).map ic)])=some r)))))/\
 (∀⦃a a1 a2 r⦄,Im (Z34 a a1 a2=some r) (∃(v:List Zm),Zw2 a a1 a2=some (.own 0,[.arr 251 3 true (v.map Zm.c)])/\(if(v.length:Int)=0 then(some (.tup [.agg [.own 0,.own 1,.own 2],Bo false],[.arr 3 1 true (([]:List Int).map ic),.arr 56 1 true (([]:List (List Int)).map isc),.arr 3 1 true (([]:List Int).map ic)])=some r)else(∃(v1:List Int),Znd a1 a2=some (.own 0,[.arr 3 1 true (v1.map ic)])/\(∃(v2:List Zm),Zw4 v v1=some (.own 0,[.arr 251 3 true (v2.map Zm.c)])/\(∃(v3:List Int),∃(v4:List (List Int)),∃(v5:List Int),∃v6,Znm v2 (v1.length:Int)=some (.tup [.agg [.own 0,.own 1,.own 2],Bo v6],[.arr 3 1 true (v3.map ic),.arr 56 1 true (v4.map isc),.arr 3 1 true (v5.map ic)])/\(some (.tup [.agg [.own 0,.own 1,.own 2],Bo v6],[.arr 3 1 true (v3.map ic),.arr 56 1 true (v4.map isc),.arr 3 1 true (v5.map ic)])=some r))))))))/\
 ((∀⦃a r⦄,Im (Zcb a=some r) (some (.agg [I a,I 1],[])=some r))/\
 (∀⦃p cd cc n k r⦄,Im (Zbg9 p cd cc n k=some r) (if k<n then(0<=k/\(∃e1,p.Objective[k.toNat]?=some e1/\(∃(v1:Za),Zcb e1=some (.agg (v1.c.map .t),[])/\(Zxe p cd cc ([k]) ([v1]) n (w (k+1))=some r))))else(Zbwg p cd cc n 0=some r))))))/\
 ((((∀⦃p cd cc x x1 n k r⦄,Im (Zxe p cd cc x x1 n k=some r) (if k<n then(x.length+1<=68719476736/\(0<=k/\(∃e1,p.Objective[k.toNat]?=some e1/\(∃(v1:Za),Zcb e1=some (.agg (v1.c.map .t),[])/\(x1.length+1<=68719476736/\(Zxe p cd cc (x++[k]) (x1++[v1]) n (w (k+1))=some r))))))else(Zbha p cd cc x x1 n 0=some r)))/\
 (∀⦃p cd cc x x1 n i r⦄,Im (Zbha p cd cc x x1 n i=some r) (if i<(p.Rows.length:Int)then(Zxf p cd cc x x1 ([]:List Za) n i 0=some r)else(some (.tup [.agg [.own 0,.own 1,.own 2,.own 3,.own 4,I cc.Num,I cc.Den],Bo true],[.arr 3 1 true (([]:List Int).map ic),.arr 3 1 true (x.map ic),.arr 179 1 true (([]:List (List Za)).map (lc 2 Za.c)),.arr 149 2 true (([]:List Za).map Za.c),.arr 149 2 true (x1.map Za.c)])=some r))))/\
 ((∀⦃p cd cc x x1 cl n i k r⦄,Im (Zxf p cd cc x x1 cl n i k=some r) (if k<n then(0<=i/\(∃e1,p.Rows[i.toNat]?=some e1/\(0<=k/\(∃e2,e1[k.toNat]?=some e2/\(∃(v2:Za),Zcb e2=some (.agg (v2.c.map .t),[])/\(cl.length+1<=68719476736/\(Zxf p cd cc x x1 (cl++[v2]) n i (w (k+1))=some r)))))))else(0<=i/\(∃e4,p.Limits[i.toNat]?=some e4/\(∃(v7:Za),Zcb e4=some (.agg (v7.c.map .t),[])/\(Znp p cd cc ([(w (n+i))]) x ([cl]) ([v7]) x1 n (w (i+1))=some r))))))/\
 (∀⦃p cd cc x x1 x2 x3 x4 n i r⦄,Im (Znp p cd cc x x1 x2 x3 x4 n i=some r) (if i<(p.Rows.length:Int)then(Zxg p cd cc x x1 x2 x3 x4 ([]:List Za) n i 0=some r)else(some (.tup [.agg [.own 0,.own 1,.own 2,.own 3,.own 4,I cc.Num,I cc.Den],Bo true],[.arr 3 1 true (x.map ic),.arr 3 1 true (x1.map ic),.arr 179 1 true (x2.map (lc 2 Za.c)),.arr 149 2 true (x3.map Za.c),.arr 149 2 true (x4.map Za.c)])=some r)))))/\
 (((∀⦃p cd cc x x1 x2 x3 x4 cl n i k r⦄,Im (Zxg p cd cc x x1 x2 x3 x4 cl n i k=some r) (if k<n then(0<=i/\(∃e1,p.Rows[i.toNat]?=some e1/\(0<=k/\(∃e2,e1[k.toNat]?=some e2/\(∃(v2:Za),Zcb e2=some (.agg (v2.c.map .t),[])/\(cl.length+1<=68719476736/\(Zxg p cd cc x x1 x2 x3 x4 (cl++[v2]) n i (w (k+1))=some r)))))))else(x.length+1<=68719476736/\(x2.length+1<=68719476736/\(0<=i/\(∃e4,p.Limits[i.toNat]?=some e4/\(∃(v7:Za),Zcb e4=some (.agg (v7.c.map .t),[])/\(x3.length+1<=68719476736/\(Znp p cd cc (x++[(w (n+i))]) x1 (x2++[cl]) (x3++[v7]) x4 n (w (i+1))=some r)))))))))/\
 (∀⦃a r⦄,Im (Zxd a=some r) (∃v,Zxa a=some (Bo v,[])/\(if v=true then(∃(v1:Za),Zcb 0=some (.agg (v1.c.map .t),[])/\(Zbg9 a (⟨0,0⟩:Za) v1 (a.Objective.length:Int) 0=some r))else(some (.tup [.agg [.own 0,.own 1,.own 2,.own 3,.own 4,I 0,I 0],Bo false],[.arr 3 1 true (([]:List Int).map ic),.arr 3 1 true (([]:List Int).map ic),.arr 179 1 true (([]:List (List Za)).map (lc 2 Za.c)),.arr 149 2 true (([]:List Za).map Za.c),.arr 149 2 true (([]:List Za).map Za.c)])=some r)))))/\
 ((∀⦃a r⦄,Im (Zkv a=some r) (if a<0 then(some (I (w (0-a)),[])=some r)else(some (I a,[])=some r)))/\
 ((∀⦃a b r⦄,Im (Zxh a b=some r) (if b=0 then(some (I a,[])=some r)else(¬b=0/\(Zxh b (Int.tmod a b)=some r))))/\
 (∀⦃a a1 r⦄,Im (Zkw a a1=some r) (Zxh a a1=some r)))))):=by
 and_intros
 all_goals intros
 all_goals unfold Im
 all_goals try simp only[Zxb,Zri,Zxc,Zxa,Zrj,Z34,Zcb,Zbg9,Zxe,Zbha,Zxf,Znp,Zxg,Zxd,Zkv,Zxh,Zkw,Z0,Zhw,Program.c_def,Zw2,Znd,Zw4,Znm,Zl.c_def,Zi.c_def,Zb.c_def,Zm.c_def,Zf.c_def,Za.c_def,Zbwg,mpl,dfs]
 all_goals try simp only[itb]
 all_goals try simp only[itf,gS,kk]
 all_goals repeat' first|refine exI λ_=>?_|refine anJ λ_ _=>?_|refine anI λ_=>?_|refine orE2 ?_ ?_|exact False.elim
 all_goals (intro h;first|rw[Zd Zbg1.eq_1]|rw[Zd Z32.eq_1]|rw[Zd Zbg2.eq_1]|refine run Zcki rfl ?_|rw[Zd Zbg6.eq_1]|refine run Zckk rfl ?_|refine run Zckl rfl ?_|rw[Zd Z35.eq_1]|rw[Zd Znn.eq_1]|rw[Zd Z36.eq_1]|refine run Zckm rfl ?_|refine run Zckn rfl ?_|rw[Zd Zbhc.eq_1]|refine run Zcko rfl ?_)
 all_goals (refine Yf ?_ h;clear h;simp +decide[*,kk,tI,tII,Zbg4,Z33,Zbg3,Zbwc,Zbg7,Zbwd,Zbwe,Z39,Zno,Z38,Z37,Zbwf,Zbwh,Zbhd,Zbwi])
abbrev Zb2y:=Zdt.1.1.1.1
abbrev Zb2z:=Zdt.1.1.1.2
abbrev Zb20:=Zdt.1.1.2.1
abbrev Zcrk:=Zdt.1.1.2.2
abbrev Zb21:=Zdt.1.2.1.1
abbrev Zbjs:=Zdt.1.2.1.2
abbrev Zcrl:=Zdt.1.2.2.1
abbrev Zcrm:=Zdt.1.2.2.2
abbrev Zb22:=Zdt.2.1.1.1
abbrev Zcrn:=Zdt.2.1.1.2
abbrev Zb23:=Zdt.2.1.2.1
abbrev Zb24:=Zdt.2.1.2.2
abbrev Zb25:=Zdt.2.2.1.1
abbrev Zcro:=Zdt.2.2.1.2
abbrev Zcrp:=Zdt.2.2.2.1
abbrev Zb26:=Zdt.2.2.2.2.1
abbrev Zcrq:=Zdt.2.2.2.2.2
theorem Zb27{a:List Zm}{a1:Int}{r:AV×List Blk}(h:(∃(v:Bool),Z0 a1 1 4=some (Bo v,[])/\(if v=true then(¬a1<0/\(∃(v1:List Int),Zhw a1 ([(w ((shlI 1 a1)-1))]) ([]:List Int)=some (.own 0,[.arr 3 1 true (v1.map ic)])/\(∃(v2:List (List Int)),Zw8 a1=some (.own 0,[.arr 56 1 true (v2.map isc)])/\(0<=(v2.length:Int)/\((v2.length:Int)<=(v2.length:Int)/\((v2.length:Int).toNat*8<=room/\((v2.length:Int)<=140737488355328/\(Zrj v1 v2 (List.replicate ((v2.length:Int)).toNat 0) a a1 (w ((shlI 1 a1)-1)) 0=some r))))))))else(some (.tup [.agg [.own 0,.own 1,.own 2],Bo false],[.arr 3 1 true (([]:List Int).map ic),.arr 56 1 true (([]:List (List Int)).map isc),.arr 3 1 true (([]:List Int).map ic)])=some r)))):Znm a a1=some r:=by
 unfold Znm;refine run Zckj rfl ?_;obtain⟨v,q1,h⟩:=h;unfold Z0 at q1
 try simp at q1
 by_cases q2:v=true
 .rw[if_pos q2]at h;obtain⟨q3,h⟩:=h;obtain⟨v1,q4,h⟩:=h;unfold Zhw at q4
  try simp at q4
  obtain⟨v2,q5,h⟩:=h;unfold Zw8 at q5
  try simp at q5
  obtain⟨q6,h⟩:=h;have zq6:=q6;try simp at zq6
  obtain⟨q7,h⟩:=h;have zq7:=q7;try simp at zq7
  obtain⟨q8,h⟩:=h;have zq8:=q8;try simp at zq8
  obtain⟨q9,h⟩:=h;have zq9:=q9;try simp at zq9
  refine Yf ?_ h;clear h;simp +decide[*,Zbg8,tI,tII,Zrj]
 .rw[if_neg q2]at h;refine Yf ?_ h;clear h;simp +decide[*,Zbg8,tI,tII]
theorem Zd3:((((∀⦃a r⦄,Im (Zcn a=some r) (∃v,Z0 a.Den 1 2147483647=some (Bo v,[])/\(if v=true then(∃v2,Z0 a.Num (-2147483647) 2147483647=some (Bo v2,[])/\(if v2=true then(∃v4,Zkv a.Num=some (I v4,[])/\(∃v6,Zkw v4 a.Den=some (I v6,[])/\(some (Bo (decide (v6=1)),[])=some r)))else(some (Bo false,[])=some r)))else(some (Bo false,[])=some r))))/\
 (∀⦃l i r⦄,Im (Zxi l i=some r) (if i<(l.length:Int)then(0<=i/\(∃e1,l[i.toNat]?=some e1/\(∃v2,Zcn e1=some (Bo v2,[])/\(if v2=true then(Zxi l (w (i+1))=some r)else(some (Bo false,[])=some r)))))else(some (Bo true,[])=some r))))/\
 ((∀⦃a r⦄,Im (Zrk a=some r) (Zxi a 0=some r))/\
 (∀⦃d all m n i r⦄,Im (Zxk d all m n i=some r) (if i<(w (m+n))then(∃v,Zes all i=some (Bo v,[])/\(if v=true then(Zxk d all m n (w (i+1))=some r)else(some (Bo false,[])=some r)))else(Zxl d m n 0=some r)))))/\
 (((∀⦃d m n i r⦄,Im (Zxl d m n i=some r) (if i<m then(0<=i/\(∃e1,d.Cells[i.toNat]?=some e1/\(if(e1.length:Int)=n then(∃v2,Zrk e1=some (Bo v2,[])/\(if v2=true then(Zxl d m n (w (i+1))=some r)else(some (Bo false,[])=some r)))else(some (Bo false,[])=some r))))else(∃v4,Zrk d.Limits=some (Bo v4,[])/\(if v4=true then(∃v6,Zrk d.Costs=some (Bo v6,[])/\(if v6=true then(∃v8,Zcn d.Value=some (Bo v8,[])/\(some (Bo v8,[])=some r))else(some (Bo false,[])=some r)))else(some (Bo false,[])=some r)))))/\
 (∀⦃a r⦄,Im (Znq a=some r) (if 64<(a.Basic.length:Int)then(some (Bo false,[])=some r)else(∃v,Z0 (a.Free.length:Int) 1 15=some (Bo v,[])/\(if v=true then(if(a.Cells.length:Int)=(a.Basic.length:Int)then(if(a.Limits.length:Int)=(a.Basic.length:Int)then(if(a.Costs.length:Int)=(a.Free.length:Int)then(a.Basic.length<=68719476736/\(a.Basic.length+a.Free.length<=68719476736/\(Zxk a (a.Basic++a.Free) (a.Basic.length:Int) (a.Free.length:Int) 0=some r)))else(some (Bo false,[])=some r))else(some (Bo false,[])=some r))else(some (Bo false,[])=some r))else(some (Bo false,[])=some r))))))/\
 ((∀⦃d cc j r⦄,Im (Zkx d cc j=some r) (if j<(d.Free.length:Int)then(0<=j/\(∃e1,d.Costs[j.toNat]?=some e1/\(if 0<e1.Num then(if cc<0 then(Zkx d j (w (j+1))=some r)else(∃e2,d.Free[j.toNat]?=some e2/\(0<=cc/\(∃e3,d.Free[cc.toNat]?=some e3/\(if e2<e3 then(Zkx d j (w (j+1))=some r)else(Zkx d cc (w (j+1))=some r))))))else(Zkx d cc (w (j+1))=some r))))else(some (I cc,[])=some r)))/\
 (∀⦃a r⦄,Im (Zxm a=some r) (∃v,Znq a=some (Bo v,[])/\(if v=true then(Zkx a (-1) 0=some r)else(some (I (-1),[])=some r)))))))/\
 ((((∀⦃a a1 r⦄,Im (Zkz a a1=some r) (∃v,Zcn a=some (Bo v,[])/\(if v=true then(∃v2,Zcn a1=some (Bo v2,[])/\(if v2=true then(if a1.Num=0 then(some (.tup [.agg [I 0,I 0],Bo false],[])=some r)else(∃(v4:Za),∃v5,Zky (w (a.Num*a1.Den)) (w (a.Den*a1.Num))=some (.tup [.agg (v4.c.map .t),Bo v5],[])/\(some (.tup [.agg (v4.c.map .t),Bo v5],[])=some r)))else(some (.tup [.agg [I 0,I 0],Bo false],[])=some r)))else(some (.tup [.agg [I 0,I 0],Bo false],[])=some r))))/\
 (∀⦃a a1 r⦄,Im (Z4b a a1=some r) (∃v,Zcn a=some (Bo v,[])/\(if v=true then(∃v2,Zcn a1=some (Bo v2,[])/\(if v2=true then(if(w (a.Num*a1.Den))<(w (a1.Num*a.Den))then(some (I (-1),[])=some r)else(if(w (a1.Num*a.Den))<(w (a.Num*a1.Den))then(some (I 1,[])=some r)else(some (I 0,[])=some r)))else(some (I 0,[])=some r)))else(some (I 0,[])=some r)))))/\
 ((∀⦃d cd j cc i r⦄,Im (Zhy d cd j cc i=some r) (if i<(d.Basic.length:Int)then(0<=i/\(∃e1,d.Cells[i.toNat]?=some e1/\(0<=j/\(∃e2,e1[j.toNat]?=some e2/\(if e2.Num<=0 then(Zhy d cd j cc (w (i+1))=some r)else(∃e3,d.Limits[i.toNat]?=some e3/\(∃(v6:Za),∃v7,Zkz e3 e2=some (.tup [.agg (v6.c.map .t),Bo v7],[])/\(if v7=true then(∃v8,Z4b v6 cd=some (I v8,[])/\(if cc<0 then(Zhy d v6 j i (w (i+1))=some r)else(if v8<0 then(Zhy d v6 j i (w (i+1))=some r)else(if v8=0 then(∃e6,d.Basic[i.toNat]?=some e6/\(0<=cc/\(∃e7,d.Basic[cc.toNat]?=some e7/\(if e6<e7 then(Zhy d v6 j i (w (i+1))=some r)else(Zhy d cd j cc (w (i+1))=some r)))))else(Zhy d cd j cc (w (i+1))=some r)))))else(some (I (-1),[])=some r)))))))))else(some (I cc,[])=some r)))/\
 (∀⦃a a1 r⦄,Im (Zxn a a1=some r) (∃v,Znq a=some (Bo v,[])/\(if v=true then(∃v2,Z0 a1 0 (w ((a.Free.length:Int)-1))=some (Bo v2,[])/\(if v2=true then(Zhy a (⟨0,0⟩:Za) a1 (-1) 0=some r)else(some (I (-1),[])=some r)))else(some (I (-1),[])=some r))))))/\
 (((∀⦃a a1 r⦄,Im (Zi0 a a1=some r) (∃v,Zcn a=some (Bo v,[])/\(if v=true then(∃v2,Zcn a1=some (Bo v2,[])/\(if v2=true then(∃(v4:Za),∃v5,Zky (w (a.Num*a1.Num)) (w (a.Den*a1.Den))=some (.tup [.agg (v4.c.map .t),Bo v5],[])/\(some (.tup [.agg (v4.c.map .t),Bo v5],[])=some r))else(some (.tup [.agg [I 0,I 0],Bo false],[])=some r)))else(some (.tup [.agg [I 0,I 0],Bo false],[])=some r))))/\
 (∀⦃a a1 r⦄,Im (Z4d a a1=some r) (∃v,Zcn a=some (Bo v,[])/\(if v=true then(∃v2,Zcn a1=some (Bo v2,[])/\(if v2=true then(∃(v4:Za),∃v5,Zky (w ((w (a.Num*a1.Den))-(w (a1.Num*a.Den)))) (w (a.Den*a1.Den))=some (.tup [.agg (v4.c.map .t),Bo v5],[])/\(some (.tup [.agg (v4.c.map .t),Bo v5],[])=some r))else(some (.tup [.agg [I 0,I 0],Bo false],[])=some r)))else(some (.tup [.agg [I 0,I 0],Bo false],[])=some r)))))/\
 ((∀⦃a a1 a2 r⦄,Im (Zco a a1 a2=some r) (if a1.Num=0 then(some (.tup [.agg (a.c.map .t),Bo true],[])=some r)else(if a2.Num=0 then(some (.tup [.agg (a.c.map .t),Bo true],[])=some r)else(∃(v:Za),∃v1,Zi0 a1 a2=some (.tup [.agg (v.c.map .t),Bo v1],[])/\(∃(v2:Za),∃v3,Z4d a v=some (.tup [.agg (v2.c.map .t),Bo v3],[])/\(if v1=true then(some (.tup [.agg (v2.c.map .t),Bo v3],[])=some r)else(some (.tup [.agg (v2.c.map .t),Bo false],[])=some r)))))))/\
 (∀⦃a a1 r⦄,Im (Zk0 a a1=some r) (∃v,Zcn a=some (Bo v,[])/\(if v=true then(∃v2,Zcn a1=some (Bo v2,[])/\(if v2=true then(∃(v4:Za),∃v5,Zky (w ((w (a.Num*a1.Den))+(w (a1.Num*a.Den)))) (w (a.Den*a1.Den))=some (.tup [.agg (v4.c.map .t),Bo v5],[])/\(some (.tup [.agg (v4.c.map .t),Bo v5],[])=some r))else(some (.tup [.agg [I 0,I 0],Bo false],[])=some r)))else(some (.tup [.agg [I 0,I 0],Bo false],[])=some r))))))):=by
 and_intros
 all_goals intros
 all_goals unfold Im
 all_goals try simp only[Zcn,Zxi,Zrk,Zxk,Zxl,Znq,Zkx,Zxm,Zkz,Z4b,Zhy,Zxn,Zi0,Z4d,Zco,Zk0,Z0,Zkv,Zkw,Za.c_def,Zes,Zn.c_def,Zky,mpl,dfs]
 all_goals try simp only[itb]
 all_goals try simp only[itf,gS,kk]
 all_goals repeat' first|refine exI λ_=>?_|refine anJ λ_ _=>?_|refine anI λ_=>?_|refine orE2 ?_ ?_|exact False.elim
 all_goals (intro h;first|refine run Zckp rfl ?_|rw[Zd Zbhf.eq_1]|refine run Zckq rfl ?_|rw[Zd Zbhh.eq_1]|rw[Zd Zbhi.eq_1]|refine run Zckr rfl ?_|rw[Zd Zbhl.eq_1]|refine run Zcks rfl ?_|refine run Zcku rfl ?_|refine run Zckv rfl ?_|rw[Zd Zbhn.eq_1]|refine run Zckw rfl ?_|refine run Zckx rfl ?_|refine run Zcky rfl ?_|refine run Zckz rfl ?_|refine run Zck0 rfl ?_)
 all_goals (refine Yf ?_ h;clear h;simp +decide[*,kk,tI,tII,Zbwj,Zbhg,Zbwk,Zbhk,Zbhj,Zbwl,Zbwm,Zbhm,Zbwn,Zbwr,Zbws,Zbwt,Zbho,Zbwu,Zbwv,Zbww,Zbwx,Zbwy])
abbrev Zcrr:=Zd3.1.1.1.1
abbrev Zb28:=Zd3.1.1.1.2
abbrev Zcrs:=Zd3.1.1.2.1
abbrev Zb29:=Zd3.1.1.2.2
abbrev Zb3a:=Zd3.1.2.1.1
abbrev Zcrt:=Zd3.1.2.1.2
abbrev Zb3b:=Zd3.1.2.2.1
abbrev Zcru:=Zd3.1.2.2.2
abbrev Zcrv:=Zd3.2.1.1.1
abbrev Zcrw:=Zd3.2.1.1.2
abbrev Zb3c:=Zd3.2.1.2.1
abbrev Zcrx:=Zd3.2.1.2.2
abbrev Zcry:=Zd3.2.2.1.1
abbrev Zcrz:=Zd3.2.2.1.2
abbrev Zcr0:=Zd3.2.2.2.1
abbrev Zcr1:=Zd3.2.2.2.2
theorem Zcr2{a a1:Int}{r:AV×List Blk}(h:(if a1=0 then(some (.tup [.agg [I 0,I 0],Bo false],[])=some r)else(if a<(-9223372036854775807)then(some (.tup [.agg [I 0,I 0],Bo false],[])=some r)else(if a1<(-9223372036854775807)then(some (.tup [.agg [I 0,I 0],Bo false],[])=some r)else(if a1<0 then(∃(v:Int),Zkv (w (0-a))=some (I v,[])/\(∃(v1:Int),Zkw v (w (0-a1))=some (I v1,[])/\(¬v1=0/\(∃(v2:Bool),Zcn (⟨(w (Int.tdiv (w (0-a)) v1)),(w (Int.tdiv (w (0-a1)) v1))⟩:Za)=some (Bo v2,[])/\(if v2=true then(some (.tup [.agg [I (w (Int.tdiv (w (0-a)) v1)),I (w (Int.tdiv (w (0-a1)) v1))],Bo true],[])=some r)else(some (.tup [.agg [I 0,I 0],Bo false],[])=some r))))))else(∃(v3:Int),Zkv a=some (I v3,[])/\(∃(v4:Int),Zkw v3 a1=some (I v4,[])/\(¬v4=0/\(∃(v5:Bool),Zcn (⟨(w (Int.tdiv a v4)),(w (Int.tdiv a1 v4))⟩:Za)=some (Bo v5,[])/\(if v5=true then(some (.tup [.agg [I (w (Int.tdiv a v4)),I (w (Int.tdiv a1 v4))],Bo true],[])=some r)else(some (.tup [.agg [I 0,I 0],Bo false],[])=some r))))))))))):Zky a a1=some r:=by
 unfold Zky;refine run Zckt rfl ?_;simp only[Zkv,Zkw,Zcn,Za.c_def,mpl,dfs]at h
 try simp only[itb]at h
 try simp only[itf,gS,kk]at h
 rcases h with⟨q1,h⟩|⟨q1,(⟨q2,h⟩|⟨q2,(⟨q3,h⟩|⟨q3,(⟨q4,v,q5,v1,q6,q7,v2,q8,(⟨q9,h⟩|⟨q9,h⟩)⟩|⟨q4,v3,q10,v4,q11,q12,v5,q13,(⟨q14,h⟩|⟨q14,h⟩)⟩)⟩)⟩)⟩
 all_goals (try simp only[Int.zero_sub]at *)
 all_goals (refine Yf ?_ h;clear h;simp +decide[*,kk,tI,tII,Zbwq,Zbwp])
end Go.Proofs.YtnnjbejcffjgfaaGreat
