/-
  Parts of the proofs for this seat: G16 G17 G18 G19.
-/
import Derived.Test.YtnnjbejcffjgfaaGreatP11
import Derived.Test.YtnnjbejcffjgfaaGreatP12
set_option linter.unusedSimpArgs false
set_option linter.unusedVariables false
set_option maxRecDepth 100000
set_option maxHeartbeats 4000000
namespace Go.Proofs.YtnnjbejcffjgfaaGreat
open Go.AM
theorem Zc7:((((∀⦃a a1 a2 r⦄,Im (Zf3 a a1 a2=some r) (0<=a2/\(∃e1,a1.Atoms[a2.toNat]?=some e1/\(∃(v5:List Zf),∃v6,∃v7,∃v8,∃v9,Zte a.Zn e1.Name=some (.tup [.agg [.t (.str v6),I v7,I v8,.own 0],Bo v9],[.arr 200 3 true (v5.map Zf.c)])/\(some (.agg [.t (.str v6),I v7,I v8,.own 0],[.arr 200 3 true (v5.map Zf.c)])=some r)))))/\
 (∀⦃s q cc n i r⦄,Im (Zoi s q cc n i=some r) (if i<(q.Atoms.length:Int)then(¬i<0/\(if(andI (shrI cc i) 1)=1 then(∃(v1:List Zf),∃v2,∃v3,∃v4,Zf3 s q i=some (.agg [.t (.str v2),I v3,I v4,.own 0],[.arr 200 3 true (v1.map Zf.c)])/\(Zoi s q cc (w (n*v4)) (w (i+1))=some r))else(Zoi s q cc n (w (i+1))=some r)))else(some (I n,[])=some r))))/\
 ((∀⦃a a1 a2 r⦄,Im (Ztf a a1 a2=some r) (∃v1,Zfr a a1 a2=some (Bo v1,[])/\(if v1=true then(Zoi a a1 a2 1 0=some r)else(some (I (-1),[])=some r))))/\
 (∀⦃q cc x i r⦄,Im (Zk8 q cc x i=some r) (if i<(q.Atoms.length:Int)then(Zok q cc x i 0=some r)else(some (I x,[])=some r)))))/\
 (((∀⦃q cc x i k r⦄,Im (Zok q cc x i k=some r) (0<=i/\(∃e1,q.Atoms[i.toNat]?=some e1/\(if k<(e1.Vars.length:Int)then(¬i<0/\(if(andI (shrI cc i) 1)=1 then(0<=k/\(∃e2,e1.Vars[k.toNat]?=some e2/\(¬e2<0/\(Zok q cc (orI x (shlI 1 e2)) i (w (k+1))=some r))))else(Zk8 q cc x (w (i+1))=some r)))else(Zk8 q cc x (w (i+1))=some r)))))/\
 (∀⦃a a1 r⦄,Im (Zoj a a1=some r) (Zk8 a a1 0 0=some r)))/\
 ((∀⦃cd co v r⦄,Im (Zom cd co v=some r) (if v<4 then(¬v<0/\(if(andI (shrI co v) 1)=1 then(cd.length+1<=68719476736/\(Zom (cd++[v]) co (w (v+1))=some r))else(Zom cd co (w (v+1))=some r)))else(some (.own 0,[.arr 3 1 true (cd.map ic)])=some r)))/\
 ((∀⦃a r⦄,Im (Zol a=some r) (Zom ([]:List Int) a 0=some r))/\
 (∀⦃a cd cp i r⦄,Im (Zon a cd cp i=some r) (if i<(a.Vars.length:Int)then(0<=i/\(∃e1,a.Vars[i.toNat]?=some e1/\(∃v5,Ze1 cp e1=some (Bo v5,[])/\(if v5=true then(cd.length+1<=68719476736/\(Zon a (cd++[i]) cp (w (i+1))=some r))else(Zon a cd cp (w (i+1))=some r)))))else(some (.own 0,[.arr 3 1 true (cd.map ic)])=some r)))))))/\
 ((((∀⦃a a1 r⦄,Im (Zk9 a a1=some r) (Zon a ([]:List Int) a1 0=some r))/\
 (∀⦃cd l i r⦄,Im (Zho cd l i=some r) (if i<(l.length:Int)then(Zla cd l i (cd.length:Int)=some r)else(some (.own 0,[.arr 3 1 true (cd.map ic)])=some r))))/\
 ((∀⦃a r⦄,Im (Zy2 a=some r) (Zho ([]:List Int) a 0=some r))/\
 (∀⦃s cu i r⦄,Im (Ztg s cu i=some r) (if i<(s.Groups.length:Int)then(0<=i/\(∃e1,s.Groups[i.toNat]?=some e1/\(∃v5,Zdn e1.Columns cu=some (I v5,[])/\(if v5=0 then(∃(v10:List Int),Zy2 e1.Counts=some (.own 0,[.arr 3 1 true (v10.map ic)])/\(some (.own 0,[.arr 3 1 true (v10.map ic)])=some r))else(Ztg s cu (w (i+1))=some r)))))else(some (.own 0,[.arr 3 1 true (([]:List Int).map ic)])=some r)))))/\
 (((∀⦃a a1 r⦄,Im (Zoo a a1=some r) (if(a1.length:Int)=0 then(if a.RowCount=0 then(some (.own 0,[.arr 3 1 true (([]:List Int).map ic)])=some r)else(some (.own 0,[.arr 3 1 true (([a.RowCount]).map ic)])=some r))else(Ztg a a1 0=some r)))/\
 (∀⦃q s cc cl cn i r⦄,Im (Zhp q s cc cl cn i=some r) (if i<(q.Atoms.length:Int)then(¬i<0/\(if(andI (shrI cc i) 1)=1 then(if(andI (shrI cl i) 1)=0 then(0<=i/\(∃e1,s[i.toNat]?=some e1/\(∃e2,q.Atoms[i.toNat]?=some e2/\(∃v10,Zoj q cl=some (I v10,[])/\(∃(v11:List Int),Zol v10=some (.own 0,[.arr 3 1 true (v11.map ic)])/\(∃(v12:List Int),Zk9 e2 v11=some (.own 0,[.arr 3 1 true (v12.map ic)])/\(∃(v13:List Int),Zoo e1 v12=some (.own 0,[.arr 3 1 true (v13.map ic)])/\(v13.length+1<=68719476736/\(∃e7,(v13++[0])[0]?=some e7/\(∃v14,Zop s q cc (orI cl (shlI 1 i))=some (I v14,[])/\(if cn<0 then(Zhp q s cc cl (w (e7*v14)) (w (i+1))=some r)else(if(w (e7*v14))<cn then(Zhp q s cc cl (w (e7*v14)) (w (i+1))=some r)else(Zhp q s cc cl cn (w (i+1))=some r)))))))))))))else(Zhp q s cc cl cn (w (i+1))=some r))else(Zhp q s cc cl cn (w (i+1))=some r)))else(some (I cn,[])=some r))))/\
 ((∀⦃a a1 a2 a3 r⦄,Im (Zop a a1 a2 a3=some r) (if a3=a2 then(some (I 1,[])=some r)else(Zhp a1 a a2 a3 (-1) 0=some r)))/\
 ((∀⦃s q l cc i r⦄,Im (Zti s q l cc i=some r) (if i<(q.Atoms.length:Int)then(∃(v1:List Zf),∃v2,∃v3,∃v4,Zf3 s q i=some (.agg [.t (.str v2),I v3,I v4,.own 0],[.arr 200 3 true (v1.map Zf.c)])/\(l.length+1<=68719476736/\(Zti s q (l++[(⟨v2,v3,v4,v1⟩:Zd)]) cc (w (i+1))=some r)))else(∃v5,Zop l q cc 0=some (I v5,[])/\(some (I v5,[])=some r))))/\
 (∀⦃a a1 a2 r⦄,Im (Zth a a1 a2=some r) (∃v1,Zfr a a1 a2=some (Bo v1,[])/\(if v1=true then(Zti a a1 ([]:List Zd) a2 0=some r)else(some (I (-1),[])=some r)))))))):=by
 and_intros
 all_goals intros
 all_goals unfold Im
 all_goals try simp only[Zf3,Zoi,Ztf,Zk8,Zok,Zoj,Zom,Zol,Zon,Zk9,Zho,Zy2,Ztg,Zoo,Zhp,Zop,Zti,Zth,Zte,Zn.c_def,Zh.c_def,Zg.c_def,Zj.c_def,Zfr,Ze1,Zdn,Atom.c_def,Zd.c_def,Zla,mpl,dfs]
 all_goals try simp only[itb]
 all_goals try simp only[itf,gS,kk]
 all_goals repeat' first|refine exI λ_=>?_|refine anJ λ_ _=>?_|refine anI λ_=>?_|refine orE2 ?_ ?_|exact False.elim
 all_goals (intro h;first|refine run Zb6h rfl ?_|rw[Ze Z75.eq_1]|refine run Zb6i rfl ?_|rw[Ze Zyw.eq_1]|rw[Ze Z77.eq_1]|refine run Zb6j rfl ?_|rw[Ze Z79.eq_1]|refine run Zb6k rfl ?_|rw[Ze Z8b.eq_1]|refine run Zb6l rfl ?_|rw[Ze Zy0.eq_1]|refine run Zb6m rfl ?_|rw[Ze Z8e.eq_1]|refine run Zb6n rfl ?_|rw[Ze Z8g.eq_1]|refine run Zb6o rfl ?_|rw[Ze Z8i.eq_1]|refine run Zb6p rfl ?_)
 all_goals (refine Yf ?_ h;clear h;simp +decide[*,kk,tI,tII,Zblb,Zblc,Z76,Zbld,Zyx,Z78,Zble,Zblf,Z8a,Zblg,Zblh,Z8c,Zbli,Zy1,Zblj,Z8f,Zblk,Zbll,Z8h,Zblm,Z8j,Zbln])
abbrev Zccs:=Zc7.1.1.1.1
abbrev Zbq7:=Zc7.1.1.1.2
abbrev Zcct:=Zc7.1.1.2.1
abbrev Zbq8:=Zc7.1.1.2.2
abbrev Zbat:=Zc7.1.2.1.1
abbrev Zccu:=Zc7.1.2.1.2
abbrev Zbq9:=Zc7.1.2.2.1
abbrev Zbra:=Zc7.1.2.2.2.1
abbrev Zbrb:=Zc7.1.2.2.2.2
abbrev Zccv:=Zc7.2.1.1.1
abbrev Zbrc:=Zc7.2.1.1.2
abbrev Zccw:=Zc7.2.1.2.1
abbrev Zccx:=Zc7.2.1.2.2
abbrev Zccy:=Zc7.2.2.1.1
abbrev Zbrd:=Zc7.2.2.1.2
abbrev Zbre:=Zc7.2.2.2.1
abbrev Zbrf:=Zc7.2.2.2.2.1
abbrev Zccz:=Zc7.2.2.2.2.2
theorem Zhx:(((∀⦃c cc i r⦄,Im (Zor c cc i=some r) (if i<4 then(∃v,Zv cc 0 15=some (Bo v,[])/\(if v=true then(¬i<0/\(if(andI (shrI cc i) 1)=1 then(c.length+1<=68719476736/\(Zor (c++[i]) cc (w (i+1))=some r))else(Zor c cc (w (i+1))=some r)))else(some (.own 0,[.arr 3 1 true (c.map ic)])=some r)))else(some (.own 0,[.arr 3 1 true (c.map ic)])=some r)))/\
 (∀⦃a r⦄,Im (Zoq a=some r) (Zor ([]:List Int) a 0=some r)))/\
 ((∀⦃a a1 r⦄,Im (Zy3 a a1=some r) (∃v,Zk4 a=some (Bo v,[])/\(if v=true then(¬(a.Atoms.length:Int)<0/\(∃v1,Zv a1 0 (w ((shlI 1 (a.Atoms.length:Int))-1))=some (Bo v1,[])/\(some (Bo v1,[])=some r)))else(some (Bo false,[])=some r))))/\
 (∀⦃a a1 r⦄,Im (Zlb a a1=some r) (∃v,Zy3 a a1=some (Bo v,[])/\(if v=true then(∃v1,Zoj a a1=some (I v1,[])/\(∃(v2:List Int),Zol v1=some (.own 0,[.arr 3 1 true (v2.map ic)])/\(some (.own 0,[.arr 3 1 true (v2.map ic)])=some r)))else(some (.own 0,[.arr 3 1 true (([]:List Int).map ic)])=some r))))))/\
 (((∀⦃c x y i r⦄,Im (Zos c x y i=some r) (if i<(x.length:Int)then(0<=i/\(∃e1,x[i.toNat]?=some e1/\(∃v1,Ze1 y e1=some (Bo v1,[])/\(if v1=true then(c.length+1<=68719476736/\(Zos (c++[e1]) x y (w (i+1))=some r))else(Zos c x y (w (i+1))=some r)))))else(some (.own 0,[.arr 3 1 true (c.map ic)])=some r)))/\
 (∀⦃a a1 a2 r⦄,Im (Ztj a a1 a2=some r) (∃(v:List Int),Zlb a a1=some (.own 0,[.arr 3 1 true (v.map ic)])/\(∃(v1:List Int),Zlb a a2=some (.own 0,[.arr 3 1 true (v1.map ic)])/\(Zos ([]:List Int) v v1 0=some r)))))/\
 ((∀⦃a a1 r⦄,Im (Zlc a a1=some r) (∃v,Zhn a=some (Bo v,[])/\(if v=true then(∃(v1:List Int),Zoo a a1=some (.own 0,[.arr 3 1 true (v1.map ic)])/\(some (.own 0,[.arr 3 1 true (v1.map ic)])=some r))else(some (.own 0,[.arr 3 1 true (([]:List Int).map ic)])=some r))))/\
 ((∀⦃l n i r⦄,Im (Zou l n i=some r) (if i<(l.length:Int)then(0<=i/\(∃e1,l[i.toNat]?=some e1/\(∃v1,Zv e1 1 (w (8-n))=some (Bo v1,[])/\(if v1=true then(if 0<i then(0<=(w (i-1))/\(∃e3,l[(w (i-1)).toNat]?=some e3/\(if e3<e1 then(some (Bo false,[])=some r)else(Zou l (w (n+e1)) (w (i+1))=some r))))else(Zou l (w (n+e1)) (w (i+1))=some r))else(some (Bo false,[])=some r)))))else(some (Bo true,[])=some r)))/\
 (∀⦃a r⦄,Im (Zot a=some r) (Zou a 0 0=some r))))):=by
 and_intros
 all_goals intros
 all_goals unfold Im
 all_goals try simp only[Zor,Zoq,Zy3,Zlb,Zos,Ztj,Zlc,Zou,Zot,Zv,Zk4,Zg.c_def,Zoj,Zol,Ze1,Zhn,Zoo,Zd.c_def,mpl,dfs]
 all_goals try simp only[itb]
 all_goals try simp only[itf,gS,kk]
 all_goals repeat' first|refine exI λ_=>?_|refine anJ λ_ _=>?_|refine anI λ_=>?_|refine orE2 ?_ ?_|exact False.elim
 all_goals (intro h;first|rw[Ze Z8k.eq_1]|refine run Zb6q rfl ?_|refine run Zb6r rfl ?_|refine run Zb6s rfl ?_|rw[Ze Z8m.eq_1]|refine run Zb6t rfl ?_|refine run Zb6u rfl ?_|rw[Ze Z8o.eq_1]|refine run Zb6v rfl ?_)
 all_goals (refine Yf ?_ h;clear h;simp +decide[*,kk,tI,tII,Zblo,Z8l,Zblp,Zblq,Zblr,Zbls,Z8n,Zblt,Zblu,Z8p,Zblv])
abbrev Zbrg:=Zhx.1.1.1
abbrev Zcc0:=Zhx.1.1.2
abbrev Zcc1:=Zhx.1.2.1
abbrev Zcc2:=Zhx.1.2.2
abbrev Zbrh:=Zhx.2.1.1
abbrev Zcc3:=Zhx.2.1.2
abbrev Zcc4:=Zhx.2.2.1
abbrev Zbri:=Zhx.2.2.2.1
abbrev Zcc5:=Zhx.2.2.2.2
theorem Zbrj{c l:List Int}{i k:Int}{r:AV×List Blk}(h:(if 0<k then(0<=(w (k-1))/\(∃(e1:Int),c[(w (k-1)).toNat]?=some e1/\(0<=i/\(∃(e2:Int),l[i.toNat]?=some e2/\(if e1<e2 then(Zla c l i (w (k-1))=some r)else(0<=k/\(k.toNat<=c.length/\((c.take k.toNat).length<=68719476736/\((c.take k.toNat).length+1<=68719476736/\((c.take k.toNat).length+1+(c.drop k.toNat).length<=68719476736/\(Zho (((c.take k.toNat)++[e2])++(c.drop k.toNat)) l (w (i+1))=some r)))))))))))else(0<=k/\(k.toNat<=c.length/\((c.take k.toNat).length<=68719476736/\(0<=i/\(∃(e3:Int),l[i.toNat]?=some e3/\((c.take k.toNat).length+1<=68719476736/\((c.take k.toNat).length+1+(c.drop k.toNat).length<=68719476736/\(Zho (((c.take k.toNat)++[e3])++(c.drop k.toNat)) l (w (i+1))=some r)))))))))):Zla c l i k=some r:=by
 unfold Zla;rw[Ze Z8d.eq_1];by_cases q1:0<k
 .rw[if_pos q1]at h;obtain⟨q2,h⟩:=h;obtain⟨e1,q3,h⟩:=h;have gq3:=Zhe q3;have kq3:=Zir q3;obtain⟨q4,h⟩:=h;obtain⟨e2,q5,h⟩:=h;have gq5:=Zhe q5;have kq5:=Zir q5;by_cases q6:e1<e2
  .rw[if_pos q6]at h;refine Yf ?_ h;clear h;simp +decide[*,tI,tII,Zla]
  .rw[if_neg q6]at h;obtain⟨q7,h⟩:=h;obtain⟨q8,h⟩:=h;have zq8:=q8;try simp at zq8
   obtain⟨q9,h⟩:=h;have rq9:=Zet (b:=8) q9 (by omega);have sq9:=Zeu q9
   try simp[*]at rq9
   try simp[*]at sq9
   obtain⟨q10,h⟩:=h;have rq10:=Zet (b:=8) q10 (by omega);have sq10:=Zeu q10
   try simp[*]at rq10
   try simp[*]at sq10
   obtain⟨q11,h⟩:=h;have rq11:=Zet (b:=8) q11 (by omega);have sq11:=Zeu q11
   try simp[*]at rq11
   try simp[*]at sq11
   refine Yf ?_ h;clear h;simp +decide[*,tI,tII,Zho,Zyz,Zyy]
 .rw[if_neg q1]at h;obtain⟨q12,h⟩:=h;obtain⟨q13,h⟩:=h;have zq13:=q13;try simp at zq13
  obtain⟨q14,h⟩:=h;have rq14:=Zet (b:=8) q14 (by omega);have sq14:=Zeu q14
  try simp[*]at rq14
  try simp[*]at sq14
  obtain⟨q15,h⟩:=h;obtain⟨e3,q16,h⟩:=h;have gq16:=Zhe q16;have kq16:=Zir q16;obtain⟨q17,h⟩:=h;have rq17:=Zet (b:=8) q17 (by omega);have sq17:=Zeu q17
  try simp[*]at rq17
  try simp[*]at sq17
  obtain⟨q18,h⟩:=h;have rq18:=Zet (b:=8) q18 (by omega);have sq18:=Zeu q18
  try simp[*]at rq18
  try simp[*]at sq18
  refine Yf ?_ h;clear h;simp +decide[*,tI,tII,Zho,Zyz,Zyy]
theorem Zc8:((((∀⦃a b n i r⦄,Im (Ztk a b n i=some r) (if i<(a.length:Int)then(if i<(b.length:Int)then(∃v,Zot a=some (Bo v,[])/\(if v=true then(∃v4,Zot b=some (Bo v4,[])/\(if v4=true then(0<=i/\(∃e3,a[i.toNat]?=some e3/\(∃e4,b[i.toNat]?=some e4/\(Ztk a b (w (n+(w (e3*e4)))) (w (i+1))=some r))))else(some (I n,[])=some r)))else(some (I n,[])=some r)))else(some (I n,[])=some r))else(some (I n,[])=some r)))/\
 (∀⦃a a1 r⦄,Im (Zy4 a a1=some r) (Ztk a a1 0 0=some r)))/\
 ((∀⦃a a1 a2 a3 r⦄,Im (Zov a a1 a2 a3=some r) (∃v,Zog a1=some (I v,[])/\(∃v4,Zfr a a1 v=some (Bo v4,[])/\(if v4=true then(∃v5,Zv a2 0 (w ((a1.Atoms.length:Int)-1))=some (Bo v5,[])/\(if v5=true then(∃v6,Zv a3 0 (w ((a1.Atoms.length:Int)-1))=some (Bo v6,[])/\(if v6=true then(if a2=a3 then(some (I (-1),[])=some r)else(¬a2<0/\(¬a3<0/\(∃(v7:List Int),Ztj a1 (shlI 1 a2) (shlI 1 a3)=some (.own 0,[.arr 3 1 true (v7.map ic)])/\(∃(v8:List Zf),∃v9,∃v10,∃v11,Zf3 a a1 a2=some (.agg [.t (.str v9),I v10,I v11,.own 0],[.arr 200 3 true (v8.map Zf.c)])/\(0<=a2/\(∃e7,a1.Atoms[a2.toNat]?=some e7/\(∃(v12:List Int),Zk9 e7 v7=some (.own 0,[.arr 3 1 true (v12.map ic)])/\(∃(v13:List Int),Zlc (⟨v9,v10,v11,v8⟩:Zd) v12=some (.own 0,[.arr 3 1 true (v13.map ic)])/\(∃(v14:List Zf),∃v15,∃v16,∃v17,Zf3 a a1 a3=some (.agg [.t (.str v15),I v16,I v17,.own 0],[.arr 200 3 true (v14.map Zf.c)])/\(0<=a3/\(∃e11,a1.Atoms[a3.toNat]?=some e11/\(∃(v18:List Int),Zk9 e11 v7=some (.own 0,[.arr 3 1 true (v18.map ic)])/\(∃(v19:List Int),Zlc (⟨v15,v16,v17,v14⟩:Zd) v18=some (.own 0,[.arr 3 1 true (v19.map ic)])/\(∃v20,Zy4 v13 v19=some (I v20,[])/\(some (I v20,[])=some r))))))))))))))))else(some (I (-1),[])=some r)))else(some (I (-1),[])=some r)))else(some (I (-1),[])=some r)))))/\
 (∀⦃a m x k r⦄,Im (Zld a m x k=some r) (if k<(a.Vars.length:Int)then(if k<3 then(¬k<0/\(if(andI (shrI m k) 1)=1 then(0<=k/\(∃e1,a.Vars[k.toNat]?=some e1/\(∃v4,Zv e1 0 3=some (Bo v4,[])/\(if v4=true then(¬e1<0/\(Zld a m (orI x (shlI 1 e1)) (w (k+1))=some r))else(Zld a m x (w (k+1))=some r)))))else(Zld a m x (w (k+1))=some r)))else(some (I x,[])=some r))else(some (I x,[])=some r)))))/\
 (((∀⦃a a1 r⦄,Im (Zy5 a a1=some r) (Zld a a1 0 0=some r))/\
 (∀⦃l m i r⦄,Im (Zow l m i=some r) (if i<(l.length:Int)then(0<=i/\(∃e1,l[i.toNat]?=some e1/\(∃v4,Zv e1 0 3=some (Bo v4,[])/\(if v4=true then(¬e1<0/\(Zow l (orI m (shlI 1 e1)) (w (i+1))=some r))else(Zow l m (w (i+1))=some r)))))else(some (I m,[])=some r))))/\
 ((∀⦃a r⦄,Im (Zy6 a=some r) (Zow a 0 0=some r))/\
 ((∀⦃a a1 r⦄,Im (Zy7 a a1=some r) (∃(v:List Int),Zlc a a1=some (.own 0,[.arr 3 1 true (v.map ic)])/\(if(v.length:Int)=0 then(some (I 0,[])=some r)else(∃e2,v[0]?=some e2/\(some (I e2,[])=some r)))))/\
 (∀⦃n b r⦄,Im (Ztl n b=some r) (¬b<0/\(if(shlI 1 b)<n then(Ztl n (w (b+1))=some r)else(some (I b,[])=some r))))))))/\
 ((((∀⦃a r⦄,Im (Zy8 a=some r) (∃v,Zv a 1 4096=some (Bo v,[])/\(if v=true then(Ztl a 0=some r)else(some (I (-1),[])=some r))))/\
 (∀⦃s a cc m r⦄,Im (Ztn s a cc m=some r) (¬s.Arity<0/\(if m<(w ((shlI 1 s.Arity)-1))then(∃v,Zy5 a m=some (I v,[])/\(∃v4,Zy6 a.Vars=some (I v4,[])/\(∃(v5:List Int),Zd5 m=some (.own 0,[.arr 3 1 true (v5.map ic)])/\(∃v6,Zy7 s v5=some (I v6,[])/\(∃v7,Zy8 v6=some (I v7,[])/\(cc.length+1<=68719476736/\(Ztn s a (cc++[(⟨v,v4,v7⟩:Zk)]) (w (m+1))=some r)))))))else(some (.own 0,[.arr 251 3 true (cc.map Zk.c)])=some r)))))/\
 ((∀⦃a a1 r⦄,Im (Ztm a a1=some r) (∃v,Zhn a=some (Bo v,[])/\(if v=true then(if a.RowCount=0 then(some (.own 0,[.arr 251 3 true (([]:List Zk).map Zk.c)])=some r)else(if(a1.Vars.length:Int)=a.Arity then(Ztn a a1 ([]:List Zk) 0=some r)else(some (.own 0,[.arr 251 3 true (([]:List Zk).map Zk.c)])=some r)))else(some (.own 0,[.arr 251 3 true (([]:List Zk).map Zk.c)])=some r))))/\
 (∀⦃s q cc cl i r⦄,Im (Zox s q cc cl i=some r) (if i<(q.Atoms.length:Int)then(¬i<0/\(if(andI (shrI cl i) 1)=0 then(Zox s q cc cl (w (i+1))=some r)else(∃(v:List Zf),∃v1,∃v2,∃v3,Zf3 s q i=some (.agg [.t (.str v1),I v2,I v3,.own 0],[.arr 200 3 true (v.map Zf.c)])/\(0<=i/\(∃e2,q.Atoms[i.toNat]?=some e2/\(∃(v5:List Zk),Ztm (⟨v1,v2,v3,v⟩:Zd) e2=some (.own 0,[.arr 251 3 true (v5.map Zk.c)])/\(if(v5.length:Int)=0 then(some (.own 0,[.arr 251 3 true (([]:List Zk).map Zk.c)])=some r)else(cc.length+v5.length<=68719476736/\(Zox s q (cc++v5) cl (w (i+1))=some r)))))))))else(some (.own 0,[.arr 251 3 true (cc.map Zk.c)])=some r)))))/\
 (((∀⦃a a1 a2 r⦄,Im (Zto a a1 a2=some r) (∃v,Zfr a a1 a2=some (Bo v,[])/\(if v=true then(Zox a a1 ([]:List Zk) a2 0=some r)else(some (.own 0,[.arr 251 3 true (([]:List Zk).map Zk.c)])=some r))))/\
 (∀⦃m cd x i r⦄,Im (Zle m cd x i=some r) (if i<(cd.length:Int)then(if i<4 then(0<=i/\(∃e1,cd[i.toNat]?=some e1/\(∃v4,Zv e1 0 3=some (Bo v4,[])/\(if v4=true then(¬e1<0/\(if(andI (shrI m e1) 1)=1 then(¬i<0/\(Zle m cd (orI x (shlI 1 i)) (w (i+1))=some r))else(Zle m cd x (w (i+1))=some r)))else(Zle m cd x (w (i+1))=some r)))))else(some (I x,[])=some r))else(some (I x,[])=some r))))/\
 ((∀⦃a a1 r⦄,Im (Ztp a a1=some r) (Zle a a1 0 0=some r))/\
 ((∀⦃cc l cd i r⦄,Im (Ztr cc l cd i=some r) (if i<(l.length:Int)then(0<=i/\(∃e1,l[i.toNat]?=some e1/\(∃v4,Ztp e1.From cd=some (I v4,[])/\(∃v5,Ztp e1.To cd=some (I v5,[])/\(cc.length+1<=68719476736/\(Ztr (cc++[(⟨v4,v5,e1.Bits⟩:Zk)]) l cd (w (i+1))=some r))))))else(some (.own 0,[.arr 251 3 true (cc.map Zk.c)])=some r)))/\
 (∀⦃a a1 r⦄,Im (Ztq a a1=some r) (Ztr ([]:List Zk) a a1 0=some r)))))):=by
 and_intros
 all_goals intros
 all_goals unfold Im
 all_goals try simp only[Ztk,Zy4,Zov,Zld,Zy5,Zow,Zy6,Zy7,Ztl,Zy8,Ztn,Ztm,Zox,Zto,Zle,Ztp,Ztr,Ztq,Zot,Zog,Zfr,Zv,Ztj,Zf3,Zk9,Zlc,Atom.c_def,Zn.c_def,Zh.c_def,Zg.c_def,Zj.c_def,Zd.c_def,Zd5,Zhn,mpl,dfs]
 all_goals try simp only[itb]
 all_goals try simp only[itf,gS,kk]
 all_goals repeat' first|refine exI λ_=>?_|refine anJ λ_ _=>?_|refine anI λ_=>?_|refine orE2 ?_ ?_|exact False.elim
 all_goals (intro h;first|rw[Ze Z8q.eq_1]|refine run Zb6w rfl ?_|refine run Zb6x rfl ?_|rw[Ze Z8s.eq_1]|refine run Zb6y rfl ?_|rw[Ze Z8u.eq_1]|refine run Zb6z rfl ?_|refine run Zb60 rfl ?_|rw[Ze Z8w.eq_1]|refine run Zb61 rfl ?_|rw[Ze Z8y.eq_1]|refine run Zb62 rfl ?_|rw[Ze Z80.eq_1]|refine run Zb63 rfl ?_|rw[Ze Z82.eq_1]|refine run Zb64 rfl ?_|rw[Ze Z84.eq_1]|refine run Zb65 rfl ?_)
 all_goals (refine Yf ?_ h;clear h;simp +decide[*,kk,tI,tII,Z8r,Zblw,Zblx,Zbly,Z8t,Zblz,Zbl0,Z8v,Zbl1,Zbl2,Z8x,Zbl3,Z8z,Zbl4,Zbl5,Z81,Zbl6,Zbl7,Z83,Zbl8,Z85,Zbl9])
abbrev Zbau:=Zc8.1.1.1.1
abbrev Zcc6:=Zc8.1.1.1.2
abbrev Zcc7:=Zc8.1.1.2.1
abbrev Zbrk:=Zc8.1.1.2.2
abbrev Zcc8:=Zc8.1.2.1.1
abbrev Zbrl:=Zc8.1.2.1.2
abbrev Zcc9:=Zc8.1.2.2.1
abbrev Zcda:=Zc8.1.2.2.2.1
abbrev Zbrm:=Zc8.1.2.2.2.2
abbrev Zcdb:=Zc8.2.1.1.1
abbrev Zbrn:=Zc8.2.1.1.2
abbrev Zcdc:=Zc8.2.1.2.1
abbrev Zbro:=Zc8.2.1.2.2
abbrev Zcdd:=Zc8.2.2.1.1
abbrev Zbrp:=Zc8.2.2.1.2
abbrev Zcde:=Zc8.2.2.2.1
abbrev Zbrq:=Zc8.2.2.2.2.1
abbrev Zcdf:=Zc8.2.2.2.2.2
theorem Zlq:((∀⦃cl cn cd i r⦄,Im (Zlf cl cn cd i=some r) (if i<(cn.length:Int)then(0<=i/\(∃e1,cn[i.toNat]?=some e1/\(if 0<e1 then(0<=(w (e1-1))/\(∃e2,cl[(w (e1-1)).toNat]?=some e2/\(Zlf (cl.set ((w (e1-1)).toNat) 1) cn cd (w (i+1))=some r)))else(Zlf cl cn cd (w (i+1))=some r))))else(Zoy cl cd 0=some r)))/\
 ((∀⦃cl cd i r⦄,Im (Zoy cl cd i=some r) (if i<(cd.length:Int)then(0<=i/\(∃e1,cd[i.toNat]?=some e1/\(if 0<e1 then(0<=(w (e1-1))/\(∃e2,cl[(w (e1-1)).toNat]?=some e2/\(Zoy (cl.set ((w (e1-1)).toNat) (-1)) cd (w (i+1))=some r)))else(Zoy cl cd (w (i+1))=some r))))else(some (.own 0,[.arr 3 1 true (cl.map ic)])=some r)))/\
 (∀⦃cc n c i r⦄,Im (Ztv cc n c i=some r) (if i<n then(¬i<0/\(∃(v:List Int),Zgw n ([(w (c-(shlI 1 i)))]) ([c])=some (.own 0,[.arr 3 1 true (v.map ic)])/\(cc.length+1<=68719476736/\(Ztv (cc++[v]) n c (w (i+1))=some r))))else(Zoz cc n c 0=some r)))))/\
 (((∀⦃cc n c i r⦄,Im (Zoz cc n c i=some r) (if i<n then(Zo0 cc n c i (w (i+1))=some r)else(some (.own 0,[.arr 56 1 true (cc.map isc)])=some r)))/\
 (∀⦃cc n c i j r⦄,Im (Zo0 cc n c i j=some r) (if j<n then(Zlg cc n c i j 0=some r)else(Zoz cc n c (w (i+1))=some r))))/\
 ((∀⦃cc n c i j s r⦄,Im (Zlg cc n c i j s=some r) (if s<=c then(¬i<0/\(if(andI (shrI s i) 1)=0 then(¬j<0/\(if(andI (shrI s j) 1)=0 then(∃(v:List Int),Zgw n ([s,(orI (orI s (shlI 1 i)) (shlI 1 j))]) ([(orI s (shlI 1 i)),(orI s (shlI 1 j))])=some (.own 0,[.arr 3 1 true (v.map ic)])/\(cc.length+1<=68719476736/\(Zlg (cc++[v]) n c i j (w (s+1))=some r)))else(Zlg cc n c i j (w (s+1))=some r)))else(Zlg cc n c i j (w (s+1))=some r)))else(Zo0 cc n c i (w (j+1))=some r)))/\
 (∀⦃a r⦄,Im (Ztu a=some r) (∃v,Zv a 1 4=some (Bo v,[])/\(if v=true then(¬a<0/\(Ztv ([]:List (List Int)) a (w ((shlI 1 a)-1)) 0=some r))else(some (.own 0,[.arr 56 1 true (([]:List (List Int)).map isc)])=some r)))))):=by
 and_intros
 all_goals intros
 all_goals unfold Im
 all_goals try simp only[Zlf,Zoy,Ztv,Zoz,Zo0,Zlg,Ztu,Zgw,Zv,mpl,dfs]
 all_goals try simp only[itb]
 all_goals try simp only[itf,gS,kk]
 all_goals repeat' first|refine exI λ_=>?_|refine anJ λ_ _=>?_|refine anI λ_=>?_|refine orE2 ?_ ?_|exact False.elim
 all_goals (intro h;first|rw[Ze Z86.eq_1]|rw[Ze Z87.eq_1]|rw[Ze Z9a.eq_1]|rw[Ze Zts.eq_1]|rw[Ze Zy9.eq_1]|rw[Ze Z9b.eq_1]|refine run Zb67 rfl ?_)
 all_goals (refine Yf ?_ h;clear h;simp +decide[*,kk,tI,tII,Zbma,Z89,Zbmb,Z88,Z9d,Ztt,Zza,Zbmd,Z9c,Zbme])
abbrev Zbrr:=Zlq.1.1
abbrev Zbrs:=Zlq.1.2.1
abbrev Zbrt:=Zlq.1.2.2
abbrev Zbru:=Zlq.2.1.1
abbrev Zbrv:=Zlq.2.1.2
abbrev Zbrw:=Zlq.2.2.1
abbrev Zcdg:=Zlq.2.2.2
theorem Zcdh{a:Int}{a1 a2:List Int}{r:AV×List Blk}(h:(¬a<0/\(0<=(w ((shlI 1 a)-1))/\((w ((shlI 1 a)-1))<=(w ((shlI 1 a)-1))/\((w ((shlI 1 a)-1)).toNat*8<=room/\((w ((shlI 1 a)-1))<=140737488355328/\(Zlf (List.replicate ((w ((shlI 1 a)-1))).toNat 0) a1 a2 0=some r))))))):Zgw a a1 a2=some r:=by
 unfold Zgw;refine run Zb66 rfl ?_;obtain⟨q1,h⟩:=h;obtain⟨q2,h⟩:=h;obtain⟨q3,h⟩:=h;obtain⟨q4,h⟩:=h;have zq4:=q4;try simp at zq4
 obtain⟨q5,h⟩:=h;refine Yf ?_ h;clear h;simp +decide[*,Zbmc,tI,tII,Zlf]
theorem Zdf:((((∀⦃p n k r⦄,Im (Ztx p n k=some r) (if k<n then(0<=k/\(∃e1,p.Objective[k.toNat]?=some e1/\(∃v1,Zv e1 (-9) 9=some (Bo v1,[])/\(if v1=true then(Ztx p n (w (k+1))=some r)else(some (Bo false,[])=some r)))))else(Zo1 p n 0=some r)))/\
 (∀⦃p n i r⦄,Im (Zo1 p n i=some r) (if i<(p.Rows.length:Int)then(0<=i/\(∃e1,p.Rows[i.toNat]?=some e1/\(if(e1.length:Int)=n then(∃e2,p.Limits[i.toNat]?=some e2/\(∃v2,Zv e2 0 99=some (Bo v2,[])/\(if v2=true then(Zty p n i 0=some r)else(some (Bo false,[])=some r))))else(some (Bo false,[])=some r))))else(some (Bo true,[])=some r))))/\
 ((∀⦃p n i k r⦄,Im (Zty p n i k=some r) (if k<n then(0<=i/\(∃e1,p.Rows[i.toNat]?=some e1/\(0<=k/\(∃e2,e1[k.toNat]?=some e2/\(∃v2,Zv e2 (-9) 9=some (Bo v2,[])/\(if v2=true then(Zty p n i (w (k+1))=some r)else(some (Bo false,[])=some r)))))))else(Zo1 p n (w (i+1))=some r)))/\
 (∀⦃a r⦄,Im (Ztw a=some r) (∃v,Zv (a.Objective.length:Int) 1 15=some (Bo v,[])/\(if v=true then(if 64<(a.Rows.length:Int)then(some (Bo false,[])=some r)else(if(a.Rows.length:Int)=(a.Limits.length:Int)then(Ztx a (a.Objective.length:Int) 0=some r)else(some (Bo false,[])=some r)))else(some (Bo false,[])=some r))))))/\
 (((∀⦃x x1 x2 l n cn i r⦄,Im (Zo2 x x1 x2 l n cn i=some r) (if i<(l.length:Int)then(0<=i/\(∃e1,l[i.toNat]?=some e1/\(∃v1,Zv e1.To 1 cn=some (Bo v1,[])/\(if v1=true then(∃v2,Zv e1.From 0 cn=some (Bo v2,[])/\(if v2=true then(if(andI e1.From e1.To)=e1.From then(if e1.From=e1.To then(some (.tup [.agg [.own 0,.own 1,.own 2],Bo false],[.arr 3 1 true (([]:List Int).map ic),.arr 56 1 true (([]:List (List Int)).map isc),.arr 3 1 true (([]:List Int).map ic)])=some r)else(if 64<=i then(some (.tup [.agg [.own 0,.own 1,.own 2],Bo false],[.arr 3 1 true (([]:List Int).map ic),.arr 56 1 true (([]:List (List Int)).map isc),.arr 3 1 true (([]:List Int).map ic)])=some r)else(∃(v3:List Int),Zgw n ([e1.To]) ([e1.From])=some (.own 0,[.arr 3 1 true (v3.map ic)])/\(x1.length+1<=68719476736/\(x2.length+1<=68719476736/\(Zo2 x (x1++[v3]) (x2++[e1.Bits]) l n cn (w (i+1))=some r))))))else(some (.tup [.agg [.own 0,.own 1,.own 2],Bo false],[.arr 3 1 true (([]:List Int).map ic),.arr 56 1 true (([]:List (List Int)).map isc),.arr 3 1 true (([]:List Int).map ic)])=some r))else(some (.tup [.agg [.own 0,.own 1,.own 2],Bo false],[.arr 3 1 true (([]:List Int).map ic),.arr 56 1 true (([]:List (List Int)).map isc),.arr 3 1 true (([]:List Int).map ic)])=some r)))else(some (.tup [.agg [.own 0,.own 1,.own 2],Bo false],[.arr 3 1 true (([]:List Int).map ic),.arr 56 1 true (([]:List (List Int)).map isc),.arr 3 1 true (([]:List Int).map ic)])=some r)))))else(∃v7,Ztw (⟨x,x1,x2⟩:Program)=some (Bo v7,[])/\(if v7=true then(some (.tup [.agg [.own 0,.own 1,.own 2],Bo true],[.arr 3 1 true (x.map ic),.arr 56 1 true (x1.map isc),.arr 3 1 true (x2.map ic)])=some r)else(some (.tup [.agg [.own 0,.own 1,.own 2],Bo false],[.arr 3 1 true (([]:List Int).map ic),.arr 56 1 true (([]:List (List Int)).map isc),.arr 3 1 true (([]:List Int).map ic)])=some r)))))/\
 (∀⦃a a1 a2 r⦄,Im (Zzd a a1 a2=some r) (∃(v:List Zk),Zto a a1 a2=some (.own 0,[.arr 251 3 true (v.map Zk.c)])/\(if(v.length:Int)=0 then(some (.tup [.agg [.own 0,.own 1,.own 2],Bo false],[.arr 3 1 true (([]:List Int).map ic),.arr 56 1 true (([]:List (List Int)).map isc),.arr 3 1 true (([]:List Int).map ic)])=some r)else(∃(v1:List Int),Zlb a1 a2=some (.own 0,[.arr 3 1 true (v1.map ic)])/\(∃(v2:List Zk),Ztq v v1=some (.own 0,[.arr 251 3 true (v2.map Zk.c)])/\(∃(v3:List Int),∃(v4:List (List Int)),∃(v5:List Int),∃v6,Zlh v2 (v1.length:Int)=some (.tup [.agg [.own 0,.own 1,.own 2],Bo v6],[.arr 3 1 true (v3.map ic),.arr 56 1 true (v4.map isc),.arr 3 1 true (v5.map ic)])/\(some (.tup [.agg [.own 0,.own 1,.own 2],Bo v6],[.arr 3 1 true (v3.map ic),.arr 56 1 true (v4.map isc),.arr 3 1 true (v5.map ic)])=some r))))))))/\
 ((∀⦃a r⦄,Im (Zb3 a=some r) (some (.agg [I a,I 1],[])=some r))/\
 (∀⦃p cd cc n k r⦄,Im (Z9l p cd cc n k=some r) (if k<n then(0<=k/\(∃e1,p.Objective[k.toNat]?=some e1/\(∃(v1:Za),Zb3 e1=some (.agg (v1.c.map .t),[])/\(Zt0 p cd cc ([k]) ([v1]) n (w (k+1))=some r))))else(Zbmj p cd cc n 0=some r))))))/\
 ((((∀⦃p cd cc x x1 n k r⦄,Im (Zt0 p cd cc x x1 n k=some r) (if k<n then(x.length+1<=68719476736/\(0<=k/\(∃e1,p.Objective[k.toNat]?=some e1/\(∃(v1:Za),Zb3 e1=some (.agg (v1.c.map .t),[])/\(x1.length+1<=68719476736/\(Zt0 p cd cc (x++[k]) (x1++[v1]) n (w (k+1))=some r))))))else(Z9m p cd cc x x1 n 0=some r)))/\
 (∀⦃p cd cc x x1 n i r⦄,Im (Z9m p cd cc x x1 n i=some r) (if i<(p.Rows.length:Int)then(Zt1 p cd cc x x1 ([]:List Za) n i 0=some r)else(some (.tup [.agg [.own 0,.own 1,.own 2,.own 3,.own 4,I cc.Num,I cc.Den],Bo true],[.arr 3 1 true (([]:List Int).map ic),.arr 3 1 true (x.map ic),.arr 179 1 true (([]:List (List Za)).map (lc 2 Za.c)),.arr 149 2 true (([]:List Za).map Za.c),.arr 149 2 true (x1.map Za.c)])=some r))))/\
 ((∀⦃p cd cc x x1 cl n i k r⦄,Im (Zt1 p cd cc x x1 cl n i k=some r) (if k<n then(0<=i/\(∃e1,p.Rows[i.toNat]?=some e1/\(0<=k/\(∃e2,e1[k.toNat]?=some e2/\(∃(v2:Za),Zb3 e2=some (.agg (v2.c.map .t),[])/\(cl.length+1<=68719476736/\(Zt1 p cd cc x x1 (cl++[v2]) n i (w (k+1))=some r)))))))else(0<=i/\(∃e4,p.Limits[i.toNat]?=some e4/\(∃(v7:Za),Zb3 e4=some (.agg (v7.c.map .t),[])/\(Zlk p cd cc ([(w (n+i))]) x ([cl]) ([v7]) x1 n (w (i+1))=some r))))))/\
 (∀⦃p cd cc x x1 x2 x3 x4 n i r⦄,Im (Zlk p cd cc x x1 x2 x3 x4 n i=some r) (if i<(p.Rows.length:Int)then(Zt2 p cd cc x x1 x2 x3 x4 ([]:List Za) n i 0=some r)else(some (.tup [.agg [.own 0,.own 1,.own 2,.own 3,.own 4,I cc.Num,I cc.Den],Bo true],[.arr 3 1 true (x.map ic),.arr 3 1 true (x1.map ic),.arr 179 1 true (x2.map (lc 2 Za.c)),.arr 149 2 true (x3.map Za.c),.arr 149 2 true (x4.map Za.c)])=some r)))))/\
 (((∀⦃p cd cc x x1 x2 x3 x4 cl n i k r⦄,Im (Zt2 p cd cc x x1 x2 x3 x4 cl n i k=some r) (if k<n then(0<=i/\(∃e1,p.Rows[i.toNat]?=some e1/\(0<=k/\(∃e2,e1[k.toNat]?=some e2/\(∃(v2:Za),Zb3 e2=some (.agg (v2.c.map .t),[])/\(cl.length+1<=68719476736/\(Zt2 p cd cc x x1 x2 x3 x4 (cl++[v2]) n i (w (k+1))=some r)))))))else(x.length+1<=68719476736/\(x2.length+1<=68719476736/\(0<=i/\(∃e4,p.Limits[i.toNat]?=some e4/\(∃(v7:Za),Zb3 e4=some (.agg (v7.c.map .t),[])/\(x3.length+1<=68719476736/\(Zlk p cd cc (x++[(w (n+i))]) x1 (x2++[cl]) (x3++[v7]) x4 n (w (i+1))=some r)))))))))/\
 (∀⦃a r⦄,Im (Ztz a=some r) (∃v,Ztw a=some (Bo v,[])/\(if v=true then(∃(v1:Za),Zb3 0=some (.agg (v1.c.map .t),[])/\(Z9l a (⟨0,0⟩:Za) v1 (a.Objective.length:Int) 0=some r))else(some (.tup [.agg [.own 0,.own 1,.own 2,.own 3,.own 4,I 0,I 0],Bo false],[.arr 3 1 true (([]:List Int).map ic),.arr 3 1 true (([]:List Int).map ic),.arr 179 1 true (([]:List (List Za)).map (lc 2 Za.c)),.arr 149 2 true (([]:List Za).map Za.c),.arr 149 2 true (([]:List Za).map Za.c)])=some r)))))/\
 ((∀⦃a r⦄,Im (Zll a=some r) (if a<0 then(some (I (w (0-a)),[])=some r)else(some (I a,[])=some r)))/\
 ((∀⦃a b r⦄,Im (Zt3 a b=some r) (if b=0 then(some (I a,[])=some r)else(¬b=0/\(Zt3 b (Int.tmod a b)=some r))))/\
 (∀⦃a a1 r⦄,Im (Zlm a a1=some r) (Zt3 a a1=some r)))))):=by
 and_intros
 all_goals intros
 all_goals unfold Im
 all_goals try simp only[Ztx,Zo1,Zty,Ztw,Zo2,Zzd,Zb3,Z9l,Zt0,Z9m,Zt1,Zlk,Zt2,Ztz,Zll,Zt3,Zlm,Zv,Zgw,Program.c_def,Zto,Zlb,Ztq,Zlh,Zn.c_def,Zh.c_def,Zg.c_def,Zk.c_def,Zj.c_def,Za.c_def,Zbmj,mpl,dfs]
 all_goals try simp only[itb]
 all_goals try simp only[itf,gS,kk]
 all_goals repeat' first|refine exI λ_=>?_|refine anJ λ_ _=>?_|refine anI λ_=>?_|refine orE2 ?_ ?_|exact False.elim
 all_goals (intro h;first|rw[Ze Z9e.eq_1]|rw[Ze Zzb.eq_1]|rw[Ze Z9f.eq_1]|refine run Zb68 rfl ?_|rw[Ze Z9i.eq_1]|refine run Zb7a rfl ?_|refine run Zb7b rfl ?_|rw[Ze Zze.eq_1]|rw[Ze Zli.eq_1]|rw[Ze Zzf.eq_1]|refine run Zb7c rfl ?_|refine run Zb7d rfl ?_|rw[Ze Z9o.eq_1]|refine run Zb7e rfl ?_)
 all_goals (refine Yf ?_ h;clear h;simp +decide[*,kk,tI,tII,Z9h,Zzc,Z9g,Zbmf,Z9j,Zbmg,Zbmh,Zzi,Zlj,Zzh,Zzg,Zbmi,Zbmk,Z9p,Zbml])
abbrev Zbrx:=Zdf.1.1.1.1
abbrev Zbry:=Zdf.1.1.1.2
abbrev Zbrz:=Zdf.1.1.2.1
abbrev Zcdi:=Zdf.1.1.2.2
abbrev Zbr0:=Zdf.1.2.1.1
abbrev Zbav:=Zdf.1.2.1.2
abbrev Zcdj:=Zdf.1.2.2.1
abbrev Zcdk:=Zdf.1.2.2.2
abbrev Zbr1:=Zdf.2.1.1.1
abbrev Zcdl:=Zdf.2.1.1.2
abbrev Zbr2:=Zdf.2.1.2.1
abbrev Zbr3:=Zdf.2.1.2.2
abbrev Zbr4:=Zdf.2.2.1.1
abbrev Zcdm:=Zdf.2.2.1.2
abbrev Zcdn:=Zdf.2.2.2.1
abbrev Zbr5:=Zdf.2.2.2.2.1
abbrev Zcdo:=Zdf.2.2.2.2.2
theorem Zbr6{a:List Zk}{a1:Int}{r:AV×List Blk}(h:(∃(v:Bool),Zv a1 1 4=some (Bo v,[])/\(if v=true then(¬a1<0/\(∃(v1:List Int),Zgw a1 ([(w ((shlI 1 a1)-1))]) ([]:List Int)=some (.own 0,[.arr 3 1 true (v1.map ic)])/\(∃(v2:List (List Int)),Ztu a1=some (.own 0,[.arr 56 1 true (v2.map isc)])/\(0<=(v2.length:Int)/\((v2.length:Int)<=(v2.length:Int)/\((v2.length:Int).toNat*8<=room/\((v2.length:Int)<=140737488355328/\(Zo2 v1 v2 (List.replicate ((v2.length:Int)).toNat 0) a a1 (w ((shlI 1 a1)-1)) 0=some r))))))))else(some (.tup [.agg [.own 0,.own 1,.own 2],Bo false],[.arr 3 1 true (([]:List Int).map ic),.arr 56 1 true (([]:List (List Int)).map isc),.arr 3 1 true (([]:List Int).map ic)])=some r)))):Zlh a a1=some r:=by
 unfold Zlh;refine run Zb69 rfl ?_;obtain⟨v,q1,h⟩:=h;unfold Zv at q1
 try simp at q1
 by_cases q2:v=true
 .rw[if_pos q2]at h;obtain⟨q3,h⟩:=h;obtain⟨v1,q4,h⟩:=h;unfold Zgw at q4
  try simp at q4
  obtain⟨v2,q5,h⟩:=h;unfold Ztu at q5
  try simp at q5
  obtain⟨q6,h⟩:=h;have zq6:=q6;try simp at zq6
  obtain⟨q7,h⟩:=h;have zq7:=q7;try simp at zq7
  obtain⟨q8,h⟩:=h;have zq8:=q8;try simp at zq8
  obtain⟨q9,h⟩:=h;have zq9:=q9;try simp at zq9
  refine Yf ?_ h;clear h;simp +decide[*,Z9k,tI,tII,Zo2]
 .rw[if_neg q2]at h;refine Yf ?_ h;clear h;simp +decide[*,Z9k,tI,tII]
theorem Zdg:((((∀⦃a r⦄,Im (Zck a=some r) (∃v,Zv a.Den 1 2147483647=some (Bo v,[])/\(if v=true then(∃v2,Zv a.Num (-2147483647) 2147483647=some (Bo v2,[])/\(if v2=true then(∃v4,Zll a.Num=some (I v4,[])/\(∃v6,Zlm v4 a.Den=some (I v6,[])/\(some (Bo (decide (v6=1)),[])=some r)))else(some (Bo false,[])=some r)))else(some (Bo false,[])=some r))))/\
 (∀⦃l i r⦄,Im (Zt4 l i=some r) (if i<(l.length:Int)then(0<=i/\(∃e1,l[i.toNat]?=some e1/\(∃v2,Zck e1=some (Bo v2,[])/\(if v2=true then(Zt4 l (w (i+1))=some r)else(some (Bo false,[])=some r)))))else(some (Bo true,[])=some r))))/\
 ((∀⦃a r⦄,Im (Zo3 a=some r) (Zt4 a 0=some r))/\
 (∀⦃d all m n i r⦄,Im (Zt6 d all m n i=some r) (if i<(w (m+n))then(∃v,Ze1 all i=some (Bo v,[])/\(if v=true then(Zt6 d all m n (w (i+1))=some r)else(some (Bo false,[])=some r)))else(Zt7 d m n 0=some r)))))/\
 (((∀⦃d m n i r⦄,Im (Zt7 d m n i=some r) (if i<m then(0<=i/\(∃e1,d.Cells[i.toNat]?=some e1/\(if(e1.length:Int)=n then(∃v2,Zo3 e1=some (Bo v2,[])/\(if v2=true then(Zt7 d m n (w (i+1))=some r)else(some (Bo false,[])=some r)))else(some (Bo false,[])=some r))))else(∃v4,Zo3 d.Limits=some (Bo v4,[])/\(if v4=true then(∃v6,Zo3 d.Costs=some (Bo v6,[])/\(if v6=true then(∃v8,Zck d.Value=some (Bo v8,[])/\(some (Bo v8,[])=some r))else(some (Bo false,[])=some r)))else(some (Bo false,[])=some r)))))/\
 (∀⦃a r⦄,Im (Zln a=some r) (if 64<(a.Basic.length:Int)then(some (Bo false,[])=some r)else(∃v,Zv (a.Free.length:Int) 1 15=some (Bo v,[])/\(if v=true then(if(a.Cells.length:Int)=(a.Basic.length:Int)then(if(a.Limits.length:Int)=(a.Basic.length:Int)then(if(a.Costs.length:Int)=(a.Free.length:Int)then(a.Basic.length<=68719476736/\(a.Basic.length+a.Free.length<=68719476736/\(Zt6 a (a.Basic++a.Free) (a.Basic.length:Int) (a.Free.length:Int) 0=some r)))else(some (Bo false,[])=some r))else(some (Bo false,[])=some r))else(some (Bo false,[])=some r))else(some (Bo false,[])=some r))))))/\
 ((∀⦃d cc j r⦄,Im (Zi8 d cc j=some r) (if j<(d.Free.length:Int)then(0<=j/\(∃e1,d.Costs[j.toNat]?=some e1/\(if 0<e1.Num then(if cc<0 then(Zi8 d j (w (j+1))=some r)else(∃e2,d.Free[j.toNat]?=some e2/\(0<=cc/\(∃e3,d.Free[cc.toNat]?=some e3/\(if e2<e3 then(Zi8 d j (w (j+1))=some r)else(Zi8 d cc (w (j+1))=some r))))))else(Zi8 d cc (w (j+1))=some r))))else(some (I cc,[])=some r)))/\
 (∀⦃a r⦄,Im (Zt8 a=some r) (∃v,Zln a=some (Bo v,[])/\(if v=true then(Zi8 a (-1) 0=some r)else(some (I (-1),[])=some r)))))))/\
 ((((∀⦃a a1 r⦄,Im (Zlo a a1=some r) (if a1=0 then(some (.tup [.agg [I 0,I 0],Bo false],[])=some r)else(if a<(-9223372036854775807)then(some (.tup [.agg [I 0,I 0],Bo false],[])=some r)else(if a1<(-9223372036854775807)then(some (.tup [.agg [I 0,I 0],Bo false],[])=some r)else(if a1<0 then(∃v,Zll (w (0-a))=some (I v,[])/\(∃v2,Zlm v (w (0-a1))=some (I v2,[])/\(¬v2=0/\(∃v4,Zck (⟨(w (Int.tdiv (w (0-a)) v2)),(w (Int.tdiv (w (0-a1)) v2))⟩:Za)=some (Bo v4,[])/\(if v4=true then(some (.tup [.agg [I (w (Int.tdiv (w (0-a)) v2)),I (w (Int.tdiv (w (0-a1)) v2))],Bo true],[])=some r)else(some (.tup [.agg [I 0,I 0],Bo false],[])=some r))))))else(∃v6,Zll a=some (I v6,[])/\(∃v8,Zlm v6 a1=some (I v8,[])/\(¬v8=0/\(∃v9,Zck (⟨(w (Int.tdiv a v8)),(w (Int.tdiv a1 v8))⟩:Za)=some (Bo v9,[])/\(if v9=true then(some (.tup [.agg [I (w (Int.tdiv a v8)),I (w (Int.tdiv a1 v8))],Bo true],[])=some r)else(some (.tup [.agg [I 0,I 0],Bo false],[])=some r)))))))))))/\
 (∀⦃a a1 r⦄,Im (Zi9 a a1=some r) (∃v,Zck a=some (Bo v,[])/\(if v=true then(∃v2,Zck a1=some (Bo v2,[])/\(if v2=true then(if a1.Num=0 then(some (.tup [.agg [I 0,I 0],Bo false],[])=some r)else(∃(v4:Za),∃v5,Zlo (w (a.Num*a1.Den)) (w (a.Den*a1.Num))=some (.tup [.agg (v4.c.map .t),Bo v5],[])/\(some (.tup [.agg (v4.c.map .t),Bo v5],[])=some r)))else(some (.tup [.agg [I 0,I 0],Bo false],[])=some r)))else(some (.tup [.agg [I 0,I 0],Bo false],[])=some r)))))/\
 ((∀⦃a a1 r⦄,Im (Zzk a a1=some r) (∃v,Zck a=some (Bo v,[])/\(if v=true then(∃v2,Zck a1=some (Bo v2,[])/\(if v2=true then(if(w (a.Num*a1.Den))<(w (a1.Num*a.Den))then(some (I (-1),[])=some r)else(if(w (a1.Num*a.Den))<(w (a.Num*a1.Den))then(some (I 1,[])=some r)else(some (I 0,[])=some r)))else(some (I 0,[])=some r)))else(some (I 0,[])=some r))))/\
 (∀⦃d cd j cc i r⦄,Im (Zgx d cd j cc i=some r) (if i<(d.Basic.length:Int)then(0<=i/\(∃e1,d.Cells[i.toNat]?=some e1/\(0<=j/\(∃e2,e1[j.toNat]?=some e2/\(if e2.Num<=0 then(Zgx d cd j cc (w (i+1))=some r)else(∃e3,d.Limits[i.toNat]?=some e3/\(∃(v6:Za),∃v7,Zi9 e3 e2=some (.tup [.agg (v6.c.map .t),Bo v7],[])/\(if v7=true then(∃v8,Zzk v6 cd=some (I v8,[])/\(if cc<0 then(Zgx d v6 j i (w (i+1))=some r)else(if v8<0 then(Zgx d v6 j i (w (i+1))=some r)else(if v8=0 then(∃e6,d.Basic[i.toNat]?=some e6/\(0<=cc/\(∃e7,d.Basic[cc.toNat]?=some e7/\(if e6<e7 then(Zgx d v6 j i (w (i+1))=some r)else(Zgx d cd j cc (w (i+1))=some r)))))else(Zgx d cd j cc (w (i+1))=some r)))))else(some (I (-1),[])=some r)))))))))else(some (I cc,[])=some r)))))/\
 (((∀⦃a a1 r⦄,Im (Zt9 a a1=some r) (∃v,Zln a=some (Bo v,[])/\(if v=true then(∃v2,Zv a1 0 (w ((a.Free.length:Int)-1))=some (Bo v2,[])/\(if v2=true then(Zgx a (⟨0,0⟩:Za) a1 (-1) 0=some r)else(some (I (-1),[])=some r)))else(some (I (-1),[])=some r))))/\
 (∀⦃a a1 r⦄,Im (Zhq a a1=some r) (∃v,Zck a=some (Bo v,[])/\(if v=true then(∃v2,Zck a1=some (Bo v2,[])/\(if v2=true then(∃(v4:Za),∃v5,Zlo (w (a.Num*a1.Num)) (w (a.Den*a1.Den))=some (.tup [.agg (v4.c.map .t),Bo v5],[])/\(some (.tup [.agg (v4.c.map .t),Bo v5],[])=some r))else(some (.tup [.agg [I 0,I 0],Bo false],[])=some r)))else(some (.tup [.agg [I 0,I 0],Bo false],[])=some r)))))/\
 ((∀⦃a a1 r⦄,Im (Zzm a a1=some r) (∃v,Zck a=some (Bo v,[])/\(if v=true then(∃v2,Zck a1=some (Bo v2,[])/\(if v2=true then(∃(v4:Za),∃v5,Zlo (w ((w (a.Num*a1.Den))-(w (a1.Num*a.Den)))) (w (a.Den*a1.Den))=some (.tup [.agg (v4.c.map .t),Bo v5],[])/\(some (.tup [.agg (v4.c.map .t),Bo v5],[])=some r))else(some (.tup [.agg [I 0,I 0],Bo false],[])=some r)))else(some (.tup [.agg [I 0,I 0],Bo false],[])=some r))))/\
 ((∀⦃a a1 a2 r⦄,Im (Zce a a1 a2=some r) (if a1.Num=0 then(some (.tup [.agg (a.c.map .t),Bo true],[])=some r)else(if a2.Num=0 then(some (.tup [.agg (a.c.map .t),Bo true],[])=some r)else(∃(v:Za),∃v1,Zhq a1 a2=some (.tup [.agg (v.c.map .t),Bo v1],[])/\(∃(v2:Za),∃v3,Zzm a v=some (.tup [.agg (v2.c.map .t),Bo v3],[])/\(if v1=true then(some (.tup [.agg (v2.c.map .t),Bo v3],[])=some r)else(some (.tup [.agg (v2.c.map .t),Bo false],[])=some r)))))))/\
 (∀⦃a a1 r⦄,Im (Zja a a1=some r) (∃v,Zck a=some (Bo v,[])/\(if v=true then(∃v2,Zck a1=some (Bo v2,[])/\(if v2=true then(∃(v4:Za),∃v5,Zlo (w ((w (a.Num*a1.Den))+(w (a1.Num*a.Den)))) (w (a.Den*a1.Den))=some (.tup [.agg (v4.c.map .t),Bo v5],[])/\(some (.tup [.agg (v4.c.map .t),Bo v5],[])=some r))else(some (.tup [.agg [I 0,I 0],Bo false],[])=some r)))else(some (.tup [.agg [I 0,I 0],Bo false],[])=some r)))))))):=by
 and_intros
 all_goals intros
 all_goals unfold Im
 all_goals try simp only[Zck,Zt4,Zo3,Zt6,Zt7,Zln,Zi8,Zt8,Zlo,Zi9,Zzk,Zgx,Zt9,Zhq,Zzm,Zce,Zja,Zv,Zll,Zlm,Za.c_def,Ze1,Zl.c_def,mpl,dfs]
 all_goals try simp only[itb]
 all_goals try simp only[itf,gS,kk]
 all_goals repeat' first|refine exI λ_=>?_|refine anJ λ_ _=>?_|refine anI λ_=>?_|refine orE2 ?_ ?_|exact False.elim
 all_goals (intro h;first|refine run Zb7f rfl ?_|rw[Ze Z9r.eq_1]|refine run Zb7g rfl ?_|rw[Ze Z9t.eq_1]|rw[Ze Z9u.eq_1]|refine run Zb7h rfl ?_|rw[Ze Z9x.eq_1]|refine run Zb7i rfl ?_|refine run Zb7j rfl ?_|refine run Zb7k rfl ?_|refine run Zb7l rfl ?_|rw[Ze Z9z.eq_1]|refine run Zb7m rfl ?_|refine run Zb7n rfl ?_|refine run Zb7o rfl ?_|refine run Zb7p rfl ?_|refine run Zb7q rfl ?_)
 all_goals try simp only[Int.zero_sub]at *
 all_goals (refine Yf ?_ h;clear h;simp +decide[*,kk,tI,tII,Zbmm,Z9s,Zbmn,Z9w,Z9v,Zbmo,Zbmp,Z9y,Zbmq,Zbmt,Zbms,Zbmu,Zbmv,Zbmw,Z90,Zbmx,Zbmy,Zbmz,Zbm0,Zbm1])
abbrev Zcdp:=Zdg.1.1.1.1
abbrev Zbr7:=Zdg.1.1.1.2
abbrev Zcdq:=Zdg.1.1.2.1
abbrev Zbr8:=Zdg.1.1.2.2
abbrev Zbr9:=Zdg.1.2.1.1
abbrev Zcdr:=Zdg.1.2.1.2
abbrev Zbsa:=Zdg.1.2.2.1
abbrev Zcds:=Zdg.1.2.2.2
abbrev Zcdt:=Zdg.2.1.1.1
abbrev Zcdu:=Zdg.2.1.1.2
abbrev Zcdv:=Zdg.2.1.2.1
abbrev Zbsb:=Zdg.2.1.2.2
abbrev Zcdw:=Zdg.2.2.1.1
abbrev Zcdx:=Zdg.2.2.1.2
abbrev Zcdy:=Zdg.2.2.2.1
abbrev Zcdz:=Zdg.2.2.2.2.1
abbrev Zcd0:=Zdg.2.2.2.2.2
end Go.Proofs.YtnnjbejcffjgfaaGreat
