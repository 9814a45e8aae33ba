/-
  Parts of the proofs for this seat: G5 G6 G7 G8.
-/
import Derived.Test.YtnnjbejcffjgfaaGreatP11
import Derived.Test.YtnnjbejcffjgfaaGreatP12
set_option linter.unusedSectionVars false
set_option linter.unusedSimpArgs false
set_option linter.unusedVariables false
set_option maxRecDepth 100000
set_option maxHeartbeats 4000000
namespace Go.Proofs.YtnnjbejcffjgfaaGreat
open Go.AM
theorem Zfa:(((∀⦃a r⦄,Im (Zkg a=some r) (if 0<(a.Groups.length:Int)then(0<=(w ((a.Groups.length:Int)-1))/\(∃e1,a.Groups[(w ((a.Groups.length:Int)-1)).toNat]?=some e1/\(∃(v3:List (List Int)),Zhn e1.Values=some (.own 0,[.arr 56 1 true (v3.map isc)])/\(∃v8,Zhm (⟨a.Name,a.Arity,v3⟩:Ze)=some (Bo v8,[])/\(if v8=true then((∃v12 v13 v14,Zho (⟨a.Name,a.Arity,v3⟩:Ze)=some (.agg [.t (.str v12),I v13,I v14,.t .nil],[])/\(∃v15,Zbbi v12 v13 v14 a=some (Bo v15,[])/\(some (.tup [.agg [.t (.str a.Name),I a.Arity,L 1 (v3.map isc)],Bo v15],[])=some r)))\/(∃v16,∃(v17:List Zh),∃v18,∃v19,∃v20,Zho (⟨a.Name,a.Arity,v3⟩:Ze)=some (.agg [.t (.str v18),I v19,I v20,.own 0],[.arr 200 3 v16 (v17.map Zh.c)])/\(∃v21,Zmf (⟨v18,v19,v20,v17⟩:Zg) a=some (Bo v21,[])/\(some (.tup [.agg [.t (.str a.Name),I a.Arity,L 1 (v3.map isc)],Bo v21],[])=some r))))else(some (.tup [.agg [.t (.str a.Name),I a.Arity,L 1 (v3.map isc)],Bo false],[])=some r))))))else(∃v22,Zbrh a.Name a.Arity=some (Bo v22,[])/\(if v22=true then((∃v23 v24 v25,Zbbj a.Name a.Arity=some (.agg [.t (.str v23),I v24,I v25,.t .nil],[])/\(∃v26,Zbbi v23 v24 v25 a=some (Bo v26,[])/\(some (.tup [.agg [.t (.str a.Name),I a.Arity,.t .nil],Bo v26],[])=some r)))\/(∃v27,∃(v28:List Zh),∃v29,∃v30,∃v31,Zbbj a.Name a.Arity=some (.agg [.t (.str v29),I v30,I v31,.own 0],[.arr 200 3 v27 (v28.map Zh.c)])/\(∃v32,Zmf (⟨v29,v30,v31,v28⟩:Zg) a=some (Bo v32,[])/\(some (.tup [.agg [.t (.str a.Name),I a.Arity,.t .nil],Bo v32],[])=some r))))else(some (.tup [.agg [.t (.str a.Name),I a.Arity,.t .nil],Bo false],[])=some r)))))/\
 ((∀⦃a r⦄,Im (Zpl a=some r) ((∃(v1:Ze),∃v2,Zkg a=some (.tup [.agg (v1.c.map .t),Bo v2],[])/\(some (Bo v2,[])=some r))\/(∃v3 v4 v5,Zkg a=some (.tup [.agg [.t (.str v3),I v4,.t .nil],Bo v5],[])/\(some (Bo v5,[])=some r))))/\
 (∀⦃s cu co cc cp x x1 x2 r⦄,Im (Zue s cu co cc cp x x1 x2=some r) (if x2<x1 then(0<=x2/\(∃e1,x[x2.toNat]?=some e1/\(∃(v3:List Int),Zep e1.Columns=some (.own 0,[.arr 3 1 true (v3.map ic)])/\(∃(v8:List (List Int)),Zhn e1.Values=some (.own 0,[.arr 56 1 true (v8.map isc)])/\(∃(v12:List Int),Zep e1.Counts=some (.own 0,[.arr 3 1 true (v12.map ic)])/\(cp.length+1<=68719476736/\(Zue s cu co cc (cp++[(⟨v3,v8,v12⟩:Zh)]) x x1 (w (x2+1))=some r)))))))else(some (.agg [.t (.str s.Name),I s.Arity,I s.RowCount,.own 0],[.arr 200 3 true (cp.map Zh.c)])=some r)))))/\
 (((∀⦃a r⦄,Im (Z1i a=some r) (Zue a (⟨#[]⟩:ByteArray) 0 0 ([]:List Zh) a.Groups (a.Groups.length:Int) 0=some r))/\
 (∀⦃cu co cc cv x x1 x2 r⦄,Im (Zpn cu co cc cv x x1 x2=some r) (if x2<x1 then(0<=x2/\(∃e1,x[x2.toNat]?=some e1/\(if e1.Name=cv then(∃v3,Zpl e1=some (Bo v3,[])/\(if v3=true then(∃(v8:List Zh),∃v9,∃v10,∃v11,Z1i e1=some (.agg [.t (.str v9),I v10,I v11,.own 0],[.arr 200 3 true (v8.map Zh.c)])/\(some (.tup [.agg [.t (.str v9),I v10,I v11,.own 0],Bo true],[.arr 200 3 true (v8.map Zh.c)])=some r))else(Zpn cu co cc cv x x1 (w (x2+1))=some r)))else(Zpn cu co cc cv x x1 (w (x2+1))=some r))))else(some (.tup [.agg [.t (.str (⟨#[]⟩:ByteArray)),I 0,I 0,.own 0],Bo false],[.arr 200 3 true (([]:List Zh).map Zh.c)])=some r))))/\
 ((∀⦃a a1 r⦄,Im (Zpm a a1=some r) (Zpn (⟨#[]⟩:ByteArray) 0 0 a1 a.Tables (a.Tables.length:Int) 0=some r))/\
 (∀⦃a a1 a2 r⦄,Im (Zgb a a1 a2=some r) (0<=a2/\(∃e1,a1.Atoms[a2.toNat]?=some e1/\(∃(v3:List Zh),∃v4,∃v5,∃v6,∃v7,Zpm a.Zl e1.Name=some (.tup [.agg [.t (.str v4),I v5,I v6,.own 0],Bo v7],[.arr 200 3 true (v3.map Zh.c)])/\(some (.agg [.t (.str v4),I v5,I v6,.own 0],[.arr 200 3 true (v3.map Zh.c)])=some r))))))))/\
 (((∀⦃s q x n x1 x2 r⦄,Im (Zug s q x n x1 x2=some r) (if x2<x1 then(0<=x2/\(∃e1,x[x2.toNat]?=some e1/\(∃(v3:List Zh),∃v4,∃v5,∃v6,Zgb s q e1=some (.agg [.t (.str v4),I v5,I v6,.own 0],[.arr 200 3 true (v3.map Zh.c)])/\(Zug s q x (w (n*v6)) x1 (w (x2+1))=some r))))else(some (I n,[])=some r)))/\
 ((∀⦃a a1 a2 r⦄,Im (Zuf a a1 a2=some r) (∃v1,Zcu a a1 a2=some (Bo v1,[])/\(if v1=true then((Zca a2=some (.t .nil,[])/\(Zbrq a a1 1 0 0=some r))\/(∃(v8:List Int),Zca a2=some (.own 0,[.arr 3 1 true (v8.map ic)])/\(Zug a a1 v8 1 (v8.length:Int) 0=some r)))else(some (I (-1),[])=some r))))/\
 (∀⦃q cd cn v r⦄,Im (Zmh q cd cn v=some r) (if v<q.Zp then(Zpo q cd cn v q.Atoms (q.Atoms.length:Int) 0=some r)else(some (.own 0,[.arr 3 1 true (cd.map ic)])=some r)))))/\
 (((∀⦃q cd cn v x x1 x2 r⦄,Im (Zpo q cd cn v x x1 x2=some r) (if x2<x1 then(0<=x2/\(∃e1,x[x2.toNat]?=some e1/\(¬x2<0/\(if(andI (shrI cn x2) 1)=1 then(∃v3,Zfo e1.Vars v=some (Bo v3,[])/\(if v3=true then(cd.length+1<=68719476736/\(Zmh q (cd++[v]) cn (w (v+1))=some r))else(Zpo q cd cn v x x1 (w (x2+1))=some r)))else(Zpo q cd cn v x x1 (w (x2+1))=some r)))))else(Zmh q cd cn (w (v+1))=some r)))/\
 (∀⦃a a1 r⦄,Im (Zhp a a1=some r) (Zmh a ([]:List Int) a1 0=some r)))/\
 ((∀⦃cd cl x x1 x2 r⦄,Im (Zpp cd cl x x1 x2=some r) (if x2<x1 then(0<=x2/\(∃e1,x[x2.toNat]?=some e1/\(∃v3,Zfo cl e1=some (Bo v3,[])/\(if v3=true then(cd.length+1<=68719476736/\(Zpp (cd++[x2]) cl x x1 (w (x2+1))=some r))else(Zpp cd cl x x1 (w (x2+1))=some r)))))else(some (.own 0,[.arr 3 1 true (cd.map ic)])=some r)))/\
 (∀⦃a a1 r⦄,Im (Zkh a a1=some r) (Zpp ([]:List Int) a1 a.Vars (a.Vars.length:Int) 0=some r))))):=by
 and_intros
 all_goals intros
 all_goals unfold Im
 all_goals try simp only[Zkg,Zpl,Zue,Z1i,Zpn,Zpm,Zgb,Zug,Zuf,Zmh,Zpo,Zhp,Zpp,Zkh,Zhn,Zhm,Zho,Zbbi,Zmf,Zbrh,Zbbj,Ze.c_def,Zg.c_def,Zep,Zl.c_def,Zi.c_def,Zb.c_def,Zf.c_def,Zcu,Zca,Zfo,Zbrq,mpl,dfs]
 all_goals try simp only[itb]
 all_goals try simp only[itf,gS,kk]
 all_goals repeat' first|refine exI λ_=>?_|refine anJ λ_ _=>?_|refine anI λ_=>?_|refine orE2 ?_ ?_|exact False.elim
 all_goals (intro h;first|refine run Zcg6 rfl ?_|refine run Zcg7 rfl ?_|rw[Zd Zbbl.eq_1]|refine run Zcg8 rfl ?_|rw[Zd Zbbo.eq_1]|refine run Zcg9 rfl ?_|refine run Zcha rfl ?_|rw[Zd Z1j.eq_1]|refine run Zchb rfl ?_|rw[Zd Z1l.eq_1]|rw[Zd Zbbr.eq_1]|refine run Zchc rfl ?_|rw[Zd Zbbt.eq_1]|refine run Zchd rfl ?_)
 all_goals (refine Yf ?_ h;clear h;simp +decide[*,kk,tI,tII,Zbrk,Zbrj,Zbrl,Zbbm,Zbrm,Zbbp,Zbrn,Zbro,Z1k,Zbrp,Z1m,Zbbs,Zbrr,Zbrs,Zbbu,Zbrt])
abbrev Zcnl:=Zfa.1.1.1
abbrev Zcnm:=Zfa.1.1.2.1
abbrev Zbzu:=Zfa.1.1.2.2
abbrev Zcnn:=Zfa.1.2.1.1
abbrev Zcno:=Zfa.1.2.1.2
abbrev Zcnp:=Zfa.1.2.2.1
abbrev Zcnq:=Zfa.1.2.2.2
abbrev Zbzv:=Zfa.2.1.1
abbrev Zcnr:=Zfa.2.1.2.1
abbrev Zbzw:=Zfa.2.1.2.2
abbrev Zbzx:=Zfa.2.2.1.1
abbrev Zcns:=Zfa.2.2.1.2
abbrev Zbzy:=Zfa.2.2.2.1
abbrev Zcnt:=Zfa.2.2.2.2
theorem Zdb:((((∀⦃s i j r⦄,Im (Zuj s i j=some r) (if i<j then(0<=j/\(∃e1,s[j.toNat]?=some e1/\(0<=i/\(∃e2,s[i.toNat]?=some e2/\(∃e3,(s.set i.toNat e1)[j.toNat]?=some e3/\(Zuj ((s.set i.toNat e1).set j.toNat e2) (w (i+1)) (w (j-1))=some r))))))else(some (.tup [],[.arr 3 1 true (s.map ic)])=some r)))/\
 (∀⦃x r⦄,Im (Zui x=some r) (Zuj x 0 (w ((x.length:Int)-1))=some r)))/\
 ((∀⦃a a1 r⦄,Im (Z1o a a1=some r) ((Zgx a a1=some (.tup [.t .nil,.t .nil],[])/\(∃(v4:List Int),Zbru=some (.own 0,[.arr 3 1 true (v4.map ic)])/\(∃(v5:List Int),Zme v4=some (.tup [],[.arr 3 1 true (v5.map ic)])/\(∃(v8:List Int),Zui v5=some (.tup [],[.arr 3 1 true (v8.map ic)])/\(some (.own 0,[.arr 3 1 true (v8.map ic)])=some r)))))\/(∃(v9:List (List Int)) (v10:List Int),Zgx a a1=some (.tup [.own 0,.own 1],[.arr 56 1 true (v9.map isc),.arr 3 1 true (v10.map ic)])/\(∃(v11:List Int),Zep v10=some (.own 0,[.arr 3 1 true (v11.map ic)])/\(∃(v12:List Int),Zme v11=some (.tup [],[.arr 3 1 true (v12.map ic)])/\(∃(v13:List Int),Zui v12=some (.tup [],[.arr 3 1 true (v13.map ic)])/\(some (.own 0,[.arr 3 1 true (v13.map ic)])=some r)))))))/\
 (∀⦃a a1 r⦄,Im (Zmi a a1=some r) ((∃(v:Ze),∃v1,Zkg a=some (.tup [.agg (v.c.map .t),Bo v1],[])/\(if v1=true then(∃(v4:List Int),Z1o v a1=some (.own 0,[.arr 3 1 true (v4.map ic)])/\(some (.own 0,[.arr 3 1 true (v4.map ic)])=some r))else(some (.own 0,[.arr 3 1 true (([]:List Int).map ic)])=some r)))\/(∃v5 v6 v7,Zkg a=some (.tup [.agg [.t (.str v5),I v6,.t .nil],Bo v7],[])/\(if v7=true then(∃(v8:List Int),Zbry v5 v6 a1=some (.own 0,[.arr 3 1 true (v8.map ic)])/\(some (.own 0,[.arr 3 1 true (v8.map ic)])=some r))else(some (.own 0,[.arr 3 1 true (([]:List Int).map ic)])=some r)))))))/\
 (((∀⦃a a1 r⦄,Im (Zmj a a1=some r) (∃(v:List Int),Zmi a a1=some (.own 0,[.arr 3 1 true (v.map ic)])/\(if(v.length:Int)=0 then(some (I 0,[])=some r)else(∃e2,v[0]?=some e2/\(some (I e2,[])=some r)))))/\
 (∀⦃a a1 a2 a3 r⦄,Im (Z1p a a1 a2 a3=some r) (∃(v:List Zh),∃v1,∃v2,∃v3,Zgb a a1 a2=some (.agg [.t (.str v1),I v2,I v3,.own 0],[.arr 200 3 true (v.map Zh.c)])/\(0<=a2/\(∃e2,a1.Atoms[a2.toNat]?=some e2/\(∃(v5:List Int),Zkh e2 a3=some (.own 0,[.arr 3 1 true (v5.map ic)])/\(∃v8,Zmj (⟨v1,v2,v3,v⟩:Zg) v5=some (I v8,[])/\(some (I v8,[])=some r))))))))/\
 ((∀⦃s q x cd cc cn x1 x2 r⦄,Im (Zmk s q x cd cc cn x1 x2=some r) (if x2<x1 then(0<=x2/\(∃e1,x[x2.toNat]?=some e1/\(∃(v4:List Int),Zhp q cd=some (.own 0,[.arr 3 1 true (v4.map ic)])/\(∃v5,Z1p s q e1 v4=some (I v5,[])/\(¬e1<0/\(∃v8,Zpq s q (orI cd (shlI 1 e1)) (Zr cc (shlI 1 e1))=some (I v8,[])/\(if cn<0 then(Zmk s q x cd cc (w (v5*v8)) x1 (w (x2+1))=some r)else(if(w (v5*v8))<cn then(Zmk s q x cd cc (w (v5*v8)) x1 (w (x2+1))=some r)else(Zmk s q x cd cc cn x1 (w (x2+1))=some r)))))))))else(some (I cn,[])=some r)))/\
 ((∀⦃a a1 a2 a3 r⦄,Im (Zpq a a1 a2 a3=some r) (if a3=0 then(some (I 1,[])=some r)else((Zca a3=some (.t .nil,[])/\(Zbr4 a a1 a2 a3 (-1) 0 0=some r))\/(∃(v4:List Int),Zca a3=some (.own 0,[.arr 3 1 true (v4.map ic)])/\(Zmk a a1 v4 a2 a3 (-1) (v4.length:Int) 0=some r)))))/\
 (∀⦃a a1 a2 r⦄,Im (Zuk a a1 a2=some r) (∃v,Zcu a a1 a2=some (Bo v,[])/\(if v=true then(∃v4,Zpq a a1 0 a2=some (I v4,[])/\(some (I v4,[])=some r))else(some (I (-1),[])=some r))))))))/\
 ((((∀⦃a a1 r⦄,Im (Zpr a a1=some r) (∃v,Zkf a=some (Bo v,[])/\(if v=true then(¬(a.Atoms.length:Int)<0/\(∃v4,Z7 a1 0 (w ((shlI 1 (a.Atoms.length:Int))-1))=some (Bo v4,[])/\(some (Bo v4,[])=some r)))else(some (Bo false,[])=some r))))/\
 (∀⦃a a1 r⦄,Im (Zgc a a1=some r) (∃v,Zpr a a1=some (Bo v,[])/\(if v=true then(∃(v4:List Int),Zhp a a1=some (.own 0,[.arr 3 1 true (v4.map ic)])/\(some (.own 0,[.arr 3 1 true (v4.map ic)])=some r))else(some (.t .nil,[])=some r)))))/\
 ((∀⦃co b x x1 x2 r⦄,Im (Zps co b x x1 x2=some r) (if x2<x1 then(0<=x2/\(∃e1,x[x2.toNat]?=some e1/\(∃v4,Zfo b e1=some (Bo v4,[])/\(if v4=true then(co.length+1<=68719476736/\(Zps (co++[e1]) b x x1 (w (x2+1))=some r))else(Zps co b x x1 (w (x2+1))=some r)))))else(some (.own 0,[.arr 3 1 true (co.map ic)])=some r)))/\
 (∀⦃a a1 r⦄,Im (Zki a a1=some r) (Zps ([]:List Int) a1 a (a.length:Int) 0=some r))))/\
 (((∀⦃a a1 a2 r⦄,Im (Zul a a1 a2=some r) ((∃(v:List Int),Zgc a a1=some (.own 0,[.arr 3 1 true (v.map ic)])/\((∃(v4:List Int),Zgc a a2=some (.own 0,[.arr 3 1 true (v4.map ic)])/\(∃(v5:List Int),Zki v v4=some (.own 0,[.arr 3 1 true (v5.map ic)])/\(some (.own 0,[.arr 3 1 true (v5.map ic)])=some r)))\/(Zgc a a2=some (.t .nil,[])/\(∃(v9:List Int),Zbsa v=some (.own 0,[.arr 3 1 true (v9.map ic)])/\(some (.own 0,[.arr 3 1 true (v9.map ic)])=some r)))))\/(Zgc a a1=some (.t .nil,[])/\((∃(v12:List Int),Zgc a a2=some (.own 0,[.arr 3 1 true (v12.map ic)])/\(∃(v13:List Int),Zbsb v12=some (.own 0,[.arr 3 1 true (v13.map ic)])/\(some (.own 0,[.arr 3 1 true (v13.map ic)])=some r)))\/(Zgc a a2=some (.t .nil,[])/\(∃(v14:List Int),Zbsc=some (.own 0,[.arr 3 1 true (v14.map ic)])/\(some (.own 0,[.arr 3 1 true (v14.map ic)])=some r)))))))/\
 (∀⦃cl cc x x1 x2 r⦄,Im (Zpt cl cc x x1 x2=some r) (if x2<x1 then(0<=x2/\(∃e1,x[x2.toNat]?=some e1/\(∃v4,Z7 e1 1 cc=some (Bo v4,[])/\(if v4=true then(if 0<x2 then(0<=(w (x2-1))/\(∃e3,cl[(w (x2-1)).toNat]?=some e3/\(if e3<e1 then(some (Bo false,[])=some r)else(Zpt cl (w (cc-e1)) x x1 (w (x2+1))=some r))))else(Zpt cl (w (cc-e1)) x x1 (w (x2+1))=some r))else(some (Bo false,[])=some r)))))else(some (Bo true,[])=some r))))/\
 ((∀⦃a r⦄,Im (Zum a=some r) (Zpt a 8 a (a.length:Int) 0=some r))/\
 ((∀⦃a b n i r⦄,Im (Zuo a b n i=some r) (if i<(a.length:Int)then(if i<(b.length:Int)then(0<=i/\(∃e1,a[i.toNat]?=some e1/\(∃e2,b[i.toNat]?=some e2/\(Zuo a b (w (n+(w (e1*e2)))) (w (i+1))=some r))))else(some (I n,[])=some r))else(some (I n,[])=some r)))/\
 (∀⦃a a1 r⦄,Im (Zun a a1=some r) (∃v,Zum a=some (Bo v,[])/\(if v=true then(∃v4,Zum a1=some (Bo v4,[])/\(if v4=true then(Zuo a a1 0 0=some r)else(some (I 0,[])=some r)))else(some (I 0,[])=some r)))))))):=by
 and_intros
 all_goals intros
 all_goals unfold Im
 all_goals try simp only[Zuj,Zui,Z1o,Zmi,Zmj,Z1p,Zmk,Zpq,Zuk,Zpr,Zgc,Zps,Zki,Zul,Zpt,Zum,Zuo,Zun,Zgx,Zbru,Zme,Zep,Ze.c_def,Zkg,Zbry,Zg.c_def,Zgb,Zkh,Atom.c_def,Zl.c_def,Zi.c_def,Zb.c_def,Zf.c_def,Zhp,Zca,Zcu,Zkf,Z7,Zfo,Zbsa,Zbsb,Zbsc,Zbr4,mpl,dfs]
 all_goals try simp only[itb]
 all_goals try simp only[itf,gS,kk]
 all_goals repeat' first|refine exI λ_=>?_|refine anJ λ_ _=>?_|refine anI λ_=>?_|refine orE2 ?_ ?_|exact False.elim
 all_goals (intro h;first|rw[Zd Zbbv.eq_1]|refine runM Zche rfl ?_|refine run Zchf rfl ?_|refine run Zchg rfl ?_|refine run Zchh rfl ?_|refine run Zchi rfl ?_|rw[Zd Z1r.eq_1]|refine run Zchj rfl ?_|refine run Zchk rfl ?_|refine run Zchl rfl ?_|refine run Zchm rfl ?_|rw[Zd Zbbw.eq_1]|refine run Zchn rfl ?_|refine run Zcho rfl ?_|rw[Zd Zbbz.eq_1]|refine run Zchp rfl ?_|rw[Zd Zbb2.eq_1]|refine run Zchq rfl ?_)
 all_goals (refine Yf ?_ h;clear h;simp +decide[*,kk,tI,tII,Zbrw,Zbrx,Zbrz,Zbr0,Zbr1,Zbr2,Z1s,Zbr3,Zbr5,Zbr6,Zbr7,Zbr8,Zbbx,Zbr9,Zbsd,Zbb0,Zbse,Zbb3,Zbsf])
abbrev Zcnu:=Zdb.1.1.1.1
abbrev Zcnv:=Zdb.1.1.1.2
abbrev Zcnw:=Zdb.1.1.2.1
abbrev Zcnx:=Zdb.1.1.2.2
abbrev Zcny:=Zdb.1.2.1.1
abbrev Zcnz:=Zdb.1.2.1.2
abbrev Zbzz:=Zdb.1.2.2.1
abbrev Zbz0:=Zdb.1.2.2.2.1
abbrev Zcn0:=Zdb.1.2.2.2.2
abbrev Zcn1:=Zdb.2.1.1.1
abbrev Zcn2:=Zdb.2.1.1.2
abbrev Zbz1:=Zdb.2.1.2.1
abbrev Zcn3:=Zdb.2.1.2.2
abbrev Zcn4:=Zdb.2.2.1.1
abbrev Zbz2:=Zdb.2.2.1.2
abbrev Zcn5:=Zdb.2.2.2.1
abbrev Zbz3:=Zdb.2.2.2.2.1
abbrev Zcn6:=Zdb.2.2.2.2.2
theorem Zcn7:∀⦃a a1 a2 a3 r⦄,Im (Zup a a1 a2 a3=some r) (∃v,Zcu a a1 1=some (Bo v,[])/\(if v=true then(∃v1,Z7 a2 0 (w ((a1.Atoms.length:Int)-1))=some (Bo v1,[])/\(if v1=true then(∃v2,Z7 a3 0 (w ((a1.Atoms.length:Int)-1))=some (Bo v2,[])/\(if v2=true then(if a2=a3 then(some (I (-1),[])=some r)else(¬a2<0/\(¬a3<0/\(∃(v3:List Int),Zul a1 (shlI 1 a2) (shlI 1 a3)=some (.own 0,[.arr 3 1 true (v3.map ic)])/\(∃(v4:List Zh),∃v5,∃v6,∃v7,Zgb a a1 a2=some (.agg [.t (.str v5),I v6,I v7,.own 0],[.arr 200 3 true (v4.map Zh.c)])/\(0<=a2/\(∃e6,a1.Atoms[a2.toNat]?=some e6/\(∃(v8:List Int),Zkh e6 v3=some (.own 0,[.arr 3 1 true (v8.map ic)])/\(∃(v9:List Int),Zmi (⟨v5,v6,v7,v4⟩:Zg) v8=some (.own 0,[.arr 3 1 true (v9.map ic)])/\(∃(v10:List Zh),∃v11,∃v12,∃v13,Zgb a a1 a3=some (.agg [.t (.str v11),I v12,I v13,.own 0],[.arr 200 3 true (v10.map Zh.c)])/\(0<=a3/\(∃e10,a1.Atoms[a3.toNat]?=some e10/\(∃(v14:List Int),Zkh e10 v3=some (.own 0,[.arr 3 1 true (v14.map ic)])/\(∃(v15:List Int),Zmi (⟨v11,v12,v13,v10⟩:Zg) v14=some (.own 0,[.arr 3 1 true (v15.map ic)])/\(∃v16,Zun v9 v15=some (I v16,[])/\(some (I v16,[])=some r))))))))))))))))else(some (I (-1),[])=some r)))else(some (I (-1),[])=some r)))else(some (I (-1),[])=some r))):=by
 all_goals intros
 all_goals unfold Im
 all_goals try simp only[Zup,Zcu,Z7,Zul,Zgb,Zkh,Zmi,Zun,Atom.c_def,Zl.c_def,Zi.c_def,Zb.c_def,Zf.c_def,Zg.c_def,mpl,dfs]
 all_goals try simp only[itb]
 all_goals try simp only[itf,gS,kk]
 all_goals repeat' first|refine exI λ_=>?_|refine anJ λ_ _=>?_|refine anI λ_=>?_|refine orE2 ?_ ?_|exact False.elim
 all_goals (intro h;first|refine run Zchr rfl ?_)
 all_goals (refine Yf ?_ h;clear h;simp +decide[*,kk,tI,tII,Zbsg])
abbrev Zcn8:=Zcn7
theorem Zdc:((((∀⦃s q x x1 x2 r⦄,Im (Zur s q x x1 x2=some r) (if x2<x1 then(0<=x2/\(∃e1,x[x2.toNat]?=some e1/\(0<=e1/\(∃e2,q.Atoms[e1.toNat]?=some e2/\((∃v6 v7,Zb1 s.Zi e2.Name=some (.tup [.agg [.t (.str v6),I v7,.t .nil],Bo false],[])/\(some (Bo true,[])=some r))\/(∃(v11:List (List Int)),∃v12,∃v13,Zb1 s.Zi e2.Name=some (.tup [.agg [.t (.str v12),I v13,.own 0],Bo true],[.arr 56 1 true (v11.map isc)])/\(if(v11.length:Int)=0 then(some (Bo true,[])=some r)else(Zur s q x x1 (w (x2+1))=some r))))))))else(some (Bo false,[])=some r)))/\
 (∀⦃a a1 a2 r⦄,Im (Zuq a a1 a2=some r) ((Zca a2=some (.t .nil,[])/\(Zbsi a a1 0 0=some r))\/(∃(v4:List Int),Zca a2=some (.own 0,[.arr 3 1 true (v4.map ic)])/\(Zur a a1 v4 (v4.length:Int) 0=some r)))))/\
 ((∀⦃cd x x1 x2 r⦄,Im (Zpv cd x x1 x2=some r) (if x2<x1 then(0<=x2/\(∃e1,x[x2.toNat]?=some e1/\(∃v4,Z7 e1 0 3=some (Bo v4,[])/\(if v4=true then(¬e1<0/\(Zpv (orI cd (shlI 1 e1)) x x1 (w (x2+1))=some r))else(Zpv cd x x1 (w (x2+1))=some r)))))else(some (I cd,[])=some r)))/\
 (∀⦃a r⦄,Im (Zpu a=some r) (Zpv 0 a (a.length:Int) 0=some r))))/\
 (((∀⦃n b r⦄,Im (Zut n b=some r) (¬b<0/\(if(shlI 1 b)<n then(Zut n (w (b+1))=some r)else(some (I b,[])=some r))))/\
 (∀⦃a r⦄,Im (Zus a=some r) (∃v,Z7 a 1 4096=some (Bo v,[])/\(if v=true then(Zut a 0=some r)else(some (I (-1),[])=some r)))))/\
 ((∀⦃s cn cc cd r⦄,Im (Zpw s cn cc cd=some r) (¬s.Arity<0/\(if cd<(w ((shlI 1 s.Arity)-1))then(∃(v:List Int),Ze4 cd=some (.own 0,[.arr 3 1 true (v.map ic)])/\((Zc7 cn.Vars v=some (.tup [.t .nil,Bo false],[])/\(∃v6,Zbsl=some (I v6,[])/\(∃v11,Zpu cn.Vars=some (I v11,[])/\(∃v14,Zmj s v=some (I v14,[])/\(∃v15,Zus v14=some (I v15,[])/\(cc.length+1<=68719476736/\(Zpw s cn (cc++[(⟨v6,v11,v15⟩:Zm)]) (w (cd+1))=some r)))))))\/(∃(v16:List Int),Zc7 cn.Vars v=some (.tup [.own 0,Bo true],[.arr 3 1 true (v16.map ic)])/\(∃v17,Zpu v16=some (I v17,[])/\(∃v18,Zpu cn.Vars=some (I v18,[])/\(∃v19,Zmj s v=some (I v19,[])/\(∃v20,Zus v19=some (I v20,[])/\(cc.length+1<=68719476736/\(Zpw s cn (cc++[(⟨v17,v18,v20⟩:Zm)]) (w (cd+1))=some r)))))))))else(some (.own 0,[.arr 251 3 true (cc.map Zm.c)])=some r))))/\
 ((∀⦃a a1 r⦄,Im (Zuu a a1=some r) (∃v,Zpl a=some (Bo v,[])/\(if v=true then(if a.RowCount=0 then(some (.own 0,[.arr 251 3 true (([]:List Zm).map Zm.c)])=some r)else(if(a1.Vars.length:Int)=a.Arity then(Zpw a a1 ([]:List Zm) 0=some r)else(some (.own 0,[.arr 251 3 true (([]:List Zm).map Zm.c)])=some r)))else(some (.own 0,[.arr 251 3 true (([]:List Zm).map Zm.c)])=some r))))/\
 (∀⦃s q cc x x1 x2 r⦄,Im (Zuw s q cc x x1 x2=some r) (if x2<x1 then(0<=x2/\(∃e1,x[x2.toNat]?=some e1/\(0<=e1/\(∃e2,q.Atoms[e1.toNat]?=some e2/\(∃(v6:List Zh),∃v7,∃v8,∃v9,∃v10,Zpm s.Zl e2.Name=some (.tup [.agg [.t (.str v7),I v8,I v9,.own 0],Bo v10],[.arr 200 3 true (v6.map Zh.c)])/\(∃(v11:List Zm),Zuu (⟨v7,v8,v9,v6⟩:Zg) e2=some (.own 0,[.arr 251 3 true (v11.map Zm.c)])/\(if(v11.length:Int)=0 then(some (.own 0,[.arr 251 3 true (([]:List Zm).map Zm.c)])=some r)else(cc.length+v11.length<=68719476736/\(Zuw s q (cc++v11) x x1 (w (x2+1))=some r)))))))))else(some (.own 0,[.arr 251 3 true (cc.map Zm.c)])=some r)))))))/\
 ((((∀⦃a a1 a2 r⦄,Im (Zuv a a1 a2=some r) (∃v,Zpi a=some (Bo v,[])/\(if v=true then(∃v4,Zpj a.Zi a1=some (Bo v4,[])/\(if v4=true then(∃v6,Ze5 a1=some (I v6,[])/\(∃v11,Z7 a2 1 v6=some (Bo v11,[])/\(if v11=true then((Zca a2=some (.t .nil,[])/\(Zbsp a a1 ([]:List Zm) 0 0=some r))\/(∃(v15:List Int),Zca a2=some (.own 0,[.arr 3 1 true (v15.map ic)])/\(Zuw a a1 ([]:List Zm) v15 (v15.length:Int) 0=some r)))else(some (.own 0,[.arr 251 3 true (([]:List Zm).map Zm.c)])=some r))))else(some (.own 0,[.arr 251 3 true (([]:List Zm).map Zm.c)])=some r)))else(some (.own 0,[.arr 251 3 true (([]:List Zm).map Zm.c)])=some r))))/\
 (∀⦃x cd cc x1 x2 x3 r⦄,Im (Zkj x cd cc x1 x2 x3=some r) (if x3<x2 then(0<=x3/\(∃e1,x1[x3.toNat]?=some e1/\(if x3<4 then(∃v4,Z7 e1 0 3=some (Bo v4,[])/\(if v4=true then(¬e1<0/\(if(andI (shrI cd e1) 1)=1 then(¬x3<0/\(Zkj x cd (orI cc (shlI 1 x3)) x1 x2 (w (x3+1))=some r))else(Zkj x cd cc x1 x2 (w (x3+1))=some r)))else(Zkj x cd cc x1 x2 (w (x3+1))=some r)))else(Zkj x cd cc x1 x2 (w (x3+1))=some r))))else(some (I cc,[.box [L 1 (x.map ic)]])=some r))))/\
 ((∀⦃x a r⦄,Im (Zux x a=some r) (Zkj x a 0 x (x.length:Int) 0=some r))/\
 (∀⦃x cc x1 x2 x3 r⦄,Im (Zuz x cc x1 x2 x3=some r) (if x3<x2 then(0<=x3/\(∃e1,x1[x3.toNat]?=some e1/\(∃(v4:List Int),∃v5,Zux x e1.From=some (I v5,[.box [L 1 (v4.map ic)]])/\(∃(v6:List Int),∃v7,Zux v4 e1.To=some (I v7,[.box [L 1 (v6.map ic)]])/\(cc.length+1<=68719476736/\(Zuz v6 (cc++[(⟨v5,v7,e1.Bits⟩:Zm)]) x1 x2 (w (x3+1))=some r))))))else(some (.own 0,[.arr 251 3 true (cc.map Zm.c)])=some r)))))/\
 (((∀⦃a a1 r⦄,Im (Zuy a a1=some r) (Zuz a1 ([]:List Zm) a (a.length:Int) 0=some r))/\
 (∀⦃co x cl x1 x2 x3 x4 r⦄,Im (Zmn co x cl x1 x2 x3 x4=some r) (if x4<x3 then(0<=x4/\(∃e1,x1[x4.toNat]?=some e1/\(if 0<e1 then(0<=(w (e1-1))/\(∃e2,cl[(w (e1-1)).toNat]?=some e2/\(Zmn co x (cl.set ((w (e1-1)).toNat) (w (e2+1))) x1 x2 x3 (w (x4+1))=some r)))else(Zmn co x cl x1 x2 x3 (w (x4+1))=some r))))else(Zpx x cl co x1 x2 (co.length:Int) 0=some r))))/\
 ((∀⦃x cl x1 x2 x3 x4 x5 r⦄,Im (Zpx x cl x1 x2 x3 x4 x5=some r) (if x5<x4 then(0<=x5/\(∃e1,x1[x5.toNat]?=some e1/\(if 0<e1 then(0<=(w (e1-1))/\(∃e2,cl[(w (e1-1)).toNat]?=some e2/\(Zpx x (cl.set ((w (e1-1)).toNat) (w (e2-1))) x1 x2 x3 x4 (w (x5+1))=some r)))else(Zpx x cl x1 x2 x3 x4 (w (x5+1))=some r))))else(x.length+1<=68719476736/\(some (.tup [],[.arr 3 1 true (x2.map ic),.arr 3 1 true (x1.map ic),.box [I x3],.box [.own 5],.dead,.arr 56 1 true ((x++[cl]).map isc)])=some r))))/\
 ((∀⦃all x n i r⦄,Im (Zpy all x n i=some r) (if i<n then(¬i<0/\(∃(v:List Int),∃(v1:List Int),∃v2,∃(v3:List (List Int)),Zmm ([(Zr all (shlI 1 i))]) ([all]) all x=some (.tup [],[.arr 3 1 true (v.map ic),.arr 3 1 true (v1.map ic),.box [I v2],.box [.own 5],.dead,.arr 56 1 true (v3.map isc)])/\(Zpy v2 v3 n (w (i+1))=some r)))else(Zmo all x n 0=some r)))/\
 (∀⦃all x n i r⦄,Im (Zmo all x n i=some r) (if i<n then(Zmp all x n i (w (i+1))=some r)else(some (.own 0,[.arr 56 1 true (x.map isc)])=some r))))))):=by
 and_intros
 all_goals intros
 all_goals unfold Im
 all_goals try simp only[Zur,Zuq,Zpv,Zpu,Zut,Zus,Zpw,Zuu,Zuw,Zuv,Zkj,Zux,Zuz,Zuy,Zmn,Zpx,Zpy,Zmo,Zb1,Zi.c_def,Zca,Z7,Ze4,Zc7,Zbsl,Zmj,Zg.c_def,Zpl,Zpm,Atom.c_def,Zl.c_def,Zpi,Zpj,Ze5,Zb.c_def,Zf.c_def,Zmm,Zbsi,Zbsp,Zmp,mpl,dfs]
 all_goals try simp only[itb]
 all_goals try simp only[itf,gS,kk]
 all_goals repeat' first|refine exI λ_=>?_|refine anJ λ_ _=>?_|refine anI λ_=>?_|refine orE2 ?_ ?_|exact False.elim
 all_goals (intro h;first|rw[Zd Z1u.eq_1]|refine run Zchs rfl ?_|rw[Zd Zbb5.eq_1]|refine run Zcht rfl ?_|rw[Zd Zbb8.eq_1]|refine run Zchu rfl ?_|rw[Zd Zbcb.eq_1]|refine run Zchv rfl ?_|rw[Zd Z1x.eq_1]|refine run Zchw rfl ?_|rw[Zd Zbce.eq_1]|refine runM Zchx rfl ?_|rw[Zd Zbch.eq_1]|refine run Zchy rfl ?_|rw[Zd Zbcj.eq_1]|rw[Zd Zbck.eq_1]|rw[Zd Zbcn.eq_1]|rw[Zd Zu0.eq_1])
 all_goals (refine Yf ?_ h;clear h;simp +decide[*,kk,tI,tII,Z1v,Zbsh,Zbsj,Zbb6,Zbsk,Zbb9,Zbsm,Zbcc,Zbsn,Z1y,Zbso,Zbsq,Zbcf,Zbsr,Zbci,Zbss,Zbst,Zbcm,Zbsu,Zbcl,Zbcq,Zu1])
abbrev Zbz4:=Zdc.1.1.1.1
abbrev Zcn9:=Zdc.1.1.1.2
abbrev Zbz5:=Zdc.1.1.2.1
abbrev Zcoa:=Zdc.1.1.2.2
abbrev Zbz6:=Zdc.1.2.1.1
abbrev Zcob:=Zdc.1.2.1.2
abbrev Zbz7:=Zdc.1.2.2.1
abbrev Zcoc:=Zdc.1.2.2.2.1
abbrev Zbz8:=Zdc.1.2.2.2.2
abbrev Zcod:=Zdc.2.1.1.1
abbrev Zbz9:=Zdc.2.1.1.2
abbrev Zcoe:=Zdc.2.1.2.1
abbrev Zb0a:=Zdc.2.1.2.2
abbrev Zcof:=Zdc.2.2.1.1
abbrev Zb0b:=Zdc.2.2.1.2
abbrev Zb0c:=Zdc.2.2.2.1
abbrev Zb0d:=Zdc.2.2.2.2.1
abbrev Zb0e:=Zdc.2.2.2.2.2
theorem Zbjk:(∀⦃all x n i j r⦄,Im (Zmp all x n i j=some r) (if j<n then(Zmq all x n i j 0=some r)else(Zmo all x n (w (i+1))=some r)))/\
 ((∀⦃all x n i j s r⦄,Im (Zmq all x n i j s=some r) (if s<=all then(¬i<0/\(if(andI (shrI s i) 1)=0 then(¬j<0/\(if(andI (shrI s j) 1)=0 then(∃(v:List Int),∃(v1:List Int),∃v2,∃(v3:List (List Int)),Zmm ([s,(orI (orI s (shlI 1 i)) (shlI 1 j))]) ([(orI s (shlI 1 i)),(orI s (shlI 1 j))]) all x=some (.tup [],[.arr 3 1 true (v.map ic),.arr 3 1 true (v1.map ic),.box [I v2],.box [.own 5],.dead,.arr 56 1 true (v3.map isc)])/\(Zmq v2 v3 n i j (w (s+1))=some r))else(Zmq all x n i j (w (s+1))=some r)))else(Zmq all x n i j (w (s+1))=some r)))else(Zmp all x n i (w (j+1))=some r)))/\
 (∀⦃a r⦄,Im (Zu2 a=some r) (∃v,Z7 a 1 4=some (Bo v,[])/\(if v=true then(¬a<0/\(Zpy (w ((shlI 1 a)-1)) ([]:List (List Int)) a 0=some r))else(some (.own 0,[.arr 56 1 true (([]:List (List Int)).map isc)])=some r))))):=by
 and_intros
 all_goals intros
 all_goals unfold Im
 all_goals try simp only[Zmp,Zmq,Zu2,Zmm,Z7,Zmo,Zpy,mpl,dfs]
 all_goals try simp only[itb]
 all_goals try simp only[itf,gS,kk]
 all_goals repeat' first|refine exI λ_=>?_|refine anJ λ_ _=>?_|refine anI λ_=>?_|refine orE2 ?_ ?_|exact False.elim
 all_goals (intro h;first|rw[Zd Z10.eq_1]|rw[Zd Zbco.eq_1]|refine run Zch0 rfl ?_)
 all_goals (refine Yf ?_ h;clear h;simp +decide[*,kk,tI,tII,Z11,Zbsw,Zbcp,Zbsx])
abbrev Zb0f:=Zbjk.1
abbrev Zb0g:=Zbjk.2.1
abbrev Zcog:=Zbjk.2.2
theorem Zcoh{x x1:List Int}{x2:Int}{x3:List (List Int)}{r:AV×List Blk}(h:(0<=x2/\(x2.toNat*8<=room/\(x2<=140737488355328/\(Zmn x1 x3 (List.replicate (x2).toNat 0) x x2 (x.length:Int) 0=some r))))):Zmm x x1 x2 x3=some r:=by
 unfold Zmm;refine runM Zchz rfl ?_;obtain⟨q1,h⟩:=h;obtain⟨q2,h⟩:=h;have zq2:=q2;try simp at zq2
 obtain⟨q3,h⟩:=h;refine Yf ?_ h;clear h;simp +decide[*,Zbsv,tI,tII,Zmn]
theorem Zlb:(((∀⦃p fr x n x1 x2 r⦄,Im (Zpz p fr x n x1 x2=some r) (if x2<x1 then(0<=x2/\(∃e1,x[x2.toNat]?=some e1/\(Zu3 p fr x n e1 x1 x2 e1 (e1.length:Int) 0=some r)))else(Zu4 p.Limits (p.Limits.length:Int) 0=some r)))/\
 (∀⦃p fr x n cd x1 x2 x3 x4 x5 r⦄,Im (Zu3 p fr x n cd x1 x2 x3 x4 x5=some r) (if x5<x4 then(0<=x5/\(∃e1,x3[x5.toNat]?=some e1/\(∃v1,Z7 e1 (-9) 9=some (Bo v1,[])/\(if v1=true then(Zu3 p fr x n cd x1 x2 x3 x4 (w (x5+1))=some r)else(some (Bo false,[])=some r)))))else(if(cd.length:Int)=n then(Zpz p fr x n x1 (w (x2+1))=some r)else(some (Bo false,[])=some r)))))/\
 ((∀⦃x x1 x2 r⦄,Im (Zu4 x x1 x2=some r) (if x2<x1 then(0<=x2/\(∃e1,x[x2.toNat]?=some e1/\(∃v1,Z7 e1 0 99=some (Bo v1,[])/\(if v1=true then(Zu4 x x1 (w (x2+1))=some r)else(some (Bo false,[])=some r)))))else(some (Bo true,[])=some r)))/\
 (∀⦃a r⦄,Im (Zmr a=some r) (∃v,Z7 (a.Objective.length:Int) 1 15=some (Bo v,[])/\(if v=true then(if 64<(a.Rows.length:Int)then(some (Bo false,[])=some r)else(if(a.Limits.length:Int)=(a.Rows.length:Int)then(a.Rows.length<=68719476736/\(a.Rows.length+1<=68719476736/\(Zpz a false (a.Rows++[a.Objective]) (a.Objective.length:Int) ((a.Rows++[a.Objective]).length:Int) 0=some r)))else(some (Bo false,[])=some r)))else(some (Bo false,[])=some r))))))/\
 (((∀⦃a a1 a2 r⦄,Im (Z16 a a1 a2=some r) (∃(v:List Zm),Zuv a a1 a2=some (.own 0,[.arr 251 3 true (v.map Zm.c)])/\(if(v.length:Int)=0 then(some (.tup [.agg [.own 0,.own 1,.own 2],.own 3,Bo false],[.arr 3 1 true (([]:List Int).map ic),.arr 56 1 true (([]:List (List Int)).map isc),.arr 3 1 true (([]:List Int).map ic),.arr 251 3 true (([]:List Zm).map Zm.c)])=some r)else((∃(v1:List Int),Zgc a1 a2=some (.own 0,[.arr 3 1 true (v1.map ic)])/\(∃(v2:List Zm),Zuy v v1=some (.own 0,[.arr 251 3 true (v2.map Zm.c)])/\(∃(v3:List Int),∃(v4:List (List Int)),∃(v5:List Int),∃v6,Zkl v2 (v1.length:Int)=some (.tup [.agg [.own 0,.own 1,.own 2],Bo v6],[.arr 3 1 true (v3.map ic),.arr 56 1 true (v4.map isc),.arr 3 1 true (v5.map ic)])/\(some (.tup [.agg [.own 0,.own 1,.own 2],.own 3,Bo v6],[.arr 3 1 true (v3.map ic),.arr 56 1 true (v4.map isc),.arr 3 1 true (v5.map ic),.arr 251 3 true (v.map Zm.c)])=some r))))\/(Zgc a1 a2=some (.t .nil,[])/\(∃(v7:List Zm),Zbsz v=some (.own 0,[.arr 251 3 true (v7.map Zm.c)])/\(∃(v8:List Int),∃(v9:List (List Int)),∃(v10:List Int),∃v11,Zkl v7 0=some (.tup [.agg [.own 0,.own 1,.own 2],Bo v11],[.arr 3 1 true (v8.map ic),.arr 56 1 true (v9.map isc),.arr 3 1 true (v10.map ic)])/\(some (.tup [.agg [.own 0,.own 1,.own 2],.own 3,Bo v11],[.arr 3 1 true (v8.map ic),.arr 56 1 true (v9.map isc),.arr 3 1 true (v10.map ic),.arr 251 3 true (v.map Zm.c)])=some r))))))))/\
 (∀⦃a r⦄,Im (Zkm a=some r) (some (.agg [I a,I 1],[])=some r)))/\
 ((∀⦃cc x x1 x2 r⦄,Im (Zu5 cc x x1 x2=some r) (if x2<x1 then(0<=x2/\(∃e1,x[x2.toNat]?=some e1/\(∃(v1:Za),Zkm e1=some (.agg (v1.c.map .t),[])/\(cc.length+1<=68719476736/\(Zu5 (cc++[v1]) x x1 (w (x2+1))=some r)))))else(some (.own 0,[.arr 149 2 true (cc.map Za.c)])=some r)))/\
 (∀⦃a r⦄,Im (Zgd a=some r) (Zu5 ([]:List Za) a (a.length:Int) 0=some r)))):=by
 and_intros
 all_goals intros
 all_goals unfold Im
 all_goals try simp only[Zpz,Zu3,Zu4,Zmr,Z16,Zkm,Zu5,Zgd,Z7,Zuv,Zgc,Zuy,Zkl,Zbsz,Zl.c_def,Zi.c_def,Zb.c_def,Zm.c_def,Zf.c_def,Za.c_def,mpl,dfs]
 all_goals try simp only[itb]
 all_goals try simp only[itf,gS,kk]
 all_goals repeat' first|refine exI λ_=>?_|refine anJ λ_ _=>?_|refine anI λ_=>?_|refine orE2 ?_ ?_|exact False.elim
 all_goals (intro h;first|rw[Zd Z12.eq_1]|rw[Zd Zbcr.eq_1]|rw[Zd Zbcu.eq_1]|refine run Zch1 rfl ?_|refine run Zch3 rfl ?_|refine run Zch4 rfl ?_|rw[Zd Zbc0.eq_1]|refine run Zch5 rfl ?_)
 all_goals (refine Yf ?_ h;clear h;simp +decide[*,kk,tI,tII,Z13,Zbct,Zbcs,Zbcv,Zbsy,Zbs0,Zbs1,Zbc1,Zbs2])
abbrev Zb0h:=Zlb.1.1.1
abbrev Zb0i:=Zlb.1.1.2
abbrev Zb0j:=Zlb.1.2.1
abbrev Zcoi:=Zlb.1.2.2
abbrev Zbjl:=Zlb.2.1.1
abbrev Zcoj:=Zlb.2.1.2
abbrev Zb0k:=Zlb.2.2.1
abbrev Zcok:=Zlb.2.2.2
theorem Zb0l{x:List Int}{x1:List (List Int)}{x2:List Int}{c:Int}{x3:List Zm}{x4 x5:Int}{r:AV×List Blk}(h:(if x5<x4 then(0<=x5/\(∃(e1:Zm),x3[x5.toNat]?=some e1/\(∃(v:Bool),Z7 e1.To 1 c=some (Bo v,[])/\(if v=true then(if e1.From<0 then(some (.tup [.agg [.own 0,.own 1,.own 2],Bo false],[.arr 3 1 true (([]:List Int).map ic),.arr 56 1 true (([]:List (List Int)).map isc),.arr 3 1 true (([]:List Int).map ic)])=some r)else(if(andI e1.From e1.To)=e1.From then(if e1.From=e1.To then(some (.tup [.agg [.own 0,.own 1,.own 2],Bo false],[.arr 3 1 true (([]:List Int).map ic),.arr 56 1 true (([]:List (List Int)).map isc),.arr 3 1 true (([]:List Int).map ic)])=some r)else(0<=c/\(c.toNat*8<=room/\(c<=140737488355328/\(0<=(w (e1.To-1))/\(∃(e3:Int),(List.replicate (c).toNat 0)[(w (e1.To-1)).toNat]?=some e3/\(if 0<e1.From then(0<=(w (e1.From-1))/\(∃(e4:Int),((List.replicate (c).toNat 0).set ((w (e1.To-1)).toNat) 1)[(w (e1.From-1)).toNat]?=some e4/\(x1.length+1<=68719476736/\(x2.length+1<=68719476736/\(Zip x (x1++[(((List.replicate (c).toNat 0).set ((w (e1.To-1)).toNat) 1).set ((w (e1.From-1)).toNat) (-1))]) (x2++[e1.Bits]) c x3 x4 (w (x5+1))=some r)))))else(x1.length+1<=68719476736/\(x2.length+1<=68719476736/\(Zip x (x1++[((List.replicate (c).toNat 0).set ((w (e1.To-1)).toNat) 1)]) (x2++[e1.Bits]) c x3 x4 (w (x5+1))=some r))))))))))else(some (.tup [.agg [.own 0,.own 1,.own 2],Bo false],[.arr 3 1 true (([]:List Int).map ic),.arr 56 1 true (([]:List (List Int)).map isc),.arr 3 1 true (([]:List Int).map ic)])=some r)))else(some (.tup [.agg [.own 0,.own 1,.own 2],Bo false],[.arr 3 1 true (([]:List Int).map ic),.arr 56 1 true (([]:List (List Int)).map isc),.arr 3 1 true (([]:List Int).map ic)])=some r)))))else(∃(v1:Bool),Zmr (⟨x,x1,x2⟩:Program)=some (Bo v1,[])/\(if v1=true then(some (.tup [.agg [.own 0,.own 1,.own 2],Bo true],[.arr 3 1 true (x.map ic),.arr 56 1 true (x1.map isc),.arr 3 1 true (x2.map ic)])=some r)else(some (.tup [.agg [.own 0,.own 1,.own 2],Bo false],[.arr 3 1 true (([]:List Int).map ic),.arr 56 1 true (([]:List (List Int)).map isc),.arr 3 1 true (([]:List Int).map ic)])=some r))))):Zip x x1 x2 c x3 x4 x5=some r:=by
 unfold Zip;rw[Zd Zbcx.eq_1];by_cases q1:x5<x4
 .rw[if_pos q1]at h;obtain⟨q2,h⟩:=h;obtain⟨e1,q3,h⟩:=h;have gq3:=Zil q3;have mq3:=gq3
  try simp at mq3
  have kq3:=Zj9 q3;obtain⟨v,q4,h⟩:=h;unfold Z7 at q4
  try simp at q4
  by_cases q5:v=true
  .rw[if_pos q5]at h;by_cases q6:e1.From<0
   .rw[if_pos q6]at h;refine Yf ?_ h;clear h;simp +decide[*,tI,tII]
   .rw[if_neg q6]at h;by_cases q7:(andI e1.From e1.To)=e1.From
    .rw[if_pos q7]at h;replace q7:=eq_true q7;by_cases q8:e1.From=e1.To
     .rw[if_pos q8]at h;replace q8:=eq_true q8;refine Yf ?_ h;clear h;simp +decide[*,tI,tII]
     .rw[if_neg q8]at h;replace q8:=eq_false q8;obtain⟨q9,h⟩:=h;obtain⟨q10,h⟩:=h;have zq10:=q10;try simp at zq10
      obtain⟨q11,h⟩:=h;obtain⟨q12,h⟩:=h;obtain⟨e3,q13,h⟩:=h;have gq13:=Zil q13;have mq13:=gq13
      try simp at mq13
      have kq13:=Zj9 q13;by_cases q14:0<e1.From
      .rw[if_pos q14]at h;obtain⟨q15,h⟩:=h;obtain⟨e4,q16,h⟩:=h;have gq16:=Zil q16;have mq16:=gq16
       try simp at mq16
       have kq16:=Zj9 q16;obtain⟨q17,h⟩:=h;have rq17:=Zfm (b:=24) q17 (by omega);have sq17:=Zfn q17
       try simp[*]at rq17
       try simp[*]at sq17
       obtain⟨q18,h⟩:=h;have rq18:=Zfm (b:=8) q18 (by omega);have sq18:=Zfn q18
       try simp[*]at rq18
       try simp[*]at sq18
       refine Yf ?_ h;clear h;simp +decide[*,tI,tII,Zip,Zbcw]
      .rw[if_neg q14]at h;obtain⟨q19,h⟩:=h;have rq19:=Zfm (b:=24) q19 (by omega);have sq19:=Zfn q19
       try simp[*]at rq19
       try simp[*]at sq19
       obtain⟨q20,h⟩:=h;have rq20:=Zfm (b:=8) q20 (by omega);have sq20:=Zfn q20
       try simp[*]at rq20
       try simp[*]at sq20
       refine Yf ?_ h;clear h;simp +decide[*,tI,tII,Zip,Zbcw]
    .rw[if_neg q7]at h;replace q7:=eq_false q7;refine Yf ?_ h;clear h;simp +decide[*,tI,tII]
  .rw[if_neg q5]at h;refine Yf ?_ h;clear h;simp +decide[*,tI,tII]
 .rw[if_neg q1]at h;obtain⟨v1,q21,h⟩:=h;unfold Zmr at q21
  try simp at q21
  by_cases q22:v1=true
  .rw[if_pos q22]at h;refine Yf ?_ h;clear h;simp +decide[*,tI,tII,Z15]
  .rw[if_neg q22]at h;refine Yf ?_ h;clear h;simp +decide[*,tI,tII,Z15]
theorem Zb0m{a:List Zm}{a1:Int}{r:AV×List Blk}(h:(∃(v:Bool),Z7 a1 1 4=some (Bo v,[])/\(if v=true then(¬a1<0/\(0<=(w ((shlI 1 a1)-1))/\((w ((shlI 1 a1)-1))<=(w ((shlI 1 a1)-1))/\((w ((shlI 1 a1)-1)).toNat*8<=room/\((w ((shlI 1 a1)-1))<=140737488355328/\(∃(v1:List (List Int)),Zu2 a1=some (.own 0,[.arr 56 1 true (v1.map isc)])/\(0<=(w ((w ((shlI 1 a1)-1))-1))/\(∃(e3:Int),(List.replicate ((w ((shlI 1 a1)-1))).toNat 0)[(w ((w ((shlI 1 a1)-1))-1)).toNat]?=some e3/\(0<=(v1.length:Int)/\((v1.length:Int)<=(v1.length:Int)/\((v1.length:Int).toNat*8<=room/\((v1.length:Int)<=140737488355328/\(Zip ((List.replicate ((w ((shlI 1 a1)-1))).toNat 0).set ((w ((w ((shlI 1 a1)-1))-1)).toNat) 1) v1 (List.replicate ((v1.length:Int)).toNat 0) (w ((shlI 1 a1)-1)) a (a.length:Int) 0=some r)))))))))))))else(some (.tup [.agg [.own 0,.own 1,.own 2],Bo false],[.arr 3 1 true (([]:List Int).map ic),.arr 56 1 true (([]:List (List Int)).map isc),.arr 3 1 true (([]:List Int).map ic)])=some r)))):Zkl a a1=some r:=by
 unfold Zkl;refine run Zch2 rfl ?_;obtain⟨v,q1,h⟩:=h;unfold Z7 at q1
 try simp at q1
 by_cases q2:v=true
 .rw[if_pos q2]at h;obtain⟨q3,h⟩:=h;obtain⟨q4,h⟩:=h;obtain⟨q5,h⟩:=h;obtain⟨q6,h⟩:=h;have zq6:=q6;try simp at zq6
  obtain⟨q7,h⟩:=h;obtain⟨v1,q8,h⟩:=h;unfold Zu2 at q8
  try simp at q8
  obtain⟨q9,h⟩:=h;obtain⟨e3,q10,h⟩:=h;have gq10:=Zil q10;have mq10:=gq10
  try simp at mq10
  have kq10:=Zj9 q10;obtain⟨q11,h⟩:=h;have zq11:=q11;try simp at zq11
  obtain⟨q12,h⟩:=h;have zq12:=q12;try simp at zq12
  obtain⟨q13,h⟩:=h;have zq13:=q13;try simp at zq13
  obtain⟨q14,h⟩:=h;have zq14:=q14;try simp at zq14
  refine Yf ?_ h;clear h;simp +decide[*,Zbcy,tI,tII,Zip]
 .rw[if_neg q2]at h;refine Yf ?_ h;clear h;simp +decide[*,Zbcy,tI,tII]
end Go.Proofs.YtnnjbejcffjgfaaGreat
