/-
  Parts of the proofs for this seat: G6 G7 G8 G9 G10.
-/
import Derived.Test.YtnnjbejcffjgfaaGreatP11
import Derived.Test.YtnnjbejcffjgfaaGreatP12
set_option linter.unusedSectionVars false
set_option linter.unusedSimpArgs false
set_option linter.unusedVariables false
set_option maxRecDepth 100000
set_option maxHeartbeats 4000000
namespace Go.Proofs.YtnnjbejcffjgfaaGreat
open Go.AM
theorem Zda:((((∀s i j r,Im (Zud s i j=some r) (if i<j then qG s j (λe1=>qG s i (λe2=>qH (s.set i.toNat e1) j (λe3=>Zud ((s.set i.toNat e1).set j.toNat e2) (w (i+1)) (w (j-1))=some r)))else some (.tup [],[.arr 3 1 true (s.map ic)])=some r))/\
 (∀x r,Im (Zuc x=some r) (Zud x 0 (w ((x.length:Int)-1))=some r)))/\
 ((∀a a1 r,Im (Z1k a a1=some r) ((Zgv a a1=some (.tup [.t .nil,.t .nil],[])/\qO 3 1 ic Zbre (λv4=>∃(v5:List Int),Zma v4=some (.tup [],[.arr 3 1 true (v5.map ic)])/\∃(v8:List Int),Zuc v5=some (.tup [],[.arr 3 1 true (v8.map ic)])/\some (.own 0,[.arr 3 1 true (v8.map ic)])=some r))\/(∃(v9:List (List Int)) (v10:List Int),Zgv a a1=some (.tup [.own 0,.own 1],[.arr 56 1 true (v9.map isc),.arr 3 1 true (v10.map ic)])/\qO 3 1 ic (Zeo v10) (λv11=>∃(v12:List Int),Zma v11=some (.tup [],[.arr 3 1 true (v12.map ic)])/\∃(v13:List Int),Zuc v12=some (.tup [],[.arr 3 1 true (v13.map ic)])/\some (.own 0,[.arr 3 1 true (v13.map ic)])=some r))))/\
 (∀a a1 r,Im (Zme a a1=some r) ((qS Ze.c (Zkb a) (λv v1=>if v1=true then qO 3 1 ic (Z1k v a1) (λv4=>some (.own 0,[.arr 3 1 true (v4.map ic)])=some r)else some (.own 0,[.arr 3 1 true (([]:List Int).map ic)])=some r))\/(∃v5 v6 v7,Zkb a=some (.tup [.agg [.t (.str v5),I v6,.t .nil],Bo v7],[])/\if v7=true then qO 3 1 ic (Zbri v5 v6 a1) (λv8=>some (.own 0,[.arr 3 1 true (v8.map ic)])=some r)else some (.own 0,[.arr 3 1 true (([]:List Int).map ic)])=some r)))))/\
 (((∀a a1 r,Im (Zmf a a1=some r) (qO 3 1 ic (Zme a a1) (λv=>if(v.length:Int)=0 then qi 0 r else ∃e2,v[0]?=some e2/\qi e2 r)))/\
 (∀a a1 a2 a3 r,Im (Z1l a a1 a2 a3=some r) (∃(v:List Zg),∃v1,∃v2,∃v3,Zgb a a1 a2=some (.agg [.t (.str v1),I v2,I v3,.own 0],[.arr 200 3 true (v.map Zg.c)])/\qG a1.Atoms a2 (λe2=>qO 3 1 ic (Zkc e2 a3) (λv5=>qI (Zmf (⟨v1,v2,v3,v⟩:Zf) v5) (λv8=>qi v8 r))))))/\
 ((∀s q x cd cc cn x1 x2 r,Im (Zmg s q x cd cc cn x1 x2=some r) (if x2<x1 then qG x x2 (λe1=>qO 3 1 ic (Zhm q cd) (λv4=>qI (Z1l s q e1 v4) (λv5=>¬e1<0/\qI (Zpo s q (orI cd (shlI 1 e1)) (Zr cc (shlI 1 e1))) (λv8=>if cn<0 then Zmg s q x cd cc (w (v5*v8)) x1 (w (x2+1))=some r else if(w (v5*v8))<cn then Zmg s q x cd cc (w (v5*v8)) x1 (w (x2+1))=some r else Zmg s q x cd cc cn x1 (w (x2+1))=some r))))else qi cn r))/\
 ((∀a a1 a2 a3 r,Im (Zpo a a1 a2 a3=some r) (if a3=0 then qi 1 r else(Zb9 a3=some (.t .nil,[])/\Zbro a a1 a2 a3 (-1) 0 0=some r)\/(qO 3 1 ic (Zb9 a3) (λv4=>Zmg a a1 v4 a2 a3 (-1) (v4.length:Int) 0=some r))))/\
 (∀a a1 a2 r,Im (Zue a a1 a2=some r) (qB (Zc6 a a1 a2) (qI (Zpo a a1 0 a2) (λv4=>qi v4 r)) (qi (-1) r)))))))/\
 ((((∀a a1 r,Im (Zpp a a1=some r) (qB (Zka a) (¬(a.Atoms.length:Int)<0/\qV (Z7 a1 0 (w ((shlI 1 (a.Atoms.length:Int))-1))) (λv4=>qb v4 r)) (qb false r)))/\
 (∀a a1 r,Im (Zgc a a1=some r) (qB (Zpp a a1) (qO 3 1 ic (Zhm a a1) (λv4=>some (.own 0,[.arr 3 1 true (v4.map ic)])=some r)) (some (.t .nil,[])=some r))))/\
 ((∀co b x x1 x2 r,Im (Zpq co b x x1 x2=some r) (if x2<x1 then qG x x2 (λe1=>qB (Zfo b e1) (co.length+1<=68719476736/\Zpq (co++[e1]) b x x1 (w (x2+1))=some r) (Zpq co b x x1 (w (x2+1))=some r))else some (.own 0,[.arr 3 1 true (co.map ic)])=some r))/\
 (∀a a1 r,Im (Zkd a a1=some r) (Zpq ([]:List Int) a1 a (a.length:Int) 0=some r))))/\
 (((∀a a1 a2 r,Im (Zuf a a1 a2=some r) ((qO 3 1 ic (Zgc a a1) (λv=>(qO 3 1 ic (Zgc a a2) (λv4=>qO 3 1 ic (Zkd v v4) (λv5=>some (.own 0,[.arr 3 1 true (v5.map ic)])=some r)))\/(Zgc a a2=some (.t .nil,[])/\qO 3 1 ic (Zbru v) (λv9=>some (.own 0,[.arr 3 1 true (v9.map ic)])=some r))))\/(Zgc a a1=some (.t .nil,[])/\((qO 3 1 ic (Zgc a a2) (λv12=>qO 3 1 ic (Zbrv v12) (λv13=>some (.own 0,[.arr 3 1 true (v13.map ic)])=some r)))\/(Zgc a a2=some (.t .nil,[])/\qO 3 1 ic Zbrw (λv14=>some (.own 0,[.arr 3 1 true (v14.map ic)])=some r))))))/\
 (∀cl cc x x1 x2 r,Im (Zpr cl cc x x1 x2=some r) (if x2<x1 then qG x x2 (λe1=>qB (Z7 e1 1 cc) (if 0<x2 then 0<=(w (x2-1))/\∃e3,cl[(w (x2-1)).toNat]?=some e3/\if e3<e1 then qb false r else Zpr cl (w (cc-e1)) x x1 (w (x2+1))=some r else Zpr cl (w (cc-e1)) x x1 (w (x2+1))=some r) (qb false r))else qb true r)))/\
 ((∀a r,Im (Zug a=some r) (Zpr a 8 a (a.length:Int) 0=some r))/\
 ((∀a b n i r,Im (Zui a b n i=some r) (if i<(a.length:Int)then if i<(b.length:Int)then qG a i (λe1=>qH b i (λe2=>Zui a b (w (n+(w (e1*e2)))) (w (i+1))=some r))else qi n r else qi n r))/\
 (∀a a1 r,Im (Zuh a a1=some r) (qB (Zug a) (qB (Zug a1) (Zui a a1 0 0=some r) (qi 0 r)) (qi 0 r))))))):=by
 and_intros
 all_goals(intros;unfold Im;(try simp only[Zud,Zuc,Z1k,Zme,Zmf,Z1l,Zmg,Zpo,Zue,Zpp,Zgc,Zpq,Zkd,Zuf,Zpr,Zug,Zui,Zuh,Zgv,Zbre,Zma,Zeo,Ze.c_def,Zkb,Zbri,Zf.c_def,Zgb,Zkc,Atom.c_def,Zl.c_def,Zi.c_def,Zc.c_def,Zh.c_def,Zhm,Zb9,Zc6,Zka,Z7,Zfo,Zbru,Zbrv,Zbrw,Zbro,mpl,dfs,qs]);(try simp only[itb]);(try simp only[itf,gS,kk]))
 all_goals(repeat' first|refine exI λ_=>?_|refine anJ λ_ _=>?_|refine anI λ_=>?_|refine orE2 ?_ ?_|exact False.elim)
 all_goals(intro h;first|rw[Zd Zbbk.eq_1]|refine runM Zcgo rfl ?_|refine run Zcgp rfl ?_|refine run Zcgq rfl ?_|refine run Zcgr rfl ?_|refine run Zcgs rfl ?_|rw[Zd Z1n.eq_1]|refine run Zcgt rfl ?_|refine run Zcgu rfl ?_|refine run Zcgv rfl ?_|refine run Zcgw rfl ?_|rw[Zd Zbbl.eq_1]|refine run Zcgx rfl ?_|refine run Zcgy rfl ?_|rw[Zd Zbbo.eq_1]|refine run Zcgz rfl ?_|rw[Zd Zbbr.eq_1]|refine run Zcg0 rfl ?_)
 all_goals (refine Yf ?_ h;clear h;simp +decide[*,kk,tI,tII,Zbrg,Zbrh,Zbrj,Zbrk,Zbrl,Zbrm,Z1o,Zbrn,Zbrp,Zbrq,Zbrr,Zbrs,Zbbm,Zbrt,Zbrx,Zbbp,Zbry,Zbbs,Zbrz])
abbrev Zcm2:=uq Zda.1.1.1.1
abbrev Zcm3:=uq Zda.1.1.1.2
abbrev Zcm4:=uq Zda.1.1.2.1
abbrev Zcm5:=uq Zda.1.1.2.2
abbrev Zcm6:=uq Zda.1.2.1.1
abbrev Zcm7:=uq Zda.1.2.1.2
abbrev Zbzh:=uq Zda.1.2.2.1
abbrev Zbzi:=uq Zda.1.2.2.2.1
abbrev Zcm8:=uq Zda.1.2.2.2.2
abbrev Zcm9:=uq Zda.2.1.1.1
abbrev Zcna:=uq Zda.2.1.1.2
abbrev Zbzj:=uq Zda.2.1.2.1
abbrev Zcnb:=uq Zda.2.1.2.2
abbrev Zcnc:=uq Zda.2.2.1.1
abbrev Zbzk:=uq Zda.2.2.1.2
abbrev Zcnd:=uq Zda.2.2.2.1
abbrev Zbzl:=uq Zda.2.2.2.2.1
abbrev Zcne:=uq Zda.2.2.2.2.2
theorem Zcnf:∀a a1 a2 a3 r,Im (Zuj a a1 a2 a3=some r) (qB (Zc6 a a1 1) (qB (Z7 a2 0 (w ((a1.Atoms.length:Int)-1))) (qB (Z7 a3 0 (w ((a1.Atoms.length:Int)-1))) (if a2=a3 then qi (-1) r else ¬a2<0/\¬a3<0/\qO 3 1 ic (Zuf a1 (shlI 1 a2) (shlI 1 a3)) (λv=>∃(v1:List Zg),∃v2,∃v3,∃v4,Zgb a a1 a2=some (.agg [.t (.str v2),I v3,I v4,.own 0],[.arr 200 3 true (v1.map Zg.c)])/\qG a1.Atoms a2 (λe6=>qO 3 1 ic (Zkc e6 v) (λv5=>qO 3 1 ic (Zme (⟨v2,v3,v4,v1⟩:Zf) v5) (λv6=>∃(v7:List Zg),∃v8,∃v9,∃v10,Zgb a a1 a3=some (.agg [.t (.str v8),I v9,I v10,.own 0],[.arr 200 3 true (v7.map Zg.c)])/\qG a1.Atoms a3 (λe10=>qO 3 1 ic (Zkc e10 v) (λv11=>qO 3 1 ic (Zme (⟨v8,v9,v10,v7⟩:Zf) v11) (λv12=>qI (Zuh v6 v12) (λv13=>qi v13 r))))))))) (qi (-1) r)) (qi (-1) r)) (qi (-1) r)):=by
 all_goals(intros;unfold Im;(try simp only[Zuj,Zc6,Z7,Zuf,Zgb,Zkc,Zme,Zuh,Atom.c_def,Zl.c_def,Zi.c_def,Zc.c_def,Zh.c_def,Zf.c_def,mpl,dfs,qs]);(try simp only[itb]);(try simp only[itf,gS,kk]))
 all_goals(repeat' first|refine exI λ_=>?_|refine anJ λ_ _=>?_|refine anI λ_=>?_|refine orE2 ?_ ?_|exact False.elim)
 all_goals(intro h;first|refine run Zcg1 rfl ?_)
 all_goals (refine Yf ?_ h;clear h;simp +decide[*,kk,tI,tII,Zbr0])
abbrev Zcng:=uq Zcnf
theorem Zdb:((((∀s q x x1 x2 r,Im (Zul s q x x1 x2=some r) (if x2<x1 then qG x x2 (λe1=>qG q.Atoms e1 (λe2=>(∃v6 v7,Zb0 s.Zi e2.Name=some (.tup [.agg [.t (.str v6),I v7,.t .nil],Bo false],[])/\qb true r)\/(∃(v11:List (List Int)),∃v12,∃v13,Zb0 s.Zi e2.Name=some (.tup [.agg [.t (.str v12),I v13,.own 0],Bo true],[.arr 56 1 true (v11.map isc)])/\if(v11.length:Int)=0 then qb true r else Zul s q x x1 (w (x2+1))=some r)))else qb false r))/\
 (∀a a1 a2 r,Im (Zuk a a1 a2=some r) ((Zb9 a2=some (.t .nil,[])/\Zbr2 a a1 0 0=some r)\/(qO 3 1 ic (Zb9 a2) (λv4=>Zul a a1 v4 (v4.length:Int) 0=some r)))))/\
 ((∀cd x x1 x2 r,Im (Zpt cd x x1 x2=some r) (if x2<x1 then qG x x2 (λe1=>qB (Z7 e1 0 3) (¬e1<0/\Zpt (orI cd (shlI 1 e1)) x x1 (w (x2+1))=some r) (Zpt cd x x1 (w (x2+1))=some r))else qi cd r))/\
 (∀a r,Im (Zps a=some r) (Zpt 0 a (a.length:Int) 0=some r))))/\
 (((∀n b r,Im (Zun n b=some r) (¬b<0/\if(shlI 1 b)<n then Zun n (w (b+1))=some r else qi b r))/\
 (∀a r,Im (Zum a=some r) (qB (Z7 a 1 4096) (Zun a 0=some r) (qi (-1) r))))/\
 ((∀s cn cc cd r,Im (Zpu s cn cc cd=some r) (¬s.Arity<0/\if cd<(w ((shlI 1 s.Arity)-1))then qO 3 1 ic (Ze3 cd) (λv=>(Zc5 cn.Vars v=some (.tup [.t .nil,Bo false],[])/\qI Zbr5 (λv6=>qI (Zps cn.Vars) (λv11=>qI (Zmf s v) (λv14=>qI (Zum v14) (λv15=>cc.length+1<=68719476736/\Zpu s cn (cc++[(⟨v6,v11,v15⟩:Zo)]) (w (cd+1))=some r)))))\/(∃(v16:List Int),Zc5 cn.Vars v=some (.tup [.own 0,Bo true],[.arr 3 1 true (v16.map ic)])/\qI (Zps v16) (λv17=>qI (Zps cn.Vars) (λv18=>qI (Zmf s v) (λv19=>qI (Zum v19) (λv20=>cc.length+1<=68719476736/\Zpu s cn (cc++[(⟨v17,v18,v20⟩:Zo)]) (w (cd+1))=some r))))))else some (.own 0,[.arr 251 3 true (cc.map Zo.c)])=some r))/\
 ((∀a a1 r,Im (Zuo a a1=some r) (qB (Zpj a) (if a.RowCount=0 then some (.own 0,[.arr 251 3 true (([]:List Zo).map Zo.c)])=some r else if(a1.Vars.length:Int)=a.Arity then Zpu a a1 ([]:List Zo) 0=some r else some (.own 0,[.arr 251 3 true (([]:List Zo).map Zo.c)])=some r) (some (.own 0,[.arr 251 3 true (([]:List Zo).map Zo.c)])=some r)))/\
 (∀s q cc x x1 x2 r,Im (Zuq s q cc x x1 x2=some r) (if x2<x1 then qG x x2 (λe1=>qG q.Atoms e1 (λe2=>∃(v6:List Zg),∃v7,∃v8,∃v9,∃v10,Zpk s.Zl e2.Name=some (.tup [.agg [.t (.str v7),I v8,I v9,.own 0],Bo v10],[.arr 200 3 true (v6.map Zg.c)])/\qO 251 3 Zo.c (Zuo (⟨v7,v8,v9,v6⟩:Zf) e2) (λv11=>if(v11.length:Int)=0 then some (.own 0,[.arr 251 3 true (([]:List Zo).map Zo.c)])=some r else cc.length+v11.length<=68719476736/\Zuq s q (cc++v11) x x1 (w (x2+1))=some r)))else some (.own 0,[.arr 251 3 true (cc.map Zo.c)])=some r))))))/\
 ((((∀a a1 a2 r,Im (Zup a a1 a2=some r) (qB (Zpg a) (qB (Zph a.Zi a1) (qI (Ze4 a1) (λv6=>qB (Z7 a2 1 v6) ((Zb9 a2=some (.t .nil,[])/\Zbr9 a a1 ([]:List Zo) 0 0=some r)\/(qO 3 1 ic (Zb9 a2) (λv15=>Zuq a a1 ([]:List Zo) v15 (v15.length:Int) 0=some r))) (some (.own 0,[.arr 251 3 true (([]:List Zo).map Zo.c)])=some r))) (some (.own 0,[.arr 251 3 true (([]:List Zo).map Zo.c)])=some r)) (some (.own 0,[.arr 251 3 true (([]:List Zo).map Zo.c)])=some r)))/\
 (∀x cd cc x1 x2 x3 r,Im (Zke x cd cc x1 x2 x3=some r) (if x3<x2 then qG x1 x3 (λe1=>if x3<4 then qB (Z7 e1 0 3) (¬e1<0/\if(andI (shrI cd e1) 1)=1 then ¬x3<0/\Zke x cd (orI cc (shlI 1 x3)) x1 x2 (w (x3+1))=some r else Zke x cd cc x1 x2 (w (x3+1))=some r) (Zke x cd cc x1 x2 (w (x3+1))=some r)else Zke x cd cc x1 x2 (w (x3+1))=some r)else some (I cc,[.box [L 1 (x.map ic)]])=some r)))/\
 ((∀x a r,Im (Zur x a=some r) (Zke x a 0 x (x.length:Int) 0=some r))/\
 (∀x cc x1 x2 x3 r,Im (Zut x cc x1 x2 x3=some r) (if x3<x2 then qG x1 x3 (λe1=>∃(v4:List Int),∃v5,Zur x e1.From=some (I v5,[.box [L 1 (v4.map ic)]])/\∃(v6:List Int),∃v7,Zur v4 e1.To=some (I v7,[.box [L 1 (v6.map ic)]])/\cc.length+1<=68719476736/\Zut v6 (cc++[(⟨v5,v7,e1.Bits⟩:Zo)]) x1 x2 (w (x3+1))=some r)else some (.own 0,[.arr 251 3 true (cc.map Zo.c)])=some r))))/\
 (((∀a a1 r,Im (Zus a a1=some r) (Zut a1 ([]:List Zo) a (a.length:Int) 0=some r))/\
 (∀co x cl x1 x2 x3 x4 r,Im (Zmj co x cl x1 x2 x3 x4=some r) (if x4<x3 then qG x1 x4 (λe1=>if 0<e1 then 0<=(w (e1-1))/\∃e2,cl[(w (e1-1)).toNat]?=some e2/\Zmj co x (cl.set ((w (e1-1)).toNat) (w (e2+1))) x1 x2 x3 (w (x4+1))=some r else Zmj co x cl x1 x2 x3 (w (x4+1))=some r)else Zpv x cl co x1 x2 (co.length:Int) 0=some r)))/\
 ((∀x cl x1 x2 x3 x4 x5 r,Im (Zpv x cl x1 x2 x3 x4 x5=some r) (if x5<x4 then qG x1 x5 (λe1=>if 0<e1 then 0<=(w (e1-1))/\∃e2,cl[(w (e1-1)).toNat]?=some e2/\Zpv x (cl.set ((w (e1-1)).toNat) (w (e2-1))) x1 x2 x3 x4 (w (x5+1))=some r else Zpv x cl x1 x2 x3 x4 (w (x5+1))=some r)else x.length+1<=68719476736/\some (.tup [],[.arr 3 1 true (x2.map ic),.arr 3 1 true (x1.map ic),.box [I x3],.box [.own 5],.dead,.arr 56 1 true ((x++[cl]).map isc)])=some r))/\
 ((∀all x n i r,Im (Zpw all x n i=some r) (if i<n then ¬i<0/\∃(v:List Int),∃(v1:List Int),∃v2,∃(v3:List (List Int)),Zmi ([(Zr all (shlI 1 i))]) ([all]) all x=some (.tup [],[.arr 3 1 true (v.map ic),.arr 3 1 true (v1.map ic),.box [I v2],.box [.own 5],.dead,.arr 56 1 true (v3.map isc)])/\Zpw v2 v3 n (w (i+1))=some r else Zmk all x n 0=some r))/\
 (∀all x n i r,Im (Zmk all x n i=some r) (if i<n then Zml all x n i (w (i+1))=some r else some (.own 0,[.arr 56 1 true (x.map isc)])=some r)))))):=by
 and_intros
 all_goals(intros;unfold Im;(try simp only[Zul,Zuk,Zpt,Zps,Zun,Zum,Zpu,Zuo,Zuq,Zup,Zke,Zur,Zut,Zus,Zmj,Zpv,Zpw,Zmk,Zb0,Zi.c_def,Zb9,Z7,Ze3,Zc5,Zbr5,Zmf,Zf.c_def,Zpj,Zpk,Atom.c_def,Zl.c_def,Zpg,Zph,Ze4,Zc.c_def,Zh.c_def,Zmi,Zbr2,Zbr9,Zml,mpl,dfs,qs]);(try simp only[itb]);(try simp only[itf,gS,kk]))
 all_goals(repeat' first|refine exI λ_=>?_|refine anJ λ_ _=>?_|refine anI λ_=>?_|refine orE2 ?_ ?_|exact False.elim)
 all_goals(intro h;first|rw[Zd Z1q.eq_1]|refine run Zcg2 rfl ?_|rw[Zd Zbbu.eq_1]|refine run Zcg3 rfl ?_|rw[Zd Zbbx.eq_1]|refine run Zcg4 rfl ?_|rw[Zd Zbb0.eq_1]|refine run Zcg5 rfl ?_|rw[Zd Z1t.eq_1]|refine run Zcg6 rfl ?_|rw[Zd Zbb3.eq_1]|refine runM Zcg7 rfl ?_|rw[Zd Zbb6.eq_1]|refine run Zcg8 rfl ?_|rw[Zd Zbb8.eq_1]|rw[Zd Zbb9.eq_1]|rw[Zd Zbcc.eq_1]|rw[Zd Zuu.eq_1])
 all_goals (refine Yf ?_ h;clear h;simp +decide[*,kk,tI,tII,Z1r,Zbr1,Zbr3,Zbbv,Zbr4,Zbby,Zbr6,Zbb1,Zbr7,Z1u,Zbr8,Zbsa,Zbb4,Zbsb,Zbb7,Zbsc,Zbsd,Zbcb,Zbse,Zbca,Zbcf,Zuv])
abbrev Zbzm:=uq Zdb.1.1.1.1
abbrev Zcnh:=uq Zdb.1.1.1.2
abbrev Zbzn:=uq Zdb.1.1.2.1
abbrev Zcni:=uq Zdb.1.1.2.2
abbrev Zbzo:=uq Zdb.1.2.1.1
abbrev Zcnj:=uq Zdb.1.2.1.2
abbrev Zbzp:=uq Zdb.1.2.2.1
abbrev Zcnk:=uq Zdb.1.2.2.2.1
abbrev Zbzq:=uq Zdb.1.2.2.2.2
abbrev Zcnl:=uq Zdb.2.1.1.1
abbrev Zbzr:=uq Zdb.2.1.1.2
abbrev Zcnm:=uq Zdb.2.1.2.1
abbrev Zbzs:=uq Zdb.2.1.2.2
abbrev Zcnn:=uq Zdb.2.2.1.1
abbrev Zbzt:=uq Zdb.2.2.1.2
abbrev Zbzu:=uq Zdb.2.2.2.1
abbrev Zbzv:=uq Zdb.2.2.2.2.1
abbrev Zbzw:=uq Zdb.2.2.2.2.2
theorem Zbi9:(∀all x n i j r,Im (Zml all x n i j=some r) (if j<n then Zmm all x n i j 0=some r else Zmk all x n (w (i+1))=some r))/\
 ((∀all x n i j s r,Im (Zmm all x n i j s=some r) (if s<=all then ¬i<0/\if(andI (shrI s i) 1)=0 then ¬j<0/\if(andI (shrI s j) 1)=0 then ∃(v:List Int),∃(v1:List Int),∃v2,∃(v3:List (List Int)),Zmi ([s,(orI (orI s (shlI 1 i)) (shlI 1 j))]) ([(orI s (shlI 1 i)),(orI s (shlI 1 j))]) all x=some (.tup [],[.arr 3 1 true (v.map ic),.arr 3 1 true (v1.map ic),.box [I v2],.box [.own 5],.dead,.arr 56 1 true (v3.map isc)])/\Zmm v2 v3 n i j (w (s+1))=some r else Zmm all x n i j (w (s+1))=some r else Zmm all x n i j (w (s+1))=some r else Zml all x n i (w (j+1))=some r))/\
 (∀a r,Im (Zuw a=some r) (qB (Z7 a 1 4) (¬a<0/\Zpw (w ((shlI 1 a)-1)) ([]:List (List Int)) a 0=some r) (some (.own 0,[.arr 56 1 true (([]:List (List Int)).map isc)])=some r)))):=by
 and_intros
 all_goals(intros;unfold Im;(try simp only[Zml,Zmm,Zuw,Zmi,Z7,Zmk,Zpw,mpl,dfs,qs]);(try simp only[itb]);(try simp only[itf,gS,kk]))
 all_goals(repeat' first|refine exI λ_=>?_|refine anJ λ_ _=>?_|refine anI λ_=>?_|refine orE2 ?_ ?_|exact False.elim)
 all_goals(intro h;first|rw[Zd Z1w.eq_1]|rw[Zd Zbcd.eq_1]|refine run Zcha rfl ?_)
 all_goals (refine Yf ?_ h;clear h;simp +decide[*,kk,tI,tII,Z1x,Zbsg,Zbce,Zbsh])
abbrev Zbzx:=uq Zbi9.1
abbrev Zbzy:=uq Zbi9.2.1
abbrev Zcno:=uq Zbi9.2.2
theorem Zcnp{x x1:List Int}{x2:Int}{x3:List (List Int)}{r:AV×List Blk}(h:(0<=x2/\(x2.toNat*8<=room/\(x2<=140737488355328/\(Zmj x1 x3 (List.replicate (x2).toNat 0) x x2 (x.length:Int) 0=some r))))):Zmi x x1 x2 x3=some r:=by
 unfold Zmi;refine runM Zcg9 rfl ?_;obtain⟨q1,h⟩:=h;obtain⟨q2,h⟩:=h;have zq2:=q2;try simp at zq2
 obtain⟨q3,h⟩:=h;refine Yf ?_ h;clear h;simp +decide[*,Zbsf,tI,tII,Zmj]
theorem Zk7:(((∀p fr x n x1 x2 r,Im (Zpx p fr x n x1 x2=some r) (if x2<x1 then qG x x2 (λe1=>Zux p fr x n e1 x1 x2 e1 (e1.length:Int) 0=some r)else Zuy p.Limits (p.Limits.length:Int) 0=some r))/\
 (∀p fr x n cd x1 x2 x3 x4 x5 r,Im (Zux p fr x n cd x1 x2 x3 x4 x5=some r) (if x5<x4 then qG x3 x5 (λe1=>qB (Z7 e1 (-9) 9) (Zux p fr x n cd x1 x2 x3 x4 (w (x5+1))=some r) (qb false r))else if(cd.length:Int)=n then Zpx p fr x n x1 (w (x2+1))=some r else qb false r)))/\
 ((∀x x1 x2 r,Im (Zuy x x1 x2=some r) (if x2<x1 then qG x x2 (λe1=>qB (Z7 e1 0 99) (Zuy x x1 (w (x2+1))=some r) (qb false r))else qb true r))/\
 (∀a r,Im (Zmn a=some r) (qB (Z7 (a.Objective.length:Int) 1 15) (if 64<(a.Rows.length:Int)then qb false r else if(a.Limits.length:Int)=(a.Rows.length:Int)then a.Rows.length<=68719476736/\a.Rows.length+1<=68719476736/\Zpx a false (a.Rows++[a.Objective]) (a.Objective.length:Int) ((a.Rows++[a.Objective]).length:Int) 0=some r else qb false r) (qb false r)))))/\
 (((∀a a1 a2 r,Im (Z12 a a1 a2=some r) (qO 251 3 Zo.c (Zup a a1 a2) (λv=>if(v.length:Int)=0 then some (.tup [.agg [.own 0,.own 1,.own 2],.own 3,Bo false],[.arr 3 1 true (([]:List Int).map ic),.arr 56 1 true (([]:List (List Int)).map isc),.arr 3 1 true (([]:List Int).map ic),.arr 251 3 true (([]:List Zo).map Zo.c)])=some r else(qO 3 1 ic (Zgc a1 a2) (λv1=>qO 251 3 Zo.c (Zus v v1) (λv2=>∃(v3:List Int),∃(v4:List (List Int)),∃(v5:List Int),∃v6,Zkg v2 (v1.length:Int)=some (.tup [.agg [.own 0,.own 1,.own 2],Bo v6],[.arr 3 1 true (v3.map ic),.arr 56 1 true (v4.map isc),.arr 3 1 true (v5.map ic)])/\some (.tup [.agg [.own 0,.own 1,.own 2],.own 3,Bo v6],[.arr 3 1 true (v3.map ic),.arr 56 1 true (v4.map isc),.arr 3 1 true (v5.map ic),.arr 251 3 true (v.map Zo.c)])=some r)))\/(Zgc a1 a2=some (.t .nil,[])/\qO 251 3 Zo.c (Zbsj v) (λv7=>∃(v8:List Int),∃(v9:List (List Int)),∃(v10:List Int),∃v11,Zkg v7 0=some (.tup [.agg [.own 0,.own 1,.own 2],Bo v11],[.arr 3 1 true (v8.map ic),.arr 56 1 true (v9.map isc),.arr 3 1 true (v10.map ic)])/\some (.tup [.agg [.own 0,.own 1,.own 2],.own 3,Bo v11],[.arr 3 1 true (v8.map ic),.arr 56 1 true (v9.map isc),.arr 3 1 true (v10.map ic),.arr 251 3 true (v.map Zo.c)])=some r)))))/\
 (∀a r,Im (Zkh a=some r) (some (.agg [I a,I 1],[])=some r)))/\
 ((∀cc x x1 x2 r,Im (Zuz cc x x1 x2=some r) (if x2<x1 then qG x x2 (λe1=>qA Za.c (Zkh e1) (λv1=>cc.length+1<=68719476736/\Zuz (cc++[v1]) x x1 (w (x2+1))=some r))else some (.own 0,[.arr 149 2 true (cc.map Za.c)])=some r))/\
 (∀a r,Im (Zgd a=some r) (Zuz ([]:List Za) a (a.length:Int) 0=some r)))):=by
 and_intros
 all_goals(intros;unfold Im;(try simp only[Zpx,Zux,Zuy,Zmn,Z12,Zkh,Zuz,Zgd,Z7,Zup,Zgc,Zus,Zkg,Zbsj,Zl.c_def,Zi.c_def,Zc.c_def,Zo.c_def,Zh.c_def,Za.c_def,mpl,dfs,qs]);(try simp only[itb]);(try simp only[itf,gS,kk]))
 all_goals(repeat' first|refine exI λ_=>?_|refine anJ λ_ _=>?_|refine anI λ_=>?_|refine orE2 ?_ ?_|exact False.elim)
 all_goals(intro h;first|rw[Zd Z1y.eq_1]|rw[Zd Zbcg.eq_1]|rw[Zd Zbcj.eq_1]|refine run Zchb rfl ?_|refine run Zchd rfl ?_|refine run Zche rfl ?_|rw[Zd Zbcp.eq_1]|refine run Zchf rfl ?_)
 all_goals (refine Yf ?_ h;clear h;simp +decide[*,kk,tI,tII,Z1z,Zbci,Zbch,Zbck,Zbsi,Zbsk,Zbsl,Zbcq,Zbsm])
abbrev Zbzz:=uq Zk7.1.1.1
abbrev Zbz0:=uq Zk7.1.1.2
abbrev Zbz1:=uq Zk7.1.2.1
abbrev Zcnq:=uq Zk7.1.2.2
abbrev Zbja:=uq Zk7.2.1.1
abbrev Zcnr:=uq Zk7.2.1.2
abbrev Zbz2:=uq Zk7.2.2.1
abbrev Zcns:=uq Zk7.2.2.2
theorem Zbz3{x:List Int}{x1:List (List Int)}{x2:List Int}{c:Int}{x3:List Zo}{x4 x5:Int}{r:AV×List Blk}(h:(if x5<x4 then(0<=x5/\(∃(e1:Zo),x3[x5.toNat]?=some e1/\(∃(v:Bool),Z7 e1.To 1 c=some (Bo v,[])/\(if v=true then(if e1.From<0 then(some (.tup [.agg [.own 0,.own 1,.own 2],Bo false],[.arr 3 1 true (([]:List Int).map ic),.arr 56 1 true (([]:List (List Int)).map isc),.arr 3 1 true (([]:List Int).map ic)])=some r)else(if(andI e1.From e1.To)=e1.From then(if e1.From=e1.To then(some (.tup [.agg [.own 0,.own 1,.own 2],Bo false],[.arr 3 1 true (([]:List Int).map ic),.arr 56 1 true (([]:List (List Int)).map isc),.arr 3 1 true (([]:List Int).map ic)])=some r)else(0<=c/\(c.toNat*8<=room/\(c<=140737488355328/\(0<=(w (e1.To-1))/\(∃(e3:Int),(List.replicate (c).toNat 0)[(w (e1.To-1)).toNat]?=some e3/\(if 0<e1.From then(0<=(w (e1.From-1))/\(∃(e4:Int),((List.replicate (c).toNat 0).set ((w (e1.To-1)).toNat) 1)[(w (e1.From-1)).toNat]?=some e4/\(x1.length+1<=68719476736/\(x2.length+1<=68719476736/\(Zim x (x1++[(((List.replicate (c).toNat 0).set ((w (e1.To-1)).toNat) 1).set ((w (e1.From-1)).toNat) (-1))]) (x2++[e1.Bits]) c x3 x4 (w (x5+1))=some r)))))else(x1.length+1<=68719476736/\(x2.length+1<=68719476736/\(Zim x (x1++[((List.replicate (c).toNat 0).set ((w (e1.To-1)).toNat) 1)]) (x2++[e1.Bits]) c x3 x4 (w (x5+1))=some r))))))))))else(some (.tup [.agg [.own 0,.own 1,.own 2],Bo false],[.arr 3 1 true (([]:List Int).map ic),.arr 56 1 true (([]:List (List Int)).map isc),.arr 3 1 true (([]:List Int).map ic)])=some r)))else(some (.tup [.agg [.own 0,.own 1,.own 2],Bo false],[.arr 3 1 true (([]:List Int).map ic),.arr 56 1 true (([]:List (List Int)).map isc),.arr 3 1 true (([]:List Int).map ic)])=some r)))))else(∃(v1:Bool),Zmn (⟨x,x1,x2⟩:Program)=some (Bo v1,[])/\(if v1=true then(some (.tup [.agg [.own 0,.own 1,.own 2],Bo true],[.arr 3 1 true (x.map ic),.arr 56 1 true (x1.map isc),.arr 3 1 true (x2.map ic)])=some r)else(some (.tup [.agg [.own 0,.own 1,.own 2],Bo false],[.arr 3 1 true (([]:List Int).map ic),.arr 56 1 true (([]:List (List Int)).map isc),.arr 3 1 true (([]:List Int).map ic)])=some r))))):Zim x x1 x2 c x3 x4 x5=some r:=by
 unfold Zim;rw[Zd Zbcm.eq_1];by_cases q1:x5<x4
 .rw[if_pos q1]at h;obtain⟨q2,h⟩:=h;obtain⟨e1,q3,h⟩:=h;have gq3:=Zii q3;have mq3:=gq3
  try simp at mq3
  have kq3:=Zj4 q3;obtain⟨v,q4,h⟩:=h;unfold Z7 at q4
  try simp at q4
  by_cases q5:v=true
  .rw[if_pos q5]at h;by_cases q6:e1.From<0
   .rw[if_pos q6]at h;refine Yf ?_ h;clear h;simp +decide[*,tI,tII]
   .rw[if_neg q6]at h;by_cases q7:(andI e1.From e1.To)=e1.From
    .rw[if_pos q7]at h;replace q7:=eq_true q7;by_cases q8:e1.From=e1.To
     .rw[if_pos q8]at h;replace q8:=eq_true q8;refine Yf ?_ h;clear h;simp +decide[*,tI,tII]
     .rw[if_neg q8]at h;replace q8:=eq_false q8;obtain⟨q9,h⟩:=h;obtain⟨q10,h⟩:=h;have zq10:=q10;try simp at zq10
      obtain⟨q11,h⟩:=h;obtain⟨q12,h⟩:=h;obtain⟨e3,q13,h⟩:=h;have gq13:=Zii q13;have mq13:=gq13
      try simp at mq13
      have kq13:=Zj4 q13;by_cases q14:0<e1.From
      .rw[if_pos q14]at h;obtain⟨q15,h⟩:=h;obtain⟨e4,q16,h⟩:=h;have gq16:=Zii q16;have mq16:=gq16
       try simp at mq16
       have kq16:=Zj4 q16;obtain⟨q17,h⟩:=h;have rq17:=Zfm (b:=24) q17 (by omega);have sq17:=Zfn q17
       try simp[*]at rq17
       try simp[*]at sq17
       obtain⟨q18,h⟩:=h;have rq18:=Zfm (b:=8) q18 (by omega);have sq18:=Zfn q18
       try simp[*]at rq18
       try simp[*]at sq18
       refine Yf ?_ h;clear h;simp +decide[*,tI,tII,Zim,Zbcl]
      .rw[if_neg q14]at h;obtain⟨q19,h⟩:=h;have rq19:=Zfm (b:=24) q19 (by omega);have sq19:=Zfn q19
       try simp[*]at rq19
       try simp[*]at sq19
       obtain⟨q20,h⟩:=h;have rq20:=Zfm (b:=8) q20 (by omega);have sq20:=Zfn q20
       try simp[*]at rq20
       try simp[*]at sq20
       refine Yf ?_ h;clear h;simp +decide[*,tI,tII,Zim,Zbcl]
    .rw[if_neg q7]at h;replace q7:=eq_false q7;refine Yf ?_ h;clear h;simp +decide[*,tI,tII]
  .rw[if_neg q5]at h;refine Yf ?_ h;clear h;simp +decide[*,tI,tII]
 .rw[if_neg q1]at h;obtain⟨v1,q21,h⟩:=h;unfold Zmn at q21
  try simp at q21
  by_cases q22:v1=true
  .rw[if_pos q22]at h;refine Yf ?_ h;clear h;simp +decide[*,tI,tII,Z11]
  .rw[if_neg q22]at h;refine Yf ?_ h;clear h;simp +decide[*,tI,tII,Z11]
theorem Zbz4{a:List Zo}{a1:Int}{r:AV×List Blk}(h:(∃(v:Bool),Z7 a1 1 4=some (Bo v,[])/\(if v=true then(¬a1<0/\(0<=(w ((shlI 1 a1)-1))/\((w ((shlI 1 a1)-1))<=(w ((shlI 1 a1)-1))/\((w ((shlI 1 a1)-1)).toNat*8<=room/\((w ((shlI 1 a1)-1))<=140737488355328/\(∃(v1:List (List Int)),Zuw a1=some (.own 0,[.arr 56 1 true (v1.map isc)])/\(0<=(w ((w ((shlI 1 a1)-1))-1))/\(∃(e3:Int),(List.replicate ((w ((shlI 1 a1)-1))).toNat 0)[(w ((w ((shlI 1 a1)-1))-1)).toNat]?=some e3/\(0<=(v1.length:Int)/\((v1.length:Int)<=(v1.length:Int)/\((v1.length:Int).toNat*8<=room/\((v1.length:Int)<=140737488355328/\(Zim ((List.replicate ((w ((shlI 1 a1)-1))).toNat 0).set ((w ((w ((shlI 1 a1)-1))-1)).toNat) 1) v1 (List.replicate ((v1.length:Int)).toNat 0) (w ((shlI 1 a1)-1)) a (a.length:Int) 0=some r)))))))))))))else(some (.tup [.agg [.own 0,.own 1,.own 2],Bo false],[.arr 3 1 true (([]:List Int).map ic),.arr 56 1 true (([]:List (List Int)).map isc),.arr 3 1 true (([]:List Int).map ic)])=some r)))):Zkg a a1=some r:=by
 unfold Zkg;refine run Zchc rfl ?_;obtain⟨v,q1,h⟩:=h;unfold Z7 at q1
 try simp at q1
 by_cases q2:v=true
 .rw[if_pos q2]at h;obtain⟨q3,h⟩:=h;obtain⟨q4,h⟩:=h;obtain⟨q5,h⟩:=h;obtain⟨q6,h⟩:=h;have zq6:=q6;try simp at zq6
  obtain⟨q7,h⟩:=h;obtain⟨v1,q8,h⟩:=h;unfold Zuw at q8
  try simp at q8
  obtain⟨q9,h⟩:=h;obtain⟨e3,q10,h⟩:=h;have gq10:=Zii q10;have mq10:=gq10
  try simp at mq10
  have kq10:=Zj4 q10;obtain⟨q11,h⟩:=h;have zq11:=q11;try simp at zq11
  obtain⟨q12,h⟩:=h;have zq12:=q12;try simp at zq12
  obtain⟨q13,h⟩:=h;have zq13:=q13;try simp at zq13
  obtain⟨q14,h⟩:=h;have zq14:=q14;try simp at zq14
  refine Yf ?_ h;clear h;simp +decide[*,Zbcn,tI,tII,Zim]
 .rw[if_neg q2]at h;refine Yf ?_ h;clear h;simp +decide[*,Zbcn,tI,tII]
theorem Zdc:((((∀p cd cc x x1 n k r,Im (Zbcr p cd cc x x1 n k=some r) (if k<n then Zu4 p cd cc ([k]) x x1 n (w (k+1))=some r else Zbso cd cc x x1 n p.Rows (p.Rows.length:Int) 0=some r))/\
 (∀p cd cc x x1 x2 n k r,Im (Zu4 p cd cc x x1 x2 n k=some r) (if k<n then x.length+1<=68719476736/\Zu4 p cd cc (x++[k]) x1 x2 n (w (k+1))=some r else Zbcs cd cc x x1 x2 n p.Rows (p.Rows.length:Int) 0=some r)))/\
 ((∀cd cc x x1 x2 n x3 x4 x5 r,Im (Zbcs cd cc x x1 x2 n x3 x4 x5=some r) (if x5<x4 then qG x3 x5 (λe1=>qO 149 2 Za.c (Zgd e1) (λv2=>Zu5 cd cc ([(w (n+x5))]) x ([v2]) x1 x2 n x3 x4 (w (x5+1))=some r))else some (.tup [.agg [.own 0,.own 1,.own 2,.own 3,.own 4,I cc.Num,I cc.Den],Bo true],[.arr 3 1 true (([]:List Int).map ic),.arr 3 1 true (x.map ic),.arr 179 1 true (([]:List (List Za)).map (lc 2 Za.c)),.arr 149 2 true (x1.map Za.c),.arr 149 2 true (x2.map Za.c)])=some r))/\
 (∀cd cc x x1 x2 x3 x4 n x5 x6 x7 r,Im (Zu5 cd cc x x1 x2 x3 x4 n x5 x6 x7=some r) (if x7<x6 then qG x5 x7 (λe1=>x.length+1<=68719476736/\qO 149 2 Za.c (Zgd e1) (λv2=>x2.length+1<=68719476736/\Zu5 cd cc (x++[(w (n+x7))]) x1 (x2++[v2]) x3 x4 n x5 x6 (w (x7+1))=some r))else some (.tup [.agg [.own 0,.own 1,.own 2,.own 3,.own 4,I cc.Num,I cc.Den],Bo true],[.arr 3 1 true (x.map ic),.arr 3 1 true (x1.map ic),.arr 179 1 true (x2.map (lc 2 Za.c)),.arr 149 2 true (x3.map Za.c),.arr 149 2 true (x4.map Za.c)])=some r))))/\
 (((∀a r,Im (Zu3 a=some r) (qB (Zmn a) (qO 149 2 Za.c (Zgd a.Limits) (λv2=>qO 149 2 Za.c (Zgd a.Objective) (λv3=>qA Za.c (Zkh 0) (λv5=>Zbcr a (⟨0,0⟩:Za) v5 v2 v3 (a.Objective.length:Int) 0=some r)))) (some (.tup [.agg [.own 0,.own 1,.own 2,.own 3,.own 4,I 0,I 0],Bo false],[.arr 3 1 true (([]:List Int).map ic),.arr 3 1 true (([]:List Int).map ic),.arr 179 1 true (([]:List (List Za)).map (lc 2 Za.c)),.arr 149 2 true (([]:List Za).map Za.c),.arr 149 2 true (([]:List Za).map Za.c)])=some r)))/\
 (∀d cl x x1 x2 r,Im (Zki d cl x x1 x2=some r) (if x2<x1 then qG x x2 (λe1=>if 0<e1.Num then if cl<0 then Zki d x2 x x1 (w (x2+1))=some r else qH d.Free x2 (λe2=>qG d.Free cl (λe3=>if e2<e3 then Zki d x2 x x1 (w (x2+1))=some r else Zki d cl x x1 (w (x2+1))=some r))else Zki d cl x x1 (w (x2+1))=some r)else qi cl r)))/\
 ((∀a r,Im (Zu6 a=some r) (Zki a (-1) a.Costs (a.Costs.length:Int) 0=some r))/\
 ((∀a b r,Im (Zu7 a b=some r) (if b=0 then qi (if a<(w (0-a))then(w (0-a))else a) r else ¬b=0/\Zu7 b (Int.tmod a b)=some r))/\
 (∀a a1 r,Im (Zgw a a1=some r) (Zu7 a a1=some r))))))/\
 ((((∀a r,Im (Zcm a=some r) (qB (Z7 a.Den 1 2147483647) (qB (Z7 a.Num (-2147483647) 2147483647) (qI (Zgw a.Num a.Den) (λv3=>qb (decide (v3=1)) r)) (qb false r)) (qb false r)))/\
 (∀a a1 r,Im (Zu8 a a1=some r) (qB (Zcm a) (qB (Zcm a1) (qS Za.c (Zmo (w (a.Num*a1.Den)) (w (a.Den*a1.Num))) (λv3 v4=>some (.tup [.agg (v3.c.map .t),Bo v4],[])=some r)) (some (.tup [.agg [I 0,I 0],Bo false],[])=some r)) (some (.tup [.agg [I 0,I 0],Bo false],[])=some r))))/\
 ((∀a a1 r,Im (Z16 a a1=some r) (qB (Zcm a) (qB (Zcm a1) (if(w (a.Num*a1.Den))<(w (a1.Num*a.Den))then qi (-1) r else if(w (a1.Num*a.Den))<(w (a.Num*a1.Den))then qi 1 r else qi 0 r) (qi 0 r)) (qi 0 r)))/\
 (∀d co cn cl x x1 r,Im (Zho d co cn cl x x1=some r) (if x1<x then qG d.Cells x1 (λe1=>qG e1 cn (λe2=>if e2.Num<=0 then Zho d co cn cl x (w (x1+1))=some r else qH d.Limits x1 (λe3=>qS Za.c (Zu8 e3 e2) (λv5 v6=>if v6=true then qI (Z16 v5 co) (λv7=>if cl<0 then Zho d v5 cn x1 x (w (x1+1))=some r else if v7<0 then Zho d v5 cn x1 x (w (x1+1))=some r else if v7=0 then qH d.Basic x1 (λe6=>qG d.Basic cl (λe7=>if e6<e7 then Zho d v5 cn x1 x (w (x1+1))=some r else Zho d co cn cl x (w (x1+1))=some r))else Zho d co cn cl x (w (x1+1))=some r)else qi (-1) r))))else qi cl r))))/\
 (((∀a a1 r,Im (Zu9 a a1=some r) (Zho a (⟨0,0⟩:Za) a1 (-1) (a.Basic.length:Int) 0=some r))/\
 (∀x a a1 r,Im (Zin x a a1=some r) (qS Za.c (Zu8 a a1) (λv v1=>if x.bad=true then some (.agg (v.c.map .t),[.box [Bo true]])=some r else some (.agg (v.c.map .t),[.box [Bo (!v1)]])=some r))))/\
 ((∀a r,Im (Zfp a=some r) (some (.agg [I (w (0-a.Num)),I a.Den],[])=some r))/\
 ((∀a a1 r,Im (Zva a a1=some r) (qB (Zcm a) (qB (Zcm a1) (qS Za.c (Zmo (w (a.Num*a1.Num)) (w (a.Den*a1.Den))) (λv3 v4=>some (.tup [.agg (v3.c.map .t),Bo v4],[])=some r)) (some (.tup [.agg [I 0,I 0],Bo false],[])=some r)) (some (.tup [.agg [I 0,I 0],Bo false],[])=some r)))/\
 (∀a a1 r,Im (Zvb a a1=some r) (qB (Zcm a) (qB (Zcm a1) (qS Za.c (Zmo (w ((w (a.Num*a1.Den))+(w (a1.Num*a.Den)))) (w (a.Den*a1.Den))) (λv3 v4=>some (.tup [.agg (v3.c.map .t),Bo v4],[])=some r)) (some (.tup [.agg [I 0,I 0],Bo false],[])=some r)) (some (.tup [.agg [I 0,I 0],Bo false],[])=some r))))))):=by
 and_intros
 all_goals(intros;unfold Im;(try simp only[Zbcr,Zu4,Zbcs,Zu5,Zu3,Zki,Zu6,Zu7,Zgw,Zcm,Zu8,Z16,Zho,Zu9,Zin,Zfp,Zva,Zvb,Zgd,Zmn,Zkh,Program.c_def,Za.c_def,Z7,Zmo,Zbso,mpl,dfs,qs]);(try simp only[itb]);(try simp only[itf,gS,kk]))
 all_goals(repeat' first|refine exI λ_=>?_|refine anJ λ_ _=>?_|refine anI λ_=>?_|refine orE2 ?_ ?_|exact False.elim)
 all_goals(intro h;first|rw[Zd Z13.eq_1]|rw[Zd Zu1.eq_1]|refine run Zchg rfl ?_|rw[Zd Zbct.eq_1]|refine run Zchh rfl ?_|rw[Zd Zbcw.eq_1]|refine run Zchi rfl ?_|refine run Zchj rfl ?_|refine run Zchl rfl ?_|refine run Zchm rfl ?_|rw[Zd Zbcy.eq_1]|refine run Zchn rfl ?_|refine runM Zchp rfl ?_|refine run Zchq rfl ?_|refine run Zchr rfl ?_|refine run Zchs rfl ?_)
 all_goals (refine Yf ?_ h;clear h;simp +decide[*,kk,tI,tII,Z14,Zu2,Zbsn,Zbsp,Zbcu,Zbsq,Zbcx,Zbsr,Zbss,Zbsw,Zbsx,Zbsy,Zbcz,Zbsz,Zbs1,Zbs2,Zbs3,Zbs4])
abbrev Zcnt:=uq Zdc.1.1.1.1
abbrev Zbz5:=uq Zdc.1.1.1.2
abbrev Zcnu:=uq Zdc.1.1.2.1
abbrev Zbz6:=uq Zdc.1.1.2.2
abbrev Zcnv:=uq Zdc.1.2.1.1
abbrev Zbz7:=uq Zdc.1.2.1.2
abbrev Zcnw:=uq Zdc.1.2.2.1
abbrev Zbz8:=uq Zdc.1.2.2.2.1
abbrev Zcnx:=uq Zdc.1.2.2.2.2
abbrev Zcny:=uq Zdc.2.1.1.1
abbrev Zcnz:=uq Zdc.2.1.1.2
abbrev Zcn0:=uq Zdc.2.1.2.1
abbrev Zbz9:=uq Zdc.2.1.2.2
abbrev Zcn1:=uq Zdc.2.2.1.1
abbrev Zcn2:=uq Zdc.2.2.1.2
abbrev Zcn3:=uq Zdc.2.2.2.1
abbrev Zcn4:=uq Zdc.2.2.2.2.1
abbrev Zcn5:=uq Zdc.2.2.2.2.2
theorem Zcn6:∀x a a1 a2 r,Im (Zfq x a a1 a2=some r) (if a1.Num=0 then some (.agg (a.c.map .t),[.box (x.c.map .t)])=some r else if a2.Num=0 then some (.agg (a.c.map .t),[.box (x.c.map .t)])=some r else qS Za.c (Zva a1 a2) (λv v1=>qS Za.c (Zvb a v) (λv2 v3=>if x.bad=true then some (.agg (v2.c.map .t),[.box [Bo true]])=some r else if v1=true then some (.agg (v2.c.map .t),[.box [Bo (!v3)]])=some r else some (.agg (v2.c.map .t),[.box [Bo true]])=some r))):=by
 all_goals(intros;unfold Im;(try simp only[Zfq,Zva,Zvb,Za.c_def,mpl,dfs,qs]);(try simp only[itb]);(try simp only[itf,gS,kk]))
 all_goals(repeat' first|refine exI λ_=>?_|refine anJ λ_ _=>?_|refine anI λ_=>?_|refine orE2 ?_ ?_|exact False.elim)
 all_goals(intro h;first|refine runM Zcht rfl ?_)
 all_goals (refine Yf ?_ h;clear h;simp +decide[*,kk,tI,tII,Zbs5])
abbrev Zcn7:=uq Zcn6
theorem Zcn8{a a1:Int}{r:AV×List Blk}(h:(if a1=0 then(some (.tup [.agg [I 0,I 0],Bo false],[])=some r)else(if a=(w (0-a))then(if a=0 then(if a1=(w (0-a1))then(some (.tup [.agg [I 0,I 0],Bo false],[])=some r)else(if a1<0 then(∃(v:Int),Zgw (w (0-a)) (w (0-a1))=some (I v,[])/\(¬v=0/\(∃(v1:Bool),Zcm (⟨(w (Int.tdiv (w (0-a)) v)),(w (Int.tdiv (w (0-a1)) v))⟩:Za)=some (Bo v1,[])/\(if v1=true then(some (.tup [.agg [I (w (Int.tdiv (w (0-a)) v)),I (w (Int.tdiv (w (0-a1)) v))],Bo true],[])=some r)else(some (.tup [.agg [I 0,I 0],Bo false],[])=some r)))))else(∃(v2:Int),Zgw a a1=some (I v2,[])/\(¬v2=0/\(∃(v3:Bool),Zcm (⟨(w (Int.tdiv a v2)),(w (Int.tdiv a1 v2))⟩:Za)=some (Bo v3,[])/\(if v3=true then(some (.tup [.agg [I (w (Int.tdiv a v2)),I (w (Int.tdiv a1 v2))],Bo true],[])=some r)else(some (.tup [.agg [I 0,I 0],Bo false],[])=some r)))))))else(some (.tup [.agg [I 0,I 0],Bo false],[])=some r))else(if a1=(w (0-a1))then(some (.tup [.agg [I 0,I 0],Bo false],[])=some r)else(if a1<0 then(∃(v4:Int),Zgw (w (0-a)) (w (0-a1))=some (I v4,[])/\(¬v4=0/\(∃(v5:Bool),Zcm (⟨(w (Int.tdiv (w (0-a)) v4)),(w (Int.tdiv (w (0-a1)) v4))⟩:Za)=some (Bo v5,[])/\(if v5=true then(some (.tup [.agg [I (w (Int.tdiv (w (0-a)) v4)),I (w (Int.tdiv (w (0-a1)) v4))],Bo true],[])=some r)else(some (.tup [.agg [I 0,I 0],Bo false],[])=some r)))))else(∃(v6:Int),Zgw a a1=some (I v6,[])/\(¬v6=0/\(∃(v7:Bool),Zcm (⟨(w (Int.tdiv a v6)),(w (Int.tdiv a1 v6))⟩:Za)=some (Bo v7,[])/\(if v7=true then(some (.tup [.agg [I (w (Int.tdiv a v6)),I (w (Int.tdiv a1 v6))],Bo true],[])=some r)else(some (.tup [.agg [I 0,I 0],Bo false],[])=some r)))))))))):Zmo a a1=some r:=by
 unfold Zmo;refine run Zchk rfl ?_;simp only[Zgw,Zcm,Za.c_def,mpl,dfs]at h
 try simp only[itb]at h
 try simp only[itf,gS,kk]at h
 rcases h with⟨q1,h⟩|⟨q1,(⟨q2,(⟨q3,(⟨q4,h⟩|⟨q4,(⟨q5,v,q6,q7,v1,q8,(⟨q9,h⟩|⟨q9,h⟩)⟩|⟨q5,v2,q10,q11,v3,q12,(⟨q13,h⟩|⟨q13,h⟩)⟩)⟩)⟩|⟨q3,h⟩)⟩|⟨q2,(⟨q14,h⟩|⟨q14,(⟨q15,v4,q16,q17,v5,q18,(⟨q19,h⟩|⟨q19,h⟩)⟩|⟨q15,v6,q20,q21,v7,q22,(⟨q23,h⟩|⟨q23,h⟩)⟩)⟩)⟩)⟩
 all_goals (try simp only[Int.zero_sub]at *)
 all_goals (refine Yf ?_ h;clear h;simp +decide[*,kk,tI,tII,Zbsv,Zbsu])
theorem Zcn9{a:List Za}{r:AV×List Blk}(h:(a≠[]/\(a.length<=68719476736/\(some (.own 0,[.arr 149 2 true (a.map Za.c)])=some r)))):Zkj a=some r:=by
 unfold Zkj;refine run Zcho rfl ?_;obtain⟨q1,h⟩:=h;obtain⟨yq1,ysq1,eq1⟩:=List.exists_cons_of_ne_nil q1
 first|subst eq1|skip
 obtain⟨q2,h⟩:=h;have rq2:=Zfm (b:=16) q2 (by omega);have sq2:=Zfn q2
 try simp[*]at rq2
 try simp[*]at sq2
 refine Yf ?_ h;clear h;simp +decide[*,Zbs0,tI,tII]
theorem Zi2:(((∀l x x1 x2 x3 c x4 x5 r,Im (Zpy l x x1 x2 x3 c x4 x5=some r) (if x5<x4 then if x5=x then ∃(v:Z4) (v1:Za),Zin x1 c x2=some (.agg (v1.c.map .t),[.box (v.c.map .t)])/\qA Za.c (Zfp v1) (λv2=>qG l x5 (λe3=>Zpy (l.set x5.toNat v2) x v x2 x3 c x4 (w (x5+1))=some r))else qG l x5 (λe4=>qA Za.c (Zfp c) (λv10=>qH x3 x5 (λe6=>∃(v13:Z4) (v14:Za),Zfq x1 e4 v10 e6=some (.agg (v14.c.map .t),[.box (v13.c.map .t)])/\Zpy (l.set x5.toNat v14) x v13 x2 x3 c x4 (w (x5+1))=some r)))else some (.own 6,[.box [I x],.box [.ptr 2 0],.box (x1.c.map .t),.box (x2.c.map .t),.box [.own 5],.arr 149 2 true (x3.map Za.c),.arr 149 2 true (l.map Za.c)])=some r))/\
 (∀x x1 x2 x3 a r,Im (Zmp x x1 x2 x3 a=some r) (qG a x (λe1=>qO 149 2 Za.c (Zkj a) (λv2=>Zpy v2 x x1 x2 x3 e1 (v2.length:Int) 0=some r)))))/\
 ((∀l x x1 x2 x3 c x4 x5 r,Im (Zpz l x x1 x2 x3 c x4 x5=some r) (if x5<x4 then if x5=x then ∃(v:Z4) (v1:Za),Zin x1 c x2=some (.agg (v1.c.map .t),[.box (v.c.map .t)])/\qA Za.c (Zfp v1) (λv2=>qG l x5 (λe3=>Zpz (l.set x5.toNat v2) x v x2 x3 c x4 (w (x5+1))=some r))else qG l x5 (λe4=>qA Za.c (Zfp c) (λv10=>qH x3 x5 (λe6=>∃(v13:Z4) (v14:Za),Zfq x1 e4 v10 e6=some (.agg (v14.c.map .t),[.box (v13.c.map .t)])/\Zpz (l.set x5.toNat v14) x v13 x2 x3 c x4 (w (x5+1))=some r)))else some (.own 5,[.box [I x],.box [.ptr 2 0],.box (x1.c.map .t),.box (x2.c.map .t),.box [L 2 (x3.map Za.c)],.arr 149 2 true (l.map Za.c)])=some r))/\
 (∀x x1 x2 x3 a r,Im (Zvc x x1 x2 x3 a=some r) (qG a x (λe1=>qO 149 2 Za.c (Zkj a) (λv2=>Zpz v2 x x1 x2 x3 e1 (v2.length:Int) 0=some r))))))/\
 (((∀d cc cn x a cl x1 x2 x3 x4 x5 co x6 x7 x8 r,Im (Zp0 d cc cn x a cl x1 x2 x3 x4 x5 co x6 x7 x8=some r) (if x8<x7 then qG x6 x8 (λe1=>if x8=cc then qA Za.c (Zkh 1) (λv2=>∃(v3:Z4) (v4:Za),Zin x v2 a=some (.agg (v4.c.map .t),[.box (v3.c.map .t)])/\x5.length+1<=68719476736/\Zp0 d cc cn v3 a cl x1 x2 x3 x4 (x5++[v4]) co x6 x7 (w (x8+1))=some r)else ∃(v8:Z4) (v9:Za),Zin x e1 a=some (.agg (v9.c.map .t),[.box (v8.c.map .t)])/\x5.length+1<=68719476736/\Zp0 d cc cn v8 a cl x1 x2 x3 x4 (x5++[v9]) co x6 x7 (w (x8+1))=some r)else qG d.Limits co (λe5=>∃(v11:Z4) (v12:Za),Zin x e5 a=some (.agg (v12.c.map .t),[.box (v11.c.map .t)])/\Z2b d cc cn v11 cl x1 x2 x3 x4 x5 v12 a co d.Cells (d.Cells.length:Int) 0=some r)))/\
 (∀d cc cn x cl x1 x2 x3 x4 x5 cd x6 co x7 x8 x9 r,Im (Z2b d cc cn x cl x1 x2 x3 x4 x5 cd x6 co x7 x8 x9=some r) (if x9<x8 then qG x7 x9 (λe1=>if x9=co then qH x3 x9 (λe2=>Zms d cc cn x cl x1 x2 false ([x5]) (x3.set x9.toNat cd) x4 x5 cd x6 co x7 x8 (w (x9+1))=some r)else ∃v3,∃(v4:Z4),∃(v5:Za),∃(v6:List Za),∃(v7:List Za),Zmp cc x x6 x5 e1=some (.own 6,[.box [I v3],.box [.ptr 2 0],.box (v4.c.map .t),.box (v5.c.map .t),.box [.own 5],.arr 149 2 true (v6.map Za.c),.arr 149 2 true (v7.map Za.c)])/\qH d.Limits x9 (λe4=>qG e1 v3 (λe5=>qA Za.c (Zfp e5) (λv11=>∃(v13:Z4) (v14:Za),Zfq v4 e4 v11 cd=some (.agg (v14.c.map .t),[.box (v13.c.map .t)])/\qH x3 x9 (λe8=>Zvf d v3 cn v13 cl x1 x2 ([v7]) (x3.set x9.toNat v14) x4 v6 cd v5 co x7 x8 (w (x9+1))=some r)))))else ∃v15,∃(v16:Z4),∃(v17:Za),∃(v18:List Za),∃(v19:List Za),Zmp cc x x6 x5 d.Costs=some (.own 6,[.box [I v15],.box [.ptr 2 0],.box (v16.c.map .t),.box (v17.c.map .t),.box [.own 5],.arr 149 2 true (v18.map Za.c),.arr 149 2 true (v19.map Za.c)])/\qG d.Costs v15 (λe10=>∃(v20:Z4) (v21:Za),Zfq v16 d.Value e10 cd=some (.agg (v21.c.map .t),[.box (v20.c.map .t)])/\if v20.bad=true then some (.tup [.agg [.own 0,.own 1,.own 2,.own 3,.own 4,I 0,I 0],Bo false],[.arr 3 1 true (([]:List Int).map ic),.arr 3 1 true (([]:List Int).map ic),.arr 179 1 true (([]:List (List Za)).map (lc 2 Za.c)),.arr 149 2 true (([]:List Za).map Za.c),.arr 149 2 true (([]:List Za).map Za.c)])=some r else some (.tup [.agg [.own 0,.own 1,.own 2,.own 3,.own 4,I v21.Num,I v21.Den],Bo true],[.arr 3 1 true (x1.map ic),.arr 3 1 true (x2.map ic),.arr 179 1 true (([]:List (List Za)).map (lc 2 Za.c)),.arr 149 2 true (x3.map Za.c),.arr 149 2 true (v19.map Za.c)])=some r))))/\
 ((∀d cc cn x cl x1 x2 fr x3 x4 x5 cp cd x6 co x7 x8 x9 r,Im (Zms d cc cn x cl x1 x2 fr x3 x4 x5 cp cd x6 co x7 x8 x9=some r) (if x9<x8 then qG x7 x9 (λe1=>if x9=co then x3.length+1<=68719476736/\qH x4 x9 (λe2=>Zms d cc cn x cl x1 x2 false (x3++[cp]) (x4.set x9.toNat cd) x5 cp cd x6 co x7 x8 (w (x9+1))=some r)else ∃v3,∃(v4:Z4),∃(v5:Za),∃(v6:List Za),∃(v7:List Za),Zvc cc x x6 cp e1=some (.own 5,[.box [I v3],.box [.ptr 2 0],.box (v4.c.map .t),.box (v5.c.map .t),.box [L 2 (v6.map Za.c)],.arr 149 2 true (v7.map Za.c)])/\x3.length+1<=68719476736/\qH d.Limits x9 (λe4=>qG e1 v3 (λe5=>qA Za.c (Zfp e5) (λv11=>∃(v13:Z4) (v14:Za),Zfq v4 e4 v11 cd=some (.agg (v14.c.map .t),[.box (v13.c.map .t)])/\qH x4 x9 (λe8=>Zms d v3 cn v13 cl x1 x2 fr (x3++[v7]) (x4.set x9.toNat v14) x5 v6 cd v5 co x7 x8 (w (x9+1))=some r)))))else ∃v15,∃(v16:Z4),∃(v17:Za),∃(v18:List Za),∃(v19:List Za),Zvc cc x x6 cp d.Costs=some (.own 5,[.box [I v15],.box [.ptr 2 0],.box (v16.c.map .t),.box (v17.c.map .t),.box [L 2 (v18.map Za.c)],.arr 149 2 true (v19.map Za.c)])/\qG d.Costs v15 (λe10=>∃(v20:Z4) (v21:Za),Zfq v16 d.Value e10 cd=some (.agg (v21.c.map .t),[.box (v20.c.map .t)])/\if v20.bad=true then some (.tup [.agg [.own 0,.own 1,.own 2,.own 3,.own 4,I 0,I 0],Bo false],[.arr 3 1 true (([]:List Int).map ic),.arr 3 1 true (([]:List Int).map ic),.arr 179 1 true (([]:List (List Za)).map (lc 2 Za.c)),.arr 149 2 true (([]:List Za).map Za.c),.arr 149 2 true (([]:List Za).map Za.c)])=some r else some (.tup [.agg [.own 0,.own 1,.own 2,.own 3,.own 4,I v21.Num,I v21.Den],Bo true],[.arr 3 1 true (x1.map ic),.arr 3 1 true (x2.map ic),.arr 179 1 fr (x3.map (lc 2 Za.c)),.arr 149 2 true (x4.map Za.c),.arr 149 2 true (v19.map Za.c)])=some r)))/\
 ((∀d cc cn x cl x1 x2 x3 x4 x5 x6 cd x7 co x8 x9 cu r,Im (Zvf d cc cn x cl x1 x2 x3 x4 x5 x6 cd x7 co x8 x9 cu=some r) (if cu<x9 then qG x8 cu (λe1=>if cu=co then x3.length+1<=68719476736/\qH x4 cu (λe2=>Zms d cc cn x cl x1 x2 false (x3++[x6]) (x4.set cu.toNat cd) x5 x6 cd x7 co x8 x9 (w (cu+1))=some r)else ∃v3,∃(v4:Z4),∃(v5:Za),∃(v6:List Za),∃(v7:List Za),Zmp cc x x7 x6 e1=some (.own 6,[.box [I v3],.box [.ptr 2 0],.box (v4.c.map .t),.box (v5.c.map .t),.box [.own 5],.arr 149 2 true (v6.map Za.c),.arr 149 2 true (v7.map Za.c)])/\x3.length+1<=68719476736/\qH d.Limits cu (λe4=>qG e1 v3 (λe5=>qA Za.c (Zfp e5) (λv11=>∃(v13:Z4) (v14:Za),Zfq v4 e4 v11 cd=some (.agg (v14.c.map .t),[.box (v13.c.map .t)])/\qH x4 cu (λe8=>Zvf d v3 cn v13 cl x1 x2 (x3++[v7]) (x4.set cu.toNat v14) x5 v6 cd v5 co x8 x9 (w (cu+1))=some r)))))else ∃v15,∃(v16:Z4),∃(v17:Za),∃(v18:List Za),∃(v19:List Za),Zmp cc x x7 x6 d.Costs=some (.own 6,[.box [I v15],.box [.ptr 2 0],.box (v16.c.map .t),.box (v17.c.map .t),.box [.own 5],.arr 149 2 true (v18.map Za.c),.arr 149 2 true (v19.map Za.c)])/\qG d.Costs v15 (λe10=>∃(v20:Z4) (v21:Za),Zfq v16 d.Value e10 cd=some (.agg (v21.c.map .t),[.box (v20.c.map .t)])/\if v20.bad=true then some (.tup [.agg [.own 0,.own 1,.own 2,.own 3,.own 4,I 0,I 0],Bo false],[.arr 3 1 true (([]:List Int).map ic),.arr 3 1 true (([]:List Int).map ic),.arr 179 1 true (([]:List (List Za)).map (lc 2 Za.c)),.arr 149 2 true (([]:List Za).map Za.c),.arr 149 2 true (([]:List Za).map Za.c)])=some r else some (.tup [.agg [.own 0,.own 1,.own 2,.own 3,.own 4,I v21.Num,I v21.Den],Bo true],[.arr 3 1 true (x1.map ic),.arr 3 1 true (x2.map ic),.arr 179 1 true (x3.map (lc 2 Za.c)),.arr 149 2 true (x4.map Za.c),.arr 149 2 true (v19.map Za.c)])=some r)))/\
 (∀a a1 a2 r,Im (Zmr a a1 a2=some r) (qG a.Cells a1 (λe1=>qG e1 a2 (λe2=>if e2.Num=0 then some (.tup [.agg [.own 0,.own 1,.own 2,.own 3,.own 4,I 0,I 0],Bo false],[.arr 3 1 true (([]:List Int).map ic),.arr 3 1 true (([]:List Int).map ic),.arr 179 1 true (([]:List (List Za)).map (lc 2 Za.c)),.arr 149 2 true (([]:List Za).map Za.c),.arr 149 2 true (([]:List Za).map Za.c)])=some r else qO 3 1 ic (Zeo a.Basic) (λv3=>qO 3 1 ic (Zeo a.Free) (λv8=>qO 149 2 Za.c (Zkj a.Limits) (λv10=>qO 149 2 Za.c (Zkj a.Costs) (λv11=>qH a.Free a2 (λe7=>qH a.Basic a1 (λe8=>qH v3 a1 (λe9=>qH v8 a2 (λe10=>Zp0 a a2 (⟨0,0⟩:Za) (⟨false⟩:Z4) e2 a.Value (v3.set a1.toNat e7) (v8.set a2.toNat e8) v10 v11 ([]:List Za) a1 e1 (e1.length:Int) 0=some r))))))))))))))):=by
 and_intros
 all_goals(intros;unfold Im;(try simp only[Zpy,Zmp,Zpz,Zvc,Zp0,Z2b,Zms,Zvf,Zmr,Zin,Zfp,Zfq,Za.c_def,Z4.c_def,Zkj,Zkh,Zeo,mpl,dfs,qs]);(try simp only[itb]);(try simp only[itf,gS,kk]))
 all_goals(repeat' first|refine exI λ_=>?_|refine anJ λ_ _=>?_|refine anI λ_=>?_|refine orE2 ?_ ?_|exact False.elim)
 all_goals(intro h;first|rw[Zd Z19.eq_1]|refine runM Zchu rfl ?_|rw[Zd Zbc0.eq_1]|rw[Zd Zvd.eq_1]|refine run Zchv rfl ?_)
 all_goals (refine Yf ?_ h;clear h;simp +decide[*,kk,tI,tII,Zbs6,Z2a,Zbs7,Zbs8,Zbc1,Zbs9,Zve,Zbta])
abbrev Zb0a:=uq Zi2.1.1.1
abbrev Zcoa:=uq Zi2.1.1.2
abbrev Zb0b:=uq Zi2.1.2.1
abbrev Zcob:=uq Zi2.1.2.2
abbrev Zb0c:=uq Zi2.2.1.1
abbrev Zcoc:=uq Zi2.2.1.2
abbrev Zb0d:=uq Zi2.2.2.1
abbrev Zb0e:=uq Zi2.2.2.2.1
abbrev Zcod:=uq Zi2.2.2.2.2
end Go.Proofs.YtnnjbejcffjgfaaGreat
