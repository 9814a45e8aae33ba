/-
  Parts of the proofs for this seat: G24 G25 G26.
-/
import Derived.Test.YtcfaekfjkeobhaaGreatP11
set_option linter.unusedSectionVars false
set_option linter.unusedSimpArgs false
set_option linter.unusedVariables false
set_option maxRecDepth 100000
set_option maxHeartbeats 4000000
namespace Go.Proofs.YtcfaekfjkeobhaaGreat
open Go.AM
theorem Zdp:((((∀a a1 a2 r,Im (Zxx a a1 a2=some r) ((qO 3 1 ic (Ziq a2) (λv=>qI (Ztc a a1 v) (λv1=>qi v1 r)))\/(Ziq a2=some (.t .nil,[])/\qI (Zbgq a a1) (λv3=>qi v3 r))))/\
 (∀a a1 a2 r,Im (Ziu a a1 a2=some r) (qI (Zs2 a a1 a2.Plan a2.Box.High) (λv=>qI (Zxx a a1 a2.Box.Low) (λv1=>qb (decide ((w (100*v))<=(w (a2.Percent*v1)))) r)))))/\
 ((∀a a1 a2 r,Im (Ziv a a1 a2=some r) (qB (Zsv a a1 a2) (qV (Ziu a a1 a2) (λv1=>qb v1 r)) (qb false r)))/\
 (∀a a1 r,Im (Z46 a a1=some r) (qb (decide (a.Used=a1.Used)) r))))/\
 (((∀s f x x1 r,Im (Ztd s f x x1=some r) (if x1<x then qG s x1 (λe1=>qB (Z46 e1 f) (qi x1 r) (Ztd s f x (w (x1+1))=some r))else qi (-1) r))/\
 (∀a a1 r,Im (Z47 a a1=some r) (Ztd a a1 (a.length:Int) 0=some r)))/\
 ((∀a a1 r,Im (Zxy a a1=some r) (qI (Z47 a a1) (λv=>qb (decide (0<=v)) r)))/\
 ((∀m c x x1 x2 r,Im (Zte m c x x1 x2=some r) (if x2<x1 then qG x x2 (λe1=>qB (Zba e1.Version 1 999) (qB (Zba e1.Used 1 c.Clock) (qB (Ziv m e1.Zc e1.Region) (x2.toNat<=c.Entries.length/\qB (Zxy (c.Entries.take x2.toNat) e1) (qb false r) (Zte m c x x1 (w (x2+1))=some r)) (qb false r)) (qb false r)) (qb false r))else qb true r))/\
 (∀a a1 r,Im (Zdg a a1=some r) (qB (Zba a1.Clock 0 1000000) (if 4<(a1.Entries.length:Int)then qb false r else Zte a a1 a1.Entries (a1.Entries.length:Int) 0=some r) (qb false r)))))))/\
 ((((∀a a1 a2 a3 a4 r,Im (Zpb a a1 a2 a3 a4=some r) ((∃v,Zf7 a1=some (.agg [I v,.t .nil],[])/\qI (Zf8 a1 a2 a3 a4) (λv1=>if v1<0 then some (.tup [.agg [I v,.own 0],.agg [.own 1],Bo false],[.arr 63 8 true (([]:List Zd).map Zd.c),.arr 162 3 true (([]:List Zb).map Zb.c)])=some r else if a1.Clock=1000000 then some (.tup [.agg [I v,.own 0],.agg [.own 1],Bo false],[.arr 63 8 true (([]:List Zd).map Zd.c),.arr 162 3 true (([]:List Zb).map Zb.c)])=some r else qB (Zdg a a1) False (some (.tup [.agg [I v,.own 0],.agg [.own 1],Bo false],[.arr 63 8 true (([]:List Zd).map Zd.c),.arr 162 3 true (([]:List Zb).map Zb.c)])=some r)))\/(∃(v3:List Zd),∃v4,Zf7 a1=some (.agg [I v4,.own 0],[.arr 63 8 true (v3.map Zd.c)])/\qI (Zf8 a1 a2 a3 a4) (λv6=>if v6<0 then some (.tup [.agg [I v4,.own 0],.agg [.own 1],Bo false],[.arr 63 8 true (v3.map Zd.c),.arr 162 3 true (([]:List Zb).map Zb.c)])=some r else if a1.Clock=1000000 then some (.tup [.agg [I v4,.own 0],.agg [.own 1],Bo false],[.arr 63 8 true (v3.map Zd.c),.arr 162 3 true (([]:List Zb).map Zb.c)])=some r else qB (Zdg a a1) (qG v3 v6 (λe7=>qH a1.Entries v6 (λe8=>∃(v7:List Zb),Zdx e8.Region.Plan=some (.agg [.own 0],[.arr 162 3 true (v7.map Zb.c)])/\some (.tup [.agg [I (w (v4+1)),.own 0],.agg [.own 1],Bo true],[.arr 63 8 true ((v3.set v6.toNat (⟨e7.Zc,e7.Region,e7.Version,(w (v4+1))⟩:Zd)).map Zd.c),.arr 162 3 true (v7.map Zb.c)])=some r))) (some (.tup [.agg [I v4,.own 0],.agg [.own 1],Bo false],[.arr 63 8 true (v3.map Zd.c),.arr 162 3 true (([]:List Zb).map Zb.c)])=some r)))))/\
 (∀a b i r,Im (Ztf a b i=some r) (if i<(a.length:Int)then if i<(b.length:Int)then qG a i (λe1=>qH b i (λe2=>if e1<e2 then qi (-1) r else if e2<e1 then qi 1 r else Ztf a b (w (i+1))=some r))else Ztg a b i false=some r else Ztg a b i false=some r)))/\
 ((∀a b i x r,Im (Ztg a b i x=some r) (if(a.length:Int)<(b.length:Int)then qi (-1) r else if(b.length:Int)<(a.length:Int)then qi 1 r else qi 0 r))/\
 (∀a a1 r,Im (Zme a a1=some r) (Ztf a a1 0=some r))))/\
 (((∀a b i r,Im (Zth a b i=some r) (if i<(a.Atoms.length:Int)then qG a.Atoms i (λe1=>qH b.Atoms i (λe2=>if e1.Name=e2.Name then qI (Zme e1.Vars e2.Vars) (λv2=>if v2=0 then Zth a b (w (i+1))=some r else qb false r)else qb false r))else qb true r))/\
 (∀a a1 r,Im (Zpc a a1=some r) (if a.Zf=a1.Zf then if(a.Atoms.length:Int)=(a1.Atoms.length:Int)then Zth a a1 0=some r else qb false r else qb false r)))/\
 ((∀c q cc l i r,Im (Zmg c q cc l i=some r) (if i<(c.Entries.length:Int)then qG c.Entries i (λe1=>if e1.Version=cc then qB (Zpc e1.Zc q) (qB (Zlq e1.Region.Box l) (qi i r) (Zmg c q cc l (w (i+1))=some r)) (Zmg c q cc l (w (i+1))=some r)else Zmg c q cc l (w (i+1))=some r)else qi (-1) r))/\
 ((∀a a1 a2 a3 r,Im (Zmf a a1 a2 a3=some r) (Zmg a a1 a2 a3 0=some r))/\
 (∀a a1 a2 a3 a4 r,Im (Zpd a a1 a2 a3 a4=some r) ((∃v,Zin a1=some (.agg [I v,.t .nil],[])/\qI (Zmf a1 a2 a3 a4) (λv1=>qB (Zfi a a1) (if v1<0 then some (.tup [.agg [I v,.own 0],.agg [.own 1],Bo false],[.arr 63 8 true (([]:List Zd).map Zd.c),.arr 162 3 true (([]:List Zb).map Zb.c)])=some r else if a1.Clock=1000000 then some (.tup [.agg [I v,.own 0],.agg [.own 1],Bo false],[.arr 63 8 true (([]:List Zd).map Zd.c),.arr 162 3 true (([]:List Zb).map Zb.c)])=some r else False) (some (.tup [.agg [I v,.own 0],.agg [.own 1],Bo false],[.arr 63 8 true (([]:List Zd).map Zd.c),.arr 162 3 true (([]:List Zb).map Zb.c)])=some r)))\/(∃v3,∃(v4:List Zd),∃v5,Zin a1=some (.agg [I v5,.own 0],[.arr 63 8 v3 (v4.map Zd.c)])/\qI (Zmf a1 a2 a3 a4) (λv6=>qB (Zfi a a1) (if v6<0 then some (.tup [.agg [I v5,.own 0],.agg [.own 1],Bo false],[.arr 63 8 v3 (v4.map Zd.c),.arr 162 3 true (([]:List Zb).map Zb.c)])=some r else if a1.Clock=1000000 then some (.tup [.agg [I v5,.own 0],.agg [.own 1],Bo false],[.arr 63 8 v3 (v4.map Zd.c),.arr 162 3 true (([]:List Zb).map Zb.c)])=some r else qG v4 v6 (λe7=>qH a1.Entries v6 (λe8=>e8.Region.Plan.Steps.length<=68719476736/\some (.tup [.agg [I (w (v5+1)),.own 0],.agg [.own 1],Bo true],[.arr 63 8 v3 ((v4.set v6.toNat (⟨e7.Zc,e7.Region,e7.Version,(w (v5+1))⟩:Zd)).map Zd.c),.arr 162 3 true (e8.Region.Plan.Steps.map Zb.c)])=some r))) (some (.tup [.agg [I v5,.own 0],.agg [.own 1],Bo false],[.arr 63 8 v3 (v4.map Zd.c),.arr 162 3 true (([]:List Zb).map Zb.c)])=some r))))))))):=by
 and_intros
 all_goals(intros;unfold Im;(try simp only[Zxx,Ziu,Ziv,Z46,Ztd,Z47,Zxy,Zte,Zdg,Zpb,Ztf,Zme,Zth,Zpc,Zmg,Zmf,Zpd,Ziq,Ztc,Zbgq,Ze.c_def,Zm.c_def,Zc.c_def,Zs2,Plan.c_def,Zsv,Box.c_def,Region.c_def,Zd.c_def,Zba,Zf7,Zf8,Zdx,Zk.c_def,Zlq,Zin,Zfi,Ztg,mpl,dfs,qs]);(try simp only[itb]);(try simp only[itf,gS,kk]))
 all_goals(repeat' first|refine exI λ_=>?_|refine anJ λ_ _=>?_|refine anI λ_=>?_|refine orE2 ?_ ?_|exact False.elim)
 all_goals(intro h;first|refine run Zbuw rfl ?_|refine run Zbux rfl ?_|refine run Zbuy rfl ?_|refine run Zbuz rfl ?_|rw[Zl Zsl.eq_1]|refine run Zbhv rfl ?_|refine run Zbu0 rfl ?_|rw[Zl Z48.eq_1]|refine run Zbu1 rfl ?_|refine run Zbu2 rfl ?_|rw[Zl Z5a.eq_1]|rw[Zhn Zxz.eq_1]|refine run Zbu3 rfl ?_|rw[Zl Z5b.eq_1]|refine run Zbu4 rfl ?_|rw[Zl Z5d.eq_1]|refine run Zbu5 rfl ?_|refine run Zbu6 rfl ?_)
 all_goals (refine Yb ?_ h;clear h;simp +decide[*,kk,tI,tII,Zbgr,Zbgs,Zbgt,Zbgu,Zsm,Z3o,Zbgv,Z49,Zbgw,Zbgx,Zbgy,Z5c,Zbgz,Z5e,Zbg0,Zbg1])
abbrev Zbz6:=uq Zdp.1.1.1.1
abbrev Zbz7:=uq Zdp.1.1.1.2
abbrev Zbz8:=uq Zdp.1.1.2.1
abbrev Zbz9:=uq Zdp.1.1.2.2
abbrev Zbku:=uq Zdp.1.2.1.1
abbrev Zb0a:=uq Zdp.1.2.1.2
abbrev Zb0b:=uq Zdp.1.2.2.1
abbrev Zbkv:=uq Zdp.1.2.2.2.1
abbrev Zb0c:=uq Zdp.1.2.2.2.2
abbrev Ztt:=uq Zdp.2.1.1.1
abbrev Zbkw:=uq Zdp.2.1.1.2
abbrev Zb0d:=uq Zdp.2.1.2.1
abbrev Zb0e:=uq Zdp.2.1.2.2
abbrev Zbkx:=uq Zdp.2.2.1.1
abbrev Zb0f:=uq Zdp.2.2.1.2
abbrev Zbky:=uq Zdp.2.2.2.1
abbrev Zb0g:=uq Zdp.2.2.2.2.1
abbrev Ztu:=uq Zdp.2.2.2.2.2
theorem Z6r:(∀a a1 r,Im (Z5h a a1=some r) (if(a.length:Int)=(a1.length:Int)then Zmh a a1 (a.length:Int) 0=some r else qb false r))/\
 ((∀a a1 r,Im (Zx0 a a1=some r) (qV (Z5h a.Steps a1.Steps) (λv=>qb v r)))/\
 (∀a a1 r,Im (Zx1 a a1=some r) (qB (Zjv a.Low a1.Low) (qV (Zjv a.High a1.High) (λv1=>qb v1 r)) (qb false r)))):=by
 and_intros
 all_goals(intros;unfold Im;(try simp only[Z5h,Zx0,Zx1,Zb.c_def,Zjv,Zmh,mpl,dfs,qs]);(try simp only[itb]);(try simp only[itf,gS,kk]))
 all_goals(repeat' first|refine exI λ_=>?_|refine anJ λ_ _=>?_|refine anI λ_=>?_|refine orE2 ?_ ?_|exact False.elim)
 all_goals(intro h;first|refine run Zbu7 rfl ?_|refine run Zbu8 rfl ?_|refine run Zbu9 rfl ?_)
 all_goals (refine Yb ?_ h;clear h;simp +decide[*,kk,tI,tII,Zbg2,Zbg3,Zbg4])
abbrev Zb0h:=uq Z6r.1
abbrev Zb0i:=uq Z6r.2.1
abbrev Zb0j:=uq Z6r.2.2
theorem Zbkz{s1 s2:List Zb}{x x1:Int}{r:AV×List Blk}(h:(if x1<x then(0<=x1/\(∃(e1:Zb),s1[x1.toNat]?=some e1/\(∃(e2:Zb),s2[x1.toNat]?=some e2/\(if e1.Kind=e2.Kind/\e1.Atom=e2.Atom/\e1.Order=e2.Order then(Zmh s1 s2 x (w (x1+1))=some r)else(some (Bo false,[])=some r)))))else(some (Bo true,[])=some r))):Zmh s1 s2 x x1=some r:=by
 unfold Zmh;rw[Zl Z5f.eq_1]
 try simp only[itb]at h
 try simp only[itf,gS,kk]at h
 rcases h with⟨q1,q2,e1,⟨g3,q3⟩,e2,⟨g4,q4⟩,(⟨q5,h⟩|⟨q5,h⟩)⟩|⟨q1,h⟩
 all_goals try obtain⟨z1,z2,z3⟩:=of_eq_true q5
 all_goals (refine Yb ?_ h;clear h;simp +decide[*,kk,tI,tII,Zmh,Z5g])
theorem Zdy:((((∀a a1 r,Im (Zx2 a a1=some r) (qB (Zx0 a.Plan a1.Plan) (qB (Zx1 a.Box a1.Box) (qb (decide (a.Percent=a1.Percent)) r) (qb false r)) (qb false r)))/\
 (∀a a1 r,Im (Zx3 a a1=some r) (qB (Zlx a.Zc a1.Zc) (qB (Zx2 a.Region a1.Region) (if a.Version=a1.Version then qb (decide (a.Used=a1.Used)) r else qb false r) (qb false r)) (qb false r))))/\
 ((∀s2 x x1 x2 r,Im (Zti s2 x x1 x2=some r) (if x2<x1 then qG x x2 (λe1=>qH s2 x2 (λe2=>qB (Zx3 e1 e2) (Zti s2 x x1 (w (x2+1))=some r) (qb false r)))else qb true r))/\
 (∀a a1 r,Im (Z5k a a1=some r) (if(a.length:Int)=(a1.length:Int)then Zti a1 a (a.length:Int) 0=some r else qb false r))))/\
 (((∀a a1 r,Im (Ztj a a1=some r) (if a.Clock=a1.Clock then qV (Z5k a.Entries a1.Entries) (λv=>qb v r)else qb false r))/\
 (∀x a a1 r,Im (Z5l x a a1=some r) ((∃(v:List Int),∃v1,∃v2,∃v3,Zlp x a a1=some (.tup [.agg [I v1,I v2,I v3,.t .nil],Bo false],[.arr 3 1 true (v.map ic)])/\some (I (-1),[.arr 3 1 true (v.map ic)])=some r)\/(∃(v4:List Int),∃(v5:List Zb),∃v6,∃v7,∃v8,Zlp x a a1=some (.tup [.agg [I v6,I v7,I v8,.own 1],Bo true],[.arr 3 1 true (v4.map ic),.arr 162 3 true (v5.map Zb.c)])/\some (I v8,[.arr 3 1 true (v4.map ic)])=some r))))/\
 ((∀a a1 a2 r,Im (Ztk a a1 a2=some r) (qO 3 1 ic (Ze0 a2) (λv=>∃(v4:List Int),∃v5,Z5l v a a1=some (I v5,[.arr 3 1 true (v4.map ic)])/\qi v5 r)))/\
 (∀a r,Im (Zkb a=some r) (∃(v:Zg),Zjk a=some (.ptr 0 0,[.box (v.c.map .t)])/\((∃(v4:Zg),∃(v5:List Zd),∃(v6:Ze),∃v7,∃(v8:Zc),∃(v9:Region),Zhu v=some (.tup [.agg (v6.c.map .t),.agg [I v7,.own 1],.agg (v8.c.map .t),.agg (v9.c.map .t)],[.box (v4.c.map .t),.arr 63 8 true (v5.map Zd.c)])/\∃(v10:Zg),∃(v11:List Int),∃v12,Zdd v4 ([1,2,2,0,1000])=some (I v12,[.box (v10.c.map .t),.arr 3 1 true (v11.map ic)])/\some (.tup [.agg (v6.c.map .t),.agg [I v7,L 8 (v5.map Zd.c)],.agg (v8.c.map .t),I v12,.agg (v9.c.map .t)],[])=some r)\/(∃(v13:Zg),∃v14,∃(v15:List Zd),∃(v16:Ze),∃v17,∃(v18:Zc),∃(v19:Region),Zhu v=some (.tup [.agg (v16.c.map .t),.agg [I v17,.own 1],.agg (v18.c.map .t),.agg (v19.c.map .t)],[.box (v13.c.map .t),.arr 63 8 v14 (v15.map Zd.c)])/\∃(v20:Zg),∃(v21:List Int),∃v22,Zdd v13 ([1,2,2,0,1000])=some (I v22,[.box (v20.c.map .t),.arr 3 1 true (v21.map ic)])/\some (.tup [.agg (v16.c.map .t),.agg [I v17,L 8 (v15.map Zd.c)],.agg (v18.c.map .t),I v22,.agg (v19.c.map .t)],[])=some r)))))))/\
 ((((∀c cc x x1 x2 r,Im (Zmi c cc x x1 x2=some r) (if x2<x1 then qG x x2 (λe1=>if cc<0 then Zmi c x2 x x1 (w (x2+1))=some r else qG c.Entries cc (λe2=>if e1.Used<e2.Used then Zmi c x2 x x1 (w (x2+1))=some r else Zmi c cc x x1 (w (x2+1))=some r))else qi cc r))/\
 (∀a r,Im (Ziw a=some r) (Zmi a (-1) a.Entries (a.Entries.length:Int) 0=some r)))/\
 ((∀a a1 a2 a3 a4 r,Im (Zkc a a1 a2 a3 a4=some r) ((∃v,Zf7 a1=some (.agg [I v,.t .nil],[])/\qB (Zdg a a1) (qB (Ziv a a2 a4) (qB (Zba a3 1 999) (if a1.Clock=1000000 then some (.tup [.agg [I v,.own 0],Bo false],[.arr 63 8 true (([]:List Zd).map Zd.c)])=some r else(∃v20,Ze1 a2=some (.agg [I v20,.t .nil],[])/\∃(v23:List Zb),∃(v24:List Int),∃(v25:List Int),∃v26,Ze2 a4=some (.agg [.own 0,.own 1,.own 2,I v26],[.arr 162 3 true (v23.map Zb.c),.arr 3 1 true (v24.map ic),.arr 3 1 true (v25.map ic)])/\some (.tup [.agg [I (w (v+1)),.own 0],Bo true],[.arr 63 8 true (([(⟨(⟨v20,[]⟩:Zc),(⟨(⟨v23⟩:Plan),(⟨v24,v25⟩:Box),v26⟩:Region),a3,(w (v+1))⟩:Zd)]).map Zd.c)])=some r)\/(∃(v27:List Atom),∃v28,Ze1 a2=some (.agg [I v28,.own 0],[.arr 213 2 true (v27.map Atom.c)])/\∃(v29:List Zb),∃(v30:List Int),∃(v31:List Int),∃v32,Ze2 a4=some (.agg [.own 0,.own 1,.own 2,I v32],[.arr 162 3 true (v29.map Zb.c),.arr 3 1 true (v30.map ic),.arr 3 1 true (v31.map ic)])/\some (.tup [.agg [I (w (v+1)),.own 0],Bo true],[.arr 63 8 true (([(⟨(⟨v28,v27⟩:Zc),(⟨(⟨v29⟩:Plan),(⟨v30,v31⟩:Box),v32⟩:Region),a3,(w (v+1))⟩:Zd)]).map Zd.c)])=some r)) (some (.tup [.agg [I v,.own 0],Bo false],[.arr 63 8 true (([]:List Zd).map Zd.c)])=some r)) (some (.tup [.agg [I v,.own 0],Bo false],[.arr 63 8 true (([]:List Zd).map Zd.c)])=some r)) (some (.tup [.agg [I v,.own 0],Bo false],[.arr 63 8 true (([]:List Zd).map Zd.c)])=some r))\/(∃(v33:List Zd),∃v34,Zf7 a1=some (.agg [I v34,.own 0],[.arr 63 8 true (v33.map Zd.c)])/\qB (Zdg a a1) (qB (Ziv a a2 a4) (qB (Zba a3 1 999) (if a1.Clock=1000000 then some (.tup [.agg [I v34,.own 0],Bo false],[.arr 63 8 true (v33.map Zd.c)])=some r else if(v33.length:Int)=4 then qI (Ziw (⟨(w (v34+1)),v33⟩:Zk)) (λv35=>∃(v36:List Zd),Zx4 v33 v35 (w (v35+1))=some (.own 1,[.dead,.arr 63 8 true (v36.map Zd.c)])/\((∃v37,Ze1 a2=some (.agg [I v37,.t .nil],[])/\∃(v38:List Zb),∃(v39:List Int),∃(v40:List Int),∃v41,Ze2 a4=some (.agg [.own 0,.own 1,.own 2,I v41],[.arr 162 3 true (v38.map Zb.c),.arr 3 1 true (v39.map ic),.arr 3 1 true (v40.map ic)])/\v36.length+1<=68719476736/\some (.tup [.agg [I (w (v34+1)),.own 0],Bo true],[.arr 63 8 true ((v36++[(⟨(⟨v37,[]⟩:Zc),(⟨(⟨v38⟩:Plan),(⟨v39,v40⟩:Box),v41⟩:Region),a3,(w (v34+1))⟩:Zd)]).map Zd.c)])=some r)\/(∃(v42:List Atom),∃v43,Ze1 a2=some (.agg [I v43,.own 0],[.arr 213 2 true (v42.map Atom.c)])/\∃(v44:List Zb),∃(v45:List Int),∃(v46:List Int),∃v47,Ze2 a4=some (.agg [.own 0,.own 1,.own 2,I v47],[.arr 162 3 true (v44.map Zb.c),.arr 3 1 true (v45.map ic),.arr 3 1 true (v46.map ic)])/\v36.length+1<=68719476736/\some (.tup [.agg [I (w (v34+1)),.own 0],Bo true],[.arr 63 8 true ((v36++[(⟨(⟨v43,v42⟩:Zc),(⟨(⟨v44⟩:Plan),(⟨v45,v46⟩:Box),v47⟩:Region),a3,(w (v34+1))⟩:Zd)]).map Zd.c)])=some r)))else(∃v48,Ze1 a2=some (.agg [I v48,.t .nil],[])/\∃(v49:List Zb),∃(v50:List Int),∃(v51:List Int),∃v52,Ze2 a4=some (.agg [.own 0,.own 1,.own 2,I v52],[.arr 162 3 true (v49.map Zb.c),.arr 3 1 true (v50.map ic),.arr 3 1 true (v51.map ic)])/\v33.length+1<=68719476736/\some (.tup [.agg [I (w (v34+1)),.own 0],Bo true],[.arr 63 8 true ((v33++[(⟨(⟨v48,[]⟩:Zc),(⟨(⟨v49⟩:Plan),(⟨v50,v51⟩:Box),v52⟩:Region),a3,(w (v34+1))⟩:Zd)]).map Zd.c)])=some r)\/(∃(v53:List Atom),∃v54,Ze1 a2=some (.agg [I v54,.own 0],[.arr 213 2 true (v53.map Atom.c)])/\∃(v55:List Zb),∃(v56:List Int),∃(v57:List Int),∃v58,Ze2 a4=some (.agg [.own 0,.own 1,.own 2,I v58],[.arr 162 3 true (v55.map Zb.c),.arr 3 1 true (v56.map ic),.arr 3 1 true (v57.map ic)])/\v33.length+1<=68719476736/\some (.tup [.agg [I (w (v34+1)),.own 0],Bo true],[.arr 63 8 true ((v33++[(⟨(⟨v54,v53⟩:Zc),(⟨(⟨v55⟩:Plan),(⟨v56,v57⟩:Box),v58⟩:Region),a3,(w (v34+1))⟩:Zd)]).map Zd.c)])=some r)) (some (.tup [.agg [I v34,.own 0],Bo false],[.arr 63 8 true (v33.map Zd.c)])=some r)) (some (.tup [.agg [I v34,.own 0],Bo false],[.arr 63 8 true (v33.map Zd.c)])=some r)) (some (.tup [.agg [I v34,.own 0],Bo false],[.arr 63 8 true (v33.map Zd.c)])=some r))))/\
 (∀a a1 r,Im (Z5q a a1=some r) (if(a.Steps.length:Int)=(a1.Steps.length:Int)then Zmj a a1 0=some r else qb false r))))/\
 (((∀a a1 r,Im (Z5r a a1=some r) (qI (Zme a.Low a1.Low) (λv=>if v=0 then qI (Zme a.High a1.High) (λv4=>qb (decide (v4=0)) r)else qb false r)))/\
 (∀a a1 r,Im (Zx5 a a1=some r) (qB (Z5q a.Plan a1.Plan) (qB (Z5r a.Box a1.Box) (qb (decide (a.Percent=a1.Percent)) r) (qb false r)) (qb false r))))/\
 ((∀a b i r,Im (Ztl a b i=some r) (if i<(a.Entries.length:Int)then qG a.Entries i (λe1=>qH b.Entries i (λe2=>qB (Zpc e1.Zc e2.Zc) (qB (Zx5 e1.Region e2.Region) (if e1.Version=e2.Version then if e1.Used=e2.Used then Ztl a b (w (i+1))=some r else qb false r else qb false r) (qb false r)) (qb false r)))else qb true r))/\
 ((∀a a1 r,Im (Zkd a a1=some r) (if a.Clock=a1.Clock then if(a.Entries.length:Int)=(a1.Entries.length:Int)then Ztl a a1 0=some r else qb false r else qb false r))/\
 (∀a r,Im (Zg4 a=some r) (∃(v:Zg),Zjk a=some (.ptr 0 0,[.box (v.c.map .t)])/\((∃(v4:Zg),∃(v5:List Zd),∃(v6:Ze),∃v7,∃(v8:Zc),∃(v9:Region),Zhu v=some (.tup [.agg (v6.c.map .t),.agg [I v7,.own 1],.agg (v8.c.map .t),.agg (v9.c.map .t)],[.box (v4.c.map .t),.arr 63 8 true (v5.map Zd.c)])/\∃(v10:Zg),∃v11,Z2 v4 4=some (I v11,[.box (v10.c.map .t)])/\some (.tup [.agg (v6.c.map .t),.agg [I v7,L 8 (v5.map Zd.c)],I v11],[])=some r)\/(∃(v13:Zg),∃v14,∃(v15:List Zd),∃(v16:Ze),∃v17,∃(v18:Zc),∃(v19:Region),Zhu v=some (.tup [.agg (v16.c.map .t),.agg [I v17,.own 1],.agg (v18.c.map .t),.agg (v19.c.map .t)],[.box (v13.c.map .t),.arr 63 8 v14 (v15.map Zd.c)])/\∃(v20:Zg),∃v21,Z2 v13 4=some (I v21,[.box (v20.c.map .t)])/\some (.tup [.agg (v16.c.map .t),.agg [I v17,L 8 (v15.map Zd.c)],I v21],[])=some r)))))))):=by
 and_intros
 all_goals(intros;unfold Im;(try simp only[Zx2,Zx3,Zti,Z5k,Ztj,Z5l,Ztk,Zkb,Zmi,Ziw,Zkc,Z5q,Z5r,Zx5,Ztl,Zkd,Zg4,Zx0,Zx1,Box.c_def,Plan.c_def,Zlx,Zc.c_def,Region.c_def,Zd.c_def,Zlp,Ze.c_def,Zm.c_def,Ze0,Zjk,Zhu,Zdd,Zg.c_def,Zf7,Zdg,Ziv,Zba,Ze1,Ze2,Zx4,Zk.c_def,Zme,Zpc,Z2,Zmj,mpl,dfs,qs]);(try simp only[itb]);(try simp only[itf,gS,kk]))
 all_goals(repeat' first|refine exI λ_=>?_|refine anJ λ_ _=>?_|refine anI λ_=>?_|refine orE2 ?_ ?_|exact False.elim)
 all_goals(intro h;first|refine run Zbva rfl ?_|refine run Zbvb rfl ?_|rw[Zl Z5i.eq_1]|refine run Zbvc rfl ?_|refine run Zbvd rfl ?_|refine runM Zbve rfl ?_|refine run Zbvf rfl ?_|refine run Zbvg rfl ?_|rw[Zl Z5m.eq_1]|refine run Zbvh rfl ?_|refine run Zbvi rfl ?_|refine run Zbvj rfl ?_|refine run Zbvk rfl ?_|refine run Zbvl rfl ?_|rw[Zl Z5s.eq_1]|refine run Zbvm rfl ?_|refine run Zbvn rfl ?_)
 all_goals (refine Yb ?_ h;clear h;simp +decide[*,kk,tI,tII,Zbg5,Zbg6,Z5j,Zbg7,Zbg8,Zbg9,Zbha,Zbhb,Zbhc,Z5n,Zbhd,Zbhf,Zbhe,Zbhg,Zbhh,Zbhi,Z5t,Zbhj,Zbhk])
abbrev Zb0k:=uq Zdy.1.1.1.1
abbrev Zb0l:=uq Zdy.1.1.1.2
abbrev Zbk0:=uq Zdy.1.1.2.1
abbrev Zb0m:=uq Zdy.1.1.2.2
abbrev Zb0n:=uq Zdy.1.2.1.1
abbrev Zb0o:=uq Zdy.1.2.1.2
abbrev Zb0p:=uq Zdy.1.2.2.1
abbrev Zb0q:=uq Zdy.1.2.2.2
abbrev Zbk1:=uq Zdy.2.1.1.1
abbrev Zb0r:=uq Zdy.2.1.1.2
abbrev Zb0s:=uq Zdy.2.1.2.1
abbrev Zb0t:=uq Zdy.2.1.2.2
abbrev Zb0u:=uq Zdy.2.2.1.1
abbrev Zb0v:=uq Zdy.2.2.1.2
abbrev Zbk2:=uq Zdy.2.2.2.1
abbrev Zb0w:=uq Zdy.2.2.2.2.1
abbrev Zb0x:=uq Zdy.2.2.2.2.2
theorem Zbk3{a b:Plan}{i:Int}{r:AV×List Blk}(h:(if i<(a.Steps.length:Int)then(0<=i/\(∃(e1:Zb),a.Steps[i.toNat]?=some e1/\(∃(e2:Zb),b.Steps[i.toNat]?=some e2/\(if e1.Kind=e2.Kind/\e1.Atom=e2.Atom/\e1.Order=e2.Order then(Zmj a b (w (i+1))=some r)else(some (Bo false,[])=some r)))))else(some (Bo true,[])=some r))):Zmj a b i=some r:=by
 unfold Zmj;rw[Zl Z5o.eq_1]
 try simp only[itb]at h
 try simp only[itf,gS,kk]at h
 rcases h with⟨q1,q2,e1,⟨g3,q3⟩,e2,⟨g4,q4⟩,(⟨q5,h⟩|⟨q5,h⟩)⟩|⟨q1,h⟩
 all_goals try obtain⟨z1,z2,z3⟩:=of_eq_true q5
 all_goals (refine Yb ?_ h;clear h;simp +decide[*,kk,tI,tII,Zmj,Z5p])
theorem Ztv:((∀a a1 a2 r,Im (Zgc a a1 a2=some r) ((∃v,Zf7 a1=some (.agg [I v,.t .nil],[])/\qB (Zdg a a1) (∃v2,Zx6 a2=some (.t .nil,[.box [I v2]])/\some (.tup [.agg [I v,.own 0],I (w ((a1.Entries.length:Int)-0))],[.arr 63 8 true (([]:List Zd).map Zd.c)])=some r) (some (.tup [.agg [I v,.own 0],I 0],[.arr 63 8 true (([]:List Zd).map Zd.c)])=some r))\/(∃(v3:List Zd),∃v4,Zf7 a1=some (.agg [I v4,.own 0],[.arr 63 8 true (v3.map Zd.c)])/\qB (Zdg a a1) (∃v5,∃(v6:List Zd),Zx7 v3 a2=some (.own 2,[.dead,.box [I v5],.arr 63 8 true (v6.map Zd.c)])/\some (.tup [.agg [I v4,.own 0],I (w ((a1.Entries.length:Int)-(v6.length:Int)))],[.arr 63 8 true (v6.map Zd.c)])=some r) (some (.tup [.agg [I v4,.own 0],I 0],[.arr 63 8 true (v3.map Zd.c)])=some r))))/\
 (∀m q cn cl cc x x1 x2 cd co r,Im (Zke m q cn cl cc x x1 x2 cd co=some r) (if co=true then Zd5 m q cn cl cc x x1 x2 cd false (cd.length:Int) 0=some r else some (.tup [.agg [.own 0,.own 1,.own 2,I cc],Bo true],[.arr 162 3 true (x.map Zb.c),.arr 3 1 true (x1.map ic),.arr 3 1 true (x2.map ic)])=some r)))/\
 ((∀m q cn cl cc x x1 x2 cd co x3 x4 r,Im (Zd5 m q cn cl cc x x1 x2 cd co x3 x4=some r) (if x4<x3 then qG x2 x4 (λe1=>qH cn.High x4 (λe2=>if e1<e2 then qB (Ziu m q (⟨(⟨x⟩:Plan),(⟨x1,(x2.set x4.toNat (w (e1+1)))⟩:Box),cc⟩:Region)) (Zyd m q cn cl cc x x1 (x2.set x4.toNat (w (e1+1))) cd true x4 x3 x4=some r) (Zyd m q cn cl cc x x1 ((x2.set x4.toNat (w (e1+1))).set x4.toNat (w ((w (e1+1))-1))) cd co x4 x3 x4=some r)else qH x1 x4 (λe4=>qH cn.Low x4 (λe5=>if e5<e4 then qB (Ziu m q (⟨(⟨x⟩:Plan),(⟨(x1.set x4.toNat (w (e4-1))),x2⟩:Box),cc⟩:Region)) (Zd5 m q cn cl cc x (x1.set x4.toNat (w (e4-1))) x2 cd true x3 (w (x4+1))=some r) (Zd5 m q cn cl cc x ((x1.set x4.toNat (w (e4-1))).set x4.toNat (w ((w (e4-1))+1))) x2 cd co x3 (w (x4+1))=some r)else Zd5 m q cn cl cc x x1 x2 cd co x3 (w (x4+1))=some r))))else Zke m q cn cl cc x x1 x2 cd co=some r))/\
 ((∀m q cn cl cc x x1 x2 cd co i x3 x4 r,Im (Zyd m q cn cl cc x x1 x2 cd co i x3 x4=some r) (qG x1 i (λe1=>qH cn.Low i (λe2=>if e2<e1 then qB (Ziu m q (⟨(⟨x⟩:Plan),(⟨(x1.set i.toNat (w (e1-1))),x2⟩:Box),cc⟩:Region)) (Zd5 m q cn cl cc x (x1.set i.toNat (w (e1-1))) x2 cd true x3 (w (x4+1))=some r) (Zd5 m q cn cl cc x ((x1.set i.toNat (w (e1-1))).set i.toNat (w ((w (e1-1))+1))) x2 cd co x3 (w (x4+1))=some r)else Zd5 m q cn cl cc x x1 x2 cd co x3 (w (x4+1))=some r))))/\
 (∀a a1 a2 a3 a4 a5 r,Im (Zyc a a1 a2 a3 a4 a5=some r) (∃(v:List Zb),Zdx a2=some (.agg [.own 0],[.arr 162 3 true (v.map Zb.c)])/\qO 3 1 ic (Zg0 a4) (λv1=>qB (Zon a3 a4) (qB (Ziv a a1 (⟨(⟨v⟩:Plan),(⟨v1,v1⟩:Box),a5⟩:Region)) (Zke a a1 a3 0 a5 v v1 v1 a4 true=some r) (some (.tup [.agg [.t .nil,.t .nil,.t .nil,I 0],Bo false],[])=some r)) (some (.tup [.agg [.t .nil,.t .nil,.t .nil,I 0],Bo false],[])=some r)))))):=by
 and_intros
 all_goals(intros;unfold Im;(try simp only[Zgc,Zke,Zd5,Zyc,Zf7,Zdg,Zx6,Zx7,Box.c_def,Zd.c_def,Ze.c_def,Zm.c_def,Plan.c_def,Zk.c_def,Zc.c_def,Region.c_def,Ziu,tI,Zdx,Zg0,Zon,Ziv,Zyd,mpl,dfs,qs]);(try simp only[itb]);(try simp only[itf,gS,kk]))
 all_goals(repeat' first|refine exI λ_=>?_|refine anJ λ_ _=>?_|refine anI λ_=>?_|refine orE2 ?_ ?_|exact False.elim)
 all_goals(intro h;first|refine run Zbvo rfl ?_|rw[Zl Ztm.eq_1]|rw[Zl Zyb.eq_1]|rw[Zhn Zya.eq_1]|refine run Zbvq rfl ?_)
 all_goals (refine Yb ?_ h;clear h;simp +decide[*,kk,tI,tII,Zbhl,Ztn,Zya,Zbhn])
abbrev Zb0y:=uq Ztv.1.1
abbrev Zbk4:=uq Ztv.1.2
abbrev Zym:=uq Ztv.2.1
abbrev Zbk5:=uq Ztv.2.2.1
abbrev Z6s:=uq Ztv.2.2.2
end Go.Proofs.YtcfaekfjkeobhaaGreat
