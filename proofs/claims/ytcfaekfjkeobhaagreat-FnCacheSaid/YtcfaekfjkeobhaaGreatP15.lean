/-
  Parts of the proofs for this seat: G12 G13 G14 G15.
-/
import Derived.Test.YtcfaekfjkeobhaaGreatP11
set_option linter.unusedSectionVars false
set_option linter.unusedSimpArgs false
set_option linter.unusedVariables false
set_option maxRecDepth 100000
set_option maxHeartbeats 4000000
namespace Go.Proofs.YtcfaekfjkeobhaaGreat
open Go.AM
theorem Zdm:((((∀x r,Im (Zhu x=some r) ((∃(v:Zg),∃(v1:List Zd),∃(v2:Ze),∃v3,∃(v4:Zc),∃(v5:Region),Zoi x=some (.tup [.agg (v2.c.map .t),.agg [I v3,.own 1],.agg (v4.c.map .t),.agg (v5.c.map .t)],[.box (v.c.map .t),.arr 63 8 true (v1.map Zd.c)])/\∃(v6:Zg),∃v7,Z2 v 12=some (I v7,[.box (v6.c.map .t)])/\if v7=0 then ∃(v12:Zg),∃v13,Zoj v6 ([0,1000000,1000001])=some (I v13,[.box (v12.c.map .t)])/\some (.tup [.agg (v2.c.map .t),.agg [I v13,.own 1],.agg (v4.c.map .t),.agg (v5.c.map .t)],[.box (v12.c.map .t),.arr 63 8 true (v1.map Zd.c)])=some r else if v7=1 then if 0<(v1.length:Int)then ∃(v16:Zg),∃v17,Z2 v6 5=some (I v17,[.box (v16.c.map .t)])/\∃e5,v1[0]?=some e5/\some (.tup [.agg (v2.c.map .t),.agg [I v3,.own 1],.agg (v4.c.map .t),.agg (v5.c.map .t)],[.box (v16.c.map .t),.arr 63 8 true ((v1.set 0 (⟨e5.Zc,e5.Region,e5.Version,v17⟩:Zd)).map Zd.c)])=some r else some (.tup [.agg (v2.c.map .t),.agg [I v3,.own 1],.agg (v4.c.map .t),.agg (v5.c.map .t)],[.box (v6.c.map .t),.arr 63 8 true (v1.map Zd.c)])=some r else if v7=2 then if 0<(v1.length:Int)then ∃e6,v1[0]?=some e6/\some (.tup [.agg (v2.c.map .t),.agg [I v3,.own 1],.agg (v4.c.map .t),.agg (v5.c.map .t)],[.box (v6.c.map .t),.arr 63 8 true ((v1.set 0 (⟨e6.Zc,(⟨e6.Region.Plan,e6.Region.Box,99⟩:Region),e6.Version,e6.Used⟩:Zd)).map Zd.c)])=some r else some (.tup [.agg (v2.c.map .t),.agg [I v3,.own 1],.agg (v4.c.map .t),.agg (v5.c.map .t)],[.box (v6.c.map .t),.arr 63 8 true (v1.map Zd.c)])=some r else some (.tup [.agg (v2.c.map .t),.agg [I v3,.own 1],.agg (v4.c.map .t),.agg (v5.c.map .t)],[.box (v6.c.map .t),.arr 63 8 true (v1.map Zd.c)])=some r)\/(∃(v22:Zg),∃v23,∃(v24:List Zd),∃(v25:Ze),∃v26,∃(v27:Zc),∃(v28:Region),Zoi x=some (.tup [.agg (v25.c.map .t),.agg [I v26,.own 1],.agg (v27.c.map .t),.agg (v28.c.map .t)],[.box (v22.c.map .t),.arr 63 8 v23 (v24.map Zd.c)])/\∃(v29:Zg),∃v30,Z2 v22 12=some (I v30,[.box (v29.c.map .t)])/\if v30=0 then ∃(v31:Zg),∃v32,Zoj v29 ([0,1000000,1000001])=some (I v32,[.box (v31.c.map .t)])/\some (.tup [.agg (v25.c.map .t),.agg [I v32,.own 1],.agg (v27.c.map .t),.agg (v28.c.map .t)],[.box (v31.c.map .t),.arr 63 8 v23 (v24.map Zd.c)])=some r else if v30=1 then if 0<(v24.length:Int)then ∃(v33:Zg),∃v34,Z2 v29 5=some (I v34,[.box (v33.c.map .t)])/\∃e11,v24[0]?=some e11/\some (.tup [.agg (v25.c.map .t),.agg [I v26,.own 1],.agg (v27.c.map .t),.agg (v28.c.map .t)],[.box (v33.c.map .t),.arr 63 8 v23 ((v24.set 0 (⟨e11.Zc,e11.Region,e11.Version,v34⟩:Zd)).map Zd.c)])=some r else some (.tup [.agg (v25.c.map .t),.agg [I v26,.own 1],.agg (v27.c.map .t),.agg (v28.c.map .t)],[.box (v29.c.map .t),.arr 63 8 v23 (v24.map Zd.c)])=some r else if v30=2 then if 0<(v24.length:Int)then ∃e12,v24[0]?=some e12/\some (.tup [.agg (v25.c.map .t),.agg [I v26,.own 1],.agg (v27.c.map .t),.agg (v28.c.map .t)],[.box (v29.c.map .t),.arr 63 8 v23 ((v24.set 0 (⟨e12.Zc,(⟨e12.Region.Plan,e12.Region.Box,99⟩:Region),e12.Version,e12.Used⟩:Zd)).map Zd.c)])=some r else some (.tup [.agg (v25.c.map .t),.agg [I v26,.own 1],.agg (v27.c.map .t),.agg (v28.c.map .t)],[.box (v29.c.map .t),.arr 63 8 v23 (v24.map Zd.c)])=some r else some (.tup [.agg (v25.c.map .t),.agg [I v26,.own 1],.agg (v27.c.map .t),.agg (v28.c.map .t)],[.box (v29.c.map .t),.arr 63 8 v23 (v24.map Zd.c)])=some r)))/\
 (∀a r,Im (Zw4 a=some r) (∃(v:Zg),Zjk a=some (.ptr 0 0,[.box (v.c.map .t)])/\((∃(v6:Zg),∃(v7:List Zd),∃(v8:Ze),∃v9,∃(v10:Zc),∃(v11:Region),Zhu v=some (.tup [.agg (v8.c.map .t),.agg [I v9,.own 1],.agg (v10.c.map .t),.agg (v11.c.map .t)],[.box (v6.c.map .t),.arr 63 8 true (v7.map Zd.c)])/\v11.Box.Low.length<=68719476736/\if 0<(v7.length:Int)then ∃(v12:Zg),∃v13,Zc0 v6 4=some (Bo v13,[.box (v12.c.map .t)])/\if v13=true then ∃(v16:Zg),∃v17,Z2 v12 2=some (I v17,[.box (v16.c.map .t)])/\some (.tup [.agg (v8.c.map .t),.agg [I v9,L 8 (v7.map Zd.c)],.agg (v10.c.map .t),I (w (1+v17)),L 1 (v11.Box.Low.map ic)],[])=some r else ∃(v18:Zg),∃v19,Z2 v12 (v7.length:Int)=some (I v19,[.box (v18.c.map .t)])/\qG v7 v19 (λe6=>∃(v22:List Atom),∃v23,Zgy e6.Zc=some (.agg [I v23,.own 0],[.arr 213 2 true (v22.map Atom.c)])/\∃(v29:Zg) (v30:List Int),Zf4 v18 e6.Region.Box=some (L 1 (v30.map ic),[.box (v29.c.map .t)])/\∃(v31:Zg),∃v32,Z2 v29 2=some (I v32,[.box (v31.c.map .t)])/\some (.tup [.agg (v8.c.map .t),.agg [I v9,L 8 (v7.map Zd.c)],.agg [I v23,L 2 (v22.map Atom.c)],I (w (1+v32)),L 1 (v30.map ic)],[])=some r)else ∃(v33:Zg),∃v34,Z2 v6 2=some (I v34,[.box (v33.c.map .t)])/\some (.tup [.agg (v8.c.map .t),.agg [I v9,L 8 (v7.map Zd.c)],.agg (v10.c.map .t),I (w (1+v34)),L 1 (v11.Box.Low.map ic)],[])=some r)\/(∃(v35:Zg),∃v36,∃(v37:List Zd),∃(v38:Ze),∃v39,∃(v40:Zc),∃(v41:Region),Zhu v=some (.tup [.agg (v38.c.map .t),.agg [I v39,.own 1],.agg (v40.c.map .t),.agg (v41.c.map .t)],[.box (v35.c.map .t),.arr 63 8 v36 (v37.map Zd.c)])/\v41.Box.Low.length<=68719476736/\if 0<(v37.length:Int)then ∃(v42:Zg),∃v43,Zc0 v35 4=some (Bo v43,[.box (v42.c.map .t)])/\if v43=true then ∃(v44:Zg),∃v45,Z2 v42 2=some (I v45,[.box (v44.c.map .t)])/\some (.tup [.agg (v38.c.map .t),.agg [I v39,L 8 (v37.map Zd.c)],.agg (v40.c.map .t),I (w (1+v45)),L 1 (v41.Box.Low.map ic)],[])=some r else ∃(v46:Zg),∃v47,Z2 v42 (v37.length:Int)=some (I v47,[.box (v46.c.map .t)])/\qG v37 v47 (λe15=>∃(v48:List Atom),∃v49,Zgy e15.Zc=some (.agg [I v49,.own 0],[.arr 213 2 true (v48.map Atom.c)])/\∃(v50:Zg) (v51:List Int),Zf4 v46 e15.Region.Box=some (L 1 (v51.map ic),[.box (v50.c.map .t)])/\∃(v52:Zg),∃v53,Z2 v50 2=some (I v53,[.box (v52.c.map .t)])/\some (.tup [.agg (v38.c.map .t),.agg [I v39,L 8 (v37.map Zd.c)],.agg [I v49,L 2 (v48.map Atom.c)],I (w (1+v53)),L 1 (v51.map ic)],[])=some r)else ∃(v54:Zg),∃v55,Z2 v35 2=some (I v55,[.box (v54.c.map .t)])/\some (.tup [.agg (v38.c.map .t),.agg [I v39,L 8 (v37.map Zd.c)],.agg (v40.c.map .t),I (w (1+v55)),L 1 (v41.Box.Low.map ic)],[])=some r)))))/\
 ((∀a r,Im (Zsg a=some r) (∃(v:Ze),∃(v1:Zk),∃(v2:Zc),∃v3,∃(v4:List Int),Zw4 a=some (.tup [.agg (v.c.map .t),.agg (v1.c.map .t),.agg (v2.c.map .t),I v3,L 1 (v4.map ic)],[])/\some (.tup [.agg (v.c.map .t),.agg (v1.c.map .t),.agg (v2.c.map .t),I v3,L 1 (v4.map ic)],[])=some r))/\
 (∀a r,Im (Zg0 a=some r) (a.length<=68719476736/\some (.own 0,[.arr 3 1 true (a.map ic)])=some r))))/\
 (((∀cd cc x x1 x2 r,Im (Z3e cd cc x x1 x2=some r) (if x2<x1 then qG x x2 (λe1=>qO 3 1 ic (Zg0 e1.Vars) (λv6=>Zsh cd cc ([(⟨e1.Name,v6⟩:Atom)]) x x1 (w (x2+1))=some r))else some (.agg [I cc,.t .nil],[])=some r))/\
 (∀cd cc x x1 x2 x3 r,Im (Zsh cd cc x x1 x2 x3=some r) (if x3<x2 then qG x1 x3 (λe1=>qO 3 1 ic (Zg0 e1.Vars) (λv6=>x.length+1<=68719476736/\Zsh cd cc (x++[(⟨e1.Name,v6⟩:Atom)]) x1 x2 (w (x3+1))=some r))else some (.agg [I cc,.own 0],[.arr 213 2 true (x.map Atom.c)])=some r)))/\
 ((∀a r,Im (Ze1 a=some r) (Z3e 0 a.Zf a.Atoms (a.Atoms.length:Int) 0=some r))/\
 ((∀a r,Im (Zdx a=some r) (a.Steps.length<=68719476736/\some (.agg [.own 0],[.arr 162 3 true (a.Steps.map Zb.c)])=some r))/\
 (∀a r,Im (Zw7 a=some r) (qO 3 1 ic (Zg0 a.Low) (λv=>qO 3 1 ic (Zg0 a.High) (λv6=>some (.agg [.own 0,.own 1],[.arr 3 1 true (v.map ic),.arr 3 1 true (v6.map ic)])=some r))))))))/\
 ((((∀a r,Im (Ze2 a=some r) (∃(v:List Zb),Zdx a.Plan=some (.agg [.own 0],[.arr 162 3 true (v.map Zb.c)])/\∃(v6:List Int) (v7:List Int),Zw7 a.Box=some (.agg [.own 0,.own 1],[.arr 3 1 true (v6.map ic),.arr 3 1 true (v7.map ic)])/\some (.agg [.own 0,.own 1,.own 2,I a.Percent],[.arr 162 3 true (v.map Zb.c),.arr 3 1 true (v6.map ic),.arr 3 1 true (v7.map ic)])=some r))/\
 (∀cn cl x x1 x2 r,Im (Z3f cn cl x x1 x2=some r) (if x2<x1 then qG x x2 (λe1=>(∃v6,Ze1 e1.Zc=some (.agg [I v6,.t .nil],[])/\∃(v12:List Zb),∃(v13:List Int),∃(v14:List Int),∃v15,Ze2 e1.Region=some (.agg [.own 0,.own 1,.own 2,I v15],[.arr 162 3 true (v12.map Zb.c),.arr 3 1 true (v13.map ic),.arr 3 1 true (v14.map ic)])/\Zlw cn cl ([(⟨(⟨v6,[]⟩:Zc),(⟨(⟨v12⟩:Plan),(⟨v13,v14⟩:Box),v15⟩:Region),e1.Version,e1.Used⟩:Zd)]) x x1 (w (x2+1))=some r)\/(∃(v16:List Atom),∃v17,Ze1 e1.Zc=some (.agg [I v17,.own 0],[.arr 213 2 true (v16.map Atom.c)])/\∃(v18:List Zb),∃(v19:List Int),∃(v20:List Int),∃v21,Ze2 e1.Region=some (.agg [.own 0,.own 1,.own 2,I v21],[.arr 162 3 true (v18.map Zb.c),.arr 3 1 true (v19.map ic),.arr 3 1 true (v20.map ic)])/\Zlw cn cl ([(⟨(⟨v17,v16⟩:Zc),(⟨(⟨v18⟩:Plan),(⟨v19,v20⟩:Box),v21⟩:Region),e1.Version,e1.Used⟩:Zd)]) x x1 (w (x2+1))=some r))else some (.agg [I cl,.t .nil],[])=some r)))/\
 ((∀cn cl x x1 x2 x3 r,Im (Zlw cn cl x x1 x2 x3=some r) (if x3<x2 then qG x1 x3 (λe1=>(∃v6,Ze1 e1.Zc=some (.agg [I v6,.t .nil],[])/\∃(v12:List Zb),∃(v13:List Int),∃(v14:List Int),∃v15,Ze2 e1.Region=some (.agg [.own 0,.own 1,.own 2,I v15],[.arr 162 3 true (v12.map Zb.c),.arr 3 1 true (v13.map ic),.arr 3 1 true (v14.map ic)])/\x.length+1<=68719476736/\Zlw cn cl (x++[(⟨(⟨v6,[]⟩:Zc),(⟨(⟨v12⟩:Plan),(⟨v13,v14⟩:Box),v15⟩:Region),e1.Version,e1.Used⟩:Zd)]) x1 x2 (w (x3+1))=some r)\/(∃(v16:List Atom),∃v17,Ze1 e1.Zc=some (.agg [I v17,.own 0],[.arr 213 2 true (v16.map Atom.c)])/\∃(v18:List Zb),∃(v19:List Int),∃(v20:List Int),∃v21,Ze2 e1.Region=some (.agg [.own 0,.own 1,.own 2,I v21],[.arr 162 3 true (v18.map Zb.c),.arr 3 1 true (v19.map ic),.arr 3 1 true (v20.map ic)])/\x.length+1<=68719476736/\Zlw cn cl (x++[(⟨(⟨v17,v16⟩:Zc),(⟨(⟨v18⟩:Plan),(⟨v19,v20⟩:Box),v21⟩:Region),e1.Version,e1.Used⟩:Zd)]) x1 x2 (w (x3+1))=some r))else some (.agg [I cl,.own 0],[.arr 63 8 true (x.map Zd.c)])=some r))/\
 (∀a r,Im (Zf7 a=some r) (Z3f 0 a.Clock a.Entries (a.Entries.length:Int) 0=some r))))/\
 (((∀s1 s2 x x1 r,Im (Zok s1 s2 x x1=some r) (if x1<x then qG s1 x1 (λe1=>qH s2 x1 (λe2=>if e1=e2 then Zok s1 s2 x (w (x1+1))=some r else qb false r))else qb true r))/\
 (∀a a1 r,Im (Zjv a a1=some r) (if(a.length:Int)=(a1.length:Int)then Zok a a1 (a.length:Int) 0=some r else qb false r)))/\
 ((∀a a1 r,Im (Zxa a a1=some r) (if a.Name=a1.Name then qV (Zjv a.Vars a1.Vars) (λv=>qb v r)else qb false r))/\
 ((∀s2 x x1 x2 r,Im (Zsi s2 x x1 x2=some r) (if x2<x1 then qG x x2 (λe1=>qH s2 x2 (λe2=>qB (Zxa e1 e2) (Zsi s2 x x1 (w (x2+1))=some r) (qb false r)))else qb true r))/\
 (∀a a1 r,Im (Zxb a a1=some r) (if(a.length:Int)=(a1.length:Int)then Zsi a1 a (a.length:Int) 0=some r else qb false r)))))):=by
 and_intros
 all_goals(intros;unfold Im;(try simp only[Zhu,Zw4,Zsg,Zg0,Z3e,Zsh,Ze1,Zdx,Zw7,Ze2,Z3f,Zlw,Zf7,Zok,Zjv,Zxa,Zsi,Zxb,Zoi,Z2,Zoj,Box.c_def,Zg.c_def,Ze.c_def,Zm.c_def,Plan.c_def,Zc.c_def,Region.c_def,tI,Zjk,Zc0,Zgy,Zf4,Zk.c_def,Atom.c_def,mpl,dfs,qs]);(try simp only[itb]);(try simp only[itf,gS,kk]))
 all_goals(repeat' first|refine exI λ_=>?_|refine anJ λ_ _=>?_|refine anI λ_=>?_|refine orE2 ?_ ?_|exact False.elim)
 all_goals(intro h;first|refine runM Zbsx rfl ?_|refine run Zbsy rfl ?_|refine run Zbsz rfl ?_|refine run Zbs0 rfl ?_|rw[Zl Zw5.eq_1]|refine run Zbs1 rfl ?_|refine run Zbs2 rfl ?_|refine run Zbs3 rfl ?_|refine run Zbs4 rfl ?_|rw[Zl Zw8.eq_1]|refine run Zbs5 rfl ?_|rw[Zl Z3g.eq_1]|refine run Zbs6 rfl ?_|refine run Zbs7 rfl ?_|rw[Zl Z3i.eq_1]|refine run Zbs8 rfl ?_)
 all_goals (refine Yb ?_ h;clear h;simp +decide[*,kk,tI,tII,Zbef,Zbee,Zbeh,Zbeg,Zbei,Zbej,Zw6,Zbek,Zbel,Zbem,Zben,Zw9,Zbeo,Z3h,Zbep,Zbeq,Z3j,Zber])
abbrev Zpi:=uq Zdm.1.1.1.1
abbrev Z6m:=uq Zdm.1.1.1.2
abbrev Zbyb:=uq Zdm.1.1.2.1
abbrev Zbyc:=uq Zdm.1.1.2.2
abbrev Zbyd:=uq Zdm.1.2.1.1
abbrev Zbji:=uq Zdm.1.2.1.2
abbrev Zbye:=uq Zdm.1.2.2.1
abbrev Z6n:=uq Zdm.1.2.2.2.1
abbrev Zbyf:=uq Zdm.1.2.2.2.2
abbrev Zbyg:=uq Zdm.2.1.1.1
abbrev Zbyh:=uq Zdm.2.1.1.2
abbrev Zbjj:=uq Zdm.2.1.2.1
abbrev Zbyi:=uq Zdm.2.1.2.2
abbrev Zyk:=uq Zdm.2.2.1.1
abbrev Zbjk:=uq Zdm.2.2.1.2
abbrev Zbyj:=uq Zdm.2.2.2.1
abbrev Zbjl:=uq Zdm.2.2.2.2.1
abbrev Zbyk:=uq Zdm.2.2.2.2.2
theorem Zbjm:(∀a a1 r,Im (Zlx a a1=some r) (if a.Zf=a1.Zf then qV (Zxb a.Atoms a1.Atoms) (λv=>qb v r)else qb false r))/\
 (∀a a1 a2 r,Im (Zba a a1 a2=some r) (if a1<=a then qb (decide (a<=a2)) r else qb false r)):=by
 and_intros
 all_goals(intros;unfold Im;(try simp only[Zlx,Zba,Zxb,Atom.c_def,mpl,dfs,qs]);(try simp only[itb]);(try simp only[itf,gS,kk]))
 all_goals(repeat' first|refine exI λ_=>?_|refine anJ λ_ _=>?_|refine anI λ_=>?_|refine orE2 ?_ ?_|exact False.elim)
 all_goals(intro h;first|refine run Zbs9 rfl ?_|refine run Zbta rfl ?_)
 all_goals (refine Yb ?_ h;clear h;simp +decide[*,kk,tI,tII,Zbes,Zbet])
abbrev Zbyl:=uq Zbjm.1
abbrev Zbym:=uq Zbjm.2
theorem Zdn:((((∀c x x1 x2 r,Im (Zsj c x x1 x2=some r) (if x2<x1 then qG x x2 (λe1=>qB (Zba e1 0 7) (Zsj c x x1 (w (x2+1))=some r) (qb false r))else qb (decide ((c.length:Int)<=16)) r))/\
 (∀a r,Im (Zly a=some r) (Zsj a a (a.length:Int) 0=some r)))/\
 ((∀a b x x1 r,Im (Zsk a b x x1=some r) (if x1<x then qG a x1 (λe1=>qH b x1 (λe2=>if e1<e2 then qb false r else Zsk a b x (w (x1+1))=some r))else qb true r))/\
 (∀a a1 r,Im (Zol a a1=some r) (if(a.length:Int)=(a1.length:Int)then Zsk a a1 (a.length:Int) 0=some r else qb false r))))/\
 (((∀a r,Im (Zom a=some r) (qB (Zly a.Low) (qB (Zly a.High) (if 0<(a.Low.length:Int)then qV (Zol a.High a.Low) (λv3=>qb v3 r)else qb false r) (qb false r)) (qb false r)))/\
 (∀a a1 r,Im (Zon a a1=some r) (qB (Zom a) (qB (Zol a1 a.Low) (qV (Zol a.High a1) (λv3=>qb v3 r)) (qb false r)) (qb false r))))/\
 ((∀a a1 a2 a3 r,Im (Zxc a a1 a2 a3=some r) (if a.Version=a1 then qB (Zlx a.Zc a2) (qV (Zon a.Region.Box a3) (λv2=>qb v2 r)) (qb false r)else qb false r))/\
 ((∀s f f1 f2 x x1 r,Im (Zsn s f f1 f2 x x1=some r) (if x1<x then qG s x1 (λe1=>qB (Zxc e1 f f1 f2) (qi x1 r) (Zsn s f f1 f2 x (w (x1+1))=some r))else qi (-1) r))/\
 (∀a a1 a2 a3 r,Im (Z3p a a1 a2 a3=some r) (Zsn a a1 a2 a3 (a.length:Int) 0=some r))))))/\
 ((((∀a a1 a2 a3 r,Im (Zf8 a a1 a2 a3=some r) (qI (Z3p a.Entries a2 a1 a3) (λv1=>qi v1 r)))/\
 (∀a r,Im (Zxd a=some r) (if(a.size:Int)=1 then ∃b1,a[0]?=some b1/\if 97<=(b1.toNat:Int)then qb (decide ((b1.toNat:Int)<=122)) r else qb false r else qb false r)))/\
 ((∀s v x x1 r,Im (Zso s v x x1=some r) (if x1<x then qG s x1 (λe1=>if v=e1 then qi x1 r else Zso s v x (w (x1+1))=some r)else qi (-1) r))/\
 (∀a a1 r,Im (Zxe a a1=some r) (Zso a a1 (a.length:Int) 0=some r))))/\
 (((∀a a1 r,Im (Zio a a1=some r) (qI (Zxe a a1) (λv1=>qb (decide (0<=v1)) r)))/\
 (∀s v x x1 r,Im (Zsp s v x x1=some r) (if x1<x then qG s x1 (λe1=>if v=e1 then qi x1 r else Zsp s v x (w (x1+1))=some r)else qi (-1) r)))/\
 ((∀a a1 r,Im (Zxf a a1=some r) (Zsp a a1 (a.length:Int) 0=some r))/\
 ((∀a a1 r,Im (Zxg a a1=some r) (qI (Zxf a a1) (λv1=>qb (decide (0<=v1)) r)))/\
 (∀q cc x x1 x2 r,Im (Zjw q cc x x1 x2=some r) (if x2<x1 then qG x x2 (λe1=>qB (Zxd e1.Name) (qB (Zba (e1.Vars.length:Int) 1 3) (Zoo q cc e1 x x1 x2 e1.Vars (e1.Vars.length:Int) 0=some r) (qb false r)) (qb false r))else qV (Zxg cc false) (λv4=>qb (!v4) r))))))):=by
 and_intros
 all_goals(intros;unfold Im;(try simp only[Zsj,Zly,Zsk,Zol,Zom,Zon,Zxc,Zsn,Z3p,Zf8,Zxd,Zso,Zxe,Zio,Zsp,Zxf,Zxg,Zjw,Zba,Box.c_def,Zlx,Zc.c_def,Zd.c_def,Plan.c_def,Region.c_def,Zoo,mpl,dfs,qs]);(try simp only[itb]);(try simp only[itf,gS,kk]))
 all_goals(repeat' first|refine exI λ_=>?_|refine anJ λ_ _=>?_|refine anI λ_=>?_|refine orE2 ?_ ?_|exact False.elim)
 all_goals(intro h;first|rw[Zl Z3k.eq_1]|refine run Zbtb rfl ?_|rw[Zl Z3m.eq_1]|refine run Zbtc rfl ?_|refine run Zbtd rfl ?_|refine run Zbte rfl ?_|refine run Zbtf rfl ?_|rw[Zl Zsl.eq_1]|refine run Zbhv rfl ?_|refine run Zbtg rfl ?_|refine run Zbth rfl ?_|rw[Zl Z3q.eq_1]|refine run Zbti rfl ?_|refine run Zbtj rfl ?_|rw[Zl Z3s.eq_1]|refine run Zbtk rfl ?_|refine run Zbtl rfl ?_|rw[Zl Zxh.eq_1])
 all_goals (refine Yb ?_ h;clear h;simp +decide[*,kk,tI,tII,Z3l,Zbeu,Z3n,Zbev,Zbew,Zbex,Zbey,Zsm,Z3o,Zbez,Zbe0,Z3r,Zbe1,Zbe2,Z3t,Zbe3,Zbe4,Zxi])
abbrev Zbjn:=uq Zdn.1.1.1.1
abbrev Zbyn:=uq Zdn.1.1.1.2
abbrev Zbjo:=uq Zdn.1.1.2.1
abbrev Zbyo:=uq Zdn.1.1.2.2
abbrev Zbyp:=uq Zdn.1.2.1.1
abbrev Zbyq:=uq Zdn.1.2.1.2
abbrev Zbyr:=uq Zdn.1.2.2.1
abbrev Zbjp:=uq Zdn.1.2.2.2.1
abbrev Zbys:=uq Zdn.1.2.2.2.2
abbrev Zbyt:=uq Zdn.2.1.1.1
abbrev Zbyu:=uq Zdn.2.1.1.2
abbrev Zbjq:=uq Zdn.2.1.2.1
abbrev Zbyv:=uq Zdn.2.1.2.2
abbrev Zbyw:=uq Zdn.2.2.1.1
abbrev Zbjr:=uq Zdn.2.2.1.2
abbrev Zbyx:=uq Zdn.2.2.2.1
abbrev Zbyy:=uq Zdn.2.2.2.2.1
abbrev Zbjs:=uq Zdn.2.2.2.2.2
theorem Ziy:(((∀q cd a x x1 x2 x3 x4 x5 r,Im (Zoo q cd a x x1 x2 x3 x4 x5=some r) (if x5<x4 then qG x3 x5 (λe1=>qB (Zba e1 0 (w (q.Zf-1))) (x5.toNat<=a.Vars.length/\qB (Zio (a.Vars.take x5.toNat) e1) (qb false r) (qG cd e1 (λe4=>Zoo q (cd.set e1.toNat true) a x x1 x2 x3 x4 (w (x5+1))=some r))) (qb false r))else Zjw q cd x x1 (w (x2+1))=some r))/\
 (∀a r,Im (Zd3 a=some r) (qB (Zg1 a) (¬(a.Atoms.length:Int)<0/\qi (w ((shlI 1 (a.Atoms.length:Int))-1)) r) (qi 0 r))))/\
 ((∀a a1 r,Im (Zsq a a1=some r) (qB (Zom a1) (qI (Zd3 a) (λv1=>qb (decide ((a1.Low.length:Int)=(w (v1+1)))) r)) (qb false r)))/\
 (∀q c cc v r,Im (Zlz q c cc v=some r) (if v<q.Zf then Zop q c cc v q.Atoms (q.Atoms.length:Int) 0=some r else some (.own 0,[.arr 3 1 true (c.map ic)])=some r))))/\
 (((∀q c cc v x x1 x2 r,Im (Zop q c cc v x x1 x2=some r) (if x2<x1 then qG x x2 (λe1=>¬x2<0/\if(andI (shrI cc x2) 1)=1 then qB (Zio e1.Vars v) (c.length+1<=68719476736/\Zlz q (c++[v]) cc (w (v+1))=some r) (Zop q c cc v x x1 (w (x2+1))=some r)else Zop q c cc v x x1 (w (x2+1))=some r)else Zlz q c cc (w (v+1))=some r))/\
 (∀a a1 r,Im (Zhv a a1=some r) (Zlz a ([]:List Int) a1 0=some r)))/\
 ((∀c b x x1 x2 r,Im (Zoq c b x x1 x2=some r) (if x2<x1 then qG x x2 (λe1=>qB (Zio b e1) (c.length+1<=68719476736/\Zoq (c++[e1]) b x x1 (w (x2+1))=some r) (Zoq c b x x1 (w (x2+1))=some r))else some (.own 0,[.arr 3 1 true (c.map ic)])=some r))/\
 ((∀a a1 r,Im (Zjx a a1=some r) (Zoq ([]:List Int) a1 a (a.length:Int) 0=some r))/\
 (∀a a1 a2 a3 r,Im (Zl0 a a1 a2 a3=some r) (if a1.Kind=1 then qB (Zba a1.Atom 0 (w ((a.Atoms.length:Int)-1))) (if a1.Order=0 then ¬a1.Atom<0/\qG a.Atoms a1.Atom (λe2=>∃e3,e2.Vars[0]?=some e3/\some (.tup [.agg [I (shlI 1 a1.Atom),I e3,I (-1),I (-1)],Bo true],[])=some r)else some (.tup [.agg [I 0,I (-1),I (-1),I (-1)],Bo false],[])=some r) (some (.tup [.agg [I 0,I (-1),I (-1),I (-1)],Bo false],[])=some r)else if a1.Atom=0 then if a1.Kind=2 then if(a3.length:Int)<1 then some (.tup [.agg [I 0,I (-1),I (-1),I (-1)],Bo false],[])=some r else 0<=(w ((a3.length:Int)-1))/\∃e4,a3[(w ((a3.length:Int)-1)).toNat]?=some e4/\qG a2 e4 (λe5=>qO 3 1 ic (Zhv a e5.Mask) (λv2=>qB (Zio v2 a1.Order) (if e5.Order=a1.Order then some (.tup [.agg [I 0,I (-1),I (-1),I (-1)],Bo false],[])=some r else some (.tup [.agg [I e5.Mask,I a1.Order,I e4,I (-1)],Bo true],[])=some r) (some (.tup [.agg [I 0,I (-1),I (-1),I (-1)],Bo false],[])=some r)))else if(a3.length:Int)<2 then some (.tup [.agg [I 0,I (-1),I (-1),I (-1)],Bo false],[])=some r else 0<=(w ((a3.length:Int)-2))/\∃e8,a3[(w ((a3.length:Int)-2)).toNat]?=some e8/\0<=(w ((a3.length:Int)-1))/\∃e9,a3[(w ((a3.length:Int)-1)).toNat]?=some e9/\qG a2 e8 (λe10=>qG a2 e9 (λe11=>qO 3 1 ic (Zhv a e10.Mask) (λv3=>qO 3 1 ic (Zhv a e11.Mask) (λv4=>qO 3 1 ic (Zjx v3 v4) (λv5=>if(andI e10.Mask e11.Mask)=0 then if(v5.length:Int)=0 then some (.tup [.agg [I (orI e10.Mask e11.Mask),I (-1),I e8,I e9],Bo false],[])=some r else if a1.Kind=3 then some (.tup [.agg [I (orI e10.Mask e11.Mask),I (-1),I e8,I e9],Bo (decide (a1.Order=0))],[])=some r else if a1.Kind=5 then some (.tup [.agg [I (orI e10.Mask e11.Mask),I e10.Order,I e8,I e9],Bo (decide (a1.Order=0))],[])=some r else if a1.Kind=4 then qB (Zio v5 a1.Order) (if e10.Order=a1.Order then some (.tup [.agg [I (orI e10.Mask e11.Mask),I a1.Order,I e8,I e9],Bo (decide (e11.Order=a1.Order))],[])=some r else some (.tup [.agg [I (orI e10.Mask e11.Mask),I a1.Order,I e8,I e9],Bo false],[])=some r) (some (.tup [.agg [I (orI e10.Mask e11.Mask),I a1.Order,I e8,I e9],Bo false],[])=some r)else some (.tup [.agg [I (orI e10.Mask e11.Mask),I (-1),I e8,I e9],Bo false],[])=some r else some (.tup [.agg [I (orI e10.Mask e11.Mask),I (-1),I e8,I e9],Bo false],[])=some r)))))else some (.tup [.agg [I 0,I (-1),I (-1),I (-1)],Bo false],[])=some r))))):=by
 and_intros
 all_goals(intros;unfold Im;(try simp only[Zoo,Zd3,Zsq,Zlz,Zop,Zhv,Zoq,Zjx,Zl0,Zba,Zio,Zg1,Zc.c_def,Zom,Box.c_def,Zjw,mpl,dfs,qs]);(try simp only[itb]);(try simp only[itf,gS,kk]))
 all_goals(repeat' first|refine exI λ_=>?_|refine anJ λ_ _=>?_|refine anI λ_=>?_|refine orE2 ?_ ?_|exact False.elim)
 all_goals(intro h;first|rw[Zl Z3u.eq_1]|refine run Zbtn rfl ?_|refine run Zbto rfl ?_|rw[Zl Zxk.eq_1]|rw[Zl Z3w.eq_1]|refine run Zbtp rfl ?_|rw[Zl Z3y.eq_1]|refine run Zbtq rfl ?_|refine run Zbtr rfl ?_)
 all_goals (refine Yb ?_ h;clear h;simp +decide[*,kk,tI,tII,Z3v,Zbe5,Zbe6,Zxl,Z3x,Zbe7,Zbe8,Z3z,Zbe9,Zbfa])
abbrev Zbjt:=uq Ziy.1.1.1
abbrev Zbyz:=uq Ziy.1.1.2
abbrev Zby0:=uq Ziy.1.2.1
abbrev Zbju:=uq Ziy.1.2.2
abbrev Zbjv:=uq Ziy.2.1.1
abbrev Zby1:=uq Ziy.2.1.2
abbrev Zbjw:=uq Ziy.2.2.1
abbrev Zby2:=uq Ziy.2.2.2.1
abbrev Zkf:=uq Ziy.2.2.2.2
theorem Zby3{a:Zc}{r:AV×List Blk}(h:(∃(v:Bool),Zba a.Zf 1 4=some (Bo v,[])/\(if v=true then(∃(v1:Bool),Zba (a.Atoms.length:Int) 1 4=some (Bo v1,[])/\(if v1=true then(0<=a.Zf/\(a.Zf.toNat*1<=room/\(a.Zf<=140737488355328/\(Zjw a (List.replicate (a.Zf).toNat false) a.Atoms (a.Atoms.length:Int) 0=some r))))else(some (Bo false,[])=some r)))else(some (Bo false,[])=some r)))):Zg1 a=some r:=by
 unfold Zg1;refine run Zbtm rfl ?_;obtain⟨v,q1,h⟩:=h;unfold Zba at q1
 try simp at q1
 by_cases q2:v=true
 .rw[if_pos q2]at h;obtain⟨v1,q3,h⟩:=h;unfold Zba at q3
  try simp at q3
  by_cases q4:v1=true
  .rw[if_pos q4]at h;obtain⟨q5,h⟩:=h;obtain⟨q6,h⟩:=h;have zq6:=q6;try simp at zq6
   obtain⟨q7,h⟩:=h;refine Yb ?_ h;clear h;simp +decide[*,Zxj,tI,tII,Zjw]
  .rw[if_neg q4]at h;refine Yb ?_ h;clear h;simp +decide[*,Zxj,tI,tII]
 .rw[if_neg q2]at h;refine Yb ?_ h;clear h;simp +decide[*,Zxj,tI,tII]
theorem Zdo:((((∀q cn cc x x1 x2 r,Im (Zl1 q cn cc x x1 x2=some r) (if x2<x1 then qG x x2 (λe1=>qS Zi.c (Zl0 q e1 cn cc) (λv1 v2=>if v2=true then cn.length+1<=68719476736/\if 0<=v1.Right then 0<=(w ((cc.length:Int)-2))/\(w ((cc.length:Int)-2)).toNat<=cc.length/\(w ((cc.length:Int)-2)).toNat+1<=68719476736/\Zl1 q (cn++[v1]) ((cc.take ((w ((cc.length:Int)-2)).toNat))++[x2]) x x1 (w (x2+1))=some r else if 0<=v1.Left then 0<=(w ((cc.length:Int)-1))/\(w ((cc.length:Int)-1)).toNat<=cc.length/\(w ((cc.length:Int)-1)).toNat+1<=68719476736/\Zl1 q (cn++[v1]) ((cc.take ((w ((cc.length:Int)-1)).toNat))++[x2]) x x1 (w (x2+1))=some r else cc.length+1<=68719476736/\Zl1 q (cn++[v1]) (cc++[x2]) x x1 (w (x2+1))=some r else some (.tup [.t .nil,Bo false],[])=some r))else if(cc.length:Int)=1 then some (.tup [.own 0,Bo true],[.arr 178 4 true (cn.map Zi.c)])=some r else some (.tup [.t .nil,Bo false],[])=some r))/\
 (∀a a1 r,Im (Zjy a a1=some r) (qB (Zg1 a) (qB (Zba (a1.Steps.length:Int) 1 14) (Zl1 a ([]:List Zi) ([]:List Int) a1.Steps (a1.Steps.length:Int) 0=some r) (some (.tup [.t .nil,Bo false],[])=some r)) (some (.tup [.t .nil,Bo false],[])=some r))))/\
 ((∀a a1 r,Im (Zxm a a1=some r) ((Zjy a a1=some (.tup [.t .nil,Bo false],[])/\qi 0 r)\/(∃(v1:List Zi),Zjy a a1=some (.tup [.own 0,Bo true],[.arr 178 4 true (v1.map Zi.c)])/\0<=(w ((v1.length:Int)-1))/\∃e3,v1[(w ((v1.length:Int)-1)).toNat]?=some e3/\qi e3.Mask r)))/\
 (∀a a1 r,Im (Zsr a a1=some r) (qB (Zg1 a) (qB (Zsq a a1.Box) (qI (Zxm a a1.Plan) (λv3=>qI (Zd3 a) (λv4=>if v3=v4 then qV (Zba a1.Percent 100 1000) (λv5=>qb v5 r)else qb false r))) (qb false r)) (qb false r)))))/\
 (((∀a a1 r,Im (Zor a a1=some r) (qB (Zg1 a) (¬(a.Atoms.length:Int)<0/\qV (Zba a1 0 (w ((shlI 1 (a.Atoms.length:Int))-1))) (λv1=>qb v1 r)) (qb false r)))/\
 (∀co cl cd x x1 x2 r,Im (Zl2 co cl cd x x1 x2=some r) (if x2<x1 then qG x x2 (λe1=>¬x2<0/\if(andI (shrI cl x2) 1)=0 then qO 3 1 ic (Zjx e1.Vars co) (λv1=>if 0<(v1.length:Int)then Zl2 co cl (orI cd (shlI 1 x2)) x x1 (w (x2+1))=some r else Zl2 co cl cd x x1 (w (x2+1))=some r)else Zl2 co cl cd x x1 (w (x2+1))=some r)else qi cd r)))/\
 ((∀a a1 r,Im (Zxn a a1=some r) (qO 3 1 ic (Zhv a a1) (λv=>Zl2 v a1 0 a.Atoms (a.Atoms.length:Int) 0=some r)))/\
 ((∀q cl cp r,Im (Zss q cl cp=some r) (qI (Zxn q cp) (λv=>if(orI cp (andI v cl))=cp then qb (decide (cp=cl)) r else Zss q cl (orI cp (andI v cl))=some r)))/\
 (∀a a1 r,Im (Zip a a1=some r) (if a1=0 then qb false r else Zss a a1 (andI a1 (w (0-a1)))=some r))))))/\
 ((((∀a a1 r,Im (Zl3 a a1=some r) (qB (Zor a a1) (qV (Zip a a1) (λv1=>qb v1 r)) (qb false r)))/\
 (∀x r,Im (Zhw x=some r) (some (.bsl 1 5,[.box (x.c.map .t),.box [.ptr 0 0,.ptr 0 6,.ptr 0 12,.ptr 0 18,.ptr 0 24]])=some r)))/\
 ((∀x r,Im (Zxo x=some r) (some (.bsl 1 5,[.box (x.c.map .t),.box [.ptr 0 0,.ptr 0 1,.ptr 0 2,.ptr 0 3,.ptr 0 4]])=some r))/\
 (∀o x x1 x2 r,Im (Zjz o x x1 x2=some r) (if x2<x1 then qG x x2 (λe1=>qB (Zba e1.Add (-99) 99) (qB (Zba e1.From 1 8192) (if 0<x2 then 0<=(w (x2-1))/\∃e4,o.Steps[(w (x2-1)).toNat]?=some e4/\if e1.From<=e4.From then qb false r else Zjz o x x1 (w (x2+1))=some r else Zjz o x x1 (w (x2+1))=some r) (qb false r)) (qb false r))else qb (decide ((o.Steps.length:Int)<=4)) r))))/\
 (((∀a r,Im (Zct a=some r) (Zxo a=some (.bsl 1 5,[.box (a.c.map .t),.box [.ptr 0 0,.ptr 0 1,.ptr 0 2,.ptr 0 3,.ptr 0 4]])/\Ze3 a 5 0=some r))/\
 (∀cd a r,Im (Zos cd a=some r) (if a<=7 then Zl4 cd a 0=some r else some (.own 0,[.arr 35 1 true (cd.map isc)])=some r)))/\
 ((∀cd a b r,Im (Zl4 cd a b=some r) (if b<=7 then Zot cd a b 0=some r else Zos cd (w (a+1))=some r))/\
 ((∀cd a b c r,Im (Zot cd a b c=some r) (if c<=7 then cd.length+1<=68719476736/\Zot (cd++[[a,b,c]]) a b (w (c+1))=some r else Zl4 cd a (w (b+1))=some r))/\
 (∀r,Im (Zer=some r) (Zos ([]:List (List Int)) 0=some r)))))):=by
 and_intros
 all_goals(intros;unfold Im;(try simp only[Zl1,Zjy,Zxm,Zsr,Zor,Zl2,Zxn,Zss,Zip,Zl3,Zhw,Zxo,Zjz,Zct,Zos,Zl4,Zot,Zer,Zl0,Zb.c_def,Zc.c_def,Zi.c_def,Zg1,Zba,Plan.c_def,Zsq,Zd3,Box.c_def,Zjx,Zhv,Zm.c_def,Ze3,mpl,dfs,qs]);(try simp only[itb]);(try simp only[itf,gS,kk]))
 all_goals(repeat' first|refine exI λ_=>?_|refine anJ λ_ _=>?_|refine anI λ_=>?_|refine orE2 ?_ ?_|exact False.elim)
 all_goals(intro h;first|rw[Zl Z30.eq_1]|refine run Zbts rfl ?_|refine run Zbtt rfl ?_|refine run Zbtu rfl ?_|refine run Zbtv rfl ?_|rw[Zl Z32.eq_1]|refine run Zbtw rfl ?_|rw[Zl Z34.eq_1]|refine run Zbtx rfl ?_|refine run Zbty rfl ?_|refine runM Zbtz rfl ?_|refine runM Zbt0 rfl ?_|rw[Zl Z36.eq_1]|refine run Zbt1 rfl ?_|rw[Zl Zst.eq_1]|rw[Zl Zxp.eq_1]|rw[Zl Z39.eq_1]|refine run Zbt2 rfl ?_)
 all_goals (refine Yb ?_ h;clear h;simp +decide[*,kk,tI,tII,Zbfb,Z31,Zbfc,Zbfd,Zbfe,Zbff,Zbfg,Z33,Zbfh,Zbfi,Zbfj,Zbfk,Zbfl,Z37,Zbfm,Zsu,Zxq,Z4a,Zbfn])
abbrev Zbjx:=uq Zdo.1.1.1.1
abbrev Zby4:=uq Zdo.1.1.1.2
abbrev Zby5:=uq Zdo.1.1.2.1
abbrev Zby6:=uq Zdo.1.1.2.2
abbrev Zby7:=uq Zdo.1.2.1.1
abbrev Zbjy:=uq Zdo.1.2.1.2
abbrev Zby8:=uq Zdo.1.2.2.1
abbrev Zbjz:=uq Zdo.1.2.2.2.1
abbrev Zbj0:=uq Zdo.1.2.2.2.2
abbrev Zby9:=uq Zdo.2.1.1.1
abbrev Zbj1:=uq Zdo.2.1.1.2
abbrev Zbza:=uq Zdo.2.1.2.1
abbrev Zbj2:=uq Zdo.2.1.2.2
abbrev Zbzb:=uq Zdo.2.2.1.1
abbrev Zbj3:=uq Zdo.2.2.1.2
abbrev Zbj4:=uq Zdo.2.2.2.1
abbrev Zbj5:=uq Zdo.2.2.2.2.1
abbrev Zbzc:=uq Zdo.2.2.2.2.2
theorem Zmk:((∀a r,Im (Zj0 a=some r) (qB (Zba a 0 7) (if a=0 then qi 0 r else ¬(w (2*(w (a-1))))<0/\qi (shlI 1 (w (2*(w (a-1))))) r) (qi (-1) r)))/\
 ((∀cc c n x x1 x2 r,Im (Zov cc c n x x1 x2=some r) (if x2<x1 then qG x x2 (λe1=>if e1.From<=(w (cc+c))then Zov cc c (w (n+e1.Add)) x x1 (w (x2+1))=some r else Zov cc c n x x1 (w (x2+1))=some r)else qi n r))/\
 (∀a a1 a2 a3 r,Im (Zou a a1 a2 a3=some r) (Zov a1 a2 (w ((w ((w ((w (a.Fixed+(w (a.Zq*a1))))+(w (a.Zs*a2))))+(w (a.Zu*a3))))+(w ((w (a.Zt*a1))*a2)))) a.Steps (a.Steps.length:Int) 0=some r))))/\
 (((∀a a1 r,Im (Zg2 a a1=some r) (∃e1,a1[0]?=some e1/\qI (Zj0 e1) (λv=>∃e3,a1[1]?=some e3/\qI (Zj0 e3) (λv1=>∃e5,a1[2]?=some e5/\qI (Zj0 e5) (λv3=>qI (Zou a v v1 v3) (λv4=>qi v4 r))))))/\
 (∀o x x1 x2 r,Im (Zj1 o x x1 x2=some r) (if x2<x1 then qG x x2 (λe1=>Zf9 o x e1 x1 x2 (e1.length:Int) 0=some r)else some (.tup [.t .nil,.t .nil,Bo false],[])=some r)))/\
 ((∀o x t x1 x2 x3 x4 r,Im (Zf9 o x t x1 x2 x3 x4=some r) (if x4<x3 then qG t x4 (λe1=>if e1=7 then Zf9 o x t x1 x2 x3 (w (x4+1))=some r else qO 3 1 ic (Zg0 t) (λv=>qH v x4 (λe3=>qI (Zg2 o (v.set x4.toNat (w (e3+1)))) (λv1=>qI (Zg2 o t) (λv2=>if v1<v2 then some (.tup [L 1 (t.map ic),.own 0,Bo true],[.arr 3 1 true ((v.set x4.toNat (w (e3+1))).map ic)])=some r else Zf9 o x t x1 x2 x3 (w (x4+1))=some r)))))else Zj1 o x x1 (w (x2+1))=some r))/\
 (∀a r,Im (Zcj a=some r) (qB (Zct a) (qO 35 1 isc Zer (λv=>Zj1 a v (v.length:Int) 0=some r)) (some (.tup [.t .nil,.t .nil,Bo false],[])=some r))))):=by
 and_intros
 all_goals(intros;unfold Im;(try simp only[Zj0,Zov,Zou,Zg2,Zj1,Zf9,Zcj,Zba,Zm.c_def,Zg0,Zct,Zer,mpl,dfs,qs]);(try simp only[itb]);(try simp only[itf,gS,kk]))
 all_goals(repeat' first|refine exI λ_=>?_|refine anJ λ_ _=>?_|refine anI λ_=>?_|refine orE2 ?_ ?_|exact False.elim)
 all_goals(intro h;first|refine run Zbt3 rfl ?_|rw[Zl Z4b.eq_1]|refine run Zbt4 rfl ?_|refine run Zbt5 rfl ?_|rw[Zl Zxr.eq_1]|rw[Zl Z4d.eq_1]|refine run Zbt6 rfl ?_)
 all_goals (refine Yb ?_ h;clear h;simp +decide[*,kk,tI,tII,Zbfo,Zbfp,Z4c,Zbfq,Zbfr,Zxs,Zbfs,Z4e,Zbft])
abbrev Zbzd:=uq Zmk.1.1
abbrev Zbj6:=uq Zmk.1.2.1
abbrev Zbze:=uq Zmk.1.2.2
abbrev Zbzf:=uq Zmk.2.1.1
abbrev Zbj7:=uq Zmk.2.1.2
abbrev Z6o:=uq Zmk.2.2.1
abbrev Zbzg:=uq Zmk.2.2.2
theorem Zpj{o:Zm}{x x1:Int}{r:AV×List Blk}(h:(if x1<x then(if x1=0 then(∃(v:Bool),Zba o.Fixed (-99) 99=some (Bo v,[])/\(if v=true then(Ze3 o x (w (x1+1))=some r)else(some (Bo false,[])=some r)))else(if x1=1 then(∃(v1:Bool),Zba o.Zq (-99) 99=some (Bo v1,[])/\(if v1=true then(Ze3 o x (w (x1+1))=some r)else(some (Bo false,[])=some r)))else(if x1=2 then(∃(v2:Bool),Zba o.Zs (-99) 99=some (Bo v2,[])/\(if v2=true then(Ze3 o x (w (x1+1))=some r)else(some (Bo false,[])=some r)))else(if x1=3 then(∃(v3:Bool),Zba o.Zu (-99) 99=some (Bo v3,[])/\(if v3=true then(Ze3 o x (w (x1+1))=some r)else(some (Bo false,[])=some r)))else(if x1=4 then(∃(v4:Bool),Zba o.Zt (-99) 99=some (Bo v4,[])/\(if v4=true then(Ze3 o x (w (x1+1))=some r)else(some (Bo false,[])=some r)))else False)))))else(Zjz o o.Steps (o.Steps.length:Int) 0=some r))):Ze3 o x x1=some r:=by
 unfold Ze3;rw[Zl Z35.eq_1];by_cases q1:x1<x
 .rw[if_pos q1]at h;by_cases q2:x1=0
  .rw[if_pos q2]at h;subst q2;obtain⟨v,q3,h⟩:=h;unfold Zba at q3
   try simp at q3
   by_cases q4:v=true
   .rw[if_pos q4]at h;refine Yb ?_ h;clear h;simp +decide[*,tI,tII,Ze3]
   .rw[if_neg q4]at h;refine Yb ?_ h;clear h;simp +decide[*,tI,tII]
  .rw[if_neg q2]at h;replace q2:=eq_false q2;by_cases q5:x1=1
   .rw[if_pos q5]at h;subst q5;obtain⟨v1,q6,h⟩:=h;unfold Zba at q6
    try simp at q6
    by_cases q7:v1=true
    .rw[if_pos q7]at h;refine Yb ?_ h;clear h;simp +decide[*,tI,tII,Ze3]
    .rw[if_neg q7]at h;refine Yb ?_ h;clear h;simp +decide[*,tI,tII]
   .rw[if_neg q5]at h;replace q5:=eq_false q5;by_cases q8:x1=2
    .rw[if_pos q8]at h;subst q8;obtain⟨v2,q9,h⟩:=h;unfold Zba at q9
     try simp at q9
     by_cases q10:v2=true
     .rw[if_pos q10]at h;refine Yb ?_ h;clear h;simp +decide[*,tI,tII,Ze3]
     .rw[if_neg q10]at h;refine Yb ?_ h;clear h;simp +decide[*,tI,tII]
    .rw[if_neg q8]at h;replace q8:=eq_false q8;by_cases q11:x1=3
     .rw[if_pos q11]at h;subst q11;obtain⟨v3,q12,h⟩:=h;unfold Zba at q12
      try simp at q12
      by_cases q13:v3=true
      .rw[if_pos q13]at h;refine Yb ?_ h;clear h;simp +decide[*,tI,tII,Ze3]
      .rw[if_neg q13]at h;refine Yb ?_ h;clear h;simp +decide[*,tI,tII]
     .rw[if_neg q11]at h;replace q11:=eq_false q11;by_cases q14:x1=4
      .rw[if_pos q14]at h;subst q14;obtain⟨v4,q15,h⟩:=h;unfold Zba at q15
       try simp at q15
       by_cases q16:v4=true
       .rw[if_pos q16]at h;refine Yb ?_ h;clear h;simp +decide[*,tI,tII,Ze3]
       .rw[if_neg q16]at h;refine Yb ?_ h;clear h;simp +decide[*,tI,tII]
      .rw[if_neg q14]at h;replace q14:=eq_false q14;cases h
 .rw[if_neg q1]at h;refine Yb ?_ h;clear h;simp +decide[*,tI,tII,Zjz,Z38]
theorem Zpk{x:Ze}{x1 x2:Int}{r:AV×List Blk}(h:(if x2<x1 then(if x2=0 then(∃(v:Bool),Zct x.Scan=some (Bo v,[])/\(if v=true then((Zcj x.Scan=some (.tup [.t .nil,.t .nil,Bo false],[])/\(∃(v1:List (List Int)),Zer=some (.own 0,[.arr 35 1 true (v1.map isc)])/\(Zj4 x v1 (w (1+x2)) x1 x2 (v1.length:Int) 0=some r)))\/(∃(v2:List Int) (v3:List Int),Zcj x.Scan=some (.tup [L 1 (v3.map ic),.own 0,Bo true],[.arr 3 1 true (v2.map ic)])/\(some (.tup [I (w (1+x2)),L 1 (v3.map ic),.own 0],[.arr 3 1 true (v2.map ic)])=some r)))else(some (.tup [I (w (1+x2)),.t .nil,.t .nil],[])=some r)))else(if x2=1 then(∃(v4:Bool),Zct x.Sort_=some (Bo v4,[])/\(if v4=true then((Zcj x.Sort_=some (.tup [.t .nil,.t .nil,Bo false],[])/\(∃(v5:List (List Int)),Zer=some (.own 0,[.arr 35 1 true (v5.map isc)])/\(Zj5 x v5 (w (1+x2)) x1 x2 (v5.length:Int) 0=some r)))\/(∃(v6:List Int) (v7:List Int),Zcj x.Sort_=some (.tup [L 1 (v7.map ic),.own 0,Bo true],[.arr 3 1 true (v6.map ic)])/\(some (.tup [I (w (1+x2)),L 1 (v7.map ic),.own 0],[.arr 3 1 true (v6.map ic)])=some r)))else(some (.tup [I (w (1+x2)),.t .nil,.t .nil],[])=some r)))else(if x2=2 then(∃(v8:Bool),Zct x.Hash=some (Bo v8,[])/\(if v8=true then((Zcj x.Hash=some (.tup [.t .nil,.t .nil,Bo false],[])/\(∃(v9:List (List Int)),Zer=some (.own 0,[.arr 35 1 true (v9.map isc)])/\(Zj6 x v9 (w (1+x2)) x1 x2 (v9.length:Int) 0=some r)))\/(∃(v10:List Int) (v11:List Int),Zcj x.Hash=some (.tup [L 1 (v11.map ic),.own 0,Bo true],[.arr 3 1 true (v10.map ic)])/\(some (.tup [I (w (1+x2)),L 1 (v11.map ic),.own 0],[.arr 3 1 true (v10.map ic)])=some r)))else(some (.tup [I (w (1+x2)),.t .nil,.t .nil],[])=some r)))else(if x2=3 then(∃(v12:Bool),Zct x.Merge=some (Bo v12,[])/\(if v12=true then((Zcj x.Merge=some (.tup [.t .nil,.t .nil,Bo false],[])/\(∃(v13:List (List Int)),Zer=some (.own 0,[.arr 35 1 true (v13.map isc)])/\(Zj7 x v13 (w (1+x2)) x1 x2 (v13.length:Int) 0=some r)))\/(∃(v14:List Int) (v15:List Int),Zcj x.Merge=some (.tup [L 1 (v15.map ic),.own 0,Bo true],[.arr 3 1 true (v14.map ic)])/\(some (.tup [I (w (1+x2)),L 1 (v15.map ic),.own 0],[.arr 3 1 true (v14.map ic)])=some r)))else(some (.tup [I (w (1+x2)),.t .nil,.t .nil],[])=some r)))else(if x2=4 then(∃(v16:Bool),Zct x.Nested=some (Bo v16,[])/\(if v16=true then((Zcj x.Nested=some (.tup [.t .nil,.t .nil,Bo false],[])/\(∃(v17:List (List Int)),Zer=some (.own 0,[.arr 35 1 true (v17.map isc)])/\(Zj8 x v17 (w (1+x2)) x1 x2 (v17.length:Int) 0=some r)))\/(∃(v18:List Int) (v19:List Int),Zcj x.Nested=some (.tup [L 1 (v19.map ic),.own 0,Bo true],[.arr 3 1 true (v18.map ic)])/\(some (.tup [I (w (1+x2)),L 1 (v19.map ic),.own 0],[.arr 3 1 true (v18.map ic)])=some r)))else(some (.tup [I (w (1+x2)),.t .nil,.t .nil],[])=some r)))else False)))))else(some (.tup [I 0,.t .nil,.t .nil],[])=some r))):Zbw x x1 x2=some r:=by
 unfold Zbw;rw[Zl Zj2.eq_1];by_cases q1:x2<x1
 .rw[if_pos q1]at h;by_cases q2:x2=0
  .rw[if_pos q2]at h;subst q2;obtain⟨v,q3,h⟩:=h;unfold Zct at q3
   try simp at q3
   by_cases q4:v=true
   .rw[if_pos q4]at h;rcases h with h|h
    .obtain⟨q5,h⟩:=h;unfold Zcj at q5
     try simp at q5
     obtain⟨v1,q6,h⟩:=h;unfold Zer at q6
     try simp at q6
     refine Yb ?_ h;clear h;simp +decide[*,tI,tII,Zj4]
    .obtain⟨v2,v3,q7,h⟩:=h;unfold Zcj at q7
     try simp at q7
     refine Yb ?_ h;clear h;simp +decide[*,tI,tII]
   .rw[if_neg q4]at h;refine Yb ?_ h;clear h;simp +decide[*,tI,tII]
  .rw[if_neg q2]at h;replace q2:=eq_false q2;by_cases q8:x2=1
   .rw[if_pos q8]at h;subst q8;obtain⟨v4,q9,h⟩:=h;unfold Zct at q9
    try simp at q9
    by_cases q10:v4=true
    .rw[if_pos q10]at h;rcases h with h|h
     .obtain⟨q11,h⟩:=h;unfold Zcj at q11
      try simp at q11
      obtain⟨v5,q12,h⟩:=h;unfold Zer at q12
      try simp at q12
      refine Yb ?_ h;clear h;simp +decide[*,tI,tII,Zj5]
     .obtain⟨v6,v7,q13,h⟩:=h;unfold Zcj at q13
      try simp at q13
      refine Yb ?_ h;clear h;simp +decide[*,tI,tII]
    .rw[if_neg q10]at h;refine Yb ?_ h;clear h;simp +decide[*,tI,tII]
   .rw[if_neg q8]at h;replace q8:=eq_false q8;by_cases q14:x2=2
    .rw[if_pos q14]at h;subst q14;obtain⟨v8,q15,h⟩:=h;unfold Zct at q15
     try simp at q15
     by_cases q16:v8=true
     .rw[if_pos q16]at h;rcases h with h|h
      .obtain⟨q17,h⟩:=h;unfold Zcj at q17
       try simp at q17
       obtain⟨v9,q18,h⟩:=h;unfold Zer at q18
       try simp at q18
       refine Yb ?_ h;clear h;simp +decide[*,tI,tII,Zj6]
      .obtain⟨v10,v11,q19,h⟩:=h;unfold Zcj at q19
       try simp at q19
       refine Yb ?_ h;clear h;simp +decide[*,tI,tII]
     .rw[if_neg q16]at h;refine Yb ?_ h;clear h;simp +decide[*,tI,tII]
    .rw[if_neg q14]at h;replace q14:=eq_false q14;by_cases q20:x2=3
     .rw[if_pos q20]at h;subst q20;obtain⟨v12,q21,h⟩:=h;unfold Zct at q21
      try simp at q21
      by_cases q22:v12=true
      .rw[if_pos q22]at h;rcases h with h|h
       .obtain⟨q23,h⟩:=h;unfold Zcj at q23
        try simp at q23
        obtain⟨v13,q24,h⟩:=h;unfold Zer at q24
        try simp at q24
        refine Yb ?_ h;clear h;simp +decide[*,tI,tII,Zj7]
       .obtain⟨v14,v15,q25,h⟩:=h;unfold Zcj at q25
        try simp at q25
        refine Yb ?_ h;clear h;simp +decide[*,tI,tII]
      .rw[if_neg q22]at h;refine Yb ?_ h;clear h;simp +decide[*,tI,tII]
     .rw[if_neg q20]at h;replace q20:=eq_false q20;by_cases q26:x2=4
      .rw[if_pos q26]at h;subst q26;obtain⟨v16,q27,h⟩:=h;unfold Zct at q27
       try simp at q27
       by_cases q28:v16=true
       .rw[if_pos q28]at h;rcases h with h|h
        .obtain⟨q29,h⟩:=h;unfold Zcj at q29
         try simp at q29
         obtain⟨v17,q30,h⟩:=h;unfold Zer at q30
         try simp at q30
         refine Yb ?_ h;clear h;simp +decide[*,tI,tII,Zj8]
        .obtain⟨v18,v19,q31,h⟩:=h;unfold Zcj at q31
         try simp at q31
         refine Yb ?_ h;clear h;simp +decide[*,tI,tII]
       .rw[if_neg q28]at h;refine Yb ?_ h;clear h;simp +decide[*,tI,tII]
      .rw[if_neg q26]at h;replace q26:=eq_false q26;cases h
 .rw[if_neg q1]at h;refine Yb ?_ h;clear h;simp +decide[*,tI,tII,Zj3]
theorem Zfl:(((∀o x cc x1 x2 x3 x4 r,Im (Zj4 o x cc x1 x2 x3 x4=some r) (if x4<x3 then qG x x4 (λe1=>qI (Zg2 o.Scan e1) (λv3=>if v3<1 then some (.tup [I cc,L 1 (e1.map ic),.t .nil],[])=some r else Zj4 o x cc x1 x2 x3 (w (x4+1))=some r))else Zbw o x1 (w (x2+1))=some r))/\
 ((∀o x cc x1 x2 x3 x4 r,Im (Zj5 o x cc x1 x2 x3 x4=some r) (if x4<x3 then qG x x4 (λe1=>qI (Zg2 o.Sort_ e1) (λv3=>if v3<1 then some (.tup [I cc,L 1 (e1.map ic),.t .nil],[])=some r else Zj5 o x cc x1 x2 x3 (w (x4+1))=some r))else Zbw o x1 (w (x2+1))=some r))/\
 (∀o x cc x1 x2 x3 x4 r,Im (Zj6 o x cc x1 x2 x3 x4=some r) (if x4<x3 then qG x x4 (λe1=>qI (Zg2 o.Hash e1) (λv3=>if v3<1 then some (.tup [I cc,L 1 (e1.map ic),.t .nil],[])=some r else Zj6 o x cc x1 x2 x3 (w (x4+1))=some r))else Zbw o x1 (w (x2+1))=some r))))/\
 ((∀o x cc x1 x2 x3 x4 r,Im (Zj7 o x cc x1 x2 x3 x4=some r) (if x4<x3 then qG x x4 (λe1=>qI (Zg2 o.Merge e1) (λv3=>if v3<1 then some (.tup [I cc,L 1 (e1.map ic),.t .nil],[])=some r else Zj7 o x cc x1 x2 x3 (w (x4+1))=some r))else Zbw o x1 (w (x2+1))=some r))/\
 ((∀o x cc x1 x2 x3 x4 r,Im (Zj8 o x cc x1 x2 x3 x4=some r) (if x4<x3 then qG x x4 (λe1=>qI (Zg2 o.Nested e1) (λv3=>if v3<1 then some (.tup [I cc,L 1 (e1.map ic),.t .nil],[])=some r else Zj8 o x cc x1 x2 x3 (w (x4+1))=some r))else Zbw o x1 (w (x2+1))=some r))/\
 (∀a r,Im (Zow a=some r) (Zhw a=some (.bsl 1 5,[.box (a.c.map .t),.box [.ptr 0 0,.ptr 0 6,.ptr 0 12,.ptr 0 18,.ptr 0 24]])/\Zbw a 5 0=some r)))))/\
 (((∀a r,Im (Zox a=some r) ((∃(v:List Int),∃v1,∃(v2:List Int),Zow a=some (.tup [I v1,L 1 (v2.map ic),.own 0],[.arr 3 1 true (v.map ic)])/\qb (decide (v1=0)) r)\/(∃v3,Zow a=some (.tup [I v3,.t .nil,.t .nil],[])/\qb (decide (v3=0)) r)\/(∃v4,∃(v5:List Int),Zow a=some (.tup [I v4,L 1 (v5.map ic),.t .nil],[])/\qb (decide (v4=0)) r)))/\
 ((∀a a1 a2 r,Im (Zsv a a1 a2=some r) (qB (Zsr a1 a2) (qI (Zd3 a1) (λv3=>qB (Zl3 a1 v3) (qV (Zox a) (λv6=>qb v6 r)) (qb false r))) (qb false r)))/\
 (∀cn cd x x1 x2 r,Im (Zl7 cn cd x x1 x2=some r) (if x2<x1 then qG x x2 (λe1=>qI (Zj0 e1) (λv3=>cn.length+1<=68719476736/\Zl7 (cn++[v3]) cd x x1 (w (x2+1))=some r))else qB (Zly cd) (some (.own 0,[.arr 3 1 true (cn.map ic)])=some r) (some (.t .nil,[])=some r)))))/\
 (((∀a r,Im (Ziq a=some r) (Zl7 ([]:List Int) a a (a.length:Int) 0=some r))/\
 (∀q cl x x1 x2 r,Im (Zsw q cl x x1 x2=some r) (if x2<x1 then qG x x2 (λe1=>qB (Zba e1 0 4096) (Zsw q cl x x1 (w (x2+1))=some r) (qb false r))else qB (Zg1 q) (qI (Zd3 q) (λv6=>qb (decide ((cl.length:Int)=(w (v6+1)))) r)) (qb false r))))/\
 ((∀a a1 r,Im (Zl8 a a1=some r) (Zsw a a1 a1 (a1.length:Int) 0=some r))/\
 (∀a a1 a2 a3 r,Im (Zcl a a1 a2 a3=some r) (qB (Zct a) (qB (Zba a1 0 4096) (qB (Zba a2 0 4096) (qB (Zba a3 0 4096) (qI (Zou a a1 a2 a3) (λv7=>qi v7 r)) (qi 0 r)) (qi 0 r)) (qi 0 r)) (qi 0 r)))))):=by
 and_intros
 all_goals(intros;unfold Im;(try simp only[Zj4,Zj5,Zj6,Zj7,Zj8,Zow,Zox,Zsv,Zl7,Ziq,Zsw,Zl8,Zcl,Zg2,Zm.c_def,Zhw,Ze.c_def,Zsr,Zd3,Zl3,Box.c_def,Plan.c_def,Zc.c_def,Region.c_def,Zj0,Zly,Zba,Zg1,Zct,Zou,Zbw,mpl,dfs,qs]);(try simp only[itb]);(try simp only[itf,gS,kk]))
 all_goals(repeat' first|refine exI λ_=>?_|refine anJ λ_ _=>?_|refine anI λ_=>?_|refine orE2 ?_ ?_|exact False.elim)
 all_goals(intro h;first|rw[Zl Zl5.eq_1]|refine run Zbt7 rfl ?_|refine run Zbt8 rfl ?_|refine run Zbt9 rfl ?_|rw[Zl Z4f.eq_1]|refine run Zbua rfl ?_|rw[Zl Z4h.eq_1]|refine run Zbub rfl ?_|refine run Zbuc rfl ?_)
 all_goals (refine Yb ?_ h;clear h;simp +decide[*,kk,tI,tII,Zl6,Zbfu,Zbfv,Zbfw,Z4g,Zbfx,Z4i,Zbfy,Zbfz])
abbrev Zbj8:=uq Zfl.1.1.1
abbrev Zbj9:=uq Zfl.1.1.2.1
abbrev Zbka:=uq Zfl.1.1.2.2
abbrev Zbkb:=uq Zfl.1.2.1
abbrev Zbkc:=uq Zfl.1.2.2.1
abbrev Zbzh:=uq Zfl.1.2.2.2
abbrev Zbzi:=uq Zfl.2.1.1
abbrev Zbzj:=uq Zfl.2.1.2.1
abbrev Z6p:=uq Zfl.2.1.2.2
abbrev Zbkd:=uq Zfl.2.2.1.1
abbrev Zbke:=uq Zfl.2.2.1.2
abbrev Zbzk:=uq Zfl.2.2.2.1
abbrev Zbzl:=uq Zfl.2.2.2.2
end Go.Proofs.YtcfaekfjkeobhaaGreat
