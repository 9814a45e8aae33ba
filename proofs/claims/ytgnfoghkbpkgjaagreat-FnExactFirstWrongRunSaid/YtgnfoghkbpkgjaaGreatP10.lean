/-
  Parts of the proofs for this seat: G5 G6 G7 G8 G9 G10 G11 G12 G13 G14 V1 V2.
-/
import Derived.Test.YtgnfoghkbpkgjaaGreatP7
import Derived.Test.YtgnfoghkbpkgjaaGreatP9
set_option linter.unusedSimpArgs false
set_option linter.unusedVariables false
set_option maxRecDepth 100000
set_option maxHeartbeats 4000000
namespace Go.Proofs.YtgnfoghkbpkgjaaGreat
open Go.AM
theorem Zeg:(∀⦃b a b1 x x1 x2 x3 r⦄,Im (Zn3 b a b1 x x1 x2 x3=some r) (if x3<x2 then(0≤x3∧(∃e1,x1[x3.toNat]?=some e1∧(Zn4 b a b1 x e1 x1 x2 x3 b.Rows (b.Rows.length:Int) 0=some r)))else(Zny a b1 x=some (.tup [.agg [.own 1,.t .nil],Bo true],[.box [L 1 (a.Vars.map ic),L 1 (a.Rows.map isc),L 1 (b1.Vars.map ic),L 1 (b1.Rows.map isc),.own 1,.t .nil],.arr 3 1 true (x.map ic)])∧(some (.tup [.agg [.own 0,.t .nil],Bo true],[.arr 3 1 true (x.map ic)])=some r)))) ∧
 (∀⦃b a b1 x x1 x2 x3 x4 x5 x6 x7 r⦄,Im (Zn4 b a b1 x x1 x2 x3 x4 x5 x6 x7=some r) (if x7<x6 then(0≤x7∧(∃e1,x5[x7.toNat]?=some e1∧((∃(v1:Za) (v2:Za) (v3:List Int),Zg5 a b1 x x1 e1=some (.tup [],[.box [L 1 (v1.Vars.map ic),L 1 (v1.Rows.map isc),L 1 (v2.Vars.map ic),L 1 (v2.Rows.map isc),.own 1,.t .nil],.arr 3 1 true (v3.map ic)])∧(Zn4 b v1 v2 v3 x1 x2 x3 x4 x5 x6 (w (x7+1))=some r))∨(∃(v5:Za) (v6:Za) (v7:List Int) (v8:List (List Int)),Zg5 a b1 x x1 e1=some (.tup [],[.box [L 1 (v5.Vars.map ic),L 1 (v5.Rows.map isc),L 1 (v6.Vars.map ic),L 1 (v6.Rows.map isc),.own 1,.own 2],.arr 3 1 true (v7.map ic),.arr 30 1 true (v8.map isc)])∧(Zi1 b v5 v6 v7 v8 x1 x2 x3 x4 x5 x6 (w (x7+1))=some r)))))else(Zn3 b a b1 x x2 x3 (w (x4+1))=some r))) ∧
 (∀⦃b a b1 x x1 x2 x3 x4 x5 x6 x7 x8 r⦄,Im (Zi1 b a b1 x x1 x2 x3 x4 x5 x6 x7 x8=some r) (if x8<x7 then(0≤x8∧(∃e1,x6[x8.toNat]?=some e1∧((∃(v1:Za) (v2:Za) (v3:List Int) (v4:List (List Int)),Zg6 a b1 x x1 x2 e1=some (.tup [],[.box [L 1 (v1.Vars.map ic),L 1 (v1.Rows.map isc),L 1 (v2.Vars.map ic),L 1 (v2.Rows.map isc),.own 1,.own 2],.arr 3 1 true (v3.map ic),.arr 30 1 true (v4.map isc)])∧(Zi1 b v1 v2 v3 v4 x2 x3 x4 x5 x6 x7 (w (x8+1))=some r))∨(∃(v5:Za) (v6:Za) (v7:List Int) (v8:List (List Int)),Zg6 a b1 x x1 x2 e1=some (.tup [],[.box [L 1 (v5.Vars.map ic),L 1 (v5.Rows.map isc),L 1 (v6.Vars.map ic),L 1 (v6.Rows.map isc),.own 1,.own 3],.arr 3 1 true (v7.map ic),.dead,.arr 30 1 true (v8.map isc)])∧(Zi1 b v5 v6 v7 v8 x2 x3 x4 x5 x6 x7 (w (x8+1))=some r)))))else(if 4096<(x1.length:Int)then((Ze1 a b1 x x1=some (.tup [.agg [.t .nil,.t .nil],Bo false],[.box [L 1 (a.Vars.map ic),L 1 (a.Rows.map isc),L 1 (b1.Vars.map ic),L 1 (b1.Rows.map isc),.own 1,.own 2],.arr 3 1 true (x.map ic),.arr 30 1 true (x1.map isc)])∧(some (.tup [.agg [.t .nil,.t .nil],Bo false],[])=some r))∨(Ze1 a b1 x x1=some (.tup [.agg [.own 1,.own 2],Bo true],[.box [L 1 (a.Vars.map ic),L 1 (a.Rows.map isc),L 1 (b1.Vars.map ic),L 1 (b1.Rows.map isc),.own 1,.own 2],.arr 3 1 true (x.map ic),.arr 30 1 true (x1.map isc)])∧(some (.tup [.agg [.own 0,.own 1],Bo true],[.arr 3 1 true (x.map ic),.arr 30 1 true (x1.map isc)])=some r)))else(Zn5 b a b1 x x1 x3 x4 (w (x5+1))=some r)))) ∧
 (∀⦃b a b1 x x1 x2 x3 x4 r⦄,Im (Zn5 b a b1 x x1 x2 x3 x4=some r) (if x4<x3 then(0≤x4∧(∃e1,x2[x4.toNat]?=some e1∧(Zi1 b a b1 x x1 e1 x2 x3 x4 b.Rows (b.Rows.length:Int) 0=some r)))else((Ze1 a b1 x x1=some (.tup [.agg [.t .nil,.t .nil],Bo false],[.box [L 1 (a.Vars.map ic),L 1 (a.Rows.map isc),L 1 (b1.Vars.map ic),L 1 (b1.Rows.map isc),.own 1,.own 2],.arr 3 1 true (x.map ic),.arr 30 1 true (x1.map isc)])∧(some (.tup [.agg [.t .nil,.t .nil],Bo false],[])=some r))∨(Ze1 a b1 x x1=some (.tup [.agg [.own 1,.own 2],Bo true],[.box [L 1 (a.Vars.map ic),L 1 (a.Rows.map isc),L 1 (b1.Vars.map ic),L 1 (b1.Rows.map isc),.own 1,.own 2],.arr 3 1 true (x.map ic),.arr 30 1 true (x1.map isc)])∧(some (.tup [.agg [.own 0,.own 1],Bo true],[.arr 3 1 true (x.map ic),.arr 30 1 true (x1.map isc)])=some r))))) ∧
 (∀⦃a a1 r⦄,Im (Zf6 a a1=some r) (∃v,Zc5 a=some (Bo v,[])∧(if v=true then(∃v1,Zc5 a1=some (Bo v1,[])∧(if v1=true then(∃(v5:Za) (v6:Za) (v7:List Int),Zk2 a a1=some (.ptr 0 0,[.box [L 1 (v5.Vars.map ic),L 1 (v5.Rows.map isc),L 1 (v6.Vars.map ic),L 1 (v6.Rows.map isc),.own 1,.t .nil],.arr 3 1 true (v7.map ic)])∧(Zn3 a1 v5 v6 v7 a.Rows (a.Rows.length:Int) 0=some r))else(some (.tup [.agg [.t .nil,.t .nil],Bo false],[])=some r)))else(some (.tup [.agg [.t .nil,.t .nil],Bo false],[])=some r)))) ∧
 (∀⦃a a1 a2 r⦄,Im (Zk8 a a1 a2=some r) (∃v,Zk5 a a2=some (Bo v,[])∧(if v=true then(∃v1,Zk5 a1 a2=some (Bo v1,[])∧(if v1=true then((Zf6 a a1=some (.tup [.agg [.t .nil,.t .nil],Bo false],[])∧(some (.tup [.agg [.t .nil,.t .nil],Bo false],[])=some r))∨(∃(v9:List Int),Zf6 a a1=some (.tup [.agg [.own 0,.t .nil],Bo true],[.arr 3 1 true (v9.map ic)])∧(some (.tup [.agg [.own 0,.t .nil],Bo true],[.arr 3 1 true (v9.map ic)])=some r))∨(∃(v11:List Int) (v12:List (List Int)),Zf6 a a1=some (.tup [.agg [.own 0,.own 1],Bo true],[.arr 3 1 true (v11.map ic),.arr 30 1 true (v12.map isc)])∧(some (.tup [.agg [.own 0,.own 1],Bo true],[.arr 3 1 true (v11.map ic),.arr 30 1 true (v12.map isc)])=some r)))else(some (.tup [.agg [.t .nil,.t .nil],Bo false],[])=some r)))else(some (.tup [.agg [.t .nil,.t .nil],Bo false],[])=some r)))) ∧
 (∀⦃db q cd fr cc x x1 x2 r⦄,Im (Zde db q cd fr cc x x1 x2=some r) (if x2<x1 then(0≤x2∧(∃e1,x[x2.toNat]?=some e1∧(if e1.Kind=1 then((Zio db q e1.Atom=some (.tup [.agg [.t .nil,.t .nil],Bo false],[])∧(some (.tup [.t .nil,.t .nil,Bo false],[])=some r))∨(∃(v5:List Int),Zio db q e1.Atom=some (.tup [.agg [.own 0,.t .nil],Bo true],[.arr 3 1 true (v5.map ic)])∧(cc.length+1≤68719476736∧(Zde db q cd fr (cc++[(⟨v5,[]⟩:Za)]) x x1 (w (x2+1))=some r)))∨(∃(v9:List Int) (v10:List (List Int)),Zio db q e1.Atom=some (.tup [.agg [.own 0,.own 1],Bo true],[.arr 3 1 true (v9.map ic),.arr 30 1 true (v10.map isc)])∧(cc.length+1≤68719476736∧(Zde db q cd fr (cc++[(⟨v9,v10⟩:Za)]) x x1 (w (x2+1))=some r))))else(if e1.Kind=2 then(∃e5,cd[x2.toNat]?=some e5∧(0≤e5.Left∧(∃e6,cc[e5.Left.toNat]?=some e6∧((Zk1 e6 e1.Order=some (.tup [.agg [.t .nil,.t .nil],Bo false],[])∧(some (.tup [.t .nil,.t .nil,Bo false],[])=some r))∨(∃(v13:List Int),∃v14,∃(v15:List (List Int)),Zk1 e6 e1.Order=some (.tup [.agg [.own 0,.own 1],Bo true],[.arr 3 1 true (v13.map ic),.arr 30 1 v14 (v15.map isc)])∧(cc.length+1≤68719476736∧(Zde db q cd (fr && v14) (cc++[(⟨v13,v15⟩:Za)]) x x1 (w (x2+1))=some r)))))))else(if e1.Kind=3 then(∃e9,cd[x2.toNat]?=some e9∧(0≤e9.Left∧(∃e10,cc[e9.Left.toNat]?=some e10∧(0≤e9.Right∧(∃e11,cc[e9.Right.toNat]?=some e11∧((Ziz e10 e11=some (.tup [.agg [.t .nil,.t .nil],Bo false],[])∧(some (.tup [.t .nil,.t .nil,Bo false],[])=some r))∨(∃(v16:List Int),Ziz e10 e11=some (.tup [.agg [.own 0,.t .nil],Bo true],[.arr 3 1 true (v16.map ic)])∧(cc.length+1≤68719476736∧(Zde db q cd fr (cc++[(⟨v16,[]⟩:Za)]) x x1 (w (x2+1))=some r)))∨(∃(v17:List Int) (v18:List (List Int)),Ziz e10 e11=some (.tup [.agg [.own 0,.own 1],Bo true],[.arr 3 1 true (v17.map ic),.arr 30 1 true (v18.map isc)])∧(cc.length+1≤68719476736∧(Zde db q cd fr (cc++[(⟨v17,v18⟩:Za)]) x x1 (w (x2+1))=some r)))))))))else(if e1.Kind=4 then(∃e15,cd[x2.toNat]?=some e15∧(0≤e15.Left∧(∃e16,cc[e15.Left.toNat]?=some e16∧(0≤e15.Right∧(∃e17,cc[e15.Right.toNat]?=some e17∧((Zk8 e16 e17 e1.Order=some (.tup [.agg [.t .nil,.t .nil],Bo false],[])∧(some (.tup [.t .nil,.t .nil,Bo false],[])=some r))∨(∃(v19:List Int),Zk8 e16 e17 e1.Order=some (.tup [.agg [.own 0,.t .nil],Bo true],[.arr 3 1 true (v19.map ic)])∧(cc.length+1≤68719476736∧(Zde db q cd fr (cc++[(⟨v19,[]⟩:Za)]) x x1 (w (x2+1))=some r)))∨(∃(v20:List Int) (v21:List (List Int)),Zk8 e16 e17 e1.Order=some (.tup [.agg [.own 0,.own 1],Bo true],[.arr 3 1 true (v20.map ic),.arr 30 1 true (v21.map isc)])∧(cc.length+1≤68719476736∧(Zde db q cd fr (cc++[(⟨v20,v21⟩:Za)]) x x1 (w (x2+1))=some r)))))))))else(∃e21,cd[x2.toNat]?=some e21∧(0≤e21.Left∧(∃e22,cc[e21.Left.toNat]?=some e22∧(0≤e21.Right∧(∃e23,cc[e21.Right.toNat]?=some e23∧((Zf6 e22 e23=some (.tup [.agg [.t .nil,.t .nil],Bo false],[])∧(some (.tup [.t .nil,.t .nil,Bo false],[])=some r))∨(∃(v22:List Int),Zf6 e22 e23=some (.tup [.agg [.own 0,.t .nil],Bo true],[.arr 3 1 true (v22.map ic)])∧(cc.length+1≤68719476736∧(Zde db q cd fr (cc++[(⟨v22,[]⟩:Za)]) x x1 (w (x2+1))=some r)))∨(∃(v23:List Int) (v24:List (List Int)),Zf6 e22 e23=some (.tup [.agg [.own 0,.own 1],Bo true],[.arr 3 1 true (v23.map ic),.arr 30 1 true (v24.map isc)])∧(cc.length+1≤68719476736∧(Zde db q cd fr (cc++[(⟨v23,v24⟩:Za)]) x x1 (w (x2+1))=some r)))))))))))))))else(some (.tup [.own 0,.own 1,Bo true],[.arr 209 4 true (cd.map Zb.c),.arr 199 2 fr (cc.map Za.c)])=some r))) ∧
 (∀⦃a a1 a2 r⦄,Im (Zi2 a a1 a2=some r) ((Zkv a1 a2=some (.tup [.t .nil,Bo false],[])∧(some (.tup [.t .nil,.t .nil,Bo false],[])=some r))∨(∃(v1:List Zb),Zkv a1 a2=some (.tup [.own 0,Bo true],[.arr 209 4 true (v1.map Zb.c)])∧(∃v5,Zkx a a1=some (Bo v5,[])∧(if v5=true then(Zde a a1 v1 true ([]:List Za) a2.Steps (a2.Steps.length:Int) 0=some r)else(some (.tup [.t .nil,.t .nil,Bo false],[])=some r)))))) ∧
 (∀⦃x r⦄,Im (Zd4 x=some r) (some (.bsl 1 5,[.box (x.c.map .t),.box [.ptr 0 0,.ptr 0 6,.ptr 0 12,.ptr 0 18,.ptr 0 24]])=some r)) ∧
 (∀⦃x r⦄,Im (Zrv x=some r) (some (.bsl 1 5,[.box (x.c.map .t),.box [.ptr 0 0,.ptr 0 1,.ptr 0 2,.ptr 0 3,.ptr 0 4]])=some r)) ∧
 (∀⦃o x x1 x2 r⦄,Im (Zg7 o x x1 x2=some r) (if x2<x1 then(0≤x2∧(∃e1,x[x2.toNat]?=some e1∧(∃v1,Z6 e1.Add (-99) 99=some (Bo v1,[])∧(if v1=true then(∃v5,Z6 e1.From 1 8192=some (Bo v5,[])∧(if v5=true then(if 0<x2 then(0≤(w (x2-1))∧(∃e4,o.Steps[(w (x2-1)).toNat]?=some e4∧(if e1.From≤e4.From then(some (Bo false,[])=some r)else(Zg7 o x x1 (w (x2+1))=some r))))else(Zg7 o x x1 (w (x2+1))=some r))else(some (Bo false,[])=some r)))else(some (Bo false,[])=some r)))))else(some (Bo (decide ((o.Steps.length:Int)≤4)),[])=some r))) ∧
 (∀⦃a r⦄,Im (Zb6 a=some r) (Zrv a=some (.bsl 1 5,[.box (a.c.map .t),.box [.ptr 0 0,.ptr 0 1,.ptr 0 2,.ptr 0 3,.ptr 0 4]])∧(Zdf a 5 0=some r))):=by
 and_intros
 all_goals intros
 all_goals unfold Im
 all_goals try simp only[Zn3,Zn4,Zi1,Zn5,Zf6,Zk8,Zde,Zi2,Zd4,Zrv,Zg7,Zb6,Zny,Za.c_def,Zg5,Zg6,Ze1,Zc5,Zk2,Zk5,Zio,Zk1,Ziz,Zk.c_def,Zd.c_def,Zkv,Zkx,Plan.c_def,Z6,Zh.c_def,Zdf,mpl,dfs]
 all_goals try simp only[itb]
 all_goals try simp only[itf,gS,kk]
 all_goals repeat' first|refine exI fun _=>?_|refine anJ fun _ _=>?_|refine anI fun _=>?_|refine orE2 ?_ ?_|exact False.elim
 all_goals (intro h;first|rw[Ze Zk6.eq_1]|rw[Ze Zrs.eq_1]|refine run Zbkc rfl ?_|refine run Zbkd rfl ?_|rw[Ze Zw3.eq_1]|refine run Zbke rfl ?_|refine runM Zbkf rfl ?_|refine runM Zbkg rfl ?_|rw[Ze Zw6.eq_1]|refine run Zbkh rfl ?_)
 all_goals (refine Yb ?_ h;clear h;simp +decide[*,kk,tI,tII,Zk7,Zru,Zrt,Z5j,Z5k,Z5l,Zw4,Z5m,Z5n,Z5o,Zw7,Z5p])
abbrev Z83:=Zeg.1
abbrev Z84:=Zeg.2.1
abbrev Z85:=Zeg.2.2.1
abbrev Z86:=Zeg.2.2.2.1
abbrev Zbnl:=Zeg.2.2.2.2.1
abbrev Zbnm:=Zeg.2.2.2.2.2.1
abbrev Zsw:=Zeg.2.2.2.2.2.2.1
abbrev Zzp:=Zeg.2.2.2.2.2.2.2.1
abbrev Z87:=Zeg.2.2.2.2.2.2.2.2.1
abbrev Zbnn:=Zeg.2.2.2.2.2.2.2.2.2.1
abbrev Z88:=Zeg.2.2.2.2.2.2.2.2.2.2.1
abbrev Zbno:=Zeg.2.2.2.2.2.2.2.2.2.2.2
theorem Zl9{o:Zh}{x x1:Int}{r:AV×List Blk}(h:(if x1<x then(if x1=0 then(∃(v:Bool),Z6 o.Fixed (-99) 99=some (Bo v,[])∧(if v=true then(Zdf o x (w (x1+1))=some r)else(some (Bo false,[])=some r)))else(if x1=1 then(∃(v1:Bool),Z6 o.Z2 (-99) 99=some (Bo v1,[])∧(if v1=true then(Zdf o x (w (x1+1))=some r)else(some (Bo false,[])=some r)))else(if x1=2 then(∃(v2:Bool),Z6 o.Z3 (-99) 99=some (Bo v2,[])∧(if v2=true then(Zdf o x (w (x1+1))=some r)else(some (Bo false,[])=some r)))else(if x1=3 then(∃(v3:Bool),Z6 o.Z4 (-99) 99=some (Bo v3,[])∧(if v3=true then(Zdf o x (w (x1+1))=some r)else(some (Bo false,[])=some r)))else(if x1=4 then(∃(v4:Bool),Z6 o.Z5 (-99) 99=some (Bo v4,[])∧(if v4=true then(Zdf o x (w (x1+1))=some r)else(some (Bo false,[])=some r)))else False)))))else(Zg7 o o.Steps (o.Steps.length:Int) 0=some r))):Zdf o x x1=some r:=by
 unfold Zdf;rw[Ze Zw5.eq_1];by_cases q1:x1<x
 ·rw[if_pos q1]at h;by_cases q2:x1=0
  ·rw[if_pos q2]at h;subst q2;obtain⟨v,q3,h⟩:=h;unfold Z6 at q3
   try simp at q3
   by_cases q4:v=true
   ·rw[if_pos q4]at h;refine Yb ?_ h;clear h;simp +decide[*,tI,tII,Zdf]
   ·rw[if_neg q4]at h;refine Yb ?_ h;clear h;simp +decide[*,tI,tII]
  ·rw[if_neg q2]at h;replace q2:=eq_false q2;by_cases q5:x1=1
   ·rw[if_pos q5]at h;subst q5;obtain⟨v1,q6,h⟩:=h;unfold Z6 at q6
    try simp at q6
    by_cases q7:v1=true
    ·rw[if_pos q7]at h;refine Yb ?_ h;clear h;simp +decide[*,tI,tII,Zdf]
    ·rw[if_neg q7]at h;refine Yb ?_ h;clear h;simp +decide[*,tI,tII]
   ·rw[if_neg q5]at h;replace q5:=eq_false q5;by_cases q8:x1=2
    ·rw[if_pos q8]at h;subst q8;obtain⟨v2,q9,h⟩:=h;unfold Z6 at q9
     try simp at q9
     by_cases q10:v2=true
     ·rw[if_pos q10]at h;refine Yb ?_ h;clear h;simp +decide[*,tI,tII,Zdf]
     ·rw[if_neg q10]at h;refine Yb ?_ h;clear h;simp +decide[*,tI,tII]
    ·rw[if_neg q8]at h;replace q8:=eq_false q8;by_cases q11:x1=3
     ·rw[if_pos q11]at h;subst q11;obtain⟨v3,q12,h⟩:=h;unfold Z6 at q12
      try simp at q12
      by_cases q13:v3=true
      ·rw[if_pos q13]at h;refine Yb ?_ h;clear h;simp +decide[*,tI,tII,Zdf]
      ·rw[if_neg q13]at h;refine Yb ?_ h;clear h;simp +decide[*,tI,tII]
     ·rw[if_neg q11]at h;replace q11:=eq_false q11;by_cases q14:x1=4
      ·rw[if_pos q14]at h;subst q14;obtain⟨v4,q15,h⟩:=h;unfold Z6 at q15
       try simp at q15
       by_cases q16:v4=true
       ·rw[if_pos q16]at h;refine Yb ?_ h;clear h;simp +decide[*,tI,tII,Zdf]
       ·rw[if_neg q16]at h;refine Yb ?_ h;clear h;simp +decide[*,tI,tII]
      ·rw[if_neg q14]at h;replace q14:=eq_false q14;cases h
 ·rw[if_neg q1]at h;refine Yb ?_ h;clear h;simp +decide[*,tI,tII,Zg7,Zw8]
theorem Zeh:(∀⦃cc a r⦄,Im (Zk9 cc a=some r) (if a≤7 then(Zi3 cc a 0=some r)else(some (.own 0,[.arr 30 1 true (cc.map isc)])=some r))) ∧
 (∀⦃cc a b r⦄,Im (Zi3 cc a b=some r) (if b≤7 then(Zla cc a b 0=some r)else(Zk9 cc (w (a+1))=some r))) ∧
 (∀⦃cc a b c r⦄,Im (Zla cc a b c=some r) (if c≤7 then(cc.length+1≤68719476736∧(Zla (cc++[[a,b,c]]) a b (w (c+1))=some r))else(Zi3 cc a (w (b+1))=some r))) ∧
 (∀⦃r⦄,Im (Zdg=some r) (Zk9 ([]:List (List Int)) 0=some r)) ∧
 (∀⦃a r⦄,Im (Zfi a=some r) (∃v,Z6 a 0 7=some (Bo v,[])∧(if v=true then(if a=0 then(some (I 0,[])=some r)else(¬(w (2*(w (a-1))))<0∧(some (I (shlI 1 (w (2*(w (a-1))))),[])=some r)))else(some (I (-1),[])=some r)))) ∧
 (∀⦃cl cd n x x1 x2 r⦄,Im (Zlb cl cd n x x1 x2=some r) (if x2<x1 then(0≤x2∧(∃e1,x[x2.toNat]?=some e1∧(if e1.From≤(w (cl+cd))then(Zlb cl cd (w (n+e1.Add)) x x1 (w (x2+1))=some r)else(Zlb cl cd n x x1 (w (x2+1))=some r))))else(some (I n,[])=some r))) ∧
 (∀⦃a a1 a2 a3 r⦄,Im (Zi4 a a1 a2 a3=some r) (Zlb a1 a2 (w ((w ((w ((w (a.Fixed+(w (a.Z2*a1))))+(w (a.Z3*a2))))+(w (a.Z4*a3))))+(w ((w (a.Z5*a1))*a2)))) a.Steps (a.Steps.length:Int) 0=some r)) ∧
 (∀⦃a a1 r⦄,Im (Ze2 a a1=some r) (∃e1,a1[0]?=some e1∧(∃v1,Zfi e1=some (I v1,[])∧(∃e3,a1[1]?=some e3∧(∃v2,Zfi e3=some (I v2,[])∧(∃e5,a1[2]?=some e5∧(∃v4,Zfi e5=some (I v4,[])∧(∃v5,Zi4 a v1 v2 v4=some (I v5,[])∧(some (I v5,[])=some r))))))))) ∧
 (∀⦃o x x1 x2 r⦄,Im (Zg8 o x x1 x2=some r) (if x2<x1 then(0≤x2∧(∃e1,x[x2.toNat]?=some e1∧(Zd5 o x e1 x1 x2 (e1.length:Int) 0=some r)))else(some (.tup [.t .nil,.t .nil,Bo false],[])=some r))) ∧
 (∀⦃o x t x1 x2 x3 x4 r⦄,Im (Zd5 o x t x1 x2 x3 x4=some r) (if x4<x3 then(0≤x4∧(∃e1,t[x4.toNat]?=some e1∧(if e1=7 then(Zd5 o x t x1 x2 x3 (w (x4+1))=some r)else(∃(v1:List Int),Zc4 t=some (.own 0,[.arr 3 1 true (v1.map ic)])∧(∃e3,v1[x4.toNat]?=some e3∧(∃v2,Ze2 o (v1.set x4.toNat (w (e3+1)))=some (I v2,[])∧(∃v3,Ze2 o t=some (I v3,[])∧(if v2<v3 then(some (.tup [L 1 (t.map ic),.own 0,Bo true],[.arr 3 1 true ((v1.set x4.toNat (w (e3+1))).map ic)])=some r)else(Zd5 o x t x1 x2 x3 (w (x4+1))=some r)))))))))else(Zg8 o x x1 (w (x2+1))=some r))) ∧
 (∀⦃a r⦄,Im (Zbz a=some r) (∃v,Zb6 a=some (Bo v,[])∧(if v=true then(∃(v1:List (List Int)),Zdg=some (.own 0,[.arr 30 1 true (v1.map isc)])∧(Zg8 a v1 (v1.length:Int) 0=some r))else(some (.tup [.t .nil,.t .nil,Bo false],[])=some r)))) ∧
 (∀⦃o x cn x1 x2 x3 x4 r⦄,Im (Zhd o x cn x1 x2 x3 x4=some r) (if x4<x3 then(0≤x4∧(∃e1,x[x4.toNat]?=some e1∧(∃v1,Ze2 o.Scan e1=some (I v1,[])∧(if v1<1 then(some (.tup [I cn,L 1 (e1.map ic),.t .nil],[])=some r)else(Zhd o x cn x1 x2 x3 (w (x4+1))=some r)))))else(Zbl o x1 (w (x2+1))=some r))):=by
 and_intros
 all_goals intros
 all_goals unfold Im
 all_goals try simp only[Zk9,Zi3,Zla,Zdg,Zfi,Zlb,Zi4,Ze2,Zg8,Zd5,Zbz,Zhd,Z6,Zh.c_def,Zc4,Zb6,Zbl,mpl,dfs]
 all_goals try simp only[itb]
 all_goals try simp only[itf,gS,kk]
 all_goals repeat' first|refine exI fun _=>?_|refine anJ fun _ _=>?_|refine anI fun _=>?_|refine orE2 ?_ ?_|exact False.elim
 all_goals (intro h;first|rw[Ze Zn6.eq_1]|rw[Ze Zrw.eq_1]|rw[Ze Zw9.eq_1]|refine run Zbki rfl ?_|refine run Zbkj rfl ?_|rw[Ze Zxb.eq_1]|refine run Zbkk rfl ?_|refine run Zbkl rfl ?_|rw[Ze Zry.eq_1]|rw[Ze Zxd.eq_1]|refine run Zbkm rfl ?_|rw[Ze Zg9.eq_1])
 all_goals (refine Yb ?_ h;clear h;simp +decide[*,kk,tI,tII,Zn7,Zrx,Zxa,Z5q,Z5r,Z5s,Zxc,Z5t,Z5u,Zrz,Z5v,Zxe,Z5w,Zha])
abbrev Z89:=Zeh.1
abbrev Z9a:=Zeh.2.1
abbrev Z9b:=Zeh.2.2.1
abbrev Zbnp:=Zeh.2.2.2.1
abbrev Zbnq:=Zeh.2.2.2.2.1
abbrev Z9c:=Zeh.2.2.2.2.2.1
abbrev Zbnr:=Zeh.2.2.2.2.2.2.1
abbrev Zbns:=Zeh.2.2.2.2.2.2.2.1
abbrev Z9d:=Zeh.2.2.2.2.2.2.2.2.1
abbrev Zzq:=Zeh.2.2.2.2.2.2.2.2.2.1
abbrev Zbnt:=Zeh.2.2.2.2.2.2.2.2.2.2.1
abbrev Z9e:=Zeh.2.2.2.2.2.2.2.2.2.2.2
theorem Zma:(∀⦃o x cc x1 x2 x3 x4 r⦄,Im (Zhe o x cc x1 x2 x3 x4=some r) (if x4<x3 then(0≤x4∧(∃e1,x[x4.toNat]?=some e1∧(∃v3,Ze2 o.Sort_ e1=some (I v3,[])∧(if v3<1 then(some (.tup [I cc,L 1 (e1.map ic),.t .nil],[])=some r)else(Zhe o x cc x1 x2 x3 (w (x4+1))=some r)))))else(Zbl o x1 (w (x2+1))=some r))) ∧
 (∀⦃o x cc x1 x2 x3 x4 r⦄,Im (Zhf o x cc x1 x2 x3 x4=some r) (if x4<x3 then(0≤x4∧(∃e1,x[x4.toNat]?=some e1∧(∃v3,Ze2 o.Hash e1=some (I v3,[])∧(if v3<1 then(some (.tup [I cc,L 1 (e1.map ic),.t .nil],[])=some r)else(Zhf o x cc x1 x2 x3 (w (x4+1))=some r)))))else(Zbl o x1 (w (x2+1))=some r))) ∧
 (∀⦃o x cc x1 x2 x3 x4 r⦄,Im (Zhg o x cc x1 x2 x3 x4=some r) (if x4<x3 then(0≤x4∧(∃e1,x[x4.toNat]?=some e1∧(∃v3,Ze2 o.Merge e1=some (I v3,[])∧(if v3<1 then(some (.tup [I cc,L 1 (e1.map ic),.t .nil],[])=some r)else(Zhg o x cc x1 x2 x3 (w (x4+1))=some r)))))else(Zbl o x1 (w (x2+1))=some r))) ∧
 (∀⦃o x cc x1 x2 x3 x4 r⦄,Im (Zhh o x cc x1 x2 x3 x4=some r) (if x4<x3 then(0≤x4∧(∃e1,x[x4.toNat]?=some e1∧(∃v3,Ze2 o.Nested e1=some (I v3,[])∧(if v3<1 then(some (.tup [I cc,L 1 (e1.map ic),.t .nil],[])=some r)else(Zhh o x cc x1 x2 x3 (w (x4+1))=some r)))))else(Zbl o x1 (w (x2+1))=some r))) ∧
 (∀⦃a r⦄,Im (Zlc a=some r) (Zd4 a=some (.bsl 1 5,[.box (a.c.map .t),.box [.ptr 0 0,.ptr 0 6,.ptr 0 12,.ptr 0 18,.ptr 0 24]])∧(Zbl a 5 0=some r))) ∧
 (∀⦃a r⦄,Im (Zn8 a=some r) ((∃(v:List Int),∃v1,∃(v2:List Int),Zlc a=some (.tup [I v1,L 1 (v2.map ic),.own 0],[.arr 3 1 true (v.map ic)])∧(some (Bo (decide (v1=0)),[])=some r))∨(∃v3,Zlc a=some (.tup [I v3,.t .nil,.t .nil],[])∧(some (Bo (decide (v3=0)),[])=some r))∨(∃v4,∃(v5:List Int),Zlc a=some (.tup [I v4,L 1 (v5.map ic),.t .nil],[])∧(some (Bo (decide (v4=0)),[])=some r)))):=by
 and_intros
 all_goals intros
 all_goals unfold Im
 all_goals try simp only[Zhe,Zhf,Zhg,Zhh,Zlc,Zn8,Ze2,Zh.c_def,Zd4,Zj.c_def,Zbl,mpl,dfs]
 all_goals try simp only[itb]
 all_goals try simp only[itf,gS,kk]
 all_goals repeat' first|refine exI fun _=>?_|refine anJ fun _ _=>?_|refine anI fun _=>?_|refine orE2 ?_ ?_|exact False.elim
 all_goals (intro h;first|rw[Ze Zg9.eq_1]|refine run Zbkn rfl ?_|refine run Zbko rfl ?_)
 all_goals (refine Yb ?_ h;clear h;simp +decide[*,kk,tI,tII,Zha,Z5x,Z5y])
abbrev Z9f:=Zma.1
abbrev Z9g:=Zma.2.1
abbrev Z9h:=Zma.2.2.1
abbrev Z9i:=Zma.2.2.2.1
abbrev Zbnu:=Zma.2.2.2.2.1
abbrev Zbnv:=Zma.2.2.2.2.2
theorem Zmb{x:Zj}{x1 x2:Int}{r:AV×List Blk}(h:(if x2<x1 then(if x2=0 then(∃(v:Bool),Zb6 x.Scan=some (Bo v,[])∧(if v=true then((Zbz x.Scan=some (.tup [.t .nil,.t .nil,Bo false],[])∧(∃(v1:List (List Int)),Zdg=some (.own 0,[.arr 30 1 true (v1.map isc)])∧(Zhd x v1 (w (1+x2)) x1 x2 (v1.length:Int) 0=some r)))∨(∃(v2:List Int) (v3:List Int),Zbz x.Scan=some (.tup [L 1 (v3.map ic),.own 0,Bo true],[.arr 3 1 true (v2.map ic)])∧(some (.tup [I (w (1+x2)),L 1 (v3.map ic),.own 0],[.arr 3 1 true (v2.map ic)])=some r)))else(some (.tup [I (w (1+x2)),.t .nil,.t .nil],[])=some r)))else(if x2=1 then(∃(v4:Bool),Zb6 x.Sort_=some (Bo v4,[])∧(if v4=true then((Zbz x.Sort_=some (.tup [.t .nil,.t .nil,Bo false],[])∧(∃(v5:List (List Int)),Zdg=some (.own 0,[.arr 30 1 true (v5.map isc)])∧(Zhe x v5 (w (1+x2)) x1 x2 (v5.length:Int) 0=some r)))∨(∃(v6:List Int) (v7:List Int),Zbz x.Sort_=some (.tup [L 1 (v7.map ic),.own 0,Bo true],[.arr 3 1 true (v6.map ic)])∧(some (.tup [I (w (1+x2)),L 1 (v7.map ic),.own 0],[.arr 3 1 true (v6.map ic)])=some r)))else(some (.tup [I (w (1+x2)),.t .nil,.t .nil],[])=some r)))else(if x2=2 then(∃(v8:Bool),Zb6 x.Hash=some (Bo v8,[])∧(if v8=true then((Zbz x.Hash=some (.tup [.t .nil,.t .nil,Bo false],[])∧(∃(v9:List (List Int)),Zdg=some (.own 0,[.arr 30 1 true (v9.map isc)])∧(Zhf x v9 (w (1+x2)) x1 x2 (v9.length:Int) 0=some r)))∨(∃(v10:List Int) (v11:List Int),Zbz x.Hash=some (.tup [L 1 (v11.map ic),.own 0,Bo true],[.arr 3 1 true (v10.map ic)])∧(some (.tup [I (w (1+x2)),L 1 (v11.map ic),.own 0],[.arr 3 1 true (v10.map ic)])=some r)))else(some (.tup [I (w (1+x2)),.t .nil,.t .nil],[])=some r)))else(if x2=3 then(∃(v12:Bool),Zb6 x.Merge=some (Bo v12,[])∧(if v12=true then((Zbz x.Merge=some (.tup [.t .nil,.t .nil,Bo false],[])∧(∃(v13:List (List Int)),Zdg=some (.own 0,[.arr 30 1 true (v13.map isc)])∧(Zhg x v13 (w (1+x2)) x1 x2 (v13.length:Int) 0=some r)))∨(∃(v14:List Int) (v15:List Int),Zbz x.Merge=some (.tup [L 1 (v15.map ic),.own 0,Bo true],[.arr 3 1 true (v14.map ic)])∧(some (.tup [I (w (1+x2)),L 1 (v15.map ic),.own 0],[.arr 3 1 true (v14.map ic)])=some r)))else(some (.tup [I (w (1+x2)),.t .nil,.t .nil],[])=some r)))else(if x2=4 then(∃(v16:Bool),Zb6 x.Nested=some (Bo v16,[])∧(if v16=true then((Zbz x.Nested=some (.tup [.t .nil,.t .nil,Bo false],[])∧(∃(v17:List (List Int)),Zdg=some (.own 0,[.arr 30 1 true (v17.map isc)])∧(Zhh x v17 (w (1+x2)) x1 x2 (v17.length:Int) 0=some r)))∨(∃(v18:List Int) (v19:List Int),Zbz x.Nested=some (.tup [L 1 (v19.map ic),.own 0,Bo true],[.arr 3 1 true (v18.map ic)])∧(some (.tup [I (w (1+x2)),L 1 (v19.map ic),.own 0],[.arr 3 1 true (v18.map ic)])=some r)))else(some (.tup [I (w (1+x2)),.t .nil,.t .nil],[])=some r)))else False)))))else(some (.tup [I 0,.t .nil,.t .nil],[])=some r))):Zbl x x1 x2=some r:=by
 unfold Zbl;rw[Ze Zhb.eq_1];by_cases q1:x2<x1
 ·rw[if_pos q1]at h;by_cases q2:x2=0
  ·rw[if_pos q2]at h;subst q2;obtain⟨v,q3,h⟩:=h;unfold Zb6 at q3
   try simp at q3
   by_cases q4:v=true
   ·rw[if_pos q4]at h;rcases h with h|h
    ·obtain⟨q5,h⟩:=h;unfold Zbz at q5
     try simp at q5
     obtain⟨v1,q6,h⟩:=h;unfold Zdg at q6
     try simp at q6
     refine Yb ?_ h;clear h;simp +decide[*,tI,tII,Zhd]
    ·obtain⟨v2,v3,q7,h⟩:=h;unfold Zbz at q7
     try simp at q7
     refine Yb ?_ h;clear h;simp +decide[*,tI,tII]
   ·rw[if_neg q4]at h;refine Yb ?_ h;clear h;simp +decide[*,tI,tII]
  ·rw[if_neg q2]at h;replace q2:=eq_false q2;by_cases q8:x2=1
   ·rw[if_pos q8]at h;subst q8;obtain⟨v4,q9,h⟩:=h;unfold Zb6 at q9
    try simp at q9
    by_cases q10:v4=true
    ·rw[if_pos q10]at h;rcases h with h|h
     ·obtain⟨q11,h⟩:=h;unfold Zbz at q11
      try simp at q11
      obtain⟨v5,q12,h⟩:=h;unfold Zdg at q12
      try simp at q12
      refine Yb ?_ h;clear h;simp +decide[*,tI,tII,Zhe]
     ·obtain⟨v6,v7,q13,h⟩:=h;unfold Zbz at q13
      try simp at q13
      refine Yb ?_ h;clear h;simp +decide[*,tI,tII]
    ·rw[if_neg q10]at h;refine Yb ?_ h;clear h;simp +decide[*,tI,tII]
   ·rw[if_neg q8]at h;replace q8:=eq_false q8;by_cases q14:x2=2
    ·rw[if_pos q14]at h;subst q14;obtain⟨v8,q15,h⟩:=h;unfold Zb6 at q15
     try simp at q15
     by_cases q16:v8=true
     ·rw[if_pos q16]at h;rcases h with h|h
      ·obtain⟨q17,h⟩:=h;unfold Zbz at q17
       try simp at q17
       obtain⟨v9,q18,h⟩:=h;unfold Zdg at q18
       try simp at q18
       refine Yb ?_ h;clear h;simp +decide[*,tI,tII,Zhf]
      ·obtain⟨v10,v11,q19,h⟩:=h;unfold Zbz at q19
       try simp at q19
       refine Yb ?_ h;clear h;simp +decide[*,tI,tII]
     ·rw[if_neg q16]at h;refine Yb ?_ h;clear h;simp +decide[*,tI,tII]
    ·rw[if_neg q14]at h;replace q14:=eq_false q14;by_cases q20:x2=3
     ·rw[if_pos q20]at h;subst q20;obtain⟨v12,q21,h⟩:=h;unfold Zb6 at q21
      try simp at q21
      by_cases q22:v12=true
      ·rw[if_pos q22]at h;rcases h with h|h
       ·obtain⟨q23,h⟩:=h;unfold Zbz at q23
        try simp at q23
        obtain⟨v13,q24,h⟩:=h;unfold Zdg at q24
        try simp at q24
        refine Yb ?_ h;clear h;simp +decide[*,tI,tII,Zhg]
       ·obtain⟨v14,v15,q25,h⟩:=h;unfold Zbz at q25
        try simp at q25
        refine Yb ?_ h;clear h;simp +decide[*,tI,tII]
      ·rw[if_neg q22]at h;refine Yb ?_ h;clear h;simp +decide[*,tI,tII]
     ·rw[if_neg q20]at h;replace q20:=eq_false q20;by_cases q26:x2=4
      ·rw[if_pos q26]at h;subst q26;obtain⟨v16,q27,h⟩:=h;unfold Zb6 at q27
       try simp at q27
       by_cases q28:v16=true
       ·rw[if_pos q28]at h;rcases h with h|h
        ·obtain⟨q29,h⟩:=h;unfold Zbz at q29
         try simp at q29
         obtain⟨v17,q30,h⟩:=h;unfold Zdg at q30
         try simp at q30
         refine Yb ?_ h;clear h;simp +decide[*,tI,tII,Zhh]
        ·obtain⟨v18,v19,q31,h⟩:=h;unfold Zbz at q31
         try simp at q31
         refine Yb ?_ h;clear h;simp +decide[*,tI,tII]
       ·rw[if_neg q28]at h;refine Yb ?_ h;clear h;simp +decide[*,tI,tII]
      ·rw[if_neg q26]at h;replace q26:=eq_false q26;cases h
 ·rw[if_neg q1]at h;refine Yb ?_ h;clear h;simp +decide[*,tI,tII,Zhc]
theorem Zge:(∀⦃n c r⦄,Im (Zn9 n c=some r) (∃v,Zfi c=some (I v,[])∧(if n≤v then(some (I c,[])=some r)else(Zn9 n (w (c+1))=some r)))) ∧
 (∀⦃a r⦄,Im (Zhi a=some r) (∃v,Z6 a 0 4096=some (Bo v,[])∧(if v=true then(Zn9 a 0=some r)else(some (I (-1),[])=some r)))) ∧
 (∀⦃a r⦄,Im (Zi5 a=some r) (∃v,Zhi a=some (I v,[])∧(∃v1,Zfi v=some (I v1,[])∧(some (I v1,[])=some r)))) ∧
 (∀⦃a a1 a2 r⦄,Im (Zf7 a a1 a2=some r) (0≤a2∧(∃e1,a1[a2.toNat]?=some e1∧(∃v1,Zi5 (e1.Rows.length:Int)=some (I v1,[])∧(∃e3,a[a2.toNat]?=some e3∧(if 0≤e3.Left then(∃e4,a1[e3.Left.toNat]?=some e4∧(∃v4,Zi5 (e4.Rows.length:Int)=some (I v4,[])∧(if 0≤e3.Right then(∃e6,a1[e3.Right.toNat]?=some e6∧(∃v5,Zi5 (e6.Rows.length:Int)=some (I v5,[])∧(some (.tup [I v4,I v5,I v1],[])=some r)))else(some (.tup [I v4,I 0,I v1],[])=some r))))else(if 0≤e3.Right then(∃e8,a1[e3.Right.toNat]?=some e8∧(∃v6,Zi5 (e8.Rows.length:Int)=some (I v6,[])∧(some (.tup [I v1,I v6,I v1],[])=some r)))else(some (.tup [I v1,I 0,I v1],[])=some r)))))))) ∧
 (∀⦃a a1 a2 a3 r⦄,Im (Zds a a1 a2 a3=some r) (∃v,Zb6 a=some (Bo v,[])∧(if v=true then(∃v1,Z6 a1 0 4096=some (Bo v1,[])∧(if v1=true then(∃v2,Z6 a2 0 4096=some (Bo v2,[])∧(if v2=true then(∃v3,Z6 a3 0 4096=some (Bo v3,[])∧(if v3=true then(∃v4,Zi4 a a1 a2 a3=some (I v4,[])∧(some (I v4,[])=some r))else(some (I 0,[])=some r)))else(some (I 0,[])=some r)))else(some (I 0,[])=some r)))else(some (I 0,[])=some r)))) ∧
 (∀⦃o cl cd cc k r⦄,Im (Zoa o cl cd cc k=some r) (if k≤7 then(∃v,Zfi k=some (I v,[])∧(∃v1,Zi4 o cl cd v=some (I v1,[])∧(if v1≤cc then(Zoa o cl cd cc (w (k+1))=some r)else(some (I k,[])=some r))))else(some (I k,[])=some r))) ∧
 (∀⦃a a1 a2 a3 r⦄,Im (Zbt a a1 a2 a3=some r) (Zoa a a1 a2 a3 0=some r)) ∧
 (∀⦃a r⦄,Im (Zr0 a=some r) (∃(v:List (List Int)),Zg0 a=some (.own 0,[.arr 30 1 true (v.map isc)])∧(∃(v1:List (List Int)),Zxi v=some (.tup [],[.arr 30 1 true (v1.map isc)])∧(∃(v2:List (List Int)),Zxj v1=some (.own 1,[.dead,.arr 30 1 true (v2.map isc)])∧(some (.own 0,[.arr 30 1 true (v2.map isc)])=some r))))) ∧
 (∀⦃a r⦄,Im (Ze3 a=some r) (∃v,Zc5 a=some (Bo v,[])∧(if v=true then(∃(v1:List Int),Zc4 a.Vars=some (.own 0,[.arr 3 1 true (v1.map ic)])∧(∃(v2:List (List Int)),Zr0 a.Rows=some (.own 0,[.arr 30 1 true (v2.map isc)])∧(some (.tup [.agg [.own 0,.own 1],Bo true],[.arr 3 1 true (v1.map ic),.arr 30 1 true (v2.map isc)])=some r)))else(some (.tup [.agg [.t .nil,.t .nil],Bo false],[])=some r)))):=by
 and_intros
 all_goals intros
 all_goals unfold Im
 all_goals try simp only[Zn9,Zhi,Zi5,Zf7,Zds,Zoa,Zbt,Zr0,Ze3,Zfi,Z6,Zb6,Zi4,Zh.c_def,Zg0,Zxi,Zxj,Zc5,Zc4,Za.c_def,mpl,dfs]
 all_goals try simp only[itb]
 all_goals try simp only[itf,gS,kk]
 all_goals repeat' first|refine exI fun _=>?_|refine anJ fun _ _=>?_|refine anI fun _=>?_|refine orE2 ?_ ?_|exact False.elim
 all_goals (intro h;first|rw[Ze Zxf.eq_1]|refine run Zbkp rfl ?_|refine run Zbkq rfl ?_|refine run Zbkr rfl ?_|refine run Zbks rfl ?_|rw[Ze Zxg.eq_1]|refine run Zbku rfl ?_|refine run Zbkv rfl ?_|refine run Zbkw rfl ?_)
 all_goals (refine Yb ?_ h;clear h;simp +decide[*,kk,tI,tII,Z5z,Z50,Z53,Z51,Z52,Z54,Zxh,Z55,Z56,Z57])
abbrev Zhv:=Zge.1
abbrev Zbnw:=Zge.2.1
abbrev Zbnx:=Zge.2.2.1
abbrev Zbny:=Zge.2.2.2.1
abbrev Zbnz:=Zge.2.2.2.2.1
abbrev Z9j:=Zge.2.2.2.2.2.1
abbrev Zbn0:=Zge.2.2.2.2.2.2.1
abbrev Zbn1:=Zge.2.2.2.2.2.2.2.1
abbrev Zbn2:=Zge.2.2.2.2.2.2.2.2
theorem Zbn3{a:Zj}{a1:Plan}{a2:List Zb}{a3:List Za}{a4:Int}{r:AV×List Blk}(h:(∃(v:Int) (v1:Int) (v2:Int),Zf7 a2 a3 a4=some (.tup [I v,I v1,I v2],[])∧(Zd4 a=some (.bsl 1 5,[.box (a.c.map .t),.box [.ptr 0 0,.ptr 0 6,.ptr 0 12,.ptr 0 18,.ptr 0 24]])∧(0≤a4∧(∃(e3:Zg),a1.Steps[a4.toNat]?=some e3∧(if(w (e3.Kind-1))=0 then(∃(v3:Int),Zds a.Scan v v1 v2=some (I v3,[])∧(some (I v3,[])=some r))else(if(w (e3.Kind-1))=1 then(∃(v4:Int),Zds a.Sort_ v v1 v2=some (I v4,[])∧(some (I v4,[])=some r))else(if(w (e3.Kind-1))=2 then(∃(v5:Int),Zds a.Hash v v1 v2=some (I v5,[])∧(some (I v5,[])=some r))else(if(w (e3.Kind-1))=3 then(∃(v6:Int),Zds a.Merge v v1 v2=some (I v6,[])∧(some (I v6,[])=some r))else(if(w (e3.Kind-1))=4 then(∃(v7:Int),Zds a.Nested v v1 v2=some (I v7,[])∧(some (I v7,[])=some r))else False)))))))))):Zi6 a a1 a2 a3 a4=some r:=by
 unfold Zi6;refine run Zbkt rfl ?_;obtain⟨v,v1,v2,q1,h⟩:=h;unfold Zf7 at q1
 try simp at q1
 obtain⟨q2,h⟩:=h;unfold Zd4 at q2
 try simp at q2
 obtain⟨q3,h⟩:=h;obtain⟨e3,q4,h⟩:=h;have gq4:=Zbx q4;have kq4:=Zb1 q4;by_cases q5:(w (e3.Kind-1))=0
 ·rw[if_pos q5]at h;obtain⟨v3,q6,h⟩:=h;unfold Zds at q6
  try simp at q6
  refine Yb ?_ h;clear h;simp +decide[*,Zld,tI,tII]
 ·rw[if_neg q5]at h;replace q5:=eq_false q5;by_cases q7:(w (e3.Kind-1))=1
  ·rw[if_pos q7]at h;obtain⟨v4,q8,h⟩:=h;unfold Zds at q8
   try simp at q8
   refine Yb ?_ h;clear h;simp +decide[*,Zld,tI,tII]
  ·rw[if_neg q7]at h;replace q7:=eq_false q7;by_cases q9:(w (e3.Kind-1))=2
   ·rw[if_pos q9]at h;obtain⟨v5,q10,h⟩:=h;unfold Zds at q10
    try simp at q10
    refine Yb ?_ h;clear h;simp +decide[*,Zld,tI,tII]
   ·rw[if_neg q9]at h;replace q9:=eq_false q9;by_cases q11:(w (e3.Kind-1))=3
    ·rw[if_pos q11]at h;obtain⟨v6,q12,h⟩:=h;unfold Zds at q12
     try simp at q12
     refine Yb ?_ h;clear h;simp +decide[*,Zld,tI,tII]
    ·rw[if_neg q11]at h;replace q11:=eq_false q11;by_cases q13:(w (e3.Kind-1))=4
     ·rw[if_pos q13]at h;obtain⟨v7,q14,h⟩:=h;unfold Zds at q14
      try simp at q14
      refine Yb ?_ h;clear h;simp +decide[*,Zld,tI,tII]
     ·rw[if_neg q13]at h;replace q13:=eq_false q13;cases h
theorem Z9k{m:Zj}{p:Plan}{cv:Bool}{cu cp:Int}{co:List Zb}{fr:Bool}{l:List Za}{cn:Bool}{cl cd cc:Int}{x:List Zg}{x1 x2:Int}{r:AV×List Blk}(h:(if x2<x1 then(0≤x2∧(∃(e1:Zg),x[x2.toNat]?=some e1∧(∃(v:Int) (v1:Int) (v2:Int),Zf7 co l x2=some (.tup [I v,I v1,I v2],[])∧(∃(v3:Int),Zi6 m p co l x2=some (I v3,[])∧(if(w (cc-cl))<v3 then(if 3≤e1.Kind then(Zd4 m=some (.bsl 1 5,[.box (m.c.map .t),.box [.ptr 0 0,.ptr 0 6,.ptr 0 12,.ptr 0 18,.ptr 0 24]])∧(if(w (e1.Kind-1))=0 then(∃(v4:Int),Zbt m.Scan v v1 (w (cc-cl))=some (I v4,[])∧(∃(e6:Zb),co[x2.toNat]?=some e6∧(some (.tup [.agg [Bo cn,I cc,I cd,.own 0,.t .nil,.t .nil],Bo true],[.arr 211 3 true (([(⟨e6.Mask,v4,false⟩:Zl)]).map Zl.c)])=some r)))else(if(w (e1.Kind-1))=1 then(∃(v5:Int),Zbt m.Sort_ v v1 (w (cc-cl))=some (I v5,[])∧(∃(e8:Zb),co[x2.toNat]?=some e8∧(some (.tup [.agg [Bo cn,I cc,I cd,.own 0,.t .nil,.t .nil],Bo true],[.arr 211 3 true (([(⟨e8.Mask,v5,false⟩:Zl)]).map Zl.c)])=some r)))else(if(w (e1.Kind-1))=2 then(∃(v6:Int),Zbt m.Hash v v1 (w (cc-cl))=some (I v6,[])∧(∃(e10:Zb),co[x2.toNat]?=some e10∧(some (.tup [.agg [Bo cn,I cc,I cd,.own 0,.t .nil,.t .nil],Bo true],[.arr 211 3 true (([(⟨e10.Mask,v6,false⟩:Zl)]).map Zl.c)])=some r)))else(if(w (e1.Kind-1))=3 then(∃(v7:Int),Zbt m.Merge v v1 (w (cc-cl))=some (I v7,[])∧(∃(e12:Zb),co[x2.toNat]?=some e12∧(some (.tup [.agg [Bo cn,I cc,I cd,.own 0,.t .nil,.t .nil],Bo true],[.arr 211 3 true (([(⟨e12.Mask,v7,false⟩:Zl)]).map Zl.c)])=some r)))else(if(w (e1.Kind-1))=4 then(∃(v8:Int),Zbt m.Nested v v1 (w (cc-cl))=some (I v8,[])∧(∃(e14:Zb),co[x2.toNat]?=some e14∧(some (.tup [.agg [Bo cn,I cc,I cd,.own 0,.t .nil,.t .nil],Bo true],[.arr 211 3 true (([(⟨e14.Mask,v8,false⟩:Zl)]).map Zl.c)])=some r)))else False))))))else(some (.tup [.agg [Bo cn,I cc,I cd,.t .nil,.t .nil,.t .nil],Bo true],[])=some r))else(if 3≤e1.Kind then(∃(e15:Zb),co[x2.toNat]?=some e15∧(∃(e16:Za),l[x2.toNat]?=some e16∧(∃(v9:Int),Zhi (e16.Rows.length:Int)=some (I v9,[])∧(Zf8 m p cv cu cp co fr l cn (w (cl+v3)) (w (cd+1)) ([(⟨e15.Mask,v9,true⟩:Zl)]) cc x x1 (w (x2+1))=some r))))else(Zi9 m p cv cu cp co fr l cn (w (cl+v3)) (w (cd+1)) cc x x1 (w (x2+1))=some r)))))))else(0≤(w ((l.length:Int)-1))∧(∃(e18:Za),l[(w ((l.length:Int)-1)).toNat]?=some e18∧((∃(v10:List Int) (v11:List (List Int)),Ze3 e18=some (.tup [.agg [.own 0,.own 1],Bo true],[.arr 3 1 true (v10.map ic),.arr 30 1 true (v11.map isc)])∧(some (.tup [.agg [Bo true,I cl,I cd,.t .nil,.own 0,.own 1],Bo true],[.arr 3 1 true (v10.map ic),.arr 30 1 true (v11.map isc)])=some r))∨(Ze3 e18=some (.tup [.agg [.t .nil,.t .nil],Bo false],[])∧(some (.tup [.agg [Bo true,I cl,I cd,.t .nil,.t .nil,.t .nil],Bo true],[])=some r))))))):Zi9 m p cv cu cp co fr l cn cl cd cc x x1 x2=some r:=by
 unfold Zi9;rw[Ze Zoc.eq_1];by_cases q1:x2<x1
 ·rw[if_pos q1]at h;obtain⟨q2,h⟩:=h;obtain⟨e1,q3,h⟩:=h;have gq3:=Zbx q3;have kq3:=Zb1 q3;obtain⟨v,v1,v2,q4,h⟩:=h;unfold Zf7 at q4
  try simp at q4
  obtain⟨v3,q5,h⟩:=h;unfold Zi6 at q5
  try simp at q5
  by_cases q6:(w (cc-cl))<v3
  ·rw[if_pos q6]at h;by_cases q7:3≤e1.Kind
   ·rw[if_pos q7]at h;obtain⟨q8,h⟩:=h;unfold Zd4 at q8
    try simp at q8
    by_cases q9:(w (e1.Kind-1))=0
    ·rw[if_pos q9]at h;obtain⟨v4,q10,h⟩:=h;unfold Zbt at q10
     try simp at q10
     obtain⟨e6,q11,h⟩:=h;have gq11:=Zbx q11;have kq11:=Zb1 q11;refine Yb ?_ h;clear h;simp +decide[*,tI,tII,Zdt]
    ·rw[if_neg q9]at h;replace q9:=eq_false q9;by_cases q12:(w (e1.Kind-1))=1
     ·rw[if_pos q12]at h;obtain⟨v5,q13,h⟩:=h;unfold Zbt at q13
      try simp at q13
      obtain⟨e8,q14,h⟩:=h;have gq14:=Zbx q14;have kq14:=Zb1 q14;refine Yb ?_ h;clear h;simp +decide[*,tI,tII,Zdt]
     ·rw[if_neg q12]at h;replace q12:=eq_false q12;by_cases q15:(w (e1.Kind-1))=2
      ·rw[if_pos q15]at h;obtain⟨v6,q16,h⟩:=h;unfold Zbt at q16
       try simp at q16
       obtain⟨e10,q17,h⟩:=h;have gq17:=Zbx q17;have kq17:=Zb1 q17;refine Yb ?_ h;clear h;simp +decide[*,tI,tII,Zdt]
      ·rw[if_neg q15]at h;replace q15:=eq_false q15;by_cases q18:(w (e1.Kind-1))=3
       ·rw[if_pos q18]at h;obtain⟨v7,q19,h⟩:=h;unfold Zbt at q19
        try simp at q19
        obtain⟨e12,q20,h⟩:=h;have gq20:=Zbx q20;have kq20:=Zb1 q20;refine Yb ?_ h;clear h;simp +decide[*,tI,tII,Zdt]
       ·rw[if_neg q18]at h;replace q18:=eq_false q18;by_cases q21:(w (e1.Kind-1))=4
        ·rw[if_pos q21]at h;obtain⟨v8,q22,h⟩:=h;unfold Zbt at q22
         try simp at q22
         obtain⟨e14,q23,h⟩:=h;have gq23:=Zbx q23;have kq23:=Zb1 q23;refine Yb ?_ h;clear h;simp +decide[*,tI,tII,Zdt]
        ·rw[if_neg q21]at h;replace q21:=eq_false q21;cases h
   ·rw[if_neg q7]at h;refine Yb ?_ h;clear h;simp +decide[*,tI,tII,Zdt]
  ·rw[if_neg q6]at h;by_cases q24:3≤e1.Kind
   ·rw[if_pos q24]at h;obtain⟨e15,q25,h⟩:=h;have gq25:=Zbx q25;have kq25:=Zb1 q25;obtain⟨e16,q26,h⟩:=h;have gq26:=Zbx q26;have kq26:=Zb1 q26;obtain⟨v9,q27,h⟩:=h;unfold Zhi at q27
    try simp at q27
    refine Yb ?_ h;clear h;simp +decide[*,tI,tII,Zf8,Zob]
   ·rw[if_neg q24]at h;refine Yb ?_ h;clear h;simp +decide[*,tI,tII,Zi9,Zob]
 ·rw[if_neg q1]at h;obtain⟨q28,h⟩:=h;have zq28:=q28;try simp at zq28
  obtain⟨e18,q29,h⟩:=h;have gq29:=Zbx q29;have kq29:=Zb1 q29;rcases h with h|h
  ·obtain⟨v10,v11,q30,h⟩:=h;unfold Ze3 at q30
   try simp at q30
   refine Yb ?_ h;clear h;simp +decide[*,tI,tII,Zi7]
  ·obtain⟨q31,h⟩:=h;unfold Ze3 at q31
   try simp at q31
   refine Yb ?_ h;clear h;simp +decide[*,tI,tII,Zi7]
theorem Z9l{m:Zj}{p:Plan}{cv:Bool}{cu cp:Int}{co:List Zb}{fr:Bool}{l:List Za}{cn:Bool}{cl cd:Int}{x:List Zl}{cc:Int}{x1:List Zg}{x2 x3:Int}{r:AV×List Blk}(h:(if x3<x2 then(0≤x3∧(∃(e1:Zg),x1[x3.toNat]?=some e1∧(∃(v:Int) (v1:Int) (v2:Int),Zf7 co l x3=some (.tup [I v,I v1,I v2],[])∧(∃(v3:Int),Zi6 m p co l x3=some (I v3,[])∧(if(w (cc-cl))<v3 then(if 3≤e1.Kind then(Zd4 m=some (.bsl 1 5,[.box (m.c.map .t),.box [.ptr 0 0,.ptr 0 6,.ptr 0 12,.ptr 0 18,.ptr 0 24]])∧(if(w (e1.Kind-1))=0 then(∃(v4:Int),Zbt m.Scan v v1 (w (cc-cl))=some (I v4,[])∧(∃(e6:Zb),co[x3.toNat]?=some e6∧(x.length+1≤68719476736∧(some (.tup [.agg [Bo cn,I cc,I cd,.own 0,.t .nil,.t .nil],Bo true],[.arr 211 3 true ((x++[(⟨e6.Mask,v4,false⟩:Zl)]).map Zl.c)])=some r))))else(if(w (e1.Kind-1))=1 then(∃(v5:Int),Zbt m.Sort_ v v1 (w (cc-cl))=some (I v5,[])∧(∃(e8:Zb),co[x3.toNat]?=some e8∧(x.length+1≤68719476736∧(some (.tup [.agg [Bo cn,I cc,I cd,.own 0,.t .nil,.t .nil],Bo true],[.arr 211 3 true ((x++[(⟨e8.Mask,v5,false⟩:Zl)]).map Zl.c)])=some r))))else(if(w (e1.Kind-1))=2 then(∃(v6:Int),Zbt m.Hash v v1 (w (cc-cl))=some (I v6,[])∧(∃(e10:Zb),co[x3.toNat]?=some e10∧(x.length+1≤68719476736∧(some (.tup [.agg [Bo cn,I cc,I cd,.own 0,.t .nil,.t .nil],Bo true],[.arr 211 3 true ((x++[(⟨e10.Mask,v6,false⟩:Zl)]).map Zl.c)])=some r))))else(if(w (e1.Kind-1))=3 then(∃(v7:Int),Zbt m.Merge v v1 (w (cc-cl))=some (I v7,[])∧(∃(e12:Zb),co[x3.toNat]?=some e12∧(x.length+1≤68719476736∧(some (.tup [.agg [Bo cn,I cc,I cd,.own 0,.t .nil,.t .nil],Bo true],[.arr 211 3 true ((x++[(⟨e12.Mask,v7,false⟩:Zl)]).map Zl.c)])=some r))))else(if(w (e1.Kind-1))=4 then(∃(v8:Int),Zbt m.Nested v v1 (w (cc-cl))=some (I v8,[])∧(∃(e14:Zb),co[x3.toNat]?=some e14∧(x.length+1≤68719476736∧(some (.tup [.agg [Bo cn,I cc,I cd,.own 0,.t .nil,.t .nil],Bo true],[.arr 211 3 true ((x++[(⟨e14.Mask,v8,false⟩:Zl)]).map Zl.c)])=some r))))else False))))))else(some (.tup [.agg [Bo cn,I cc,I cd,.own 0,.t .nil,.t .nil],Bo true],[.arr 211 3 true (x.map Zl.c)])=some r))else(if 3≤e1.Kind then(∃(e15:Zb),co[x3.toNat]?=some e15∧(∃(e16:Za),l[x3.toNat]?=some e16∧(∃(v9:Int),Zhi (e16.Rows.length:Int)=some (I v9,[])∧(x.length+1≤68719476736∧(Zf8 m p cv cu cp co fr l cn (w (cl+v3)) (w (cd+1)) (x++[(⟨e15.Mask,v9,true⟩:Zl)]) cc x1 x2 (w (x3+1))=some r)))))else(Zf8 m p cv cu cp co fr l cn (w (cl+v3)) (w (cd+1)) x cc x1 x2 (w (x3+1))=some r)))))))else(0≤(w ((l.length:Int)-1))∧(∃(e18:Za),l[(w ((l.length:Int)-1)).toNat]?=some e18∧((∃(v10:List Int) (v11:List (List Int)),Ze3 e18=some (.tup [.agg [.own 0,.own 1],Bo true],[.arr 3 1 true (v10.map ic),.arr 30 1 true (v11.map isc)])∧(some (.tup [.agg [Bo true,I cl,I cd,.own 0,.own 1,.own 2],Bo true],[.arr 211 3 true (x.map Zl.c),.arr 3 1 true (v10.map ic),.arr 30 1 true (v11.map isc)])=some r))∨(Ze3 e18=some (.tup [.agg [.t .nil,.t .nil],Bo false],[])∧(some (.tup [.agg [Bo true,I cl,I cd,.own 0,.t .nil,.t .nil],Bo true],[.arr 211 3 true (x.map Zl.c)])=some r))))))):Zf8 m p cv cu cp co fr l cn cl cd x cc x1 x2 x3=some r:=by
 unfold Zf8;rw[Ze Zoc.eq_1];by_cases q1:x3<x2
 ·rw[if_pos q1]at h;obtain⟨q2,h⟩:=h;obtain⟨e1,q3,h⟩:=h;have gq3:=Zbx q3;have kq3:=Zb1 q3;obtain⟨v,v1,v2,q4,h⟩:=h;unfold Zf7 at q4
  try simp at q4
  obtain⟨v3,q5,h⟩:=h;unfold Zi6 at q5
  try simp at q5
  by_cases q6:(w (cc-cl))<v3
  ·rw[if_pos q6]at h;by_cases q7:3≤e1.Kind
   ·rw[if_pos q7]at h;obtain⟨q8,h⟩:=h;unfold Zd4 at q8
    try simp at q8
    by_cases q9:(w (e1.Kind-1))=0
    ·rw[if_pos q9]at h;obtain⟨v4,q10,h⟩:=h;unfold Zbt at q10
     try simp at q10
     obtain⟨e6,q11,h⟩:=h;have gq11:=Zbx q11;have kq11:=Zb1 q11;obtain⟨q12,h⟩:=h;have rq12:=roomA (b:=24) q12 (by omega);have sq12:=roomB q12
     try simp[*]at rq12
     try simp[*]at sq12
     refine Yb ?_ h;clear h;simp +decide[*,tI,tII,Zdt]
    ·rw[if_neg q9]at h;replace q9:=eq_false q9;by_cases q13:(w (e1.Kind-1))=1
     ·rw[if_pos q13]at h;obtain⟨v5,q14,h⟩:=h;unfold Zbt at q14
      try simp at q14
      obtain⟨e8,q15,h⟩:=h;have gq15:=Zbx q15;have kq15:=Zb1 q15;obtain⟨q16,h⟩:=h;have rq16:=roomA (b:=24) q16 (by omega);have sq16:=roomB q16
      try simp[*]at rq16
      try simp[*]at sq16
      refine Yb ?_ h;clear h;simp +decide[*,tI,tII,Zdt]
     ·rw[if_neg q13]at h;replace q13:=eq_false q13;by_cases q17:(w (e1.Kind-1))=2
      ·rw[if_pos q17]at h;obtain⟨v6,q18,h⟩:=h;unfold Zbt at q18
       try simp at q18
       obtain⟨e10,q19,h⟩:=h;have gq19:=Zbx q19;have kq19:=Zb1 q19;obtain⟨q20,h⟩:=h;have rq20:=roomA (b:=24) q20 (by omega);have sq20:=roomB q20
       try simp[*]at rq20
       try simp[*]at sq20
       refine Yb ?_ h;clear h;simp +decide[*,tI,tII,Zdt]
      ·rw[if_neg q17]at h;replace q17:=eq_false q17;by_cases q21:(w (e1.Kind-1))=3
       ·rw[if_pos q21]at h;obtain⟨v7,q22,h⟩:=h;unfold Zbt at q22
        try simp at q22
        obtain⟨e12,q23,h⟩:=h;have gq23:=Zbx q23;have kq23:=Zb1 q23;obtain⟨q24,h⟩:=h;have rq24:=roomA (b:=24) q24 (by omega);have sq24:=roomB q24
        try simp[*]at rq24
        try simp[*]at sq24
        refine Yb ?_ h;clear h;simp +decide[*,tI,tII,Zdt]
       ·rw[if_neg q21]at h;replace q21:=eq_false q21;by_cases q25:(w (e1.Kind-1))=4
        ·rw[if_pos q25]at h;obtain⟨v8,q26,h⟩:=h;unfold Zbt at q26
         try simp at q26
         obtain⟨e14,q27,h⟩:=h;have gq27:=Zbx q27;have kq27:=Zb1 q27;obtain⟨q28,h⟩:=h;have rq28:=roomA (b:=24) q28 (by omega);have sq28:=roomB q28
         try simp[*]at rq28
         try simp[*]at sq28
         refine Yb ?_ h;clear h;simp +decide[*,tI,tII,Zdt]
        ·rw[if_neg q25]at h;replace q25:=eq_false q25;cases h
   ·rw[if_neg q7]at h;refine Yb ?_ h;clear h;simp +decide[*,tI,tII,Zdt]
  ·rw[if_neg q6]at h;by_cases q29:3≤e1.Kind
   ·rw[if_pos q29]at h;obtain⟨e15,q30,h⟩:=h;have gq30:=Zbx q30;have kq30:=Zb1 q30;obtain⟨e16,q31,h⟩:=h;have gq31:=Zbx q31;have kq31:=Zb1 q31;obtain⟨v9,q32,h⟩:=h;unfold Zhi at q32
    try simp at q32
    obtain⟨q33,h⟩:=h;have rq33:=roomA (b:=24) q33 (by omega);have sq33:=roomB q33
    try simp[*]at rq33
    try simp[*]at sq33
    refine Yb ?_ h;clear h;simp +decide[*,tI,tII,Zf8,Zob]
   ·rw[if_neg q29]at h;refine Yb ?_ h;clear h;simp +decide[*,tI,tII,Zf8,Zob]
 ·rw[if_neg q1]at h;obtain⟨q34,h⟩:=h;have zq34:=q34;try simp at zq34
  obtain⟨e18,q35,h⟩:=h;have gq35:=Zbx q35;have kq35:=Zb1 q35;rcases h with h|h
  ·obtain⟨v10,v11,q36,h⟩:=h;unfold Ze3 at q36
   try simp at q36
   refine Yb ?_ h;clear h;simp +decide[*,tI,tII,Zi7]
  ·obtain⟨q37,h⟩:=h;unfold Ze3 at q37
   try simp at q37
   refine Yb ?_ h;clear h;simp +decide[*,tI,tII,Zi7]
theorem Zpg:(∀⦃a a1 a2 a3 a4 r⦄,Im (Zi8 a a1 a2 a3 a4=some r) ((Zi2 a1 a2 a3=some (.tup [.t .nil,.t .nil,Bo false],[])∧(some (.tup [.agg [Bo false,I 0,I 0,.t .nil,.t .nil,.t .nil],Bo false],[])=some r))∨(∃(v:List Zb),∃v1,∃(v2:List Za),Zi2 a1 a2 a3=some (.tup [.own 0,.own 1,Bo true],[.arr 209 4 true (v.map Zb.c),.arr 199 2 v1 (v2.map Za.c)])∧(∃v3,Zn8 a=some (Bo v3,[])∧(if v3=true then(∃v4,Z6 a4 0 1000000000000=some (Bo v4,[])∧(if v4=true then(Zi9 a a3 false 0 0 v v1 v2 false 0 0 a4 a3.Steps (a3.Steps.length:Int) 0=some r)else(some (.tup [.agg [Bo false,I 0,I 0,.t .nil,.t .nil,.t .nil],Bo false],[])=some r)))else(some (.tup [.agg [Bo false,I 0,I 0,.t .nil,.t .nil,.t .nil],Bo false],[])=some r)))))) ∧
 (∀⦃m db q b x x1 x2 r⦄,Im (Zf9 m db q b x x1 x2=some r) (if x2<x1 then(0≤x2∧(∃e1,x[x2.toNat]?=some e1∧(∃v,Z6 e1.Plan 0 (w ((b.Plans.length:Int)-1))=some (Bo v,[])∧(if v=true then(0≤e1.Plan∧(∃e3,b.Plans[e1.Plan.toNat]?=some e3∧((∃v4 v5 v6 v7,Zi8 m db q e3 e1.Budget=some (.tup [.agg [Bo v4,I v5,I v6,.t .nil,.t .nil,.t .nil],Bo v7],[])∧(if v7=true then(if v5=e1.Cost then(if v4=e1.Done then(Zf9 m db q b x x1 (w (x2+1))=some r)else(some (I x2,[])=some r))else(some (I x2,[])=some r))else(some (I x2,[])=some r)))∨(∃(v8:List Zl),∃v9,∃v10,∃v11,Zi8 m db q e3 e1.Budget=some (.tup [.agg [Bo v9,I v10,I v11,.own 0,.t .nil,.t .nil],Bo true],[.arr 211 3 true (v8.map Zl.c)])∧(if v10=e1.Cost then(if v9=e1.Done then(Zf9 m db q b x x1 (w (x2+1))=some r)else(some (I x2,[])=some r))else(some (I x2,[])=some r)))∨(∃(v12:List Int),∃(v13:List (List Int)),∃v14,∃v15,∃v16,Zi8 m db q e3 e1.Budget=some (.tup [.agg [Bo v14,I v15,I v16,.t .nil,.own 0,.own 1],Bo true],[.arr 3 1 true (v12.map ic),.arr 30 1 true (v13.map isc)])∧(if v15=e1.Cost then(if v14=e1.Done then(Zf9 m db q b x x1 (w (x2+1))=some r)else(some (I x2,[])=some r))else(some (I x2,[])=some r)))∨(∃(v17:List Zl),∃(v18:List Int),∃(v19:List (List Int)),∃v20,∃v21,∃v22,Zi8 m db q e3 e1.Budget=some (.tup [.agg [Bo v20,I v21,I v22,.own 0,.own 1,.own 2],Bo true],[.arr 211 3 true (v17.map Zl.c),.arr 3 1 true (v18.map ic),.arr 30 1 true (v19.map isc)])∧(if v21=e1.Cost then(if v20=e1.Done then(Zf9 m db q b x x1 (w (x2+1))=some r)else(some (I x2,[])=some r))else(some (I x2,[])=some r))))))else(some (I x2,[])=some r)))))else(some (I (-1),[])=some r))) ∧
 (∀⦃a a1 a2 a3 a4 r⦄,Im (Zr1 a a1 a2 a3 a4=some r) (Zf9 a a1 a2 a3 a4 (a4.length:Int) 0=some r)) ∧
 (∀⦃a a1 a2 r⦄,Im (Zbe a a1 a2=some r) (if a1≤a then(some (Bo (decide (a≤a2)),[])=some r)else(some (Bo false,[])=some r))) ∧
 (∀⦃a r⦄,Im (Zja a=some r) (if(a.size:Int)=1 then(∃b1,a[0]?=some b1∧(if 97≤(b1.toNat:Int)then(some (Bo (decide ((b1.toNat:Int)≤122)),[])=some r)else(some (Bo false,[])=some r)))else(some (Bo false,[])=some r))):=by
 and_intros
 all_goals intros
 all_goals unfold Im
 all_goals try simp only[Zi8,Zf9,Zr1,Zbe,Zja,Zi2,Zn8,Z6,Zk.c_def,Zj.c_def,Zh.c_def,Plan.c_def,Zd.c_def,Zi9,mpl,dfs]
 all_goals try simp only[itb]
 all_goals try simp only[itf,gS,kk]
 all_goals repeat' first|refine exI fun _=>?_|refine anJ fun _ _=>?_|refine anI fun _=>?_|refine orE2 ?_ ?_|exact False.elim
 all_goals (intro h;first|refine run Zbkx rfl ?_|rw[Ze Zxk.eq_1]|refine run Zbky rfl ?_|refine run Zbkz rfl ?_|refine run Zbk0 rfl ?_)
 all_goals (refine Yb ?_ h;clear h;simp +decide[*,kk,tI,tII,Z58,Zxl,Z59,Z6a,Z6b])
abbrev Zzr:=Zpg.1
abbrev Z9m:=Zpg.2.1
abbrev Zbn4:=Zpg.2.2.1
abbrev Zbn5:=Zpg.2.2.2.1
abbrev Zbn6:=Zpg.2.2.2.2
theorem Zei:(∀⦃l x i r⦄,Im (Zod l x i=some r) (if i<(l.length:Int)then(0≤i∧(∃e1,l[i.toNat]?=some e1∧(if e1=x then(some (Bo true,[])=some r)else(Zod l x (w (i+1))=some r))))else(some (Bo false,[])=some r))) ∧
 (∀⦃a a1 r⦄,Im (Zjb a a1=some r) (Zod a a1 0=some r)) ∧
 (∀⦃q cd i r⦄,Im (Zle q cd i=some r) (if i<(q.Atoms.length:Int)then(0≤i∧(∃e1,q.Atoms[i.toNat]?=some e1∧(∃v2,Zja e1.Name=some (Bo v2,[])∧(if v2=true then(∃v3,Zbe (e1.Vars.length:Int) 1 3=some (Bo v3,[])∧(if v3=true then(Zoe q e1 cd i 0=some r)else(some (Bo false,[])=some r)))else(some (Bo false,[])=some r)))))else(¬q.Zn<0∧(some (Bo (decide (cd=(w ((shlI 1 q.Zn)-1)))),[])=some r)))) ∧
 (∀⦃q a cd i k r⦄,Im (Zoe q a cd i k=some r) (if k<(a.Vars.length:Int)then(0≤k∧(∃e1,a.Vars[k.toNat]?=some e1∧(∃v2,Zbe e1 0 (w (q.Zn-1))=some (Bo v2,[])∧(if v2=true then(k.toNat≤a.Vars.length∧(∃v3,Zjb (a.Vars.take k.toNat) e1=some (Bo v3,[])∧(if v3=true then(some (Bo false,[])=some r)else(¬e1<0∧(Zoe q a (orI cd (shlI 1 e1)) i (w (k+1))=some r)))))else(some (Bo false,[])=some r)))))else(Zle q cd (w (i+1))=some r))) ∧
 (∀⦃a r⦄,Im (Zhj a=some r) (∃v1,Zbe a.Zn 1 4=some (Bo v1,[])∧(if v1=true then(∃v2,Zbe (a.Atoms.length:Int) 1 4=some (Bo v2,[])∧(if v2=true then(Zle a 0 0=some r)else(some (Bo false,[])=some r)))else(some (Bo false,[])=some r)))) ∧
 (∀⦃q cc x i r⦄,Im (Zjc q cc x i=some r) (if i<(q.Atoms.length:Int)then(Zlf q cc x i 0=some r)else(some (I x,[])=some r))) ∧
 (∀⦃q cc x i k r⦄,Im (Zlf q cc x i k=some r) (0≤i∧(∃e1,q.Atoms[i.toNat]?=some e1∧(if k<(e1.Vars.length:Int)then(¬i<0∧(if(andI (shrI cc i) 1)=1 then(0≤k∧(∃e2,e1.Vars[k.toNat]?=some e2∧(¬e2<0∧(Zlf q cc (orI x (shlI 1 e2)) i (w (k+1))=some r))))else(Zjc q cc x (w (i+1))=some r)))else(Zjc q cc x (w (i+1))=some r))))) ∧
 (∀⦃a a1 r⦄,Im (Zd6 a a1=some r) (Zjc a a1 0 0=some r)) ∧
 (∀⦃a a1 r⦄,Im (Zlg a a1=some r) (∃v1,Zbe a1 0 3=some (Bo v1,[])∧(if v1=true then(¬a1<0∧(some (Bo (decide ((andI (shrI a a1) 1)=1)),[])=some r))else(some (Bo false,[])=some r)))) ∧
 (∀⦃x x1 x2 a b y v r⦄,Im (Zlh x x1 x2 a b y v=some r) (if x1.Kind=4 then(∃v1,Zlg v x1.Order=some (Bo v1,[])∧(if v1=true then(if a.Order=x1.Order then(if b.Order=x1.Order then(some (.tup [.agg [I y.Mask,I x1.Order,I y.Left,I y.Right],I 2],[])=some r)else(some (.tup [.agg [I 0,I 0,I 0,I 0],I (-1)],[])=some r))else(some (.tup [.agg [I 0,I 0,I 0,I 0],I (-1)],[])=some r))else(some (.tup [.agg [I 0,I 0,I 0,I 0],I (-1)],[])=some r)))else(some (.tup [.agg (y.c.map .t),I 2],[])=some r))) ∧
 (∀⦃x x1 x2 a b y v x3 r⦄,Im (Zhl x x1 x2 a b y v x3=some r) (if x1.Kind=4 then(∃v1,Zlg v x1.Order=some (Bo v1,[])∧(if v1=true then(if a.Order=x1.Order then(if b.Order=x1.Order then(some (.tup [.agg [I y.Mask,I x1.Order,I y.Left,I y.Right],I 2],[])=some r)else(some (.tup [.agg [I 0,I 0,I 0,I 0],I (-1)],[])=some r))else(some (.tup [.agg [I 0,I 0,I 0,I 0],I (-1)],[])=some r))else(some (.tup [.agg [I 0,I 0,I 0,I 0],I (-1)],[])=some r)))else(some (.tup [.agg (y.c.map .t),I 2],[])=some r))) ∧
 (∀⦃a a1 a2 a3 r⦄,Im (Zhk a a1 a2 a3=some r) (if a1.Kind=1 then(∃v1,Zbe a1.Atom 0 (w ((a.Atoms.length:Int)-1))=some (Bo v1,[])∧(if v1=true then(if a1.Order=0 then(¬a1.Atom<0∧(0≤a1.Atom∧(∃e2,a.Atoms[a1.Atom.toNat]?=some e2∧(∃e3,e2.Vars[0]?=some e3∧(some (.tup [.agg [I (shlI 1 a1.Atom),I e3,I (-1),I (-1)],I 0],[])=some r)))))else(some (.tup [.agg [I 0,I 0,I 0,I 0],I (-1)],[])=some r))else(some (.tup [.agg [I 0,I 0,I 0,I 0],I (-1)],[])=some r)))else(if a1.Kind=2 then(if a1.Atom=0 then(if(a3.length:Int)<1 then(some (.tup [.agg [I 0,I 0,I 0,I 0],I (-1)],[])=some r)else(0≤(w ((a3.length:Int)-1))∧(∃e4,a3[(w ((a3.length:Int)-1)).toNat]?=some e4∧(0≤e4∧(∃e5,a2[e4.toNat]?=some e5∧(if e5.Order=a1.Order then(some (.tup [.agg [I 0,I 0,I 0,I 0],I (-1)],[])=some r)else(∃v4,Zd6 a e5.Mask=some (I v4,[])∧(∃v5,Zlg v4 a1.Order=some (Bo v5,[])∧(if v5=true then(some (.tup [.agg [I e5.Mask,I a1.Order,I e4,I (-1)],I 1],[])=some r)else(some (.tup [.agg [I 0,I 0,I 0,I 0],I (-1)],[])=some r))))))))))else(some (.tup [.agg [I 0,I 0,I 0,I 0],I (-1)],[])=some r))else(if a1.Kind=3 then(Zjd a a1 (⟨0,0,0,0⟩:Zb) a2 a3 (a3.length:Int) a1.Kind true=some r)else(if a1.Kind=4 then(Zjd a a1 (⟨0,0,0,0⟩:Zb) a2 a3 (a3.length:Int) a1.Kind true=some r)else(if a1.Kind=5 then(if a1.Atom=0 then(if(a3.length:Int)<2 then(some (.tup [.agg [I 0,I 0,I 0,I 0],I (-1)],[])=some r)else(0≤(w ((a3.length:Int)-2))∧(∃e8,a3[(w ((a3.length:Int)-2)).toNat]?=some e8∧(0≤e8∧(∃e9,a2[e8.toNat]?=some e9∧(0≤(w ((a3.length:Int)-1))∧(∃e10,a3[(w ((a3.length:Int)-1)).toNat]?=some e10∧(0≤e10∧(∃e11,a2[e10.toNat]?=some e11∧(∃v6,Zd6 a e9.Mask=some (I v6,[])∧(∃v7,Zd6 a e11.Mask=some (I v7,[])∧(if(andI e9.Mask e11.Mask)=0 then(if(andI v6 v7)=0 then(some (.tup [.agg [I 0,I 0,I 0,I 0],I (-1)],[])=some r)else(if a1.Order=0 then(Zlh a a1 (⟨0,0,0,0⟩:Zb) e9 e11 (⟨(orI e9.Mask e11.Mask),e9.Order,e8,e10⟩:Zb) (andI v6 v7)=some r)else(some (.tup [.agg [I 0,I 0,I 0,I 0],I (-1)],[])=some r)))else(some (.tup [.agg [I 0,I 0,I 0,I 0],I (-1)],[])=some r)))))))))))))else(some (.tup [.agg [I 0,I 0,I 0,I 0],I (-1)],[])=some r))else(some (.tup [.agg [I 0,I 0,I 0,I 0],I (-1)],[])=some r))))))):=by
 and_intros
 all_goals intros
 all_goals unfold Im
 all_goals try simp only[Zod,Zjb,Zle,Zoe,Zhj,Zjc,Zlf,Zd6,Zlg,Zhk,Zja,Zbe,Zd.c_def,Zjd,Zlh,Zhl,mpl,dfs]
 all_goals try simp only[itb]
 all_goals try simp only[itf,gS,kk]
 all_goals repeat' first|refine exI fun _=>?_|refine anJ fun _ _=>?_|refine anI fun _=>?_|refine orE2 ?_ ?_|exact False.elim
 all_goals (intro h;first|rw[Ze Zxm.eq_1]|refine run Zbk1 rfl ?_|rw[Ze Zr2.eq_1]|rw[Ze Zxo.eq_1]|refine run Zbk2 rfl ?_|rw[Ze Zr4.eq_1]|rw[Ze Zxq.eq_1]|refine run Zbk3 rfl ?_|refine run Zbk4 rfl ?_|rw[Ev_eq Zr6.eq_1]|refine run Zbk5 rfl ?_)
 all_goals (refine Yb ?_ h;clear h;simp +decide[*,kk,tI,tII,Zxn,Z6c,Zr3,Zxp,Z6d,Zr5,Zxr,Z6e,Z6f,Z6g,Z6h,Zr7])
abbrev Z9n:=Zei.1
abbrev Zbn7:=Zei.2.1
abbrev Z9o:=Zei.2.2.1
abbrev Z9p:=Zei.2.2.2.1
abbrev Zbn8:=Zei.2.2.2.2.1
abbrev Z9q:=Zei.2.2.2.2.2.1
abbrev Zzs:=Zei.2.2.2.2.2.2.1
abbrev Zbn9:=Zei.2.2.2.2.2.2.2.1
abbrev Zboa:=Zei.2.2.2.2.2.2.2.2.1
abbrev Zbob:=Zei.2.2.2.2.2.2.2.2.2.1
abbrev Zzt:=Zei.2.2.2.2.2.2.2.2.2.2.1
abbrev Zfm:=Zei.2.2.2.2.2.2.2.2.2.2.2
theorem Zgf:(∀⦃q p cd cc i r⦄,Im (Zog q p cd cc i=some r) (if i<(p.Steps.length:Int)then(0≤i∧(∃e1,p.Steps[i.toNat]?=some e1∧(∃(v1:Zb),∃v2,Zhk q e1 cd cc=some (.tup [.agg (v1.c.map .t),I v2],[])∧(if v2<0 then(some (.tup [.own 0,Bo false],[.arr 209 4 true (([]:List Zb).map Zb.c)])=some r)else(cd.length+1≤68719476736∧(0≤(w ((cc.length:Int)-v2))∧((w ((cc.length:Int)-v2)).toNat≤cc.length∧((w ((cc.length:Int)-v2)).toNat≤68719476736∧((w ((cc.length:Int)-v2)).toNat+1≤68719476736∧(Zog q p (cd++[v1]) ((cc.take ((w ((cc.length:Int)-v2)).toNat))++[i]) (w (i+1))=some r))))))))))else(if(cc.length:Int)=1 then(some (.tup [.own 0,Bo true],[.arr 209 4 true (cd.map Zb.c)])=some r)else(some (.tup [.own 0,Bo false],[.arr 209 4 true (([]:List Zb).map Zb.c)])=some r)))) ∧
 (∀⦃a a1 r⦄,Im (Zof a a1=some r) (∃v,Zhj a=some (Bo v,[])∧(if v=true then(∃v1,Zbe (a1.Steps.length:Int) 1 14=some (Bo v1,[])∧(if v1=true then(Zog a a1 ([]:List Zb) ([]:List Int) 0=some r)else(some (.tup [.own 0,Bo false],[.arr 209 4 true (([]:List Zb).map Zb.c)])=some r)))else(some (.tup [.own 0,Bo false],[.arr 209 4 true (([]:List Zb).map Zb.c)])=some r)))) ∧
 (∀⦃cl n i r⦄,Im (Zoh cl n i=some r) (if i<(cl.length:Int)then(0≤i∧(∃e1,cl[i.toNat]?=some e1∧(∃v1,Zbe e1 0 9=some (Bo v1,[])∧(if v1=true then(Zoh cl n (w (i+1))=some r)else(some (Bo false,[])=some r)))))else(some (Bo (decide ((cl.length:Int)=n)),[])=some r))) ∧
 (∀⦃a a1 r⦄,Im (Zli a a1=some r) (Zoh a a1 0=some r)) ∧
 (∀⦃a b i r⦄,Im (Zoi a b i=some r) (if i<(a.length:Int)then(if i<(b.length:Int)then(0≤i∧(∃e1,a[i.toNat]?=some e1∧(∃e2,b[i.toNat]?=some e2∧(if e1<e2 then(some (I (-1),[])=some r)else(if e2<e1 then(some (I 1,[])=some r)else(Zoi a b (w (i+1))=some r))))))else(Zoj a b i false=some r))else(Zoj a b i false=some r))) ∧
 (∀⦃a b i x r⦄,Im (Zoj a b i x=some r) (if(a.length:Int)<(b.length:Int)then(some (I (-1),[])=some r)else(if(b.length:Int)<(a.length:Int)then(some (I 1,[])=some r)else(some (I 0,[])=some r)))) ∧
 (∀⦃a a1 r⦄,Im (Zlj a a1=some r) (Zoi a a1 0=some r)) ∧
 (∀⦃t i r⦄,Im (Zlk t i=some r) (if i<(t.Rows.length:Int)then(0≤i∧(∃e1,t.Rows[i.toNat]?=some e1∧(∃v1,Zli e1 t.Arity=some (Bo v1,[])∧(if v1=true then(if 0<i then(0≤(w (i-1))∧(∃e3,t.Rows[(w (i-1)).toNat]?=some e3∧(∃v3,Zlj e3 e1=some (I v3,[])∧(if 0≤v3 then(some (Bo false,[])=some r)else(Zlk t (w (i+1))=some r)))))else(Zlk t (w (i+1))=some r))else(some (Bo false,[])=some r)))))else(some (Bo true,[])=some r))) ∧
 (∀⦃a r⦄,Im (Zok a=some r) (∃v,Zja a.Name=some (Bo v,[])∧(if v=true then(∃v1,Zbe a.Arity 1 3=some (Bo v1,[])∧(if v1=true then(if 8<(a.Rows.length:Int)then(some (Bo false,[])=some r)else(Zlk a 0=some r))else(some (Bo false,[])=some r)))else(some (Bo false,[])=some r)))):=by
 and_intros
 all_goals intros
 all_goals unfold Im
 all_goals try simp only[Zog,Zof,Zoh,Zli,Zoi,Zlj,Zlk,Zok,Zhk,Zg.c_def,Zd.c_def,Zb.c_def,Zhj,Zbe,Zja,Zoj,mpl,dfs]
 all_goals try simp only[itb]
 all_goals try simp only[itf,gS,kk]
 all_goals repeat' first|refine exI fun _=>?_|refine anJ fun _ _=>?_|refine anI fun _=>?_|refine orE2 ?_ ?_|exact False.elim
 all_goals (intro h;first|rw[Ze Zxs.eq_1]|refine run Zbk6 rfl ?_|rw[Ze Zxu.eq_1]|refine run Zbk7 rfl ?_|rw[Ze Zxw.eq_1]|rw[Ev_eq Zr8.eq_1]|refine run Zbk8 rfl ?_|rw[Ze Zxx.eq_1]|refine run Zbk9 rfl ?_)
 all_goals (refine Yb ?_ h;clear h;simp +decide[*,kk,tI,tII,Zxt,Z6i,Zxv,Z6j,Z6k,Zxy,Z6l])
abbrev Z9r:=Zgf.1
abbrev Zboc:=Zgf.2.1
abbrev Z9s:=Zgf.2.2.1
abbrev Zbod:=Zgf.2.2.2.1
abbrev Z9t:=Zgf.2.2.2.2.1
abbrev Zboe:=Zgf.2.2.2.2.2.1
abbrev Zbof:=Zgf.2.2.2.2.2.2.1
abbrev Z9u:=Zgf.2.2.2.2.2.2.2.1
abbrev Zbog:=Zgf.2.2.2.2.2.2.2.2
theorem Zph{q:Zd}{x:Zg}{x1:Zb}{cc:List Zb}{c:List Int}{n x2:Int}{x3:Bool}{r:AV×List Blk}(h:(if x3=true then(if x.Atom=0 then(if n<2 then(some (.tup [.agg [I 0,I 0,I 0,I 0],I (-1)],[])=some r)else(0≤(w (n-2))∧(∃(e1:Int),c[(w (n-2)).toNat]?=some e1∧(0≤e1∧(∃(e2:Zb),cc[e1.toNat]?=some e2∧(0≤(w (n-1))∧(∃(e3:Int),c[(w (n-1)).toNat]?=some e3∧(0≤e3∧(∃(e4:Zb),cc[e3.toNat]?=some e4∧(∃(v:Int),Zd6 q e2.Mask=some (I v,[])∧(∃(v1:Int),Zd6 q e4.Mask=some (I v1,[])∧(if(andI e2.Mask e4.Mask)=0 then(if(andI v v1)=0 then(some (.tup [.agg [I 0,I 0,I 0,I 0],I (-1)],[])=some r)else(if x.Kind=4 then(Zhl q x x1 e2 e4 (⟨(orI e2.Mask e4.Mask),(-1),e1,e3⟩:Zb) (andI v v1) false=some r)else(if x.Order=0 then(if x.Kind=5 then(Zlh q x x1 e2 e4 (⟨(orI e2.Mask e4.Mask),e2.Order,e1,e3⟩:Zb) (andI v v1)=some r)else(Zhl q x x1 e2 e4 (⟨(orI e2.Mask e4.Mask),(-1),e1,e3⟩:Zb) (andI v v1) false=some r))else(some (.tup [.agg [I 0,I 0,I 0,I 0],I (-1)],[])=some r))))else(some (.tup [.agg [I 0,I 0,I 0,I 0],I (-1)],[])=some r)))))))))))))else(some (.tup [.agg [I 0,I 0,I 0,I 0],I (-1)],[])=some r))else(some (.tup [.agg [I 0,I 0,I 0,I 0],I (-1)],[])=some r))):Zjd q x x1 cc c n x2 x3=some r:=by
 unfold Zjd;rw[Ev_eq Zr7.eq_1];by_cases q1:x3=true
 ·rw[if_pos q1]at h;by_cases q2:x.Atom=0
  ·rw[if_pos q2]at h;replace q2:=eq_true q2;by_cases q3:n<2
   ·rw[if_pos q3]at h;refine Yb ?_ h;clear h;simp +decide[*,tI,tII]
   ·rw[if_neg q3]at h;obtain⟨q4,h⟩:=h;obtain⟨e1,q5,h⟩:=h;have gq5:=Zbx q5;have kq5:=Zb1 q5;obtain⟨q6,h⟩:=h;obtain⟨e2,q7,h⟩:=h;have gq7:=Zbx q7;have kq7:=Zb1 q7;obtain⟨q8,h⟩:=h;obtain⟨e3,q9,h⟩:=h;have gq9:=Zbx q9;have kq9:=Zb1 q9;obtain⟨q10,h⟩:=h;obtain⟨e4,q11,h⟩:=h;have gq11:=Zbx q11;have kq11:=Zb1 q11;obtain⟨v,q12,h⟩:=h;unfold Zd6 at q12
    try simp at q12
    obtain⟨v1,q13,h⟩:=h;unfold Zd6 at q13
    try simp at q13
    by_cases q14:(andI e2.Mask e4.Mask)=0
    ·rw[if_pos q14]at h;replace q14:=eq_true q14;by_cases q15:(andI v v1)=0
     ·rw[if_pos q15]at h;replace q15:=eq_true q15;refine Yb ?_ h;clear h;simp +decide[*,tI,tII]
     ·rw[if_neg q15]at h;replace q15:=eq_false q15;by_cases q16:x.Kind=4
      ·rw[if_pos q16]at h;replace q16:=eq_true q16;have q17:(x.Kind=5)=False:=eq_false (by intro hh;simp_all);refine Yb ?_ h;clear h;simp +decide[*,tI,tII,Zhl]
      ·rw[if_neg q16]at h;replace q16:=eq_false q16;by_cases q18:x.Order=0
       ·rw[if_pos q18]at h;replace q18:=eq_true q18;by_cases q19:x.Kind=5
        ·rw[if_pos q19]at h;replace q19:=eq_true q19;refine Yb ?_ h;clear h;simp +decide[*,tI,tII,Zlh]
        ·rw[if_neg q19]at h;replace q19:=eq_false q19;refine Yb ?_ h;clear h;simp +decide[*,tI,tII,Zhl]
       ·rw[if_neg q18]at h;replace q18:=eq_false q18;refine Yb ?_ h;clear h;simp +decide[*,tI,tII]
    ·rw[if_neg q14]at h;replace q14:=eq_false q14;refine Yb ?_ h;clear h;simp +decide[*,tI,tII]
  ·rw[if_neg q2]at h;replace q2:=eq_false q2;refine Yb ?_ h;clear h;simp +decide[*,tI,tII]
 ·rw[if_neg q1]at h;refine Yb ?_ h;clear h;simp +decide[*,tI,tII]
theorem Zej:(∀⦃d i r⦄,Im (Zll d i=some r) (if i<(d.Tables.length:Int)then(0≤i∧(∃e1,d.Tables[i.toNat]?=some e1∧(∃v2,Zok e1=some (Bo v2,[])∧(if v2=true then(if 0<i then(0≤(w (i-1))∧(∃e3,d.Tables[(w (i-1)).toNat]?=some e3∧(if(Op.bytesLess e3.Name.toList e1.Name.toList)=true then(Zll d (w (i+1))=some r)else(some (Bo false,[])=some r))))else(Zll d (w (i+1))=some r))else(some (Bo false,[])=some r)))))else(some (Bo (decide ((d.Tables.length:Int)≤6)),[])=some r))) ∧
 (∀⦃a r⦄,Im (Zr9 a=some r) (Zll a 0=some r)) ∧
 (∀⦃t cl cc cd c i r⦄,Im (Zx1 t cl cc cd c i=some r) (if i<(t.Rows.length:Int)then(0≤i∧(∃e1,t.Rows[i.toNat]?=some e1∧(e1.length≤68719476736∧(Zom t cl cc cd c ([e1]) (w (i+1))=some r))))else(some (.agg [.t (.str cd),I c,.t .nil],[])=some r))) ∧
 (∀⦃t cl cc cd c x i r⦄,Im (Zom t cl cc cd c x i=some r) (if i<(t.Rows.length:Int)then(0≤i∧(∃e1,t.Rows[i.toNat]?=some e1∧(e1.length≤68719476736∧(x.length+1≤68719476736∧(Zom t cl cc cd c (x++[e1]) (w (i+1))=some r)))))else(some (.agg [.t (.str cd),I c,.own 0],[.arr 30 1 true (x.map isc)])=some r))) ∧
 (∀⦃a r⦄,Im (Zol a=some r) (Zx1 a ⟨#[]⟩ 0 a.Name a.Arity 0=some r)) ∧
 (∀⦃d cl cc cp i r⦄,Im (Zon d cl cc cp i=some r) (if i<(d.Tables.length:Int)then(∃v1,Zr9 d=some (Bo v1,[])∧(if v1=true then(0≤i∧(∃e2,d.Tables[i.toNat]?=some e2∧(if e2.Name=cp then((∃v5 v6,Zol e2=some (.agg [.t (.str v5),I v6,.t .nil],[])∧(some (.tup [.agg [.t (.str v5),I v6,.t .nil],Bo true],[])=some r))∨(∃(v8:List (List Int)),∃v9,∃v10,Zol e2=some (.agg [.t (.str v9),I v10,.own 0],[.arr 30 1 true (v8.map isc)])∧(some (.tup [.agg [.t (.str v9),I v10,.own 0],Bo true],[.arr 30 1 true (v8.map isc)])=some r)))else(Zon d cl cc cp (w (i+1))=some r))))else(some (.tup [.agg [.t (.str ⟨#[]⟩),I 0,.t .nil],Bo false],[])=some r)))else(some (.tup [.agg [.t (.str ⟨#[]⟩),I 0,.t .nil],Bo false],[])=some r))) ∧
 (∀⦃a a1 r⦄,Im (Zhm a a1=some r) (Zon a ⟨#[]⟩ 0 a1 0=some r)) ∧
 (∀⦃d q i r⦄,Im (Zlm d q i=some r) (if i<(q.Atoms.length:Int)then(0≤i∧(∃e1,q.Atoms[i.toNat]?=some e1∧((∃v2 v3 v4,Zhm d e1.Name=some (.tup [.agg [.t (.str v2),I v3,.t .nil],Bo v4],[])∧(if v4=true then(if v3=(e1.Vars.length:Int)then(Zlm d q (w (i+1))=some r)else(some (Bo false,[])=some r))else(some (Bo false,[])=some r)))∨(∃(v5:List (List Int)),∃v6,∃v7,Zhm d e1.Name=some (.tup [.agg [.t (.str v6),I v7,.own 0],Bo true],[.arr 30 1 true (v5.map isc)])∧(if v7=(e1.Vars.length:Int)then(Zlm d q (w (i+1))=some r)else(some (Bo false,[])=some r))))))else(some (Bo true,[])=some r))) ∧
 (∀⦃a a1 r⦄,Im (Zje a a1=some r) (∃v1,Zhj a1=some (Bo v1,[])∧(if v1=true then(Zlm a a1 0=some r)else(some (Bo false,[])=some r)))) ∧
 (∀⦃a a1 r⦄,Im (Zsc a a1=some r) (∃v1,Zhj a=some (Bo v1,[])∧(if v1=true then(¬(a.Atoms.length:Int)<0∧(∃v2,Zbe a1 0 (w ((shlI 1 (a.Atoms.length:Int))-1))=some (Bo v2,[])∧(some (Bo v2,[])=some r)))else(some (Bo false,[])=some r)))) ∧
 (∀⦃co cn v r⦄,Im (Zln co cn v=some r) (if v<4 then(¬v<0∧(if(andI (shrI cn v) 1)=1 then(co.length+1≤68719476736∧(Zln (co++[v]) cn (w (v+1))=some r))else(Zln co cn (w (v+1))=some r)))else(some (.own 0,[.arr 3 1 true (co.map ic)])=some r))) ∧
 (∀⦃a r⦄,Im (Zsd a=some r) (Zln ([]:List Int) a 0=some r)):=by
 and_intros
 all_goals intros
 all_goals unfold Im
 all_goals try simp only[Zll,Zr9,Zx1,Zom,Zol,Zon,Zhm,Zlm,Zje,Zsc,Zln,Zsd,Zok,Zi.c_def,Zk.c_def,Zhj,Zd.c_def,Zbe,mpl,dfs]
 all_goals try simp only[itb]
 all_goals try simp only[itf,gS,kk]
 all_goals repeat' first|refine exI fun _=>?_|refine anJ fun _ _=>?_|refine anI fun _=>?_|refine orE2 ?_ ?_|exact False.elim
 all_goals (intro h;first|rw[Ze Zxz.eq_1]|refine run Zbla rfl ?_|rw[Ze Zsa.eq_1]|refine run Zblb rfl ?_|rw[Ze Zx2.eq_1]|refine run Zblc rfl ?_|rw[Ze Zx4.eq_1]|refine run Zbld rfl ?_|refine run Zble rfl ?_|rw[Ze Zx6.eq_1]|refine run Zblf rfl ?_)
 all_goals (refine Yb ?_ h;clear h;simp +decide[*,kk,tI,tII,Zx0,Z6m,Zsb,Z6n,Zx3,Z6o,Zx5,Z6p,Z6q,Z6r,Zx7,Z6s])
abbrev Z9v:=Zej.1
abbrev Zboh:=Zej.2.1
abbrev Zboi:=Zej.2.2.1
abbrev Z9w:=Zej.2.2.2.1
abbrev Zboj:=Zej.2.2.2.2.1
abbrev Z9x:=Zej.2.2.2.2.2.1
abbrev Zbok:=Zej.2.2.2.2.2.2.1
abbrev Z9y:=Zej.2.2.2.2.2.2.2.1
abbrev Zbol:=Zej.2.2.2.2.2.2.2.2.1
abbrev Zbom:=Zej.2.2.2.2.2.2.2.2.2.1
abbrev Z9z:=Zej.2.2.2.2.2.2.2.2.2.2.1
abbrev Zbon:=Zej.2.2.2.2.2.2.2.2.2.2.2
theorem Zek:(∀⦃a a1 r⦄,Im (Zoo a a1=some r) (∃v1,Zsc a a1=some (Bo v1,[])∧(if v1=true then(∃v2,Zd6 a a1=some (I v2,[])∧(∃(v3:List Int),Zsd v2=some (.own 0,[.arr 3 1 true (v3.map ic)])∧(some (.own 0,[.arr 3 1 true (v3.map ic)])=some r)))else(some (.own 0,[.arr 3 1 true (([]:List Int).map ic)])=some r)))) ∧
 (∀⦃a v k r⦄,Im (Zoq a v k=some r) (if k<(a.Vars.length:Int)then(0≤k∧(∃e1,a.Vars[k.toNat]?=some e1∧(if e1=v then(some (I k,[])=some r)else(Zoq a v (w (k+1))=some r))))else(some (I (-1),[])=some r))) ∧
 (∀⦃a a1 r⦄,Im (Zop a a1=some r) (Zoq a a1 0=some r)) ∧
 (∀⦃q cc c x i k r⦄,Im (Zya q cc c x i k=some r) (if k<0 then(Z6w q cc c x ([]:List Int) i k 0=some r)else(some (.tup [.agg [.own 0,.t .nil],Bo true],[.arr 3 1 true (x.map ic)])=some r))) ∧
 (∀⦃q cc c x x1 i k r⦄,Im (Zyb q cc c x x1 i k=some r) (if k<(x.length:Int)then(Zou q cc c x x1 ([]:List Int) i k 0=some r)else(some (.tup [.agg [.own 0,.t .nil],Bo true],[.arr 3 1 true (x1.map ic)])=some r))) ∧
 (∀⦃q cc c x x1 cd i k j r⦄,Im (Zou q cc c x x1 cd i k j=some r) (if j<(x1.length:Int)then(0≤k∧(∃e1,x[k.toNat]?=some e1∧(0≤i∧(∃e2,q.Atoms[i.toNat]?=some e2∧(0≤j∧(∃e3,x1[j.toNat]?=some e3∧(∃v4,Zop e2 e3=some (I v4,[])∧(0≤v4∧(∃e5,e1[v4.toNat]?=some e5∧(cd.length+1≤68719476736∧(Zou q cc c x x1 (cd++[e5]) i k (w (j+1))=some r)))))))))))else(Zjg q cc c x x1 ([cd]) i (w (k+1))=some r))) ∧
 (∀⦃q cc c x x1 x2 i k r⦄,Im (Zjg q cc c x x1 x2 i k=some r) (if k<(x.length:Int)then(Zov q cc c x x1 x2 ([]:List Int) i k 0=some r)else(some (.tup [.agg [.own 0,.own 1],Bo true],[.arr 3 1 true (x1.map ic),.arr 30 1 true (x2.map isc)])=some r))) ∧
 (∀⦃q cc c x x1 x2 cd i k j r⦄,Im (Zov q cc c x x1 x2 cd i k j=some r) (if j<(x1.length:Int)then(0≤k∧(∃e1,x[k.toNat]?=some e1∧(0≤i∧(∃e2,q.Atoms[i.toNat]?=some e2∧(0≤j∧(∃e3,x1[j.toNat]?=some e3∧(∃v4,Zop e2 e3=some (I v4,[])∧(0≤v4∧(∃e5,e1[v4.toNat]?=some e5∧(cd.length+1≤68719476736∧(Zov q cc c x x1 x2 (cd++[e5]) i k (w (j+1))=some r)))))))))))else(x2.length+1≤68719476736∧(Zjg q cc c x x1 (x2++[cd]) i (w (k+1))=some r)))) ∧
 (∀⦃a a1 a2 r⦄,Im (Zjf a a1 a2=some r) (∃v1,Zje a a1=some (Bo v1,[])∧(if v1=true then(∃v2,Zbe a2 0 (w ((a1.Atoms.length:Int)-1))=some (Bo v2,[])∧(if v2=true then(0≤a2∧(∃e3,a1.Atoms[a2.toNat]?=some e3∧((∃v4 v5 v6,Zhm a e3.Name=some (.tup [.agg [.t (.str v4),I v5,.t .nil],Bo v6],[])∧(¬a2<0∧(∃(v7:List Int),Zoo a1 (shlI 1 a2)=some (.own 0,[.arr 3 1 true (v7.map ic)])∧(Zya a1 v4 v5 v7 a2 0=some r))))∨(∃(v8:List (List Int)),∃v9,∃v10,Zhm a e3.Name=some (.tup [.agg [.t (.str v9),I v10,.own 0],Bo true],[.arr 30 1 true (v8.map isc)])∧(¬a2<0∧(∃(v11:List Int),Zoo a1 (shlI 1 a2)=some (.own 0,[.arr 3 1 true (v11.map ic)])∧(Zyb a1 v9 v10 v8 v11 a2 0=some r)))))))else(some (.tup [.agg [.t .nil,.t .nil],Bo false],[])=some r)))else(some (.tup [.agg [.t .nil,.t .nil],Bo false],[])=some r)))) ∧
 (∀⦃l v i r⦄,Im (Zow l v i=some r) (if i<(l.length:Int)then(0≤i∧(∃e1,l[i.toNat]?=some e1∧(if e1=v then(some (I i,[])=some r)else(Zow l v (w (i+1))=some r))))else(some (I (-1),[])=some r))) ∧
 (∀⦃a a1 r⦄,Im (Zdh a a1=some r) (Zow a a1 0=some r)) ∧
 (∀⦃s i r⦄,Im (Zjh s i=some r) (if i<(s.Vars.length:Int)then(0≤i∧(∃e1,s.Vars[i.toNat]?=some e1∧(∃v2,Zbe e1 0 3=some (Bo v2,[])∧(if v2=true then(if 0<i then(0≤(w (i-1))∧(∃e3,s.Vars[(w (i-1)).toNat]?=some e3∧(if e1≤e3 then(some (Bo false,[])=some r)else(Zjh s (w (i+1))=some r))))else(Zjh s (w (i+1))=some r))else(some (Bo false,[])=some r)))))else(Zlo s 0=some r))):=by
 and_intros
 all_goals intros
 all_goals unfold Im
 all_goals try simp only[Zoo,Zoq,Zop,Zya,Zyb,Zou,Zjg,Zov,Zjf,Zow,Zdh,Zjh,Zsc,Zd6,Zsd,Zd.c_def,Atom.c_def,Zje,Zbe,Zhm,Zk.c_def,Z6w,Zlo,mpl,dfs]
 all_goals try simp only[itb]
 all_goals try simp only[itf,gS,kk]
 all_goals repeat' first|refine exI fun _=>?_|refine anJ fun _ _=>?_|refine anI fun _=>?_|refine orE2 ?_ ?_|exact False.elim
 all_goals (intro h;first|refine run Zblg rfl ?_|rw[Ze Zx8.eq_1]|refine run Zblh rfl ?_|rw[Ze Zhn.eq_1]|rw[Ze Zor.eq_1]|refine run Zbli rfl ?_|rw[Ze Zyc.eq_1]|refine run Zblj rfl ?_|rw[Ze Zye.eq_1])
 all_goals (refine Yb ?_ h;clear h;simp +decide[*,kk,tI,tII,Z6t,Zx9,Z6u,Zho,Zot,Zos,Z6v,Zyd,Z6x,Zyh])
abbrev Zboo:=Zek.1
abbrev Z90:=Zek.2.1
abbrev Zbop:=Zek.2.2.1
abbrev Zboq:=Zek.2.2.2.1
abbrev Zbor:=Zek.2.2.2.2.1
abbrev Z91:=Zek.2.2.2.2.2.1
abbrev Z92:=Zek.2.2.2.2.2.2.1
abbrev Z93:=Zek.2.2.2.2.2.2.2.1
abbrev Zbos:=Zek.2.2.2.2.2.2.2.2.1
abbrev Z94:=Zek.2.2.2.2.2.2.2.2.2.1
abbrev Zbot:=Zek.2.2.2.2.2.2.2.2.2.2.1
abbrev Z95:=Zek.2.2.2.2.2.2.2.2.2.2.2
theorem Z96:(∀⦃s i r⦄,Im (Zlo s i=some r) (if i<(s.Rows.length:Int)then(0≤i∧(∃e1,s.Rows[i.toNat]?=some e1∧(∃v,Zli e1 (s.Vars.length:Int)=some (Bo v,[])∧(if v=true then(Zlo s (w (i+1))=some r)else(some (Bo false,[])=some r)))))else(some (Bo (decide ((s.Rows.length:Int)≤4096)),[])=some r))) ∧
 (∀⦃a r⦄,Im (Zdi a=some r) (Zjh a 0=some r)):=by
 and_intros
 all_goals intros
 all_goals unfold Im
 all_goals try simp only[Zlo,Zdi,Zli,Zjh,mpl,dfs]
 all_goals try simp only[itb]
 all_goals try simp only[itf,gS,kk]
 all_goals repeat' first|refine exI fun _=>?_|refine anJ fun _ _=>?_|refine anI fun _=>?_|refine orE2 ?_ ?_|exact False.elim
 all_goals (intro h;first|rw[Ze Zyf.eq_1]|refine run Zblk rfl ?_)
 all_goals (refine Yb ?_ h;clear h;simp +decide[*,kk,tI,tII,Zyg,Z6y])
abbrev Z97:=Z96.1
abbrev Zbou:=Z96.2
theorem Zel:(∀⦃s x x1 c r⦄,Im (Zox s x x1 c=some r) (if c≤9 then(Zoy s x x1 c 0=some r)else(some (.tup [.agg [.own 0,.t .nil],Bo true],[.arr 3 1 true (x.map ic)])=some r))) ∧
 (∀⦃s x x1 c i r⦄,Im (Zoy s x x1 c i=some r) (if i<(s.Rows.length:Int)then(0≤i∧(∃e1,s.Rows[i.toNat]?=some e1∧(0≤x1∧(∃e2,e1[x1.toNat]?=some e2∧(if e2=c then(e1.length≤68719476736∧(Zhp s x ([e1]) x1 c (w (i+1))=some r))else(Zoy s x x1 c (w (i+1))=some r))))))else(Zox s x x1 (w (c+1))=some r))) ∧
 (∀⦃s x x1 x2 c i r⦄,Im (Zhp s x x1 x2 c i=some r) (if i<(s.Rows.length:Int)then(0≤i∧(∃e1,s.Rows[i.toNat]?=some e1∧(0≤x2∧(∃e2,e1[x2.toNat]?=some e2∧(if e2=c then(e1.length≤68719476736∧(x1.length+1≤68719476736∧(Zhp s x (x1++[e1]) x2 c (w (i+1))=some r)))else(Zhp s x x1 x2 c (w (i+1))=some r))))))else(Zsg s x x1 x2 (w (c+1))=some r))) ∧
 (∀⦃s x x1 x2 c r⦄,Im (Zsg s x x1 x2 c=some r) (if c≤9 then(Zhp s x x1 x2 c 0=some r)else(some (.tup [.agg [.own 0,.own 1],Bo true],[.arr 3 1 true (x.map ic),.arr 30 1 true (x1.map isc)])=some r))) ∧
 (∀⦃a a1 r⦄,Im (Zji a a1=some r) (∃v1,Zdh a.Vars a1=some (I v1,[])∧(∃v2,Zdi a=some (Bo v2,[])∧(if v2=true then(if v1<0 then(some (.tup [.agg [.t .nil,.t .nil],Bo false],[])=some r)else(a.Vars.length≤68719476736∧(Zox a a.Vars v1 0=some r)))else(some (.tup [.agg [.t .nil,.t .nil],Bo false],[])=some r))))) ∧
 (∀⦃cc a b v r⦄,Im (Zjj cc a b v=some r) (if v<4 then(∃v1,Zjb a v=some (Bo v1,[])∧(if v1=true then(cc.length+1≤68719476736∧(Zjj (cc++[v]) a b (w (v+1))=some r))else(∃v2,Zjb b v=some (Bo v2,[])∧(if v2=true then(cc.length+1≤68719476736∧(Zjj (cc++[v]) a b (w (v+1))=some r))else(Zjj cc a b (w (v+1))=some r)))))else(some (.own 0,[.arr 3 1 true (cc.map ic)])=some r))) ∧
 (∀⦃a a1 r⦄,Im (Zhq a a1=some r) (Zjj ([]:List Int) a a1 0=some r)) ∧
 (∀⦃a x b y i r⦄,Im (Zlr a x b y i=some r) (if i<(a.length:Int)then(0≤i∧(∃e1,a[i.toNat]?=some e1∧(∃v2,Zdh b e1=some (I v2,[])∧(if 0≤v2 then(∃e3,x[i.toNat]?=some e3∧(∃e4,y[v2.toNat]?=some e4∧(if e3=e4 then(Zlr a x b y (w (i+1))=some r)else(some (Bo false,[])=some r))))else(Zlr a x b y (w (i+1))=some r)))))else(some (Bo true,[])=some r))) ∧
 (∀⦃a a1 a2 a3 r⦄,Im (Zbq a a1 a2 a3=some r) (Zlr a a1 a2 a3 0=some r)) ∧
 (∀⦃cl cd a x b y i r⦄,Im (Zls cl cd a x b y i=some r) (if i<(cd.length:Int)then(0≤i∧(∃e1,cd[i.toNat]?=some e1∧(∃v2,Zdh a e1=some (I v2,[])∧(if 0≤v2 then(∃e3,x[v2.toNat]?=some e3∧(cl.length+1≤68719476736∧(Zls (cl++[e3]) cd a x b y (w (i+1))=some r)))else(∃v3,Zdh b e1=some (I v3,[])∧(0≤v3∧(∃e5,y[v3.toNat]?=some e5∧(cl.length+1≤68719476736∧(Zls (cl++[e5]) cd a x b y (w (i+1))=some r)))))))))else(some (.own 0,[.arr 3 1 true (cl.map ic)])=some r))) ∧
 (∀⦃a a1 a2 a3 a4 r⦄,Im (Zbr a a1 a2 a3 a4=some r) (Zls ([]:List Int) a a1 a2 a3 a4 0=some r)) ∧
 (∀⦃a b x cp only x1 cn co i r⦄,Im (Zjm a b x cp only x1 cn co i=some r) (if i<cn then(Zea a b x cp only x1 cn co i 0=some r)else(some (.agg [.own 0,.t .nil],[.arr 3 1 true (x.map ic)])=some r))):=by
 and_intros
 all_goals intros
 all_goals unfold Im
 all_goals try simp only[Zox,Zoy,Zhp,Zsg,Zji,Zjj,Zhq,Zlr,Zbq,Zls,Zbr,Zjm,Zdh,Zdi,Za.c_def,Zjb,Zea,mpl,dfs]
 all_goals try simp only[itb]
 all_goals try simp only[itf,gS,kk]
 all_goals repeat' first|refine exI fun _=>?_|refine anJ fun _ _=>?_|refine anI fun _=>?_|refine orE2 ?_ ?_|exact False.elim
 all_goals (intro h;first|rw[Ze Zlp.eq_1]|rw[Ze Zse.eq_1]|refine run Zbll rfl ?_|rw[Ze Zyi.eq_1]|refine run Zblm rfl ?_|rw[Ze Zyk.eq_1]|refine run Zbln rfl ?_|rw[Ze Zym.eq_1]|refine run Zblo rfl ?_|rw[Ze Zd7.eq_1])
 all_goals (refine Yb ?_ h;clear h;simp +decide[*,kk,tI,tII,Zlq,Z6z,Zsf,Z60,Z61,Zyj,Z62,Zyl,Z63,Z64,Zyn,Z65,Zd8])
abbrev Z98:=Zel.1
abbrev Z99:=Zel.2.1
abbrev Zsx:=Zel.2.2.1
abbrev Zbaa:=Zel.2.2.2.1
abbrev Zbov:=Zel.2.2.2.2.1
abbrev Zbab:=Zel.2.2.2.2.2.1
abbrev Zbow:=Zel.2.2.2.2.2.2.1
abbrev Zbac:=Zel.2.2.2.2.2.2.2.1
abbrev Zbox:=Zel.2.2.2.2.2.2.2.2.1
abbrev Zbad:=Zel.2.2.2.2.2.2.2.2.2.1
abbrev Zboy:=Zel.2.2.2.2.2.2.2.2.2.2.1
abbrev Zbae:=Zel.2.2.2.2.2.2.2.2.2.2.2
theorem Zhw:(∀⦃a b x cd only x1 cc c i k r⦄,Im (Zea a b x cd only x1 cc c i k=some r) (if k<c then(0≤(if(w ((a.Rows.length:Int)-1))<i then(w ((a.Rows.length:Int)-1))else i)∧(∃e1,a.Rows[(if(w ((a.Rows.length:Int)-1))<i then(w ((a.Rows.length:Int)-1))else i).toNat]?=some e1∧(0≤(if(w ((b.Rows.length:Int)-1))<k then(w ((b.Rows.length:Int)-1))else k)∧(∃e2,b.Rows[(if(w ((b.Rows.length:Int)-1))<k then(w ((b.Rows.length:Int)-1))else k).toNat]?=some e2∧(if cd=true then(0≤k∧(∃e3,a.Rows[k.toNat]?=some e3∧(0≤i∧(∃e4,b.Rows[i.toNat]?=some e4∧(if only<0 then(∃v4,Zbq a.Vars e3 b.Vars e4=some (Bo v4,[])∧(if v4=true then(∃(v5:List Int),Zbr x a.Vars e3 b.Vars e4=some (.own 0,[.arr 3 1 true (v5.map ic)])∧(Zb9 a b x ([v5]) true only x1 cc c i (w (k+1))=some r))else(Zea a b x true only x1 cc c i (w (k+1))=some r)))else(0≤x1∧(∃e7,e3[x1.toNat]?=some e7∧(if e7=only then(∃v9,Zbq a.Vars e3 b.Vars e4=some (Bo v9,[])∧(if v9=true then(∃(v11:List Int),Zbr x a.Vars e3 b.Vars e4=some (.own 0,[.arr 3 1 true (v11.map ic)])∧(Zb9 a b x ([v11]) true only x1 cc c i (w (k+1))=some r))else(Zea a b x true only x1 cc c i (w (k+1))=some r)))else(Zea a b x true only x1 cc c i (w (k+1))=some r)))))))))else(if only<0 then(∃v12,Zbq a.Vars e1 b.Vars e2=some (Bo v12,[])∧(if v12=true then(∃(v13:List Int),Zbr x a.Vars e1 b.Vars e2=some (.own 0,[.arr 3 1 true (v13.map ic)])∧(Zb9 a b x ([v13]) false only x1 cc c i (w (k+1))=some r))else(Zea a b x false only x1 cc c i (w (k+1))=some r)))else(0≤x1∧(∃e12,e1[x1.toNat]?=some e12∧(if e12=only then(∃v14,Zbq a.Vars e1 b.Vars e2=some (Bo v14,[])∧(if v14=true then(∃(v15:List Int),Zbr x a.Vars e1 b.Vars e2=some (.own 0,[.arr 3 1 true (v15.map ic)])∧(Zb9 a b x ([v15]) false only x1 cc c i (w (k+1))=some r))else(Zea a b x false only x1 cc c i (w (k+1))=some r)))else(Zea a b x false only x1 cc c i (w (k+1))=some r))))))))))else(Zjm a b x cd only x1 cc c (w (i+1))=some r))) ∧
 (∀⦃a b x x1 cd only x2 cc c i k r⦄,Im (Zb9 a b x x1 cd only x2 cc c i k=some r) (if k<c then(if(x1.length:Int)≤4096 then(0≤(if(w ((a.Rows.length:Int)-1))<i then(w ((a.Rows.length:Int)-1))else i)∧(∃e1,a.Rows[(if(w ((a.Rows.length:Int)-1))<i then(w ((a.Rows.length:Int)-1))else i).toNat]?=some e1∧(0≤(if(w ((b.Rows.length:Int)-1))<k then(w ((b.Rows.length:Int)-1))else k)∧(∃e2,b.Rows[(if(w ((b.Rows.length:Int)-1))<k then(w ((b.Rows.length:Int)-1))else k).toNat]?=some e2∧(if cd=true then(0≤k∧(∃e3,a.Rows[k.toNat]?=some e3∧(0≤i∧(∃e4,b.Rows[i.toNat]?=some e4∧(if only<0 then(∃v4,Zbq a.Vars e3 b.Vars e4=some (Bo v4,[])∧(if v4=true then(∃(v5:List Int),Zbr x a.Vars e3 b.Vars e4=some (.own 0,[.arr 3 1 true (v5.map ic)])∧(x1.length+1≤68719476736∧(Zb9 a b x (x1++[v5]) true only x2 cc c i (w (k+1))=some r)))else(Zb9 a b x x1 true only x2 cc c i (w (k+1))=some r)))else(0≤x2∧(∃e7,e3[x2.toNat]?=some e7∧(if e7=only then(∃v9,Zbq a.Vars e3 b.Vars e4=some (Bo v9,[])∧(if v9=true then(∃(v11:List Int),Zbr x a.Vars e3 b.Vars e4=some (.own 0,[.arr 3 1 true (v11.map ic)])∧(x1.length+1≤68719476736∧(Zb9 a b x (x1++[v11]) true only x2 cc c i (w (k+1))=some r)))else(Zb9 a b x x1 true only x2 cc c i (w (k+1))=some r)))else(Zb9 a b x x1 true only x2 cc c i (w (k+1))=some r)))))))))else(if only<0 then(∃v12,Zbq a.Vars e1 b.Vars e2=some (Bo v12,[])∧(if v12=true then(∃(v13:List Int),Zbr x a.Vars e1 b.Vars e2=some (.own 0,[.arr 3 1 true (v13.map ic)])∧(x1.length+1≤68719476736∧(Zb9 a b x (x1++[v13]) false only x2 cc c i (w (k+1))=some r)))else(Zb9 a b x x1 false only x2 cc c i (w (k+1))=some r)))else(0≤x2∧(∃e12,e1[x2.toNat]?=some e12∧(if e12=only then(∃v14,Zbq a.Vars e1 b.Vars e2=some (Bo v14,[])∧(if v14=true then(∃(v15:List Int),Zbr x a.Vars e1 b.Vars e2=some (.own 0,[.arr 3 1 true (v15.map ic)])∧(x1.length+1≤68719476736∧(Zb9 a b x (x1++[v15]) false only x2 cc c i (w (k+1))=some r)))else(Zb9 a b x x1 false only x2 cc c i (w (k+1))=some r)))else(Zb9 a b x x1 false only x2 cc c i (w (k+1))=some r))))))))))else(Zlt a b x x1 cd only x2 cc c (w (i+1))=some r))else(Zlt a b x x1 cd only x2 cc c (w (i+1))=some r))) ∧
 (∀⦃a b x x1 cd only x2 cc c i r⦄,Im (Zlt a b x x1 cd only x2 cc c i=some r) (if i<cc then(Zb9 a b x x1 cd only x2 cc c i 0=some r)else(some (.agg [.own 0,.own 1],[.arr 3 1 true (x.map ic),.arr 30 1 true (x1.map isc)])=some r))) ∧
 (∀⦃x a a1 a2 a3 a4 r⦄,Im (Zd9 x a a1 a2 a3 a4=some r) (∃v,Zdh a.Vars a3=some (I v,[])∧(if a2=true then(Zjm a a1 x true a4 v (a1.Rows.length:Int) (a.Rows.length:Int) 0=some r)else(Zjm a a1 x false a4 v (a.Rows.length:Int) (a1.Rows.length:Int) 0=some r)))) ∧
 (∀⦃x r⦄,Im (Zlu x=some r) (some (.tup [.agg [.own 0,.t .nil],Bo true],[.arr 3 1 true (x.map ic)])=some r)) ∧
 (∀⦃x x1 r⦄,Im (Zfj x x1=some r) (if 4096<(x1.length:Int)then(some (.tup [.agg [.t .nil,.t .nil],Bo false],[.arr 3 1 true (x.map ic),.arr 30 1 true (x1.map isc)])=some r)else(some (.tup [.agg [.own 0,.own 1],Bo true],[.arr 3 1 true (x.map ic),.arr 30 1 true (x1.map isc)])=some r))) ∧
 (∀⦃a a1 r⦄,Im (Zjn a a1=some r) (∃v,Zdi a=some (Bo v,[])∧(if v=true then(∃v1,Zdi a1=some (Bo v1,[])∧(if v1=true then(∃(v2:List Int),Zhq a.Vars a1.Vars=some (.own 0,[.arr 3 1 true (v2.map ic)])∧((∃(v3:List Int),Zd9 v2 a a1 true 0 (-1)=some (.agg [.own 0,.t .nil],[.arr 3 1 true (v3.map ic)])∧(∃(v4:List Int),Zlu v3=some (.tup [.agg [.own 0,.t .nil],Bo true],[.arr 3 1 true (v4.map ic)])∧(some (.tup [.agg [.own 0,.t .nil],Bo true],[.arr 3 1 true (v4.map ic)])=some r)))∨(∃(v5:List Int) (v6:List (List Int)),Zd9 v2 a a1 true 0 (-1)=some (.agg [.own 0,.own 1],[.arr 3 1 true (v5.map ic),.arr 30 1 true (v6.map isc)])∧((∃(v7:List Int) (v8:List (List Int)),Zfj v5 v6=some (.tup [.agg [.t .nil,.t .nil],Bo false],[.arr 3 1 true (v7.map ic),.arr 30 1 true (v8.map isc)])∧(some (.tup [.agg [.t .nil,.t .nil],Bo false],[])=some r))∨(∃(v9:List Int) (v10:List (List Int)),Zfj v5 v6=some (.tup [.agg [.own 0,.own 1],Bo true],[.arr 3 1 true (v9.map ic),.arr 30 1 true (v10.map isc)])∧(some (.tup [.agg [.own 0,.own 1],Bo true],[.arr 3 1 true (v9.map ic),.arr 30 1 true (v10.map isc)])=some r))))))else(some (.tup [.agg [.t .nil,.t .nil],Bo false],[])=some r)))else(some (.tup [.agg [.t .nil,.t .nil],Bo false],[])=some r)))) ∧
 (∀⦃a a1 r⦄,Im (Zjo a a1=some r) (∃v,Zdi a=some (Bo v,[])∧(if v=true then(∃v1,Zdi a1=some (Bo v1,[])∧(if v1=true then(∃(v2:List Int),Zhq a.Vars a1.Vars=some (.own 0,[.arr 3 1 true (v2.map ic)])∧((∃(v3:List Int),Zd9 v2 a a1 false 0 (-1)=some (.agg [.own 0,.t .nil],[.arr 3 1 true (v3.map ic)])∧(∃(v4:List Int),Zlu v3=some (.tup [.agg [.own 0,.t .nil],Bo true],[.arr 3 1 true (v4.map ic)])∧(some (.tup [.agg [.own 0,.t .nil],Bo true],[.arr 3 1 true (v4.map ic)])=some r)))∨(∃(v5:List Int) (v6:List (List Int)),Zd9 v2 a a1 false 0 (-1)=some (.agg [.own 0,.own 1],[.arr 3 1 true (v5.map ic),.arr 30 1 true (v6.map isc)])∧((∃(v7:List Int) (v8:List (List Int)),Zfj v5 v6=some (.tup [.agg [.t .nil,.t .nil],Bo false],[.arr 3 1 true (v7.map ic),.arr 30 1 true (v8.map isc)])∧(some (.tup [.agg [.t .nil,.t .nil],Bo false],[])=some r))∨(∃(v9:List Int) (v10:List (List Int)),Zfj v5 v6=some (.tup [.agg [.own 0,.own 1],Bo true],[.arr 3 1 true (v9.map ic),.arr 30 1 true (v10.map isc)])∧(some (.tup [.agg [.own 0,.own 1],Bo true],[.arr 3 1 true (v9.map ic),.arr 30 1 true (v10.map isc)])=some r))))))else(some (.tup [.agg [.t .nil,.t .nil],Bo false],[])=some r)))else(some (.tup [.agg [.t .nil,.t .nil],Bo false],[])=some r)))):=by
 and_intros
 all_goals intros
 all_goals unfold Im
 all_goals try simp only[Zea,Zb9,Zlt,Zd9,Zlu,Zfj,Zjn,Zjo,Zbq,Zbr,Zdh,Zdi,Zhq,Za.c_def,Zjm,mpl,dfs]
 all_goals try simp only[itb]
 all_goals try simp only[itf,gS,kk]
 all_goals repeat' first|refine exI fun _=>?_|refine anJ fun _ _=>?_|refine anI fun _=>?_|refine orE2 ?_ ?_|exact False.elim
 all_goals (intro h;first|rw[Ze Zjk.eq_1]|rw[Ze Zd7.eq_1]|refine runM Z7z rfl ?_|refine runM Zblp rfl ?_|refine run Zblq rfl ?_|refine run Zblr rfl ?_)
 all_goals (refine Yb ?_ h;clear h;simp +decide[*,kk,tI,tII,Zyo,Zjl,Zd8,Zyq,Zyp,Z66,Z67,Z68])
abbrev Zbaf:=Zhw.1
abbrev Zbag:=Zhw.2.1
abbrev Zbah:=Zhw.2.2.1
abbrev Zzu:=Zhw.2.2.2.1
abbrev Zzv:=Zhw.2.2.2.2.1
abbrev Zboz:=Zhw.2.2.2.2.2.1
abbrev Zbo0:=Zhw.2.2.2.2.2.2.1
abbrev Zbo1:=Zhw.2.2.2.2.2.2.2
theorem Zem:(∀⦃s x i r⦄,Im (Zo0 s x i=some r) (if i<(s.Rows.length:Int)then(0≤(w (i-1))∧(∃e1,s.Rows[(w (i-1)).toNat]?=some e1∧(0≤x∧(∃e2,e1[x.toNat]?=some e2∧(0≤i∧(∃e3,s.Rows[i.toNat]?=some e3∧(∃e4,e3[x.toNat]?=some e4∧(if e4<e2 then(some (Bo false,[])=some r)else(Zo0 s x (w (i+1))=some r)))))))))else(some (Bo true,[])=some r))) ∧
 (∀⦃a a1 r⦄,Im (Zoz a a1=some r) (∃v1,Zdh a.Vars a1=some (I v1,[])∧(∃v3,Zdi a=some (Bo v3,[])∧(if v3=true then(if v1<0 then(some (Bo false,[])=some r)else(Zo0 a v1 1=some r))else(some (Bo false,[])=some r))))) ∧
 (∀⦃a b x x1 co only x2 cd cc i r⦄,Im (Zjp a b x x1 co only x2 cd cc i=some r) (if i<cd then(Ze4 a b x x1 co only x2 cd cc i 0=some r)else(some (.agg [.own 0,.own 1],[.arr 3 1 true (x.map ic),.arr 30 1 true (x1.map isc)])=some r))) ∧
 (∀⦃a b x x1 co only x2 cd cc i k r⦄,Im (Ze4 a b x x1 co only x2 cd cc i k=some r) (if k<cc then(if(x1.length:Int)≤4096 then(0≤(if(w ((a.Rows.length:Int)-1))<i then(w ((a.Rows.length:Int)-1))else i)∧(∃e1,a.Rows[(if(w ((a.Rows.length:Int)-1))<i then(w ((a.Rows.length:Int)-1))else i).toNat]?=some e1∧(0≤(if(w ((b.Rows.length:Int)-1))<k then(w ((b.Rows.length:Int)-1))else k)∧(∃e2,b.Rows[(if(w ((b.Rows.length:Int)-1))<k then(w ((b.Rows.length:Int)-1))else k).toNat]?=some e2∧(if co=true then(0≤k∧(∃e3,a.Rows[k.toNat]?=some e3∧(0≤i∧(∃e4,b.Rows[i.toNat]?=some e4∧(if only<0 then(∃v9,Zbq a.Vars e3 b.Vars e4=some (Bo v9,[])∧(if v9=true then(∃(v10:List Int),Zbr x a.Vars e3 b.Vars e4=some (.own 0,[.arr 3 1 true (v10.map ic)])∧(x1.length+1≤68719476736∧(Zca a b x (x1++[v10]) true only x2 cd cc i (w (k+1))=some r)))else(Ze4 a b x x1 true only x2 cd cc i (w (k+1))=some r)))else(0≤x2∧(∃e7,e3[x2.toNat]?=some e7∧(if e7=only then(∃v11,Zbq a.Vars e3 b.Vars e4=some (Bo v11,[])∧(if v11=true then(∃(v12:List Int),Zbr x a.Vars e3 b.Vars e4=some (.own 0,[.arr 3 1 true (v12.map ic)])∧(x1.length+1≤68719476736∧(Zca a b x (x1++[v12]) true only x2 cd cc i (w (k+1))=some r)))else(Ze4 a b x x1 true only x2 cd cc i (w (k+1))=some r)))else(Ze4 a b x x1 true only x2 cd cc i (w (k+1))=some r)))))))))else(if only<0 then(∃v14,Zbq a.Vars e1 b.Vars e2=some (Bo v14,[])∧(if v14=true then(∃(v15:List Int),Zbr x a.Vars e1 b.Vars e2=some (.own 0,[.arr 3 1 true (v15.map ic)])∧(x1.length+1≤68719476736∧(Zca a b x (x1++[v15]) false only x2 cd cc i (w (k+1))=some r)))else(Ze4 a b x x1 false only x2 cd cc i (w (k+1))=some r)))else(0≤x2∧(∃e12,e1[x2.toNat]?=some e12∧(if e12=only then(∃v16,Zbq a.Vars e1 b.Vars e2=some (Bo v16,[])∧(if v16=true then(∃(v17:List Int),Zbr x a.Vars e1 b.Vars e2=some (.own 0,[.arr 3 1 true (v17.map ic)])∧(x1.length+1≤68719476736∧(Zca a b x (x1++[v17]) false only x2 cd cc i (w (k+1))=some r)))else(Ze4 a b x x1 false only x2 cd cc i (w (k+1))=some r)))else(Ze4 a b x x1 false only x2 cd cc i (w (k+1))=some r))))))))))else(Zjp a b x x1 co only x2 cd cc (w (i+1))=some r))else(Zjp a b x x1 co only x2 cd cc (w (i+1))=some r))) ∧
 (∀⦃a b x x1 co only x2 cd cc i k r⦄,Im (Zca a b x x1 co only x2 cd cc i k=some r) (if k<cc then(if(x1.length:Int)≤4096 then(0≤(if(w ((a.Rows.length:Int)-1))<i then(w ((a.Rows.length:Int)-1))else i)∧(∃e1,a.Rows[(if(w ((a.Rows.length:Int)-1))<i then(w ((a.Rows.length:Int)-1))else i).toNat]?=some e1∧(0≤(if(w ((b.Rows.length:Int)-1))<k then(w ((b.Rows.length:Int)-1))else k)∧(∃e2,b.Rows[(if(w ((b.Rows.length:Int)-1))<k then(w ((b.Rows.length:Int)-1))else k).toNat]?=some e2∧(if co=true then(0≤k∧(∃e3,a.Rows[k.toNat]?=some e3∧(0≤i∧(∃e4,b.Rows[i.toNat]?=some e4∧(if only<0 then(∃v9,Zbq a.Vars e3 b.Vars e4=some (Bo v9,[])∧(if v9=true then(∃(v10:List Int),Zbr x a.Vars e3 b.Vars e4=some (.own 0,[.arr 3 1 true (v10.map ic)])∧(x1.length+1≤68719476736∧(Zca a b x (x1++[v10]) true only x2 cd cc i (w (k+1))=some r)))else(Zca a b x x1 true only x2 cd cc i (w (k+1))=some r)))else(0≤x2∧(∃e7,e3[x2.toNat]?=some e7∧(if e7=only then(∃v11,Zbq a.Vars e3 b.Vars e4=some (Bo v11,[])∧(if v11=true then(∃(v12:List Int),Zbr x a.Vars e3 b.Vars e4=some (.own 0,[.arr 3 1 true (v12.map ic)])∧(x1.length+1≤68719476736∧(Zca a b x (x1++[v12]) true only x2 cd cc i (w (k+1))=some r)))else(Zca a b x x1 true only x2 cd cc i (w (k+1))=some r)))else(Zca a b x x1 true only x2 cd cc i (w (k+1))=some r)))))))))else(if only<0 then(∃v14,Zbq a.Vars e1 b.Vars e2=some (Bo v14,[])∧(if v14=true then(∃(v15:List Int),Zbr x a.Vars e1 b.Vars e2=some (.own 0,[.arr 3 1 true (v15.map ic)])∧(x1.length+1≤68719476736∧(Zca a b x (x1++[v15]) false only x2 cd cc i (w (k+1))=some r)))else(Zca a b x x1 false only x2 cd cc i (w (k+1))=some r)))else(0≤x2∧(∃e12,e1[x2.toNat]?=some e12∧(if e12=only then(∃v16,Zbq a.Vars e1 b.Vars e2=some (Bo v16,[])∧(if v16=true then(∃(v17:List Int),Zbr x a.Vars e1 b.Vars e2=some (.own 0,[.arr 3 1 true (v17.map ic)])∧(x1.length+1≤68719476736∧(Zca a b x (x1++[v17]) false only x2 cd cc i (w (k+1))=some r)))else(Zca a b x x1 false only x2 cd cc i (w (k+1))=some r)))else(Zca a b x x1 false only x2 cd cc i (w (k+1))=some r))))))))))else(Zlv a b x x1 co only x2 cd cc (w (i+1))=some r))else(Zlv a b x x1 co only x2 cd cc (w (i+1))=some r))) ∧
 (∀⦃a b x x1 co only x2 cd cc i r⦄,Im (Zlv a b x x1 co only x2 cd cc i=some r) (if i<cd then(Zca a b x x1 co only x2 cd cc i 0=some r)else(some (.agg [.own 0,.own 2],[.arr 3 1 true (x.map ic),.dead,.arr 30 1 true (x1.map isc)])=some r))) ∧
 (∀⦃x x1 a a1 a2 a3 a4 r⦄,Im (Zo1 x x1 a a1 a2 a3 a4=some r) (∃v1,Zdh a.Vars a3=some (I v1,[])∧(if a2=true then(Zjp a a1 x x1 true a4 v1 (a1.Rows.length:Int) (a.Rows.length:Int) 0=some r)else(Zjp a a1 x x1 false a4 v1 (a.Rows.length:Int) (a1.Rows.length:Int) 0=some r)))) ∧
 (∀⦃a b x v cp r⦄,Im (Zo2 a b x v cp=some r) (if cp≤9 then((∃(v1:List Int),Zd9 x a b false v cp=some (.agg [.own 0,.t .nil],[.arr 3 1 true (v1.map ic)])∧(Zo2 a b v1 v (w (cp+1))=some r))∨(∃(v3:List Int) (v4:List (List Int)),Zd9 x a b false v cp=some (.agg [.own 0,.own 1],[.arr 3 1 true (v3.map ic),.arr 30 1 true (v4.map isc)])∧(Zlx a b v3 v4 v (w (cp+1))=some r)))else(∃(v5:List Int),Zlu x=some (.tup [.agg [.own 0,.t .nil],Bo true],[.arr 3 1 true (v5.map ic)])∧(some (.tup [.agg [.own 0,.t .nil],Bo true],[.arr 3 1 true (v5.map ic)])=some r)))) ∧
 (∀⦃a b x x1 v cp r⦄,Im (Zlx a b x x1 v cp=some r) (if cp≤9 then((∃(v1:List Int) (v2:List (List Int)),Zo1 x x1 a b false v cp=some (.agg [.own 0,.own 1],[.arr 3 1 true (v1.map ic),.arr 30 1 true (v2.map isc)])∧(Zlx a b v1 v2 v (w (cp+1))=some r))∨(∃(v3:List Int) (v4:List (List Int)),Zo1 x x1 a b false v cp=some (.agg [.own 0,.own 2],[.arr 3 1 true (v3.map ic),.dead,.arr 30 1 true (v4.map isc)])∧(Zlx a b v3 v4 v (w (cp+1))=some r)))else((∃(v5:List Int) (v6:List (List Int)),Zfj x x1=some (.tup [.agg [.t .nil,.t .nil],Bo false],[.arr 3 1 true (v5.map ic),.arr 30 1 true (v6.map isc)])∧(some (.tup [.agg [.t .nil,.t .nil],Bo false],[])=some r))∨(∃(v7:List Int) (v8:List (List Int)),Zfj x x1=some (.tup [.agg [.own 0,.own 1],Bo true],[.arr 3 1 true (v7.map ic),.arr 30 1 true (v8.map isc)])∧(some (.tup [.agg [.own 0,.own 1],Bo true],[.arr 3 1 true (v7.map ic),.arr 30 1 true (v8.map isc)])=some r))))) ∧
 (∀⦃a a1 a2 r⦄,Im (Zlw a a1 a2=some r) (∃v1,Zoz a a2=some (Bo v1,[])∧(if v1=true then(∃v3,Zoz a1 a2=some (Bo v3,[])∧(if v3=true then(∃(v5:List Int),Zhq a.Vars a1.Vars=some (.own 0,[.arr 3 1 true (v5.map ic)])∧(Zo2 a a1 v5 a2 0=some r))else(some (.tup [.agg [.t .nil,.t .nil],Bo false],[])=some r)))else(some (.tup [.agg [.t .nil,.t .nil],Bo false],[])=some r)))) ∧
 (∀⦃d q p cn cl i r⦄,Im (Zcc d q p cn cl i=some r) (if i<(cn.length:Int)then(0≤i∧(∃e1,p.Steps[i.toNat]?=some e1∧(if e1.Kind=1 then((Zjf d q e1.Atom=some (.tup [.agg [.t .nil,.t .nil],Bo false],[])∧(cl.length+1≤68719476736∧(Zcc d q p cn (cl++[(⟨[],[]⟩:Za)]) (w (i+1))=some r)))∨(∃(v5:List Int),Zjf d q e1.Atom=some (.tup [.agg [.own 0,.t .nil],Bo true],[.arr 3 1 true (v5.map ic)])∧(cl.length+1≤68719476736∧(Zcc d q p cn (cl++[(⟨v5,[]⟩:Za)]) (w (i+1))=some r)))∨(∃(v7:List Int) (v8:List (List Int)),Zjf d q e1.Atom=some (.tup [.agg [.own 0,.own 1],Bo true],[.arr 3 1 true (v7.map ic),.arr 30 1 true (v8.map isc)])∧(cl.length+1≤68719476736∧(Zcc d q p cn (cl++[(⟨v7,v8⟩:Za)]) (w (i+1))=some r))))else(if e1.Kind=2 then(∃e5,cn[i.toNat]?=some e5∧(0≤e5.Left∧(∃e6,cl[e5.Left.toNat]?=some e6∧((Zji e6 e1.Order=some (.tup [.agg [.t .nil,.t .nil],Bo false],[])∧(cl.length+1≤68719476736∧(Zcc d q p cn (cl++[(⟨[],[]⟩:Za)]) (w (i+1))=some r)))∨(∃(v11:List Int),Zji e6 e1.Order=some (.tup [.agg [.own 0,.t .nil],Bo true],[.arr 3 1 true (v11.map ic)])∧(cl.length+1≤68719476736∧(Zcc d q p cn (cl++[(⟨v11,[]⟩:Za)]) (w (i+1))=some r)))∨(∃(v12:List Int) (v13:List (List Int)),Zji e6 e1.Order=some (.tup [.agg [.own 0,.own 1],Bo true],[.arr 3 1 true (v12.map ic),.arr 30 1 true (v13.map isc)])∧(cl.length+1≤68719476736∧(Zcc d q p cn (cl++[(⟨v12,v13⟩:Za)]) (w (i+1))=some r)))))))else(if e1.Kind=3 then(∃e10,cn[i.toNat]?=some e10∧(0≤e10.Left∧(∃e11,cl[e10.Left.toNat]?=some e11∧(0≤e10.Right∧(∃e12,cl[e10.Right.toNat]?=some e12∧((∃(v16:List Int),Zjn e11 e12=some (.tup [.agg [.own 0,.t .nil],Bo true],[.arr 3 1 true (v16.map ic)])∧(cl.length+1≤68719476736∧(Zcc d q p cn (cl++[(⟨v16,[]⟩:Za)]) (w (i+1))=some r)))∨(Zjn e11 e12=some (.tup [.agg [.t .nil,.t .nil],Bo false],[])∧(cl.length+1≤68719476736∧(Zcc d q p cn (cl++[(⟨[],[]⟩:Za)]) (w (i+1))=some r)))∨(∃(v18:List Int) (v19:List (List Int)),Zjn e11 e12=some (.tup [.agg [.own 0,.own 1],Bo true],[.arr 3 1 true (v18.map ic),.arr 30 1 true (v19.map isc)])∧(cl.length+1≤68719476736∧(Zcc d q p cn (cl++[(⟨v18,v19⟩:Za)]) (w (i+1))=some r)))))))))else(if e1.Kind=5 then(∃e16,cn[i.toNat]?=some e16∧(0≤e16.Left∧(∃e17,cl[e16.Left.toNat]?=some e17∧(0≤e16.Right∧(∃e18,cl[e16.Right.toNat]?=some e18∧((∃(v20:List Int),Zjo e17 e18=some (.tup [.agg [.own 0,.t .nil],Bo true],[.arr 3 1 true (v20.map ic)])∧(cl.length+1≤68719476736∧(Zcc d q p cn (cl++[(⟨v20,[]⟩:Za)]) (w (i+1))=some r)))∨(Zjo e17 e18=some (.tup [.agg [.t .nil,.t .nil],Bo false],[])∧(cl.length+1≤68719476736∧(Zcc d q p cn (cl++[(⟨[],[]⟩:Za)]) (w (i+1))=some r)))∨(∃(v21:List Int) (v22:List (List Int)),Zjo e17 e18=some (.tup [.agg [.own 0,.own 1],Bo true],[.arr 3 1 true (v21.map ic),.arr 30 1 true (v22.map isc)])∧(cl.length+1≤68719476736∧(Zcc d q p cn (cl++[(⟨v21,v22⟩:Za)]) (w (i+1))=some r)))))))))else(∃e22,cn[i.toNat]?=some e22∧(0≤e22.Left∧(∃e23,cl[e22.Left.toNat]?=some e23∧(0≤e22.Right∧(∃e24,cl[e22.Right.toNat]?=some e24∧((Zlw e23 e24 e1.Order=some (.tup [.agg [.t .nil,.t .nil],Bo false],[])∧(cl.length+1≤68719476736∧(Zcc d q p cn (cl++[(⟨[],[]⟩:Za)]) (w (i+1))=some r)))∨(∃(v23:List Int),Zlw e23 e24 e1.Order=some (.tup [.agg [.own 0,.t .nil],Bo true],[.arr 3 1 true (v23.map ic)])∧(cl.length+1≤68719476736∧(Zcc d q p cn (cl++[(⟨v23,[]⟩:Za)]) (w (i+1))=some r)))∨(∃(v24:List Int) (v25:List (List Int)),Zlw e23 e24 e1.Order=some (.tup [.agg [.own 0,.own 1],Bo true],[.arr 3 1 true (v24.map ic),.arr 30 1 true (v25.map isc)])∧(cl.length+1≤68719476736∧(Zcc d q p cn (cl++[(⟨v24,v25⟩:Za)]) (w (i+1))=some r)))))))))))))))else(some (.tup [.own 0,.own 1,Bo true],[.arr 199 2 true (cl.map Za.c),.arr 209 4 true (cn.map Zb.c)])=some r))) ∧
 (∀⦃a a1 a2 r⦄,Im (Zly a a1 a2=some r) (∃(v1:List Zb),∃v2,Zof a1 a2=some (.tup [.own 0,Bo v2],[.arr 209 4 true (v1.map Zb.c)])∧(if v2=true then(∃v3,Zje a a1=some (Bo v3,[])∧(if v3=true then(Zcc a a1 a2 v1 ([]:List Za) 0=some r)else(some (.tup [.own 0,.own 1,Bo false],[.arr 199 2 true (([]:List Za).map Za.c),.arr 209 4 true (v1.map Zb.c)])=some r)))else(some (.tup [.own 0,.own 1,Bo false],[.arr 199 2 true (([]:List Za).map Za.c),.arr 209 4 true (v1.map Zb.c)])=some r)))):=by
 and_intros
 all_goals intros
 all_goals unfold Im
 all_goals try simp only[Zo0,Zoz,Zjp,Ze4,Zca,Zlv,Zo1,Zo2,Zlx,Zlw,Zcc,Zly,Zdh,Zdi,Za.c_def,Zbq,Zbr,Zd9,Zlu,Zfj,Zhq,Zjf,Zji,Zjn,Zjo,Zk.c_def,Zd.c_def,Zof,Zje,Plan.c_def,mpl,dfs]
 all_goals try simp only[itb]
 all_goals try simp only[itf,gS,kk]
 all_goals repeat' first|refine exI fun _=>?_|refine anJ fun _ _=>?_|refine anI fun _=>?_|refine orE2 ?_ ?_|exact False.elim
 all_goals (intro h;first|rw[Ze Zyr.eq_1]|refine run Zbls rfl ?_|rw[Ze Zd7.eq_1]|rw[Ze Zjk.eq_1]|refine runM Z7z rfl ?_|rw[Ze Zsh.eq_1]|refine run Zblt rfl ?_|rw[Ze Zyt.eq_1]|refine run Zblu rfl ?_)
 all_goals (refine Yb ?_ h;clear h;simp +decide[*,kk,tI,tII,Zys,Z69,Zd8,Zyo,Zjl,Zyq,Zyp,Zsi,Z7a,Z7b,Zyu,Z7c])
abbrev Zzw:=Zem.1
abbrev Zbo2:=Zem.2.1
abbrev Zbai:=Zem.2.2.1
abbrev Zbaj:=Zem.2.2.2.1
abbrev Zbak:=Zem.2.2.2.2.1
abbrev Zbal:=Zem.2.2.2.2.2.1
abbrev Zbo3:=Zem.2.2.2.2.2.2.1
abbrev Zbam:=Zem.2.2.2.2.2.2.2.1
abbrev Zban:=Zem.2.2.2.2.2.2.2.2.1
abbrev Zbo4:=Zem.2.2.2.2.2.2.2.2.2.1
abbrev Zbao:=Zem.2.2.2.2.2.2.2.2.2.2.1
abbrev Zzx:=Zem.2.2.2.2.2.2.2.2.2.2.2
theorem Zbap:(∀⦃a a1 r⦄,Im (Zjq a a1=some r) (if a1=1 then(some (.agg (a.Scan.c.map .t),[])=some r)else(if a1=2 then(some (.agg (a.Sort_.c.map .t),[])=some r)else(if a1=3 then(some (.agg (a.Hash.c.map .t),[])=some r)else(if a1=4 then(some (.agg (a.Merge.c.map .t),[])=some r)else(some (.agg (a.Nested.c.map .t),[])=some r)))))) ∧
 (∀⦃a r⦄,Im (Zfk a=some r) (∃v,Zbe a (-99) 99=some (Bo v,[])∧(some (Bo v,[])=some r))):=by
 and_intros
 all_goals intros
 all_goals unfold Im
 all_goals try simp only[Zjq,Zfk,Zbe,mpl,dfs]
 all_goals try simp only[itb]
 all_goals try simp only[itf,gS,kk]
 all_goals repeat' first|refine exI fun _=>?_|refine anJ fun _ _=>?_|refine anI fun _=>?_|refine orE2 ?_ ?_|exact False.elim
 all_goals (intro h;first|refine run Zblv rfl ?_|refine run Zblw rfl ?_)
 all_goals (refine Yb ?_ h;clear h;simp +decide[*,kk,tI,tII,Z7d,Z7e])
abbrev Zbo5:=Zbap.1
abbrev Zbo6:=Zbap.2
theorem Zen:(∀⦃o i r⦄,Im (Zjr o i=some r) (if i<(o.Steps.length:Int)then(0≤i∧(∃e1,o.Steps[i.toNat]?=some e1∧(∃v1,Zbe e1.From 1 8192=some (Bo v1,[])∧(if v1=true then(∃v2,Zfk e1.Add=some (Bo v2,[])∧(if v2=true then(if 0<i then(0≤(w (i-1))∧(∃e4,o.Steps[(w (i-1)).toNat]?=some e4∧(if e1.From≤e4.From then(some (Bo false,[])=some r)else(Zjr o (w (i+1))=some r))))else(Zjr o (w (i+1))=some r))else(some (Bo false,[])=some r)))else(some (Bo false,[])=some r)))))else(some (Bo true,[])=some r))) ∧
 (∀⦃a r⦄,Im (Zhr a=some r) (∃v,Zfk a.Fixed=some (Bo v,[])∧(if v=true then(∃v1,Zfk a.Z2=some (Bo v1,[])∧(if v1=true then(∃v2,Zfk a.Z3=some (Bo v2,[])∧(if v2=true then(∃v3,Zfk a.Z4=some (Bo v3,[])∧(if v3=true then(∃v4,Zfk a.Z5=some (Bo v4,[])∧(if v4=true then(if 4<(a.Steps.length:Int)then(some (Bo false,[])=some r)else(Zjr a 0=some r))else(some (Bo false,[])=some r)))else(some (Bo false,[])=some r)))else(some (Bo false,[])=some r)))else(some (Bo false,[])=some r)))else(some (Bo false,[])=some r)))) ∧
 (∀⦃k n i r⦄,Im (Zlz k n i=some r) (if i<k then(Zlz k (if 1<(w (n*4))then(w (n*4))else 1) (w (i+1))=some r)else(some (I n,[])=some r))) ∧
 (∀⦃a r⦄,Im (Zfl a=some r) (∃v,Zbe a 0 7=some (Bo v,[])∧(if v=true then(Zlz a 0 0=some r)else(some (I (-1),[])=some r)))) ∧
 (∀⦃o l c n i r⦄,Im (Zjs o l c n i=some r) (if i<(o.Steps.length:Int)then(0≤i∧(∃e1,o.Steps[i.toNat]?=some e1∧(if e1.From≤(w (l+c))then(Zjs o l c (w (n+e1.Add)) (w (i+1))=some r)else(Zjs o l c n (w (i+1))=some r))))else(some (I n,[])=some r))) ∧
 (∀⦃a a1 a2 a3 r⦄,Im (Zga a a1 a2 a3=some r) (∃v,Zhr a=some (Bo v,[])∧(if v=true then(∃v1,Zbe a1 0 4096=some (Bo v1,[])∧(if v1=true then(∃v2,Zbe a2 0 4096=some (Bo v2,[])∧(if v2=true then(∃v3,Zbe a3 0 4096=some (Bo v3,[])∧(if v3=true then(Zjs a a1 a2 (w ((w ((w ((w (a.Fixed+(w (a.Z2*a1))))+(w (a.Z3*a2))))+(w (a.Z4*a3))))+(w ((w (a.Z5*a1))*a2)))) 0=some r)else(some (I 0,[])=some r)))else(some (I 0,[])=some r)))else(some (I 0,[])=some r)))else(some (I 0,[])=some r)))) ∧
 (∀⦃a a1 r⦄,Im (Zjt a a1=some r) (∃e1,a1[0]?=some e1∧(∃v1,Zfl e1=some (I v1,[])∧(∃e3,a1[1]?=some e3∧(∃v3,Zfl e3=some (I v3,[])∧(∃e5,a1[2]?=some e5∧(∃v5,Zfl e5=some (I v5,[])∧(∃v6,Zga a v1 v3 v5=some (I v6,[])∧(some (I v6,[])=some r))))))))) ∧
 (∀⦃o a r⦄,Im (Zl2 o a=some r) (if a≤7 then(Zl3 o a 0=some r)else(some (.tup [.own 0,.own 1,Bo false],[.arr 3 1 true (([]:List Int).map ic),.arr 3 1 true (([]:List Int).map ic)])=some r))) ∧
 (∀⦃o a b r⦄,Im (Zl3 o a b=some r) (if b≤7 then(Zl4 o a b 0=some r)else(Zl2 o (w (a+1))=some r))) ∧
 (∀⦃o a b e r⦄,Im (Zl4 o a b e=some r) (if e≤7 then(Zgb o ([a,b,e]) a b e 0=some r)else(Zl3 o a (w (b+1))=some r))) ∧
 (∀⦃o x a b e k r⦄,Im (Zgb o x a b e k=some r) (if k<3 then(x.length≤68719476736∧(0≤k∧(∃e1,x[k.toNat]?=some e1∧(if(w (e1+1))≤7 then(∃v1,Zjt o (x.set k.toNat (w (e1+1)))=some (I v1,[])∧(∃v2,Zjt o x=some (I v2,[])∧(if v1<v2 then(some (.tup [.own 0,.own 1,Bo true],[.arr 3 1 true (x.map ic),.arr 3 1 true ((x.set k.toNat (w (e1+1))).map ic)])=some r)else(Zgb o x a b e (w (k+1))=some r))))else(Zgb o x a b e (w (k+1))=some r)))))else(Zl4 o a b (w (e+1))=some r))) ∧
 (∀⦃a r⦄,Im (Zo5 a=some r) (∃v,Zhr a=some (Bo v,[])∧(if v=true then(Zl2 a 0=some r)else(some (.tup [.own 0,.own 1,Bo false],[.arr 3 1 true (([]:List Int).map ic),.arr 3 1 true (([]:List Int).map ic)])=some r)))):=by
 and_intros
 all_goals intros
 all_goals unfold Im
 all_goals try simp only[Zjr,Zhr,Zlz,Zfl,Zjs,Zga,Zjt,Zl2,Zl3,Zl4,Zgb,Zo5,Zbe,Zfk,Zh.c_def,mpl,dfs]
 all_goals try simp only[itb]
 all_goals try simp only[itf,gS,kk]
 all_goals repeat' first|refine exI fun _=>?_|refine anJ fun _ _=>?_|refine anI fun _=>?_|refine orE2 ?_ ?_|exact False.elim
 all_goals (intro h;first|rw[Ze Zyv.eq_1]|refine run Zblx rfl ?_|rw[Ze Zyx.eq_1]|refine run Zbly rfl ?_|rw[Ze Zyz.eq_1]|refine run Zblz rfl ?_|refine run Zbl0 rfl ?_|rw[Ze Zl0.eq_1]|rw[Ze Zo3.eq_1]|rw[Ze Zsj.eq_1]|rw[Ze Zy1.eq_1]|refine run Zbl1 rfl ?_)
 all_goals (refine Yb ?_ h;clear h;simp +decide[*,kk,tI,tII,Zyw,Z7f,Zyy,Z7g,Z7h,Zy0,Z7i,Z7j,Zl1,Zo4,Zsk,Zy2,Z7k])
abbrev Zbaq:=Zen.1
abbrev Zbo7:=Zen.2.1
abbrev Zbo8:=Zen.2.2.1
abbrev Zbo9:=Zen.2.2.2.1
abbrev Zbar:=Zen.2.2.2.2.1
abbrev Zbpa:=Zen.2.2.2.2.2.1
abbrev Zbpb:=Zen.2.2.2.2.2.2.1
abbrev Zbas:=Zen.2.2.2.2.2.2.2.1
abbrev Zbat:=Zen.2.2.2.2.2.2.2.2.1
abbrev Zbau:=Zen.2.2.2.2.2.2.2.2.2.1
abbrev Zbav:=Zen.2.2.2.2.2.2.2.2.2.2.1
abbrev Zbpc:=Zen.2.2.2.2.2.2.2.2.2.2.2
theorem Zeo:(∀⦃o a r⦄,Im (Zl5 o a=some r) (if a≤7 then(Zl6 o a 0=some r)else(some (.own 0,[.arr 3 1 true (([]:List Int).map ic)])=some r))) ∧
 (∀⦃o a b r⦄,Im (Zl6 o a b=some r) (if b≤7 then(Zo8 o a b 0=some r)else(Zl5 o (w (a+1))=some r))) ∧
 (∀⦃o a b e r⦄,Im (Zo8 o a b e=some r) (if e≤7 then(∃v,Zjt o ([a,b,e])=some (I v,[])∧(if v<1 then(some (.own 0,[.arr 3 1 true (([a,b,e]).map ic)])=some r)else(Zo8 o a b (w (e+1))=some r)))else(Zl6 o a (w (b+1))=some r))) ∧
 (∀⦃a r⦄,Im (Zsn a=some r) (Zl5 a 0=some r)) ∧
 (∀⦃m k r⦄,Im (Zl7 m k=some r) (if k≤5 then(∃(v:Zh),Zjq m k=some (.agg (v.c.map .t),[])∧(∃v3,Zhr v=some (Bo v3,[])∧(if v3=true then(∃(v4:List Int),∃(v5:List Int),∃v6,Zo5 v=some (.tup [.own 0,.own 1,Bo v6],[.arr 3 1 true (v4.map ic),.arr 3 1 true (v5.map ic)])∧(if v6=true then(some (.tup [I k,.own 0,.own 1],[.arr 3 1 true (v4.map ic),.arr 3 1 true (v5.map ic)])=some r)else(∃(v7:List Int),Zsn v=some (.own 0,[.arr 3 1 true (v7.map ic)])∧(if 0<(v7.length:Int)then(some (.tup [I k,.own 0,.own 1],[.arr 3 1 true (v7.map ic),.arr 3 1 true (([]:List Int).map ic)])=some r)else(Zl7 m (w (k+1))=some r)))))else(some (.tup [I k,.own 0,.own 1],[.arr 3 1 true (([]:List Int).map ic),.arr 3 1 true (([]:List Int).map ic)])=some r))))else(some (.tup [I 0,.own 0,.own 1],[.arr 3 1 true (([]:List Int).map ic),.arr 3 1 true (([]:List Int).map ic)])=some r))) ∧
 (∀⦃a r⦄,Im (Zy7 a=some r) (Zl7 a 1=some r)) ∧
 (∀⦃a r⦄,Im (Zju a=some r) (∃(v:List Int),∃(v1:List Int),∃v2,Zy7 a=some (.tup [I v2,.own 0,.own 1],[.arr 3 1 true (v.map ic),.arr 3 1 true (v1.map ic)])∧(some (Bo (decide (v2=0)),[])=some r))) ∧
 (∀⦃n k r⦄,Im (Zo9 n k=some r) (if k≤7 then(∃v,Zfl k=some (I v,[])∧(if n≤v then(some (I k,[])=some r)else(Zo9 n (w (k+1))=some r)))else(some (I (-1),[])=some r))) ∧
 (∀⦃a r⦄,Im (Zhs a=some r) (if a<0 then(some (I (-1),[])=some r)else(Zo9 a 0=some r))) ∧
 (∀⦃a r⦄,Im (Zcj a=some r) (∃v,Zhs a=some (I v,[])∧(∃v3,Zfl v=some (I v3,[])∧(some (I v3,[])=some r)))) ∧
 (∀⦃a a1 a2 a3 a4 r⦄,Im (Zjv a a1 a2 a3 a4=some r) (0≤a4∧(∃e1,a1.Steps[a4.toNat]?=some e1∧(∃(v3:Zh),Zjq a e1.Kind=some (.agg (v3.c.map .t),[])∧(∃e3,a2[a4.toNat]?=some e3∧(if e3.Left<0 then(∃e4,a3[a4.toNat]?=some e4∧(∃v8,Zcj e4=some (I v8,[])∧(∃v9,Zga v3 v8 0 v8=some (I v9,[])∧(some (I v9,[])=some r))))else(if e3.Right<0 then(0≤e3.Left∧(∃e7,a3[e3.Left.toNat]?=some e7∧(∃v10,Zcj e7=some (I v10,[])∧(∃e9,a3[a4.toNat]?=some e9∧(∃v11,Zcj e9=some (I v11,[])∧(∃v12,Zga v3 v10 0 v11=some (I v12,[])∧(some (I v12,[])=some r)))))))else(0≤e3.Left∧(∃e12,a3[e3.Left.toNat]?=some e12∧(∃v13,Zcj e12=some (I v13,[])∧(0≤e3.Right∧(∃e14,a3[e3.Right.toNat]?=some e14∧(∃v14,Zcj e14=some (I v14,[])∧(∃e16,a3[a4.toNat]?=some e16∧(∃v15,Zcj e16=some (I v15,[])∧(∃v16,Zga v3 v13 v14 v15=some (I v16,[])∧(some (I v16,[])=some r))))))))))))))))) ∧
 (∀⦃m cd l cl cc n r⦄,Im (Zl8 m cd l cl cc n=some r) (if n≤7 then(∃(v:Zh),Zjq m cd=some (.agg (v.c.map .t),[])∧(∃v3,Zfl n=some (I v3,[])∧(∃v4,Zga v l cl v3=some (I v4,[])∧(if v4≤cc then(Zl8 m cd l cl cc (w (n+1))=some r)else(some (I n,[])=some r)))))else(some (I n,[])=some r))):=by
 and_intros
 all_goals intros
 all_goals unfold Im
 all_goals try simp only[Zl5,Zl6,Zo8,Zsn,Zl7,Zy7,Zju,Zo9,Zhs,Zcj,Zjv,Zl8,Zjt,Zh.c_def,Zjq,Zhr,Zo5,Zj.c_def,Zfl,Zga,mpl,dfs]
 all_goals try simp only[itb]
 all_goals try simp only[itf,gS,kk]
 all_goals repeat' first|refine exI fun _=>?_|refine anJ fun _ _=>?_|refine anI fun _=>?_|refine orE2 ?_ ?_|exact False.elim
 all_goals (intro h;first|rw[Ze Zo6.eq_1]|rw[Ze Zsl.eq_1]|rw[Ze Zy3.eq_1]|refine run Zbl2 rfl ?_|rw[Ze Zy5.eq_1]|refine run Zbl3 rfl ?_|refine run Zbl4 rfl ?_|rw[Ze Zy8.eq_1]|refine run Zbl5 rfl ?_|refine run Zbl6 rfl ?_|refine run Zbl7 rfl ?_|rw[Ze Zza.eq_1])
 all_goals (refine Yb ?_ h;clear h;simp +decide[*,kk,tI,tII,Zo7,Zsm,Zy4,Z7l,Zy6,Z7m,Z7n,Zy9,Z7o,Z7p,Z7q,Zzb])
abbrev Zbaw:=Zeo.1
abbrev Zbax:=Zeo.2.1
abbrev Zzy:=Zeo.2.2.1
abbrev Zbpd:=Zeo.2.2.2.1
abbrev Zbay:=Zeo.2.2.2.2.1
abbrev Zbpe:=Zeo.2.2.2.2.2.1
abbrev Zbpf:=Zeo.2.2.2.2.2.2.1
abbrev Zhx:=Zeo.2.2.2.2.2.2.2.1
abbrev Zbpg:=Zeo.2.2.2.2.2.2.2.2.1
abbrev Zbph:=Zeo.2.2.2.2.2.2.2.2.2.1
abbrev Zbpi:=Zeo.2.2.2.2.2.2.2.2.2.2.1
abbrev Zbaz:=Zeo.2.2.2.2.2.2.2.2.2.2.2
theorem Zpi:(∀⦃a a1 a2 a3 a4 r⦄,Im (Zjw a a1 a2 a3 a4=some r) (∃v,Zju a=some (Bo v,[])∧(if v=true then(∃v1,Zbe a1 1 5=some (Bo v1,[])∧(if v1=true then(∃v2,Zbe a2 0 4096=some (Bo v2,[])∧(if v2=true then(∃v3,Zbe a3 0 4096=some (Bo v3,[])∧(if v3=true then(Zl8 a a1 a2 a3 a4 0=some r)else(some (I 0,[])=some r)))else(some (I 0,[])=some r)))else(some (I 0,[])=some r)))else(some (I 0,[])=some r)))) ∧
 (∀⦃c cc cl i r⦄,Im (Zzc c cc cl i=some r) (if i<0 then False else(if cl=true then(some (.own 0,[.arr 30 1 true (c.map isc)])=some r)else(cc.length≤68719476736∧(c.length+1≤68719476736∧(some (.own 0,[.arr 30 1 true ((c++[cc]).map isc)])=some r)))))) ∧
 (∀⦃a r⦄,Im (Zpa a=some r) (Zzc ([]:List (List Int)) a false 0=some r)) ∧
 (∀⦃c cd cc cl i r⦄,Im (Zgc c cd cc cl i=some r) (if i<(cd.length:Int)then(0≤i∧(∃e1,cd[i.toNat]?=some e1∧(∃v1,Zlj e1 cc=some (I v1,[])∧(if v1=0 then(if 0<v1 then(e1.length≤68719476736∧(c.length+1≤68719476736∧(Zgc (c++[e1]) cd cc true (w (i+1))=some r)))else(e1.length≤68719476736∧(c.length+1≤68719476736∧(Zgc (c++[e1]) cd cc true (w (i+1))=some r))))else(if 0<v1 then(if cl=true then(e1.length≤68719476736∧(c.length+1≤68719476736∧(Zgc (c++[e1]) cd cc true (w (i+1))=some r)))else(cc.length≤68719476736∧(c.length+1≤68719476736∧(e1.length≤68719476736∧(c.length+1+1≤68719476736∧(Zgc ((c++[cc])++[e1]) cd cc true (w (i+1))=some r))))))else(e1.length≤68719476736∧(c.length+1≤68719476736∧(Zgc (c++[e1]) cd cc cl (w (i+1))=some r))))))))else(if cl=true then(some (.own 0,[.arr 30 1 true (c.map isc)])=some r)else(cc.length≤68719476736∧(c.length+1≤68719476736∧(some (.own 0,[.arr 30 1 true ((c++[cc]).map isc)])=some r)))))) ∧
 (∀⦃a a1 r⦄,Im (Zpb a a1=some r) (Zgc ([]:List (List Int)) a a1 false 0=some r)):=by
 and_intros
 all_goals intros
 all_goals unfold Im
 all_goals try simp only[Zjw,Zzc,Zpa,Zgc,Zpb,Zju,Zbe,Zj.c_def,Zh.c_def,Zlj,Zl8,mpl,dfs]
 all_goals try simp only[itb]
 all_goals try simp only[itf,gS,kk]
 all_goals repeat' first|refine exI fun _=>?_|refine anJ fun _ _=>?_|refine anI fun _=>?_|refine orE2 ?_ ?_|exact False.elim
 all_goals (intro h;first|refine run Zbl8 rfl ?_|rw[Ze Zso.eq_1]|refine run Zbl9 rfl ?_)
 all_goals (refine Yb ?_ h;clear h;simp +decide[*,kk,tI,tII,Z7r,Z7u,Zsp,Z7v,Z7s,Z7t])
abbrev Zbpj:=Zpi.1
abbrev Zbpk:=Zpi.2.1
abbrev Zbpl:=Zpi.2.2.1
abbrev Zba0:=Zpi.2.2.2.1
abbrev Zbpm:=Zpi.2.2.2.2
theorem Zmc:(∀⦃s x i r⦄,Im (Zzd s x i=some r) (if i<(s.Rows.length:Int)then(0≤i∧(∃e1,s.Rows[i.toNat]?=some e1∧(∃(v3:List (List Int)),Zpa e1=some (.own 0,[.arr 30 1 true (v3.map isc)])∧(Zpc s x v3 (w (i+1))=some r))))else(some (.tup [.agg [.own 0,.t .nil],Bo true],[.arr 3 1 true (x.map ic)])=some r))) ∧
 (∀⦃s x x1 i r⦄,Im (Zpc s x x1 i=some r) (if i<(s.Rows.length:Int)then(0≤i∧(∃e1,s.Rows[i.toNat]?=some e1∧(∃(v3:List (List Int)),Zpb x1 e1=some (.own 0,[.arr 30 1 true (v3.map isc)])∧(Zpc s x v3 (w (i+1))=some r))))else(some (.tup [.agg [.own 0,.own 1],Bo true],[.arr 3 1 true (x.map ic),.arr 30 1 true (x1.map isc)])=some r))) ∧
 (∀⦃a r⦄,Im (Ze5 a=some r) (∃v,Zdi a=some (Bo v,[])∧(if v=true then(a.Vars.length≤68719476736∧(Zzd a a.Vars 0=some r))else(some (.tup [.agg [.t .nil,.t .nil],Bo false],[])=some r)))) ∧
 (∀⦃a a1 a2 a3 a4 r⦄,Im (Zgd a a1 a2 a3 a4=some r) (∃(v:List Za),∃(v1:List Zb),∃v2,Zly a1 a2 a3=some (.tup [.own 0,.own 1,Bo v2],[.arr 199 2 true (v.map Za.c),.arr 209 4 true (v1.map Zb.c)])∧(if v2=true then(∃v3,Zju a=some (Bo v3,[])∧(if v3=true then(∃v4,Zbe a4 0 1000000000000=some (Bo v4,[])∧(if v4=true then(Zjx a a3 false 0 0 v v1 ([]:List Int) false 0 0 a4 0=some r)else(some (.tup [.agg [Bo false,I 0,I 0,.t .nil,.t .nil,.t .nil],Bo false],[])=some r)))else(some (.tup [.agg [Bo false,I 0,I 0,.t .nil,.t .nil,.t .nil],Bo false],[])=some r)))else(some (.tup [.agg [Bo false,I 0,I 0,.t .nil,.t .nil,.t .nil],Bo false],[])=some r)))) ∧
 (∀⦃m d q b l i r⦄,Im (Ze6 m d q b l i=some r) (if i<(l.length:Int)then(0≤i∧(∃e1,l[i.toNat]?=some e1∧(∃v3,Zbe e1.Plan 0 (w ((b.Plans.length:Int)-1))=some (Bo v3,[])∧(if v3=true then(0≤e1.Plan∧(∃e3,b.Plans[e1.Plan.toNat]?=some e3∧((∃v5 v6 v7 v8,Zgd m d q e3 e1.Budget=some (.tup [.agg [Bo v5,I v6,I v7,.t .nil,.t .nil,.t .nil],Bo v8],[])∧(if v8=true then(if v6=e1.Cost then(if v5=e1.Done then(Ze6 m d q b l (w (i+1))=some r)else(some (I i,[])=some r))else(some (I i,[])=some r))else(some (I i,[])=some r)))∨(∃(v9:List Zl),∃v10,∃v11,∃v12,Zgd m d q e3 e1.Budget=some (.tup [.agg [Bo v10,I v11,I v12,.own 0,.t .nil,.t .nil],Bo true],[.arr 211 3 true (v9.map Zl.c)])∧(if v11=e1.Cost then(if v10=e1.Done then(Ze6 m d q b l (w (i+1))=some r)else(some (I i,[])=some r))else(some (I i,[])=some r)))∨(∃(v13:List Int),∃v14,∃v15,∃v16,Zgd m d q e3 e1.Budget=some (.tup [.agg [Bo v14,I v15,I v16,.t .nil,.own 0,.t .nil],Bo true],[.arr 3 1 true (v13.map ic)])∧(if v15=e1.Cost then(if v14=e1.Done then(Ze6 m d q b l (w (i+1))=some r)else(some (I i,[])=some r))else(some (I i,[])=some r)))∨(∃(v17:List Int),∃(v18:List (List Int)),∃v19,∃v20,∃v21,Zgd m d q e3 e1.Budget=some (.tup [.agg [Bo v19,I v20,I v21,.t .nil,.own 0,.own 1],Bo true],[.arr 3 1 true (v17.map ic),.arr 30 1 true (v18.map isc)])∧(if v20=e1.Cost then(if v19=e1.Done then(Ze6 m d q b l (w (i+1))=some r)else(some (I i,[])=some r))else(some (I i,[])=some r)))∨(∃(v22:List Zl),∃(v23:List Int),∃v24,∃v25,∃v26,Zgd m d q e3 e1.Budget=some (.tup [.agg [Bo v24,I v25,I v26,.own 0,.own 1,.t .nil],Bo true],[.arr 211 3 true (v22.map Zl.c),.arr 3 1 true (v23.map ic)])∧(if v25=e1.Cost then(if v24=e1.Done then(Ze6 m d q b l (w (i+1))=some r)else(some (I i,[])=some r))else(some (I i,[])=some r)))∨(∃(v27:List Zl),∃(v28:List Int),∃(v29:List (List Int)),∃v30,∃v31,∃v32,Zgd m d q e3 e1.Budget=some (.tup [.agg [Bo v30,I v31,I v32,.own 0,.own 1,.own 2],Bo true],[.arr 211 3 true (v27.map Zl.c),.arr 3 1 true (v28.map ic),.arr 30 1 true (v29.map isc)])∧(if v31=e1.Cost then(if v30=e1.Done then(Ze6 m d q b l (w (i+1))=some r)else(some (I i,[])=some r))else(some (I i,[])=some r))))))else(some (I i,[])=some r)))))else(some (I (-1),[])=some r))) ∧
 (∀⦃a a1 a2 a3 a4 r⦄,Im (Zss a a1 a2 a3 a4=some r) (Ze6 a a1 a2 a3 a4 0=some r)):=by
 and_intros
 all_goals intros
 all_goals unfold Im
 all_goals try simp only[Zzd,Zpc,Ze5,Zgd,Ze6,Zss,Zpa,Zpb,Zdi,Za.c_def,Zly,Zju,Zbe,Zk.c_def,Zj.c_def,Zh.c_def,Plan.c_def,Zd.c_def,Zjx,mpl,dfs]
 all_goals try simp only[itb]
 all_goals try simp only[itf,gS,kk]
 all_goals repeat' first|refine exI fun _=>?_|refine anJ fun _ _=>?_|refine anI fun _=>?_|refine orE2 ?_ ?_|exact False.elim
 all_goals (intro h;first|rw[Ze Zsq.eq_1]|refine run Zbma rfl ?_|refine run Zbmb rfl ?_|rw[Ze Zzg.eq_1]|refine run Zbmc rfl ?_)
 all_goals (refine Yb ?_ h;clear h;simp +decide[*,kk,tI,tII,Zsr,Z7w,Z7x,Zzh,Z7y])
abbrev Zbpn:=Zmc.1
abbrev Zba1:=Zmc.2.1
abbrev Zbpo:=Zmc.2.2.1
abbrev Zzz:=Zmc.2.2.2.1
abbrev Zba2:=Zmc.2.2.2.2.1
abbrev Zbpp:=Zmc.2.2.2.2.2
theorem Zba3{m:Zj}{p:Plan}{cv:Bool}{cu cp:Int}{l:List Za}{co:List Zb}{n:List Int}{cn:Bool}{cl cc cd i:Int}{r:AV×List Blk}(h:(if i<(l.length:Int)then(0≤i∧(∃(e1:Za),l[i.toNat]?=some e1∧(n.length+1≤68719476736∧(∃(v:Int),Zjv m p co (n++[(e1.Rows.length:Int)]) i=some (I v,[])∧(if(w (cd-cl))<v then(∃(e3:Zb),co[i.toNat]?=some e3∧(if 0≤e3.Right then(∃(e4:Zg),p.Steps[i.toNat]?=some e4∧(0≤e3.Left∧(∃(e5:Int),(n++[(e1.Rows.length:Int)])[e3.Left.toNat]?=some e5∧(∃(v1:Int),Zcj e5=some (I v1,[])∧(∃(e7:Int),(n++[(e1.Rows.length:Int)])[e3.Right.toNat]?=some e7∧(∃(v2:Int),Zcj e7=some (I v2,[])∧(∃(v3:Int),Zjw m e4.Kind v1 v2 (w (cd-cl))=some (I v3,[])∧(some (.tup [.agg [Bo cn,I cd,I cc,.own 0,.t .nil,.t .nil],Bo true],[.arr 211 3 true (([(⟨e3.Mask,v3,false⟩:Zl)]).map Zl.c)])=some r))))))))else(some (.tup [.agg [Bo cn,I cd,I cc,.t .nil,.t .nil,.t .nil],Bo true],[])=some r)))else(∃(e10:Zb),co[i.toNat]?=some e10∧(if 0≤e10.Right then(∃(e11:Int),(n++[(e1.Rows.length:Int)])[i.toNat]?=some e11∧(∃(v4:Int),Zhs e11=some (I v4,[])∧(Zht m p cv cu cp l co (n++[(e1.Rows.length:Int)]) cn (w (cl+v)) (w (cc+1)) ([(⟨e10.Mask,v4,true⟩:Zl)]) cd (w (i+1))=some r)))else(Zjx m p cv cu cp l co (n++[(e1.Rows.length:Int)]) cn (w (cl+v)) (w (cc+1)) cd (w (i+1))=some r))))))))else(0≤(w ((l.length:Int)-1))∧(∃(e13:Za),l[(w ((l.length:Int)-1)).toNat]?=some e13∧((Ze5 e13=some (.tup [.agg [.t .nil,.t .nil],Bo false],[])∧(some (.tup [.agg [Bo true,I cl,I cc,.t .nil,.t .nil,.t .nil],Bo true],[])=some r))∨(∃(v5:List Int),Ze5 e13=some (.tup [.agg [.own 0,.t .nil],Bo true],[.arr 3 1 true (v5.map ic)])∧(some (.tup [.agg [Bo true,I cl,I cc,.t .nil,.own 0,.t .nil],Bo true],[.arr 3 1 true (v5.map ic)])=some r))∨(∃(v6:List Int) (v7:List (List Int)),Ze5 e13=some (.tup [.agg [.own 0,.own 1],Bo true],[.arr 3 1 true (v6.map ic),.arr 30 1 true (v7.map isc)])∧(some (.tup [.agg [Bo true,I cl,I cc,.t .nil,.own 0,.own 1],Bo true],[.arr 3 1 true (v6.map ic),.arr 30 1 true (v7.map isc)])=some r))))))):Zjx m p cv cu cp l co n cn cl cc cd i=some r:=by
 unfold Zjx;rw[Ze Zpd.eq_1];simp only[Zjv,Zcj,Zjw,Zhs,Ze5,Zj.c_def,Zh.c_def,Plan.c_def,Zb.c_def,Za.c_def,mpl,dfs]at h
 try simp only[itb]at h
 try simp only[itf,gS,kk]at h
 rcases h with⟨q1,q2,e1,⟨g3,q3⟩,q4,v,q5,(⟨q6,e3,⟨g7,q7⟩,(⟨q8,e4,⟨g9,q9⟩,q10,e5,⟨g11,q11⟩,v1,q12,e7,⟨g13,q13⟩,v2,q14,v3,q15,h⟩|⟨q8,h⟩)⟩|⟨q6,e10,⟨g16,q16⟩,(⟨q17,e11,⟨g18,q18⟩,v4,q19,h⟩|⟨q17,h⟩)⟩)⟩|⟨q1,q20,e13,⟨g21,q21⟩,(⟨q23,h⟩|⟨v5,q24,h⟩|⟨v6,v7,q25,h⟩)⟩
 all_goals ((try simp only[appI]at *);refine Yb ?_ h;clear h;simp +decide[*,-List.map_append,-List.length_append,appI,appO,kk,tI,tII,Zze,Zht,Zzf,Zjx,Zpe])
theorem Zba4{m:Zj}{p:Plan}{cv:Bool}{cu cp:Int}{l:List Za}{co:List Zb}{n:List Int}{cn:Bool}{cl cc:Int}{x:List Zl}{cd i:Int}{r:AV×List Blk}(h:(if i<(l.length:Int)then(0≤i∧(∃(e1:Za),l[i.toNat]?=some e1∧(n.length+1≤68719476736∧(∃(v:Int),Zjv m p co (n++[(e1.Rows.length:Int)]) i=some (I v,[])∧(if(w (cd-cl))<v then(∃(e3:Zb),co[i.toNat]?=some e3∧(if 0≤e3.Right then(∃(e4:Zg),p.Steps[i.toNat]?=some e4∧(0≤e3.Left∧(∃(e5:Int),(n++[(e1.Rows.length:Int)])[e3.Left.toNat]?=some e5∧(∃(v1:Int),Zcj e5=some (I v1,[])∧(∃(e7:Int),(n++[(e1.Rows.length:Int)])[e3.Right.toNat]?=some e7∧(∃(v2:Int),Zcj e7=some (I v2,[])∧(∃(v3:Int),Zjw m e4.Kind v1 v2 (w (cd-cl))=some (I v3,[])∧(x.length+1≤68719476736∧(some (.tup [.agg [Bo cn,I cd,I cc,.own 0,.t .nil,.t .nil],Bo true],[.arr 211 3 true ((x++[(⟨e3.Mask,v3,false⟩:Zl)]).map Zl.c)])=some r)))))))))else(some (.tup [.agg [Bo cn,I cd,I cc,.own 0,.t .nil,.t .nil],Bo true],[.arr 211 3 true (x.map Zl.c)])=some r)))else(∃(e10:Zb),co[i.toNat]?=some e10∧(if 0≤e10.Right then(∃(e11:Int),(n++[(e1.Rows.length:Int)])[i.toNat]?=some e11∧(∃(v4:Int),Zhs e11=some (I v4,[])∧(x.length+1≤68719476736∧(Zht m p cv cu cp l co (n++[(e1.Rows.length:Int)]) cn (w (cl+v)) (w (cc+1)) (x++[(⟨e10.Mask,v4,true⟩:Zl)]) cd (w (i+1))=some r))))else(Zht m p cv cu cp l co (n++[(e1.Rows.length:Int)]) cn (w (cl+v)) (w (cc+1)) x cd (w (i+1))=some r))))))))else(0≤(w ((l.length:Int)-1))∧(∃(e13:Za),l[(w ((l.length:Int)-1)).toNat]?=some e13∧((Ze5 e13=some (.tup [.agg [.t .nil,.t .nil],Bo false],[])∧(some (.tup [.agg [Bo true,I cl,I cc,.own 0,.t .nil,.t .nil],Bo true],[.arr 211 3 true (x.map Zl.c)])=some r))∨(∃(v5:List Int),Ze5 e13=some (.tup [.agg [.own 0,.t .nil],Bo true],[.arr 3 1 true (v5.map ic)])∧(some (.tup [.agg [Bo true,I cl,I cc,.own 0,.own 1,.t .nil],Bo true],[.arr 211 3 true (x.map Zl.c),.arr 3 1 true (v5.map ic)])=some r))∨(∃(v6:List Int) (v7:List (List Int)),Ze5 e13=some (.tup [.agg [.own 0,.own 1],Bo true],[.arr 3 1 true (v6.map ic),.arr 30 1 true (v7.map isc)])∧(some (.tup [.agg [Bo true,I cl,I cc,.own 0,.own 1,.own 2],Bo true],[.arr 211 3 true (x.map Zl.c),.arr 3 1 true (v6.map ic),.arr 30 1 true (v7.map isc)])=some r))))))):Zht m p cv cu cp l co n cn cl cc x cd i=some r:=by
 unfold Zht;rw[Ze Zpd.eq_1];simp only[Zjv,Zcj,Zjw,Zhs,Ze5,Zj.c_def,Zh.c_def,Plan.c_def,Zb.c_def,Za.c_def,mpl,dfs]at h
 try simp only[itb]at h
 try simp only[itf,gS,kk]at h
 rcases h with⟨q1,q2,e1,⟨g3,q3⟩,q4,v,q5,(⟨q6,e3,⟨g7,q7⟩,(⟨q8,e4,⟨g9,q9⟩,q10,e5,⟨g11,q11⟩,v1,q12,e7,⟨g13,q13⟩,v2,q14,v3,q15,q16,h⟩|⟨q8,h⟩)⟩|⟨q6,e10,⟨g17,q17⟩,(⟨q18,e11,⟨g19,q19⟩,v4,q20,q21,h⟩|⟨q18,h⟩)⟩)⟩|⟨q1,q22,e13,⟨g23,q23⟩,(⟨q25,h⟩|⟨v5,q26,h⟩|⟨v6,v7,q27,h⟩)⟩
 all_goals ((try simp only[appI]at *);refine Yb ?_ h;clear h;simp +decide[*,-List.map_append,-List.length_append,appI,appO,kk,tI,tII,Zze,Zht,Zzf,Zpe])
@[simp] theorem Zc6(a b c:Int):Z6 a b c=some (Bo (inR a b c),[]):=by
 refine Zbmd ?_;by_cases h:b≤a<;>simp[inR,h]
@[simp] theorem Zdj(a b c:Int):Zbe a b c=some (Bo (inR a b c),[]):=by
 refine Zbn5 ?_;by_cases h:b≤a<;>simp[inR,h]
theorem lIndexI(xs:List Int)(v:Int)(hx:Le xs):∀i,i≤xs.length →
  Zni xs v xs.length i=some (I (Zbi (fun x=>decide (v=x)) (xs.drop i) i),[]):=by
 refine down _ ?_ ?_
 ·refine Z70 ?_;simp[Zbi]
 ·intro i hi ih;refine Z70 ?_;have h4:=Zbp (i:=i) (by omega);rw[Znf _ hi];simp at ih;by_cases e:v=xs[i]<;>simp[hi,h4,e,ih]
@[simp] theorem xIndexI(xs:List Int)(v:Int)(hx:Le xs):Zcp xs v=some (I (Zbi (fun x=>decide (v=x)) xs 0),[]):=by
 refine Zbmf ?_;have:=lIndexI xs v hx 0 (Ya _);simpa using this
@[simp] theorem Zpj(xs:List Int)(v:Int)(hx:Le xs):Zf1 xs v=some (Bo (has xs v),[]):=by
 refine Zbmg ?_;unfold has;rcases tf (xs.any (fun x=>decide (v=x)))with e|e
 ·simp[hx,Zvb _ _ _ e,e]
 ·have:=Z3u _ _ 0 e;simp[hx,this,e]
theorem lIndexB(xs:List Bool)(v:Bool)(hx:Le xs):∀i,i≤xs.length →
  Znj xs v xs.length i=some (I (Zbi (fun x=>v == x) (xs.drop i) i),[]):=by
 refine down _ ?_ ?_
 ·refine Z71 ?_;simp[Zbi]
 ·intro i hi ih;refine Z71 ?_;have h4:=Zbp (i:=i) (by omega);rw[Znf _ hi];simp at ih;by_cases e:v=xs[i]<;>simp[hi,h4,e,ih]
@[simp] theorem Zbpq(xs:List Bool)(v:Bool)(hx:Le xs):Zqy xs v=some (Bo (xs.any (fun x=>v == x)),[]):=by
 refine Zbmi ?_;have q:Zqx xs v=some (I (Zbi (fun x=>v == x) xs 0),[]):=by
  refine Zbmh ?_;have:=lIndexB xs v hx 0 (Ya _);simpa using this
 rcases tf (xs.any (fun x=>v == x))with e|e
 ·rw[Zvb _ _ _ e]at q;rw[e];simp[q]
 ·have:=Z3u _ _ 0 e;rw[e];simp[q,this]
theorem l_l7Has(xs:List Int)(v:Int)(hx:Le xs):∀i,i≤xs.length→Zod xs v i=some (Bo (has (xs.drop i) v),[]):=by
 unfold has;refine down _ ?_ ?_
 ·refine Z9n ?_;simp
 ·intro i hi ih;refine Z9n ?_;have h4:=Zbp (i:=i) (by omega);rw[drop_any _ hi];simp at ih;by_cases e:v=xs[i]
  ·simp[hi,h4,←e]
  ·have e':¬xs[i]=v:=fun hc=>e hc.symm
   simp[hi,h4,e,e',ih]
@[simp] theorem Zz0(xs:List Int)(v:Int)(hx:Le xs):Zjb xs v=some (Bo (has xs v),[]):=by
 refine Zbn7 ?_;have:=l_l7Has xs v hx 0 (Ya _);simpa using this
theorem nm_aux(s:ByteArray)(P:Prop):(if(s.size:Int)=1 then(∃(b1:UInt8),s[0]?=some b1∧(if 97≤(b1.toNat:Int)then(some (Bo (decide ((b1.toNat:Int)≤122)),[])=some (Bo (nmOk s),([]:List Blk)))else(some (Bo false,[])=some (Bo (nmOk s),([]:List Blk)))))else(some (Bo false,[])=some (Bo (nmOk s),([]:List Blk)))):=by
 by_cases h:s.size=1
 ·obtain⟨b,hb⟩:=get0 h;rw[if_pos (by omega)];refine⟨b,hb,?_⟩;have e:nmOk s=(decide (97≤(b.toNat:Int)) && decide ((b.toNat:Int)≤122)):=by
   unfold nmOk;rw[hb];simp only[h,decide_true,Yv]
  by_cases h1:(97:Int)≤(b.toNat:Int)
  ·rw[if_pos h1,e,decide_eq_true h1,Yv]
  ·rw[if_neg h1,e,decide_eq_false h1,Ydp]
 ·have h':¬(s.size:Int)=1:=by omega
  have:nmOk s=false:=by unfold nmOk;split<;>simp[h]
  simp[h',this]
@[simp] theorem x_nameOk(s:ByteArray):Zkq s=some (Bo (nmOk s),[]):=Zbme (nm_aux s True)
@[simp] theorem x_l4Name(s:ByteArray):Zja s=some (Bo (nmOk s),[]):=Zbn6 (nm_aux s True)
def LeQ(q:Zd):Prop:=Le q.Atoms∧∀a∈q.Atoms,Le a.Vars
def blB(p:Nat→Bool)(n:Nat):List Bool:=(List.range n).map p
theorem blB_set(p:Nat→Bool)(n:Nat){v:Int}(h:inR v 0 ((n:Int)-1)=true):(blB p n).set v.toNat true=blB (addV p [v]) n:=by
 simp[inR]at h;apply Ycq
 ·simp[blB]
 ·intro i h1 h2;simp only[blB,Ycp,Ybc,List.length_range]at h1;rw[List.getElem_set];simp only[blB,List.getElem_map,List.getElem_range];by_cases e:v.toNat=i
  ·have:(i:Int)=v:=by omega
   simp[e,addV,has,this]
  ·have:¬(i:Int)=v:=by omega
   simp[e,addV,has,this]
theorem Zbpr(q:Zd)(n:Nat)(hn:n≤4)(hq:q.Zn=n)(a:Atom)(qa:List Atom)(l j:Int)(hv:Le a.Vars)(r:AV×List Blk):∀k,k≤a.Vars.length→∀p,
  (if Zc2 n (a.Vars.take k) (a.Vars.drop k)=true then Zii q (blB (addV p (a.Vars.drop k)) n) qa l (w (j+1))=some r else some (Bo false,[])=some r) →
  Znk q (blB p n) a qa l j a.Vars a.Vars.length k=some r:=by
 refine down _ ?_ ?_
 ·intro p h;refine Z73 ?_;simpa[Zc2,Zu9]using h
 ·intro k hk ih p h;have h4:=Zbp (i:=k) (by omega);have hw:w (q.Zn-1)=(n:Int)-1:=by rw[hq];exact Zt (by omega) (by omega)
  have hl:=Zpj (a.Vars.take k) a.Vars[k] (by simp;omega);refine Z73 ?_;rw[Z3v _ hk]at h;rcases tf (inR a.Vars[k] 0 ((n:Int)-1))with e1|e1
  ·simp[e1]at h;simp[hk,h4,hw,e1,←h]
  ·rcases tf (has (a.Vars.take k) a.Vars[k])with e2|e2
   ·rw[Zva p hk]at h;simp only[e1,e2,Yv,Bool.not_false]at h;have ih:=ih _ h;have e0:=e1;simp[inR]at e0;have e5:(a.Vars[k]).toNat<(blB p n).length:=by simp[blB];omega
    have e6:=blB_set p n e1;have e7:k≤a.Vars.length:=by omega
    simp at ih;simp[hk,h4,hw,e1,e2,hl,e0,e5,e6,e7,ih]
   ·simp[e1,e2]at h;have e7:k≤a.Vars.length:=by omega
    simp[hk,h4,hw,e1,e2,hl,e7,←h]
theorem Zbps(q:Zd)(n:Nat)(hn:n≤4)(hq:q.Zn=n)(qa:List Atom)(hl:Le qa)(hv:∀a∈qa,Le a.Vars):∀k,k≤qa.length→∀p,
  Zii q (blB p n) qa qa.length k=some (Bo ((qa.drop k).all (Zb8 n) && (List.range n).all (addA p (qa.drop k))),[]):=by
 refine down _ ?_ ?_
 ·intro p;refine Z72 ?_;have e:addA p []=p:=by funext u;simp[addA]
  have q1:=Zbpq (blB p n) false (by simp[blB];omega);have q2:(blB p n).any (fun x=>false == x)=!(List.range n).all p:=bl_any p n;rw[q2]at q1;simp[q1,e]
 ·intro k hk ih p;refine Z72 ?_;have h4:=Zbp (i:=k) (by omega);rw[Z3s _ hk];rcases tf (nmOk qa[k].Name)with e1|e1
  ·simp[hk,e1,Zb8]
  rcases tf (inR qa[k].Vars.length 1 3)with e2|e2
  ·simp[hk,e1,e2,Zb8]
  have b:=Zbpr q n hn hq qa[k] qa qa.length k (hv _ (Yc hk)) (Bo (Zb8 n qa[k] && (qa.drop (k+1)).all (Zb8 n) && (List.range n).all (addA p (qa.drop k))),[]) 0 (Ya _) p ?_
  ·simp at b;simp[hk,e1,e2,b]
  ·simp only[Ycb,Yl,Zb8,e1,e2,Yv];rcases tf (Zc2 n [] qa[k].Vars)with e3|e3
   ·simp[e3]
   ·have ih:=ih (addV p qa[k].Vars);simp only[e3,if_true,Yv,Z3w p hk];simp at ih;rw[show w ((k:Int)+1)=(k:Int)+1 from h4,ih]
@[simp] theorem Zba5(q:Zd)(h:LeQ q):Zih q=some (Bo (Zw q.Zn q.Atoms),[]):=by
 refine Zbmr ?_;unfold Zw;rcases tf (inR q.Zn 1 4)with e1|e1
 ·simp[e1]
 rcases tf (inR q.Atoms.length 1 4)with e2|e2
 ·simp[e1,e2]
 have e0:=e1;simp[inR]at e0;have hn:q.Zn=(q.Zn.toNat:Int):=by omega
 have b:=Zbps q q.Zn.toNat (by omega) hn q.Atoms h.1 h.2 0 (Ya _) (fun _=>false);have r1:q.Zn.toNat≤room:=room2 (by omega);have r2:q.Zn≤room:=by
  have:(q.Zn.toNat:Int)≤room:=by exact_mod_cast r1
  omega
 have r3:q.Zn≤140737488355328:=by omega
 have ez:blB (fun _=>false) q.Zn.toNat=List.replicate q.Zn.toNat false:=by
  apply Ycq<;>simp[blB]
 rw[ez,←hn]at b;simp at b;simp[e1,e2,e0,r1,r2,r3,b];omega
theorem Zbpt(q:Zd)(n:Nat)(hn1:1≤n)(hn:n≤4)(hq:q.Zn=n)(a:Atom)(j:Int)(hv:Le a.Vars)(r:AV×List Blk):∀k,k≤a.Vars.length→∀p,
  (if Zc2 n (a.Vars.take k) (a.Vars.drop k)=true then Zle q (Zbd (addV p (a.Vars.drop k))) (w (j+1))=some r else some (Bo false,[])=some r) →
  Zoe q a (Zbd p) j k=some r:=by
 refine down _ ?_ ?_
 ·intro p h;refine Z9p ?_;simpa[Zc2,Zu9]using h
 ·intro k hk ih p h;have h4:=Zbp (i:=k) (by omega);have hw:w (q.Zn-1)=(n:Int)-1:=by rw[hq];exact Zt (by omega) (by omega)
  have hl:=Zz0 (a.Vars.take k) a.Vars[k] (by simp;omega);have e7:k≤a.Vars.length:=by omega
  refine Z9p ?_;rw[Z3v _ hk]at h;rcases tf (inR a.Vars[k] 0 ((n:Int)-1))with e1|e1
  ·simp[e1]at h;simp[hk,h4,hw,e1,←h]
  ·rcases tf (has (a.Vars.take k) a.Vars[k])with e2|e2
   ·rw[Zva p hk]at h;simp only[e1,e2,Yv,Bool.not_false]at h;have ih:=ih _ h;have e0:=e1;simp[inR]at e0;have e6:=or_bit p (v:=a.Vars[k]) (by simp[inR];omega);have e8:¬a.Vars[k]<0:=by omega
    simp at ih;simp[hk,h4,hw,e1,e2,hl,e0,e6,e7,e8,ih]
   ·simp[e1,e2]at h;simp[hk,h4,hw,e1,e2,hl,e7,←h]
def Zpk(n:Int)(p:Nat→Bool):Bool:=decide (Zbd p=w (shlI 1 n-1))
theorem Zbpu(q:Zd)(n:Nat)(hn1:1≤n)(hn:n≤4)(hq:q.Zn=n)(hl:Le q.Atoms)(hv:∀a∈q.Atoms,Le a.Vars):∀k,k≤q.Atoms.length→∀p,
  Zle q (Zbd p) k=some (Bo ((q.Atoms.drop k).all (Zb8 n) && Zpk n (addA p (q.Atoms.drop k))),[]):=by
 refine down _ ?_ ?_
 ·intro p;refine Z9o ?_;have e:addA p []=p:=by funext u;simp[addA]
  have h0:¬(n:Int)<0:=by omega
  simp[e,hq,h0,Zpk]
 ·intro k hk ih p;refine Z9o ?_;have h4:=Zbp (i:=k) (by omega);rw[Z3s _ hk];rcases tf (nmOk q.Atoms[k].Name)with e1|e1
  ·simp[hk,e1,Zb8]
  rcases tf (inR q.Atoms[k].Vars.length 1 3)with e2|e2
  ·simp[hk,e1,e2,Zb8]
  have b:=Zbpt q n hn1 hn hq q.Atoms[k] k (hv _ (Yc hk)) (Bo (Zb8 n q.Atoms[k] && (q.Atoms.drop (k+1)).all (Zb8 n) && Zpk n (addA p (q.Atoms.drop k))),[]) 0 (Ya _) p ?_
  ·simp at b;simp[hk,e1,e2,b]
  ·simp only[Ycb,Yl,Zb8,e1,e2,Yv];rcases tf (Zc2 n [] q.Atoms[k].Vars)with e3|e3
   ·simp[e3]
   ·have ih:=ih (addV p q.Atoms[k].Vars);simp only[e3,if_true,Yv,Z3w p hk];simp at ih;rw[show w ((k:Int)+1)=(k:Int)+1 from h4,ih]
@[simp] theorem Zz1(q:Zd)(h:LeQ q):Zhj q=some (Bo (Zw q.Zn q.Atoms),[]):=by
 refine Zbn8 ?_;unfold Zw;rcases tf (inR q.Zn 1 4)with e1|e1
 ·simp[e1]
 rcases tf (inR q.Atoms.length 1 4)with e2|e2
 ·simp[e1,e2]
 have e0:=e1;simp[inR]at e0;obtain⟨k,hk⟩:∃k:Nat,q.Zn=k:=⟨q.Zn.toNat,by omega⟩;have b:=Zbpu q k (by omega) (by omega) hk h.1 h.2 0 (Ya _) (fun _=>false);have ez:Zbd (fun _=>false)=0:=rfl;rw[ez]at b;simp only[Yl,Int.ofNat_zero]at b;have e3:(q.Atoms.all (Zb8 k) && Zpk k (addA (fun _=>false) q.Atoms))=(q.Atoms.all (Zb8 k) && (List.range k).all (addA (fun _=>false) q.Atoms)):=by
  rcases tf (q.Atoms.all (Zb8 k))with e3|e3
  ·simp[e3]
  ·have hk':k=1∨k=2∨k=3∨k=4:=by omega
   have hz:=all_in e3;have hz':∀u:Nat,k≤u→addA (fun _=>false) q.Atoms u=false:=fun u hu=>by simp only[addA,Yda];exact hz u (by omega)
   rw[e3,Yv,Yv,Yb8,Zpk,decide_eq_true_eq,Zbd];rcases hk' with rfl|rfl|rfl|rfl
   ·simp[shlI,Zt,Zqr,hz' 1 (by omega),hz' 2 (by omega),hz' 3 (by omega),Yca]
   ·simp[shlI,Zt,Zqr,hz' 2 (by omega),hz' 3 (by omega),Yca]
   ·simp[shlI,Zt,Zqr,hz' 3 (by omega),Yca,and_assoc]
   ·simp[shlI,Zt,Zqr,Yca,and_assoc]
 rw[e3]at b;rw[hk]at e1;simp only[Zdj,Ybj,Ybz,AV.t.injEq,T.bool.injEq,and_true,exists_eq_left',e1,e2,if_true,b,hk,Yg];simp
end Go.Proofs.YtgnfoghkbpkgjaaGreat
