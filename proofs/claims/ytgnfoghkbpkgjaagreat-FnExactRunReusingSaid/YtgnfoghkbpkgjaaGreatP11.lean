/-
  Parts of the proofs for this seat: G13 G14 SN2 G15 G16 G17 G18 G19 G20 V1 V2 V3 V4 V5 V6 OP.
-/
import Derived.Test.YtgnfoghkbpkgjaaGreatP7
import Derived.Test.YtgnfoghkbpkgjaaGreatP9
import Derived.Test.YtgnfoghkbpkgjaaGreatP10
set_option linter.unusedSimpArgs false
set_option linter.unusedVariables false
set_option maxRecDepth 100000
set_option maxHeartbeats 4000000
namespace Go.Proofs.YtgnfoghkbpkgjaaGreat
open Go.AM
theorem Ze7:(∀⦃a b x x1 co only x2 cd cc i r⦄,Im (Zk4 a b x x1 co only x2 cd cc i=some r) (if i<cd then(Zfu a b x x1 co only x2 cd cc i 0=some r)else(some (.agg [.own 0,.own 1],[.arr 3 1 true (x.map ic),.arr 30 1 true (x1.map isc)])=some r)))/\
 (∀⦃a b x x1 co only x2 cd cc i k r⦄,Im (Zfu a b x x1 co only x2 cd cc i k=some r) (if k<cc then(if(x1.length:Int)<=4096 then(0<=(if(w ((a.Rows.length:Int)-1))<i then(w ((a.Rows.length:Int)-1))else i)/\(∃e1,a.Rows[(if(w ((a.Rows.length:Int)-1))<i then(w ((a.Rows.length:Int)-1))else i).toNat]?=some e1/\(0<=(if(w ((b.Rows.length:Int)-1))<k then(w ((b.Rows.length:Int)-1))else k)/\(∃e2,b.Rows[(if(w ((b.Rows.length:Int)-1))<k then(w ((b.Rows.length:Int)-1))else k).toNat]?=some e2/\(if co=true then(0<=k/\(∃e3,a.Rows[k.toNat]?=some e3/\(0<=i/\(∃e4,b.Rows[i.toNat]?=some e4/\(if only<0 then(∃v9,Zbu a.Vars e3 b.Vars e4=some (Bo v9,[])/\(if v9=true then(∃(v10:List Int),Zbv x a.Vars e3 b.Vars e4=some (.own 0,[.arr 3 1 true (v10.map ic)])/\(x1.length+1<=68719476736/\(Zcj a b x (x1++[v10]) true only x2 cd cc i (w (k+1))=some r)))else(Zfu a b x x1 true only x2 cd cc i (w (k+1))=some r)))else(0<=x2/\(∃e7,e3[x2.toNat]?=some e7/\(if e7=only then(∃v11,Zbu a.Vars e3 b.Vars e4=some (Bo v11,[])/\(if v11=true then(∃(v12:List Int),Zbv x a.Vars e3 b.Vars e4=some (.own 0,[.arr 3 1 true (v12.map ic)])/\(x1.length+1<=68719476736/\(Zcj a b x (x1++[v12]) true only x2 cd cc i (w (k+1))=some r)))else(Zfu a b x x1 true only x2 cd cc i (w (k+1))=some r)))else(Zfu a b x x1 true only x2 cd cc i (w (k+1))=some r)))))))))else(if only<0 then(∃v14,Zbu a.Vars e1 b.Vars e2=some (Bo v14,[])/\(if v14=true then(∃(v15:List Int),Zbv x a.Vars e1 b.Vars e2=some (.own 0,[.arr 3 1 true (v15.map ic)])/\(x1.length+1<=68719476736/\(Zcj a b x (x1++[v15]) false only x2 cd cc i (w (k+1))=some r)))else(Zfu a b x x1 false only x2 cd cc i (w (k+1))=some r)))else(0<=x2/\(∃e12,e1[x2.toNat]?=some e12/\(if e12=only then(∃v16,Zbu a.Vars e1 b.Vars e2=some (Bo v16,[])/\(if v16=true then(∃(v17:List Int),Zbv x a.Vars e1 b.Vars e2=some (.own 0,[.arr 3 1 true (v17.map ic)])/\(x1.length+1<=68719476736/\(Zcj a b x (x1++[v17]) false only x2 cd cc i (w (k+1))=some r)))else(Zfu a b x x1 false only x2 cd cc i (w (k+1))=some r)))else(Zfu a b x x1 false only x2 cd cc i (w (k+1))=some r))))))))))else(Zk4 a b x x1 co only x2 cd cc (w (i+1))=some r))else(Zk4 a b x x1 co only x2 cd cc (w (i+1))=some r)))/\
 (∀⦃a b x x1 co only x2 cd cc i k r⦄,Im (Zcj a b x x1 co only x2 cd cc i k=some r) (if k<cc then(if(x1.length:Int)<=4096 then(0<=(if(w ((a.Rows.length:Int)-1))<i then(w ((a.Rows.length:Int)-1))else i)/\(∃e1,a.Rows[(if(w ((a.Rows.length:Int)-1))<i then(w ((a.Rows.length:Int)-1))else i).toNat]?=some e1/\(0<=(if(w ((b.Rows.length:Int)-1))<k then(w ((b.Rows.length:Int)-1))else k)/\(∃e2,b.Rows[(if(w ((b.Rows.length:Int)-1))<k then(w ((b.Rows.length:Int)-1))else k).toNat]?=some e2/\(if co=true then(0<=k/\(∃e3,a.Rows[k.toNat]?=some e3/\(0<=i/\(∃e4,b.Rows[i.toNat]?=some e4/\(if only<0 then(∃v9,Zbu a.Vars e3 b.Vars e4=some (Bo v9,[])/\(if v9=true then(∃(v10:List Int),Zbv x a.Vars e3 b.Vars e4=some (.own 0,[.arr 3 1 true (v10.map ic)])/\(x1.length+1<=68719476736/\(Zcj a b x (x1++[v10]) true only x2 cd cc i (w (k+1))=some r)))else(Zcj a b x x1 true only x2 cd cc i (w (k+1))=some r)))else(0<=x2/\(∃e7,e3[x2.toNat]?=some e7/\(if e7=only then(∃v11,Zbu a.Vars e3 b.Vars e4=some (Bo v11,[])/\(if v11=true then(∃(v12:List Int),Zbv x a.Vars e3 b.Vars e4=some (.own 0,[.arr 3 1 true (v12.map ic)])/\(x1.length+1<=68719476736/\(Zcj a b x (x1++[v12]) true only x2 cd cc i (w (k+1))=some r)))else(Zcj a b x x1 true only x2 cd cc i (w (k+1))=some r)))else(Zcj a b x x1 true only x2 cd cc i (w (k+1))=some r)))))))))else(if only<0 then(∃v14,Zbu a.Vars e1 b.Vars e2=some (Bo v14,[])/\(if v14=true then(∃(v15:List Int),Zbv x a.Vars e1 b.Vars e2=some (.own 0,[.arr 3 1 true (v15.map ic)])/\(x1.length+1<=68719476736/\(Zcj a b x (x1++[v15]) false only x2 cd cc i (w (k+1))=some r)))else(Zcj a b x x1 false only x2 cd cc i (w (k+1))=some r)))else(0<=x2/\(∃e12,e1[x2.toNat]?=some e12/\(if e12=only then(∃v16,Zbu a.Vars e1 b.Vars e2=some (Bo v16,[])/\(if v16=true then(∃(v17:List Int),Zbv x a.Vars e1 b.Vars e2=some (.own 0,[.arr 3 1 true (v17.map ic)])/\(x1.length+1<=68719476736/\(Zcj a b x (x1++[v17]) false only x2 cd cc i (w (k+1))=some r)))else(Zcj a b x x1 false only x2 cd cc i (w (k+1))=some r)))else(Zcj a b x x1 false only x2 cd cc i (w (k+1))=some r))))))))))else(Znj a b x x1 co only x2 cd cc (w (i+1))=some r))else(Znj a b x x1 co only x2 cd cc (w (i+1))=some r)))/\
 (∀⦃a b x x1 co only x2 cd cc i r⦄,Im (Znj a b x x1 co only x2 cd cc i=some r) (if i<cd then(Zcj a b x x1 co only x2 cd cc i 0=some r)else(some (.agg [.own 0,.own 2],[.arr 3 1 true (x.map ic),.dead,.arr 30 1 true (x1.map isc)])=some r)))/\
 (∀⦃x x1 a a1 a2 a3 a4 r⦄,Im (Zq8 x x1 a a1 a2 a3 a4=some r) (∃v1,Zd4 a.Vars a3=some (I v1,[])/\(if a2=true then(Zk4 a a1 x x1 true a4 v1 (a1.Rows.length:Int) (a.Rows.length:Int) 0=some r)else(Zk4 a a1 x x1 false a4 v1 (a.Rows.length:Int) (a1.Rows.length:Int) 0=some r))))/\
 (∀⦃a b x v cp r⦄,Im (Zq9 a b x v cp=some r) (if cp<=9 then((∃(v1:List Int),Zew x a b false v cp=some (.agg [.own 0,.t .nil],[.arr 3 1 true (v1.map ic)])/\(Zq9 a b v1 v (w (cp+1))=some r))\/(∃(v3:List Int) (v4:List (List Int)),Zew x a b false v cp=some (.agg [.own 0,.own 1],[.arr 3 1 true (v3.map ic),.arr 30 1 true (v4.map isc)])/\(Znl a b v3 v4 v (w (cp+1))=some r)))else(∃(v5:List Int),Znh x=some (.tup [.agg [.own 0,.t .nil],Bo true],[.arr 3 1 true (v5.map ic)])/\(some (.tup [.agg [.own 0,.t .nil],Bo true],[.arr 3 1 true (v5.map ic)])=some r))))/\
 (∀⦃a b x x1 v cp r⦄,Im (Znl a b x x1 v cp=some r) (if cp<=9 then((∃(v1:List Int) (v2:List (List Int)),Zq8 x x1 a b false v cp=some (.agg [.own 0,.own 1],[.arr 3 1 true (v1.map ic),.arr 30 1 true (v2.map isc)])/\(Znl a b v1 v2 v (w (cp+1))=some r))\/(∃(v3:List Int) (v4:List (List Int)),Zq8 x x1 a b false v cp=some (.agg [.own 0,.own 2],[.arr 3 1 true (v3.map ic),.dead,.arr 30 1 true (v4.map isc)])/\(Znl a b v3 v4 v (w (cp+1))=some r)))else((∃(v5:List Int) (v6:List (List Int)),Zgg x x1=some (.tup [.agg [.t .nil,.t .nil],Bo false],[.arr 3 1 true (v5.map ic),.arr 30 1 true (v6.map isc)])/\(some (.tup [.agg [.t .nil,.t .nil],Bo false],[])=some r))\/(∃(v7:List Int) (v8:List (List Int)),Zgg x x1=some (.tup [.agg [.own 0,.own 1],Bo true],[.arr 3 1 true (v7.map ic),.arr 30 1 true (v8.map isc)])/\(some (.tup [.agg [.own 0,.own 1],Bo true],[.arr 3 1 true (v7.map ic),.arr 30 1 true (v8.map isc)])=some r)))))/\
 (∀⦃a a1 a2 r⦄,Im (Znk a a1 a2=some r) (∃v1,Zni a a2=some (Bo v1,[])/\(if v1=true then(∃v3,Zni a1 a2=some (Bo v3,[])/\(if v3=true then(∃(v5:List Int),Ziy a.Vars a1.Vars=some (.own 0,[.arr 3 1 true (v5.map ic)])/\(Zq9 a a1 v5 a2 0=some r))else(some (.tup [.agg [.t .nil,.t .nil],Bo false],[])=some r)))else(some (.tup [.agg [.t .nil,.t .nil],Bo false],[])=some r))))/\
 (∀⦃d q p cn cl i r⦄,Im (Zcn d q p cn cl i=some r) (if i<(cn.length:Int)then(0<=i/\(∃e1,p.Steps[i.toNat]?=some e1/\(if e1.Kind=1 then((Zku d q e1.Atom=some (.tup [.agg [.t .nil,.t .nil],Bo false],[])/\(cl.length+1<=68719476736/\(Zcn d q p cn (cl++[(⟨[],[]⟩:Zb)]) (w (i+1))=some r)))\/(∃(v5:List Int),Zku d q e1.Atom=some (.tup [.agg [.own 0,.t .nil],Bo true],[.arr 3 1 true (v5.map ic)])/\(cl.length+1<=68719476736/\(Zcn d q p cn (cl++[(⟨v5,[]⟩:Zb)]) (w (i+1))=some r)))\/(∃(v7:List Int) (v8:List (List Int)),Zku d q e1.Atom=some (.tup [.agg [.own 0,.own 1],Bo true],[.arr 3 1 true (v7.map ic),.arr 30 1 true (v8.map isc)])/\(cl.length+1<=68719476736/\(Zcn d q p cn (cl++[(⟨v7,v8⟩:Zb)]) (w (i+1))=some r))))else(if e1.Kind=2 then(∃e5,cn[i.toNat]?=some e5/\(0<=e5.Left/\(∃e6,cl[e5.Left.toNat]?=some e6/\((Zky e6 e1.Order=some (.tup [.agg [.t .nil,.t .nil],Bo false],[])/\(cl.length+1<=68719476736/\(Zcn d q p cn (cl++[(⟨[],[]⟩:Zb)]) (w (i+1))=some r)))\/(∃(v11:List Int),Zky e6 e1.Order=some (.tup [.agg [.own 0,.t .nil],Bo true],[.arr 3 1 true (v11.map ic)])/\(cl.length+1<=68719476736/\(Zcn d q p cn (cl++[(⟨v11,[]⟩:Zb)]) (w (i+1))=some r)))\/(∃(v12:List Int) (v13:List (List Int)),Zky e6 e1.Order=some (.tup [.agg [.own 0,.own 1],Bo true],[.arr 3 1 true (v12.map ic),.arr 30 1 true (v13.map isc)])/\(cl.length+1<=68719476736/\(Zcn d q p cn (cl++[(⟨v12,v13⟩:Zb)]) (w (i+1))=some r)))))))else(if e1.Kind=3 then(∃e10,cn[i.toNat]?=some e10/\(0<=e10.Left/\(∃e11,cl[e10.Left.toNat]?=some e11/\(0<=e10.Right/\(∃e12,cl[e10.Right.toNat]?=some e12/\((∃(v16:List Int),Zk2 e11 e12=some (.tup [.agg [.own 0,.t .nil],Bo true],[.arr 3 1 true (v16.map ic)])/\(cl.length+1<=68719476736/\(Zcn d q p cn (cl++[(⟨v16,[]⟩:Zb)]) (w (i+1))=some r)))\/(Zk2 e11 e12=some (.tup [.agg [.t .nil,.t .nil],Bo false],[])/\(cl.length+1<=68719476736/\(Zcn d q p cn (cl++[(⟨[],[]⟩:Zb)]) (w (i+1))=some r)))\/(∃(v18:List Int) (v19:List (List Int)),Zk2 e11 e12=some (.tup [.agg [.own 0,.own 1],Bo true],[.arr 3 1 true (v18.map ic),.arr 30 1 true (v19.map isc)])/\(cl.length+1<=68719476736/\(Zcn d q p cn (cl++[(⟨v18,v19⟩:Zb)]) (w (i+1))=some r)))))))))else(if e1.Kind=5 then(∃e16,cn[i.toNat]?=some e16/\(0<=e16.Left/\(∃e17,cl[e16.Left.toNat]?=some e17/\(0<=e16.Right/\(∃e18,cl[e16.Right.toNat]?=some e18/\((∃(v20:List Int),Zk3 e17 e18=some (.tup [.agg [.own 0,.t .nil],Bo true],[.arr 3 1 true (v20.map ic)])/\(cl.length+1<=68719476736/\(Zcn d q p cn (cl++[(⟨v20,[]⟩:Zb)]) (w (i+1))=some r)))\/(Zk3 e17 e18=some (.tup [.agg [.t .nil,.t .nil],Bo false],[])/\(cl.length+1<=68719476736/\(Zcn d q p cn (cl++[(⟨[],[]⟩:Zb)]) (w (i+1))=some r)))\/(∃(v21:List Int) (v22:List (List Int)),Zk3 e17 e18=some (.tup [.agg [.own 0,.own 1],Bo true],[.arr 3 1 true (v21.map ic),.arr 30 1 true (v22.map isc)])/\(cl.length+1<=68719476736/\(Zcn d q p cn (cl++[(⟨v21,v22⟩:Zb)]) (w (i+1))=some r)))))))))else(∃e22,cn[i.toNat]?=some e22/\(0<=e22.Left/\(∃e23,cl[e22.Left.toNat]?=some e23/\(0<=e22.Right/\(∃e24,cl[e22.Right.toNat]?=some e24/\((Znk e23 e24 e1.Order=some (.tup [.agg [.t .nil,.t .nil],Bo false],[])/\(cl.length+1<=68719476736/\(Zcn d q p cn (cl++[(⟨[],[]⟩:Zb)]) (w (i+1))=some r)))\/(∃(v23:List Int),Znk e23 e24 e1.Order=some (.tup [.agg [.own 0,.t .nil],Bo true],[.arr 3 1 true (v23.map ic)])/\(cl.length+1<=68719476736/\(Zcn d q p cn (cl++[(⟨v23,[]⟩:Zb)]) (w (i+1))=some r)))\/(∃(v24:List Int) (v25:List (List Int)),Znk e23 e24 e1.Order=some (.tup [.agg [.own 0,.own 1],Bo true],[.arr 3 1 true (v24.map ic),.arr 30 1 true (v25.map isc)])/\(cl.length+1<=68719476736/\(Zcn d q p cn (cl++[(⟨v24,v25⟩:Zb)]) (w (i+1))=some r)))))))))))))))else(some (.tup [.own 0,.own 1,Bo true],[.arr 199 2 true (cl.map Zb.c),.arr 209 4 true (cn.map Za.c)])=some r)))/\
 (∀⦃a a1 a2 r⦄,Im (Znm a a1 a2=some r) (∃(v1:List Za),∃v2,Zks a1 a2=some (.tup [.own 0,Bo v2],[.arr 209 4 true (v1.map Za.c)])/\(if v2=true then(∃v3,Zkt a a1=some (Bo v3,[])/\(if v3=true then(Zcn a a1 a2 v1 ([]:List Zb) 0=some r)else(some (.tup [.own 0,.own 1,Bo false],[.arr 199 2 true (([]:List Zb).map Zb.c),.arr 209 4 true (v1.map Za.c)])=some r)))else(some (.tup [.own 0,.own 1,Bo false],[.arr 199 2 true (([]:List Zb).map Zb.c),.arr 209 4 true (v1.map Za.c)])=some r))))/\
 (∀⦃a a1 r⦄,Im (Zhi a a1=some r) (if a1=1 then(some (.agg (a.Scan.c.map .t),[])=some r)else(if a1=2 then(some (.agg (a.Sort_.c.map .t),[])=some r)else(if a1=3 then(some (.agg (a.Hash.c.map .t),[])=some r)else(if a1=4 then(some (.agg (a.Merge.c.map .t),[])=some r)else(some (.agg (a.Nested.c.map .t),[])=some r))))))/\
 (∀⦃a r⦄,Im (Zgh a=some r) (∃v1,Zbf a (-99) 99=some (Bo v1,[])/\(some (Bo v1,[])=some r))):=by
 and_intros
 all_goals intros
 all_goals unfold Im
 all_goals try simp only[Zk4,Zfu,Zcj,Znj,Zq8,Zq9,Znl,Znk,Zcn,Znm,Zhi,Zgh,Zbu,Zbv,Zd4,Zew,Znh,Zb.c_def,Zgg,Zni,Ziy,Zku,Zky,Zk2,Zk3,Zl.c_def,Ze.c_def,Zks,Zkt,Plan.c_def,Zbf,mpl,dfs]
 all_goals try simp only[itb]
 all_goals try simp only[itf,gS,kk]
 all_goals repeat' first|refine exI λ_=>?_|refine anJ λ_ _=>?_|refine anI λ_=>?_|refine orE2 ?_ ?_|exact False.elim
 all_goals (intro h;first|rw[Zd Zfr.eq_1]|rw[Zd Zk0.eq_1]|refine runM Zbeh rfl ?_|rw[Zd Zvi.eq_1]|refine run Zbt5 rfl ?_|rw[Zd Z2w.eq_1]|refine run Zbt6 rfl ?_|refine run Zbt7 rfl ?_|refine run Zbt8 rfl ?_)
 all_goals (refine Ya ?_ h;clear h;simp +decide[*,kk,tI,tII,Zfs,Z2r,Zk1,Z2t,Z2s,Zvj,Zbcx,Zbcy,Z2x,Zbcz,Zbc0,Zbc1])
abbrev Zbg0:=Ze7.1
abbrev Zbg1:=Ze7.2.1
abbrev Zbg2:=Ze7.2.2.1
abbrev Zbg3:=Ze7.2.2.2.1
abbrev Zbx4:=Ze7.2.2.2.2.1
abbrev Zbg4:=Ze7.2.2.2.2.2.1
abbrev Zbg5:=Ze7.2.2.2.2.2.2.1
abbrev Zbx5:=Ze7.2.2.2.2.2.2.2.1
abbrev Zbg6:=Ze7.2.2.2.2.2.2.2.2.1
abbrev Z4w:=Ze7.2.2.2.2.2.2.2.2.2.1
abbrev Zbx6:=Ze7.2.2.2.2.2.2.2.2.2.2.1
abbrev Zbx7:=Ze7.2.2.2.2.2.2.2.2.2.2.2
theorem Ze8:(∀⦃o i r⦄,Im (Zk5 o i=some r) (if i<(o.Steps.length:Int)then(0<=i/\(∃e1,o.Steps[i.toNat]?=some e1/\(∃v1,Zbf e1.From 1 8192=some (Bo v1,[])/\(if v1=true then(∃v2,Zgh e1.Add=some (Bo v2,[])/\(if v2=true then(if 0<i then(0<=(w (i-1))/\(∃e4,o.Steps[(w (i-1)).toNat]?=some e4/\(if e1.From<=e4.From then(some (Bo false,[])=some r)else(Zk5 o (w (i+1))=some r))))else(Zk5 o (w (i+1))=some r))else(some (Bo false,[])=some r)))else(some (Bo false,[])=some r)))))else(some (Bo true,[])=some r)))/\
 (∀⦃a r⦄,Im (Ziz a=some r) (∃v,Zgh a.Fixed=some (Bo v,[])/\(if v=true then(∃v1,Zgh a.Z2=some (Bo v1,[])/\(if v1=true then(∃v2,Zgh a.Z3=some (Bo v2,[])/\(if v2=true then(∃v3,Zgh a.Z4=some (Bo v3,[])/\(if v3=true then(∃v4,Zgh a.Z5=some (Bo v4,[])/\(if v4=true then(if 4<(a.Steps.length:Int)then(some (Bo false,[])=some r)else(Zk5 a 0=some r))else(some (Bo false,[])=some r)))else(some (Bo false,[])=some r)))else(some (Bo false,[])=some r)))else(some (Bo false,[])=some r)))else(some (Bo false,[])=some r))))/\
 (∀⦃k n i r⦄,Im (Znn k n i=some r) (if i<k then(Znn k (if 1<(w (n*4))then(w (n*4))else 1) (w (i+1))=some r)else(some (I n,[])=some r)))/\
 (∀⦃a r⦄,Im (Zgi a=some r) (∃v,Zbf a 0 7=some (Bo v,[])/\(if v=true then(Znn a 0 0=some r)else(some (I (-1),[])=some r))))/\
 (∀⦃o l c n i r⦄,Im (Zk6 o l c n i=some r) (if i<(o.Steps.length:Int)then(0<=i/\(∃e1,o.Steps[i.toNat]?=some e1/\(if e1.From<=(w (l+c))then(Zk6 o l c (w (n+e1.Add)) (w (i+1))=some r)else(Zk6 o l c n (w (i+1))=some r))))else(some (I n,[])=some r)))/\
 (∀⦃a a1 a2 a3 r⦄,Im (Zex a a1 a2 a3=some r) (∃v,Ziz a=some (Bo v,[])/\(if v=true then(∃v1,Zbf a1 0 4096=some (Bo v1,[])/\(if v1=true then(∃v2,Zbf a2 0 4096=some (Bo v2,[])/\(if v2=true then(∃v3,Zbf a3 0 4096=some (Bo v3,[])/\(if v3=true then(Zk6 a a1 a2 (w ((w ((w ((w (a.Fixed+(w (a.Z2*a1))))+(w (a.Z3*a2))))+(w (a.Z4*a3))))+(w ((w (a.Z5*a1))*a2)))) 0=some r)else(some (I 0,[])=some r)))else(some (I 0,[])=some r)))else(some (I 0,[])=some r)))else(some (I 0,[])=some r))))/\
 (∀⦃a a1 r⦄,Im (Zk7 a a1=some r) (∃e1,a1[0]?=some e1/\(∃v1,Zgi e1=some (I v1,[])/\(∃e3,a1[1]?=some e3/\(∃v3,Zgi e3=some (I v3,[])/\(∃e5,a1[2]?=some e5/\(∃v5,Zgi e5=some (I v5,[])/\(∃v6,Zex a v1 v3 v5=some (I v6,[])/\(some (I v6,[])=some r)))))))))/\
 (∀⦃o a r⦄,Im (Znq o a=some r) (if a<=7 then(Znr o a 0=some r)else(some (.tup [.own 0,.own 1,Bo false],[.arr 3 1 true (([]:List Int).map ic),.arr 3 1 true (([]:List Int).map ic)])=some r)))/\
 (∀⦃o a b r⦄,Im (Znr o a b=some r) (if b<=7 then(Zns o a b 0=some r)else(Znq o (w (a+1))=some r)))/\
 (∀⦃o a b e r⦄,Im (Zns o a b e=some r) (if e<=7 then(Zhj o ([a,b,e]) a b e 0=some r)else(Znr o a (w (b+1))=some r)))/\
 (∀⦃o x a b e k r⦄,Im (Zhj o x a b e k=some r) (if k<3 then(x.length<=68719476736/\(0<=k/\(∃e1,x[k.toNat]?=some e1/\(if(w (e1+1))<=7 then(∃v1,Zk7 o (x.set k.toNat (w (e1+1)))=some (I v1,[])/\(∃v2,Zk7 o x=some (I v2,[])/\(if v1<v2 then(some (.tup [.own 0,.own 1,Bo true],[.arr 3 1 true (x.map ic),.arr 3 1 true ((x.set k.toNat (w (e1+1))).map ic)])=some r)else(Zhj o x a b e (w (k+1))=some r))))else(Zhj o x a b e (w (k+1))=some r)))))else(Zns o a b (w (e+1))=some r)))/\
 (∀⦃a r⦄,Im (Zrc a=some r) (∃v,Ziz a=some (Bo v,[])/\(if v=true then(Znq a 0=some r)else(some (.tup [.own 0,.own 1,Bo false],[.arr 3 1 true (([]:List Int).map ic),.arr 3 1 true (([]:List Int).map ic)])=some r)))):=by
 and_intros
 all_goals intros
 all_goals unfold Im
 all_goals try simp only[Zk5,Ziz,Znn,Zgi,Zk6,Zex,Zk7,Znq,Znr,Zns,Zhj,Zrc,Zbf,Zgh,Zk.c_def,mpl,dfs]
 all_goals try simp only[itb]
 all_goals try simp only[itf,gS,kk]
 all_goals repeat' first|refine exI λ_=>?_|refine anJ λ_ _=>?_|refine anI λ_=>?_|refine orE2 ?_ ?_|exact False.elim
 all_goals (intro h;first|rw[Zd Z2y.eq_1]|refine run Zbt9 rfl ?_|rw[Zd Z20.eq_1]|refine run Zbua rfl ?_|rw[Zd Z22.eq_1]|refine run Zbub rfl ?_|refine run Zbuc rfl ?_|rw[Zd Zno.eq_1]|rw[Zd Zra.eq_1]|rw[Zd Zvk.eq_1]|rw[Zd Z24.eq_1]|refine run Zbud rfl ?_)
 all_goals (refine Ya ?_ h;clear h;simp +decide[*,kk,tI,tII,Z2z,Zbc2,Z21,Zbc3,Zbc4,Z23,Zbc5,Zbc6,Znp,Zrb,Zvl,Z25,Zbc7])
abbrev Zbg7:=Ze8.1
abbrev Zbx8:=Ze8.2.1
abbrev Zbx9:=Ze8.2.2.1
abbrev Zbya:=Ze8.2.2.2.1
abbrev Zbg8:=Ze8.2.2.2.2.1
abbrev Zbyb:=Ze8.2.2.2.2.2.1
abbrev Zbyc:=Ze8.2.2.2.2.2.2.1
abbrev Zbg9:=Ze8.2.2.2.2.2.2.2.1
abbrev Zbha:=Ze8.2.2.2.2.2.2.2.2.1
abbrev Zbhb:=Ze8.2.2.2.2.2.2.2.2.2.1
abbrev Zbhc:=Ze8.2.2.2.2.2.2.2.2.2.2.1
abbrev Zbyd:=Ze8.2.2.2.2.2.2.2.2.2.2.2
theorem Ze9:(∀⦃o a r⦄,Im (Znt o a=some r) (if a<=7 then(Znu o a 0=some r)else(some (.own 0,[.arr 3 1 true (([]:List Int).map ic)])=some r)))/\
 (∀⦃o a b r⦄,Im (Znu o a b=some r) (if b<=7 then(Zrf o a b 0=some r)else(Znt o (w (a+1))=some r)))/\
 (∀⦃o a b e r⦄,Im (Zrf o a b e=some r) (if e<=7 then(∃v,Zk7 o ([a,b,e])=some (I v,[])/\(if v<1 then(some (.own 0,[.arr 3 1 true (([a,b,e]).map ic)])=some r)else(Zrf o a b (w (e+1))=some r)))else(Znu o a (w (b+1))=some r)))/\
 (∀⦃a r⦄,Im (Zvo a=some r) (Znt a 0=some r))/\
 (∀⦃m k r⦄,Im (Znv m k=some r) (if k<=5 then(∃(v:Zk),Zhi m k=some (.agg (v.c.map .t),[])/\(∃v3,Ziz v=some (Bo v3,[])/\(if v3=true then(∃(v4:List Int),∃(v5:List Int),∃v6,Zrc v=some (.tup [.own 0,.own 1,Bo v6],[.arr 3 1 true (v4.map ic),.arr 3 1 true (v5.map ic)])/\(if v6=true then(some (.tup [I k,.own 0,.own 1],[.arr 3 1 true (v4.map ic),.arr 3 1 true (v5.map ic)])=some r)else(∃(v7:List Int),Zvo v=some (.own 0,[.arr 3 1 true (v7.map ic)])/\(if 0<(v7.length:Int)then(some (.tup [I k,.own 0,.own 1],[.arr 3 1 true (v7.map ic),.arr 3 1 true (([]:List Int).map ic)])=some r)else(Znv m (w (k+1))=some r)))))else(some (.tup [I k,.own 0,.own 1],[.arr 3 1 true (([]:List Int).map ic),.arr 3 1 true (([]:List Int).map ic)])=some r))))else(some (.tup [I 0,.own 0,.own 1],[.arr 3 1 true (([]:List Int).map ic),.arr 3 1 true (([]:List Int).map ic)])=some r)))/\
 (∀⦃a r⦄,Im (Z3a a=some r) (Znv a 1=some r))/\
 (∀⦃a r⦄,Im (Zi0 a=some r) (∃(v:List Int),∃(v1:List Int),∃v2,Z3a a=some (.tup [I v2,.own 0,.own 1],[.arr 3 1 true (v.map ic),.arr 3 1 true (v1.map ic)])/\(some (Bo (decide (v2=0)),[])=some r)))/\
 (∀⦃n k r⦄,Im (Zrg n k=some r) (if k<=7 then(∃v,Zgi k=some (I v,[])/\(if n<=v then(some (I k,[])=some r)else(Zrg n (w (k+1))=some r)))else(some (I (-1),[])=some r)))/\
 (∀⦃a r⦄,Im (Zgj a=some r) (if a<0 then(some (I (-1),[])=some r)else(Zrg a 0=some r)))/\
 (∀⦃a r⦄,Im (Zck a=some r) (∃v,Zgj a=some (I v,[])/\(∃v3,Zgi v=some (I v3,[])/\(some (I v3,[])=some r))))/\
 (∀⦃a a1 a2 a3 a4 r⦄,Im (Zk8 a a1 a2 a3 a4=some r) (0<=a4/\(∃e1,a1.Steps[a4.toNat]?=some e1/\(∃(v3:Zk),Zhi a e1.Kind=some (.agg (v3.c.map .t),[])/\(∃e3,a2[a4.toNat]?=some e3/\(if e3.Left<0 then(∃e4,a3[a4.toNat]?=some e4/\(∃v8,Zck e4=some (I v8,[])/\(∃v9,Zex v3 v8 0 v8=some (I v9,[])/\(some (I v9,[])=some r))))else(if e3.Right<0 then(0<=e3.Left/\(∃e7,a3[e3.Left.toNat]?=some e7/\(∃v10,Zck e7=some (I v10,[])/\(∃e9,a3[a4.toNat]?=some e9/\(∃v11,Zck e9=some (I v11,[])/\(∃v12,Zex v3 v10 0 v11=some (I v12,[])/\(some (I v12,[])=some r)))))))else(0<=e3.Left/\(∃e12,a3[e3.Left.toNat]?=some e12/\(∃v13,Zck e12=some (I v13,[])/\(0<=e3.Right/\(∃e14,a3[e3.Right.toNat]?=some e14/\(∃v14,Zck e14=some (I v14,[])/\(∃e16,a3[a4.toNat]?=some e16/\(∃v15,Zck e16=some (I v15,[])/\(∃v16,Zex v3 v13 v14 v15=some (I v16,[])/\(some (I v16,[])=some r)))))))))))))))))/\
 (∀⦃m cd l cl cc n r⦄,Im (Znw m cd l cl cc n=some r) (if n<=7 then(∃(v:Zk),Zhi m cd=some (.agg (v.c.map .t),[])/\(∃v3,Zgi n=some (I v3,[])/\(∃v4,Zex v l cl v3=some (I v4,[])/\(if v4<=cc then(Znw m cd l cl cc (w (n+1))=some r)else(some (I n,[])=some r)))))else(some (I n,[])=some r))):=by
 and_intros
 all_goals intros
 all_goals unfold Im
 all_goals try simp only[Znt,Znu,Zrf,Zvo,Znv,Z3a,Zi0,Zrg,Zgj,Zck,Zk8,Znw,Zk7,Zk.c_def,Zhi,Ziz,Zrc,Zi.c_def,Zgi,Zex,mpl,dfs]
 all_goals try simp only[itb]
 all_goals try simp only[itf,gS,kk]
 all_goals repeat' first|refine exI λ_=>?_|refine anJ λ_ _=>?_|refine anI λ_=>?_|refine orE2 ?_ ?_|exact False.elim
 all_goals (intro h;first|rw[Zd Zrd.eq_1]|rw[Zd Zvm.eq_1]|rw[Zd Z26.eq_1]|refine run Zbue rfl ?_|rw[Zd Z28.eq_1]|refine run Zbuf rfl ?_|refine run Zbug rfl ?_|rw[Zd Z3b.eq_1]|refine run Zbuh rfl ?_|refine run Zbui rfl ?_|refine run Zbuj rfl ?_|rw[Zd Z3d.eq_1])
 all_goals (refine Ya ?_ h;clear h;simp +decide[*,kk,tI,tII,Zre,Zvn,Z27,Zbc8,Z29,Zbc9,Zbda,Z3c,Zbdb,Zbdc,Zbdd,Z3e])
abbrev Zbhd:=Ze9.1
abbrev Zbhe:=Ze9.2.1
abbrev Z4x:=Ze9.2.2.1
abbrev Zbye:=Ze9.2.2.2.1
abbrev Zbhf:=Ze9.2.2.2.2.1
abbrev Zbyf:=Ze9.2.2.2.2.2.1
abbrev Zbyg:=Ze9.2.2.2.2.2.2.1
abbrev Zi5:=Ze9.2.2.2.2.2.2.2.1
abbrev Zbyh:=Ze9.2.2.2.2.2.2.2.2.1
abbrev Zbyi:=Ze9.2.2.2.2.2.2.2.2.2.1
abbrev Zbyj:=Ze9.2.2.2.2.2.2.2.2.2.2.1
abbrev Zbhg:=Ze9.2.2.2.2.2.2.2.2.2.2.2
theorem Zr2:(∀⦃a a1 a2 a3 a4 r⦄,Im (Zk9 a a1 a2 a3 a4=some r) (∃v,Zi0 a=some (Bo v,[])/\(if v=true then(∃v1,Zbf a1 1 5=some (Bo v1,[])/\(if v1=true then(∃v2,Zbf a2 0 4096=some (Bo v2,[])/\(if v2=true then(∃v3,Zbf a3 0 4096=some (Bo v3,[])/\(if v3=true then(Znw a a1 a2 a3 a4 0=some r)else(some (I 0,[])=some r)))else(some (I 0,[])=some r)))else(some (I 0,[])=some r)))else(some (I 0,[])=some r))))/\
 (∀⦃c cc cl i r⦄,Im (Z3f c cc cl i=some r) (if i<0 then False else(if cl=true then(some (.own 0,[.arr 30 1 true (c.map isc)])=some r)else(cc.length<=68719476736/\(c.length+1<=68719476736/\(some (.own 0,[.arr 30 1 true ((c++[cc]).map isc)])=some r))))))/\
 (∀⦃a r⦄,Im (Zrh a=some r) (Z3f ([]:List (List Int)) a false 0=some r))/\
 (∀⦃c cd cc cl i r⦄,Im (Zhk c cd cc cl i=some r) (if i<(cd.length:Int)then(0<=i/\(∃e1,cd[i.toNat]?=some e1/\(∃v1,Zm2 e1 cc=some (I v1,[])/\(if v1=0 then(if 0<v1 then(e1.length<=68719476736/\(c.length+1<=68719476736/\(Zhk (c++[e1]) cd cc true (w (i+1))=some r)))else(e1.length<=68719476736/\(c.length+1<=68719476736/\(Zhk (c++[e1]) cd cc true (w (i+1))=some r))))else(if 0<v1 then(if cl=true then(e1.length<=68719476736/\(c.length+1<=68719476736/\(Zhk (c++[e1]) cd cc true (w (i+1))=some r)))else(cc.length<=68719476736/\(c.length+1<=68719476736/\(e1.length<=68719476736/\(c.length+1+1<=68719476736/\(Zhk ((c++[cc])++[e1]) cd cc true (w (i+1))=some r))))))else(e1.length<=68719476736/\(c.length+1<=68719476736/\(Zhk (c++[e1]) cd cc cl (w (i+1))=some r))))))))else(if cl=true then(some (.own 0,[.arr 30 1 true (c.map isc)])=some r)else(cc.length<=68719476736/\(c.length+1<=68719476736/\(some (.own 0,[.arr 30 1 true ((c++[cc]).map isc)])=some r))))))/\
 (∀⦃a a1 r⦄,Im (Zri a a1=some r) (Zhk ([]:List (List Int)) a a1 false 0=some r)):=by
 and_intros
 all_goals intros
 all_goals unfold Im
 all_goals try simp only[Zk9,Z3f,Zrh,Zhk,Zri,Zi0,Zbf,Zi.c_def,Zk.c_def,Zm2,Znw,mpl,dfs]
 all_goals try simp only[itb]
 all_goals try simp only[itf,gS,kk]
 all_goals repeat' first|refine exI λ_=>?_|refine anJ λ_ _=>?_|refine anI λ_=>?_|refine orE2 ?_ ?_|exact False.elim
 all_goals (intro h;first|refine run Zbuk rfl ?_|rw[Zd Zvp.eq_1]|refine run Zbul rfl ?_)
 all_goals (refine Ya ?_ h;clear h;simp +decide[*,kk,tI,tII,Zbde,Zbdh,Zvq,Zbdi,Zbdf,Zbdg])
abbrev Zbyk:=Zr2.1
abbrev Zbyl:=Zr2.2.1
abbrev Zbym:=Zr2.2.2.1
abbrev Zbhh:=Zr2.2.2.2.1
abbrev Zbyn:=Zr2.2.2.2.2
theorem appO(l:List Zh)(a b:Int)(c:Bool):l.map Zh.c++[[.int .i64 a,.int .i64 b,.bool c]]=(l++[(⟨a,b,c⟩:Zh)]).map Zh.c:=by simp
theorem Zhq:(∀⦃s x i r⦄,Im (Z3g s x i=some r) (if i<(s.Rows.length:Int)then(0<=i/\(∃e1,s.Rows[i.toNat]?=some e1/\(∃(v1:List (List Int)),Zrh e1=some (.own 0,[.arr 30 1 true (v1.map isc)])/\(Zrj s x v1 (w (i+1))=some r))))else(some (.tup [.agg [.own 0,.t .nil],Bo true],[.arr 3 1 true (x.map ic)])=some r)))/\
 (∀⦃s x x1 i r⦄,Im (Zrj s x x1 i=some r) (if i<(s.Rows.length:Int)then(0<=i/\(∃e1,s.Rows[i.toNat]?=some e1/\(∃(v1:List (List Int)),Zri x1 e1=some (.own 0,[.arr 30 1 true (v1.map isc)])/\(Zrj s x v1 (w (i+1))=some r))))else(some (.tup [.agg [.own 0,.own 1],Bo true],[.arr 3 1 true (x.map ic),.arr 30 1 true (x1.map isc)])=some r)))/\
 (∀⦃a r⦄,Im (Zfv a=some r) (∃v,Zej a=some (Bo v,[])/\(if v=true then(a.Vars.length<=68719476736/\(Z3g a a.Vars 0=some r))else(some (.tup [.agg [.t .nil,.t .nil],Bo false],[])=some r))))/\
 (∀⦃c x x1 x2 r⦄,Im (Zrl c x x1 x2=some r) (if x2<x1 then(0<=x2/\(∃e1,x[x2.toNat]?=some e1/\(∃v1,Zz e1 0 7=some (Bo v1,[])/\(if v1=true then(Zrl c x x1 (w (x2+1))=some r)else(some (Bo false,[])=some r)))))else(some (Bo (decide ((c.length:Int)<=16)),[])=some r)))/\
 (∀⦃a r⦄,Im (Zrk a=some r) (Zrl a a (a.length:Int) 0=some r))/\
 (∀⦃a b x x1 r⦄,Im (Zrm a b x x1=some r) (if x1<x then(0<=x1/\(∃e1,a[x1.toNat]?=some e1/\(∃e2,b[x1.toNat]?=some e2/\(if e1<e2 then(some (Bo false,[])=some r)else(Zrm a b x (w (x1+1))=some r)))))else(some (Bo true,[])=some r)))/\
 (∀⦃a a1 r⦄,Im (Zvt a a1=some r) (if(a.length:Int)=(a1.length:Int)then(Zrm a a1 (a.length:Int) 0=some r)else(some (Bo false,[])=some r)))/\
 (∀⦃a r⦄,Im (Z3l a=some r) (∃v,Zrk a.Low=some (Bo v,[])/\(if v=true then(∃v1,Zrk a.High=some (Bo v1,[])/\(if v1=true then(if 0<(a.Low.length:Int)then(∃v2,Zvt a.High a.Low=some (Bo v2,[])/\(some (Bo v2,[])=some r))else(some (Bo false,[])=some r))else(some (Bo false,[])=some r)))else(some (Bo false,[])=some r))))/\
 (∀⦃a r⦄,Im (Z3m a=some r) (∃v,Zg9 a=some (Bo v,[])/\(if v=true then(¬(a.Atoms.length:Int)<0/\(some (I (w ((shlI 1 (a.Atoms.length:Int))-1)),[])=some r))else(some (I 0,[])=some r)))):=by
 and_intros
 all_goals intros
 all_goals unfold Im
 all_goals try simp only[Z3g,Zrj,Zfv,Zrl,Zrk,Zrm,Zvt,Z3l,Z3m,Zrh,Zri,Zej,Zb.c_def,Zz,Zg9,Ze.c_def,mpl,dfs]
 all_goals try simp only[itb]
 all_goals try simp only[itf,gS,kk]
 all_goals repeat' first|refine exI λ_=>?_|refine anJ λ_ _=>?_|refine anI λ_=>?_|refine orE2 ?_ ?_|exact False.elim
 all_goals (intro h;first|rw[Zd Zvr.eq_1]|refine run Zbum rfl ?_|rw[Zd Z3h.eq_1]|refine run Zbun rfl ?_|rw[Zd Z3j.eq_1]|refine run Zbuo rfl ?_|refine run Zbup rfl ?_|refine run Zbuq rfl ?_)
 all_goals (refine Ya ?_ h;clear h;simp +decide[*,kk,tI,tII,Zvs,Zbdj,Z3i,Zbdk,Z3k,Zbdl,Zbdm,Zbdn])
abbrev Zbyo:=Zhq.1
abbrev Zbhi:=Zhq.2.1
abbrev Zbyp:=Zhq.2.2.1
abbrev Zbhj:=Zhq.2.2.2.1
abbrev Zbyq:=Zhq.2.2.2.2.1
abbrev Zbhk:=Zhq.2.2.2.2.2.1
abbrev Zbyr:=Zhq.2.2.2.2.2.2.1
abbrev Zbys:=Zhq.2.2.2.2.2.2.2.1
abbrev Zbyt:=Zhq.2.2.2.2.2.2.2.2
theorem Zn8:(∀⦃l i r⦄,Im (Zro l i=some r) (if i<(l.length:Int)then(0<=i/\(∃e1,l[i.toNat]?=some e1/\(∃v1,Zbf e1 0 7=some (Bo v1,[])/\(if v1=true then(Zro l (w (i+1))=some r)else(some (Bo false,[])=some r)))))else(some (Bo (decide ((l.length:Int)<=16)),[])=some r)))/\
 (∀⦃a r⦄,Im (Zrn a=some r) (Zro a 0=some r))/\
 (∀⦃a b i r⦄,Im (Zrp a b i=some r) (if i<(a.length:Int)then(0<=i/\(∃e1,a[i.toNat]?=some e1/\(∃e2,b[i.toNat]?=some e2/\(if e1<e2 then(some (Bo false,[])=some r)else(Zrp a b (w (i+1))=some r)))))else(some (Bo true,[])=some r)))/\
 (∀⦃a a1 r⦄,Im (Zvu a a1=some r) (if(a.length:Int)=(a1.length:Int)then(Zrp a a1 0=some r)else(some (Bo false,[])=some r)))/\
 (∀⦃a r⦄,Im (Z3r a=some r) (if 0<(a.Low.length:Int)then(∃v,Zrn a.Low=some (Bo v,[])/\(if v=true then(∃v1,Zrn a.High=some (Bo v1,[])/\(if v1=true then(∃v2,Zvu a.High a.Low=some (Bo v2,[])/\(some (Bo v2,[])=some r))else(some (Bo false,[])=some r)))else(some (Bo false,[])=some r)))else(some (Bo false,[])=some r)))/\
 (∀⦃a r⦄,Im (Z3s a=some r) (∃v,Zgf a=some (Bo v,[])/\(if v=true then(¬(a.Atoms.length:Int)<0/\(some (I (w ((shlI 1 (a.Atoms.length:Int))-1)),[])=some r))else(some (I 0,[])=some r)))):=by
 and_intros
 all_goals intros
 all_goals unfold Im
 all_goals try simp only[Zro,Zrn,Zrp,Zvu,Z3r,Z3s,Zbf,Zgf,Ze.c_def,mpl,dfs]
 all_goals try simp only[itb]
 all_goals try simp only[itf,gS,kk]
 all_goals repeat' first|refine exI λ_=>?_|refine anJ λ_ _=>?_|refine anI λ_=>?_|refine orE2 ?_ ?_|exact False.elim
 all_goals (intro h;first|rw[Zd Z3n.eq_1]|refine run Zbur rfl ?_|rw[Zd Z3p.eq_1]|refine run Zbus rfl ?_|refine run Zbut rfl ?_|refine run Zbuu rfl ?_)
 all_goals (refine Ya ?_ h;clear h;simp +decide[*,kk,tI,tII,Z3o,Zbdo,Z3q,Zbdp,Zbdq,Zbdr])
abbrev Zbhl:=Zn8.1
abbrev Zbyu:=Zn8.2.1
abbrev Zbhm:=Zn8.2.2.1
abbrev Zbyv:=Zn8.2.2.2.1
abbrev Zbyw:=Zn8.2.2.2.2.1
abbrev Zbyx:=Zn8.2.2.2.2.2
theorem Zfa:(∀⦃a a1 a2 r⦄,Im (Zvv a a1 a2=some r) (0<=a2/\(∃e1,a1[a2.toNat]?=some e1/\(if a.Mask=e1.Mask then(∃v1,Zz a.Size 0 4096=some (Bo v1,[])/\(some (Bo v1,[])=some r))else(some (Bo false,[])=some r)))))/\
 (∀⦃s f f1 x x1 r⦄,Im (Zrq s f f1 x x1=some r) (if x1<x then(0<=x1/\(∃e1,s[x1.toNat]?=some e1/\(∃v1,Zvv e1 f f1=some (Bo v1,[])/\(if v1=true then(some (I x1,[])=some r)else(Zrq s f f1 x (w (x1+1))=some r)))))else(some (I (-1),[])=some r)))/\
 (∀⦃a a1 a2 r⦄,Im (Zvw a a1 a2=some r) (Zrq a a1 a2 (a.length:Int) 0=some r))/\
 (∀⦃a a1 r⦄,Im (Zhl a a1=some r) (∃v,Zcs a1=some (I v,[])/\(if v<0 then(some (I (-1),[])=some r)else(∃v1,Zb2 a.Scan v 0 v=some (I v1,[])/\(some (I v1,[])=some r)))))/\
 (∀⦃a a1 a2 r⦄,Im (Znx a a1 a2=some r) (if a1<a2 then(∃v,Zpx a a2=some (I v,[])/\(some (Bo (decide (v<=a1)),[])=some r))else(some (Bo false,[])=some r)))/\
 (∀⦃a a1 a2 r⦄,Im (Z3v a a1 a2=some r) (∃v,Znx a1 a2 a=some (Bo v,[])/\(some (Bo v,[])=some r)))/\
 (∀⦃s f f1 x x1 r⦄,Im (Zru s f f1 x x1=some r) (if x1<x then(0<=x1/\(∃e1,s[x1.toNat]?=some e1/\(∃v1,Z3v e1 f f1=some (Bo v1,[])/\(if v1=true then(some (I x1,[])=some r)else(Zru s f f1 x (w (x1+1))=some r)))))else(some (I (-1),[])=some r)))/\
 (∀⦃a a1 a2 r⦄,Im (Z3x a a1 a2=some r) (Zru a a1 a2 (a.length:Int) 0=some r))/\
 (∀⦃a a1 a2 r⦄,Im (Zvx a a1 a2=some r) (∃v,Z3x a a1 a2=some (I v,[])/\(some (Bo (decide (0<=v)),[])=some r)))/\
 (∀⦃m p x cc x1 cd x2 x3 r⦄,Im (Zla m p x cc x1 cd x2 x3=some r) (if x3<x2 then(0<=x3/\(∃e1,x1[x3.toNat]?=some e1/\(∃v1,Zvw cd x e1=some (I v1,[])/\(if 0<=v1 then(0<=e1/\(∃e3,p.Steps[e1.toNat]?=some e3/\(∃e4,cd[v1.toNat]?=some e4/\(∃v4,Zrr m e3.Kind e4.Size=some (Bo v4,[])/\(if v4=true then(cc.length+1<=68719476736/\(Zla m p x (cc++[e1]) x1 cd x2 (w (x3+1))=some r))else(Zla m p x cc x1 cd x2 (w (x3+1))=some r))))))else(Zla m p x cc x1 cd x2 (w (x3+1))=some r)))))else(Zlb x cc ([]:List Int) (cc.length:Int) 0=some r)))/\
 (∀⦃x cc cl x1 x2 r⦄,Im (Zlb x cc cl x1 x2=some r) (if x2<x1 then(0<=x2/\(∃e1,cc[x2.toNat]?=some e1/\(∃v1,Zvx cc x e1=some (Bo v1,[])/\(if v1=true then(Zlb x cc cl x1 (w (x2+1))=some r)else(cl.length+1<=68719476736/\(Zlb x cc (cl++[e1]) x1 (w (x2+1))=some r))))))else(some (.own 0,[.arr 3 1 true (cl.map ic)])=some r)))/\
 (∀⦃a a1 a2 a3 r⦄,Im (Zny a a1 a2 a3=some r) ((Zha a1 a2=some (.tup [.t .nil,Bo false],[])/\(some (.t .nil,[])=some r))\/(∃(v1:List Za),Zha a1 a2=some (.tup [.own 0,Bo true],[.arr 209 4 true (v1.map Za.c)])/\(∃v2,Zhg a=some (Bo v2,[])/\(if v2=true then(∃(v3:List Int),Zpw a2=some (.own 0,[.arr 3 1 true (v3.map ic)])/\(Zla a a2 v1 ([]:List Int) v3 a3 (v3.length:Int) 0=some r))else(some (.t .nil,[])=some r)))))):=by
 and_intros
 all_goals intros
 all_goals unfold Im
 all_goals try simp only[Zvv,Zrq,Zvw,Zhl,Znx,Z3v,Zru,Z3x,Zvx,Zla,Zlb,Zny,Zz,Kept.c_def,Za.c_def,Zcs,Zb2,Zk.c_def,Zpx,Zrr,Zi.c_def,Zha,Zhg,Zpw,Plan.c_def,Ze.c_def,mpl,dfs]
 all_goals try simp only[itb]
 all_goals try simp only[itf,gS,kk]
 all_goals repeat' first|refine exI λ_=>?_|refine anJ λ_ _=>?_|refine anI λ_=>?_|refine orE2 ?_ ?_|exact False.elim
 all_goals (intro h;first|refine run Zbuv rfl ?_|rw[Zd Z3t.eq_1]|refine run Zbuw rfl ?_|refine run Zbux rfl ?_|refine run Zbuz rfl ?_|refine run Zbu0 rfl ?_|rw[Zd Zrs.eq_1]|refine run Zbei rfl ?_|refine run Zbej rfl ?_|rw[Zd Z3z.eq_1]|rw[Zd Z30.eq_1]|refine run Zbu1 rfl ?_)
 all_goals (refine Ya ?_ h;clear h;simp +decide[*,kk,tI,tII,Zbds,Z3u,Zbdt,Zbdu,Zbdv,Zbdw,Zrt,Z3w,Z3y,Zbdx,Z32,Zbdy,Z31,Zbdz])
abbrev Zbyy:=Zfa.1
abbrev Zbhn:=Zfa.2.1
abbrev Zbyz:=Zfa.2.2.1
abbrev Zby0:=Zfa.2.2.2.1
abbrev Zby1:=Zfa.2.2.2.2.1
abbrev Zby2:=Zfa.2.2.2.2.2.1
abbrev Zbho:=Zfa.2.2.2.2.2.2.1
abbrev Zby3:=Zfa.2.2.2.2.2.2.2.1
abbrev Zby4:=Zfa.2.2.2.2.2.2.2.2.1
abbrev Zbhp:=Zfa.2.2.2.2.2.2.2.2.2.1
abbrev Zbhq:=Zfa.2.2.2.2.2.2.2.2.2.2.1
abbrev Zby5:=Zfa.2.2.2.2.2.2.2.2.2.2.2
theorem Zby6{a:Zi}{a1 a2:Int}{r:AV×List Blk}(h:(∃(v:Bool),Zz a1 3 5=some (Bo v,[])/\(if v=true then(∃(v1:Bool),Zz a2 0 4096=some (Bo v1,[])/\(if v1=true then(∃(v2:Bool),Zhg a=some (Bo v2,[])/\(if v2=true then(∃(v3:Int),Zhl a a2=some (I v3,[])/\(Zd2 a=some (.bsl 1 5,[.box (a.c.map .t),.box [.ptr 0 0,.ptr 0 6,.ptr 0 12,.ptr 0 18,.ptr 0 24]])/\(if(w (a1-1))=0 then(∃(v4:Int),Zcs a2=some (I v4,[])/\(∃(v5:Int),Zb2 a.Scan 0 0 v4=some (I v5,[])/\(some (Bo (decide (v3<=v5)),[])=some r)))else(if(w (a1-1))=1 then(∃(v6:Int),Zcs a2=some (I v6,[])/\(∃(v7:Int),Zb2 a.Sort_ 0 0 v6=some (I v7,[])/\(some (Bo (decide (v3<=v7)),[])=some r)))else(if(w (a1-1))=2 then(∃(v8:Int),Zcs a2=some (I v8,[])/\(∃(v9:Int),Zb2 a.Hash 0 0 v8=some (I v9,[])/\(some (Bo (decide (v3<=v9)),[])=some r)))else(if(w (a1-1))=3 then(∃(v10:Int),Zcs a2=some (I v10,[])/\(∃(v11:Int),Zb2 a.Merge 0 0 v10=some (I v11,[])/\(some (Bo (decide (v3<=v11)),[])=some r)))else(if(w (a1-1))=4 then(∃(v12:Int),Zcs a2=some (I v12,[])/\(∃(v13:Int),Zb2 a.Nested 0 0 v12=some (I v13,[])/\(some (Bo (decide (v3<=v13)),[])=some r)))else False)))))))else(some (Bo false,[])=some r)))else(some (Bo false,[])=some r)))else(some (Bo false,[])=some r)))):Zrr a a1 a2=some r:=by
 unfold Zrr;refine run Zbuy rfl ?_;obtain⟨v,q1,h⟩:=h;unfold Zz at q1
 try simp at q1
 by_cases q2:v=true
 .rw[if_pos q2]at h;obtain⟨v1,q3,h⟩:=h;unfold Zz at q3
  try simp at q3
  by_cases q4:v1=true
  .rw[if_pos q4]at h;obtain⟨v2,q5,h⟩:=h;unfold Zhg at q5
   try simp at q5
   by_cases q6:v2=true
   .rw[if_pos q6]at h;obtain⟨v3,q7,h⟩:=h;unfold Zhl at q7
    try simp at q7
    obtain⟨q8,h⟩:=h;unfold Zd2 at q8
    try simp at q8
    by_cases q9:(w (a1-1))=0
    .rw[if_pos q9]at h;obtain⟨v4,q10,h⟩:=h;unfold Zcs at q10
     try simp at q10
     obtain⟨v5,q11,h⟩:=h;unfold Zb2 at q11
     try simp at q11
     refine Ya ?_ h;clear h;simp +decide[*,Zhm,tI,tII]
    .rw[if_neg q9]at h;replace q9:=eq_false q9;by_cases q12:(w (a1-1))=1
     .rw[if_pos q12]at h;obtain⟨v6,q13,h⟩:=h;unfold Zcs at q13
      try simp at q13
      obtain⟨v7,q14,h⟩:=h;unfold Zb2 at q14
      try simp at q14
      refine Ya ?_ h;clear h;simp +decide[*,Zhm,tI,tII]
     .rw[if_neg q12]at h;replace q12:=eq_false q12;by_cases q15:(w (a1-1))=2
      .rw[if_pos q15]at h;obtain⟨v8,q16,h⟩:=h;unfold Zcs at q16
       try simp at q16
       obtain⟨v9,q17,h⟩:=h;unfold Zb2 at q17
       try simp at q17
       refine Ya ?_ h;clear h;simp +decide[*,Zhm,tI,tII]
      .rw[if_neg q15]at h;replace q15:=eq_false q15;by_cases q18:(w (a1-1))=3
       .rw[if_pos q18]at h;obtain⟨v10,q19,h⟩:=h;unfold Zcs at q19
        try simp at q19
        obtain⟨v11,q20,h⟩:=h;unfold Zb2 at q20
        try simp at q20
        refine Ya ?_ h;clear h;simp +decide[*,Zhm,tI,tII]
       .rw[if_neg q18]at h;replace q18:=eq_false q18;by_cases q21:(w (a1-1))=4
        .rw[if_pos q21]at h;obtain⟨v12,q22,h⟩:=h;unfold Zcs at q22
         try simp at q22
         obtain⟨v13,q23,h⟩:=h;unfold Zb2 at q23
         try simp at q23
         refine Ya ?_ h;clear h;simp +decide[*,Zhm,tI,tII]
        .rw[if_neg q21]at h;replace q21:=eq_false q21;cases h
   .rw[if_neg q6]at h;refine Ya ?_ h;clear h;simp +decide[*,Zhm,tI,tII]
  .rw[if_neg q4]at h;refine Ya ?_ h;clear h;simp +decide[*,Zhm,tI,tII]
 .rw[if_neg q2]at h;refine Ya ?_ h;clear h;simp +decide[*,Zhm,tI,tII]
theorem Zn9:(∀⦃a a1 a2 r⦄,Im (Z33 a a1 a2=some r) (∃v,Znx a1 a2 a=some (Bo v,[])/\(some (Bo v,[])=some r)))/\
 (∀⦃s f f1 x x1 r⦄,Im (Zrv s f f1 x x1=some r) (if x1<x then(0<=x1/\(∃e1,s[x1.toNat]?=some e1/\(∃v1,Z33 e1 f f1=some (Bo v1,[])/\(if v1=true then(some (I x1,[])=some r)else(Zrv s f f1 x (w (x1+1))=some r)))))else(some (I (-1),[])=some r)))/\
 (∀⦃a a1 a2 r⦄,Im (Z34 a a1 a2=some r) (Zrv a a1 a2 (a.length:Int) 0=some r))/\
 (∀⦃a a1 a2 r⦄,Im (Zlc a a1 a2=some r) (∃v,Z34 a a1 a2=some (I v,[])/\(some (Bo (decide (0<=v)),[])=some r)))/\
 (∀⦃x cc done x1 x2 x3 r⦄,Im (Zgk x cc done x1 x2 x3=some r) (if x3<x2 then(0<=x3/\(∃e1,x1[x3.toNat]?=some e1/\(if done=true then(if e1.Mask=x.Mask then(Zgk x cc true x1 x2 (w (x3+1))=some r)else(cc.length+1<=68719476736/\(Zgk x (cc++[e1]) true x1 x2 (w (x3+1))=some r)))else(if x.Mask<=e1.Mask then(cc.length+1<=68719476736/\(if e1.Mask=x.Mask then(Zgk x (cc++[x]) true x1 x2 (w (x3+1))=some r)else(cc.length+1+1<=68719476736/\(Zgk x ((cc++[x])++[e1]) true x1 x2 (w (x3+1))=some r))))else(if e1.Mask=x.Mask then(Zgk x cc false x1 x2 (w (x3+1))=some r)else(cc.length+1<=68719476736/\(Zgk x (cc++[e1]) false x1 x2 (w (x3+1))=some r)))))))else(if done=true then(some (.own 0,[.arr 106 2 true (cc.map Kept.c)])=some r)else(cc.length+1<=68719476736/\(some (.own 0,[.arr 106 2 true ((cc++[x]).map Kept.c)])=some r)))))/\
 (∀⦃a a1 r⦄,Im (Zfw a a1=some r) (Zgk a1 ([]:List Kept) false a (a.length:Int) 0=some r)):=by
 and_intros
 all_goals intros
 all_goals unfold Im
 all_goals try simp only[Z33,Zrv,Z34,Zlc,Zgk,Zfw,Znx,Za.c_def,mpl,dfs]
 all_goals try simp only[itb]
 all_goals try simp only[itf,gS,kk]
 all_goals repeat' first|refine exI λ_=>?_|refine anJ λ_ _=>?_|refine anI λ_=>?_|refine orE2 ?_ ?_|exact False.elim
 all_goals (intro h;first|refine run Zbu2 rfl ?_|rw[Zd Zrs.eq_1]|refine run Zbei rfl ?_|refine run Zbej rfl ?_|rw[Zd Z35.eq_1]|refine run Zbu3 rfl ?_)
 all_goals (refine Ya ?_ h;clear h;simp +decide[*,kk,tI,tII,Zbd0,Zrt,Z3w,Z3y,Zbd1,Zbd2,Z36,Zbd3])
abbrev Zby7:=Zn9.1
abbrev Zbhr:=Zn9.2.1
abbrev Zby8:=Zn9.2.2.1
abbrev Zby9:=Zn9.2.2.2.1
abbrev Zbhs:=Zn9.2.2.2.2.1
abbrev Zbza:=Zn9.2.2.2.2.2
theorem Zbht{m:Zi}{p:Plan}{cv:Bool}{cu cp:Int}{x:List Kept}{x1:List Za}{fr:Bool}{l:List Zb}{co:List Int}{cn:Bool}{cl cd cc:Int}{x2:List Zf}{x3 x4:Int}{r:AV×List Blk}(h:(if x4<x3 then(0<=x4/\(∃(e1:Zf),x2[x4.toNat]?=some e1/\(∃(v:Bool),Zlc co x1 x4=some (Bo v,[])/\(if v=true then(Zfx m p cv cu cp x x1 fr l co cn cl cd cc x2 x3 (w (x4+1))=some r)else(∃(v1:Bool),Zeh co x4=some (Bo v1,[])/\(∃(e4:Zb),l[x4.toNat]?=some e4/\(∃(v2:Int) (v3:Int) (v4:Int),Zhh x1 l x4=some (.tup [I v2,I v3,I v4],[])/\(∃(v5:Int),Zkm m p x1 l x4=some (I v5,[])/\(if v1=true then(∃(v6:Int),Zhl m (e4.Rows.length:Int)=some (I v6,[])/\(if(w (cc-cl))<v6 then(if 3<=e1.Kind then(some (.tup [.agg [Bo cn,I cc,I cd,.t .nil,.t .nil,.t .nil],.own 0,Bo true],[.arr 106 2 true (x.map Kept.c)])=some r)else(some (.tup [.agg [Bo cn,I cc,I cd,.t .nil,.t .nil,.t .nil],.own 0,Bo true],[.arr 106 2 true (x.map Kept.c)])=some r))else(if 3<=e1.Kind then(∃(e8:Za),x1[x4.toNat]?=some e8/\(∃(v7:Int),Zev (e4.Rows.length:Int)=some (I v7,[])/\(∃(v8:List Kept),Zfw x (⟨e8.Mask,(e4.Rows.length:Int)⟩:Kept)=some (.own 0,[.arr 106 2 true (v8.map Kept.c)])/\(if(v8.length:Int)<=8 then(Zb4 m p cv cu cp v8 x1 fr l co cn (w (cl+v6)) (w (cd+1)) ([(⟨e8.Mask,v7,true⟩:Zh)]) cc x2 x3 (w (x4+1))=some r)else(Zb4 m p cv cu cp x x1 fr l co cn (w (cl+v6)) (w (cd+1)) ([(⟨e8.Mask,v7,true⟩:Zh)]) cc x2 x3 (w (x4+1))=some r)))))else(Zfx m p cv cu cp x x1 fr l co cn (w (cl+v6)) (w (cd+1)) cc x2 x3 (w (x4+1))=some r))))else(if(w (cc-cl))<v5 then(if 3<=e1.Kind then(Zd2 m=some (.bsl 1 5,[.box (m.c.map .t),.box [.ptr 0 0,.ptr 0 6,.ptr 0 12,.ptr 0 18,.ptr 0 24]])/\(if(w (e1.Kind-1))=0 then(∃(v9:Int),Zb3 m.Scan v2 v3 (w (cc-cl))=some (I v9,[])/\(∃(e13:Za),x1[x4.toNat]?=some e13/\(some (.tup [.agg [Bo cn,I cc,I cd,.own 0,.t .nil,.t .nil],.own 1,Bo true],[.arr 211 3 true (([(⟨e13.Mask,v9,false⟩:Zh)]).map Zh.c),.arr 106 2 true (x.map Kept.c)])=some r)))else(if(w (e1.Kind-1))=1 then(∃(v10:Int),Zb3 m.Sort_ v2 v3 (w (cc-cl))=some (I v10,[])/\(∃(e15:Za),x1[x4.toNat]?=some e15/\(some (.tup [.agg [Bo cn,I cc,I cd,.own 0,.t .nil,.t .nil],.own 1,Bo true],[.arr 211 3 true (([(⟨e15.Mask,v10,false⟩:Zh)]).map Zh.c),.arr 106 2 true (x.map Kept.c)])=some r)))else(if(w (e1.Kind-1))=2 then(∃(v11:Int),Zb3 m.Hash v2 v3 (w (cc-cl))=some (I v11,[])/\(∃(e17:Za),x1[x4.toNat]?=some e17/\(some (.tup [.agg [Bo cn,I cc,I cd,.own 0,.t .nil,.t .nil],.own 1,Bo true],[.arr 211 3 true (([(⟨e17.Mask,v11,false⟩:Zh)]).map Zh.c),.arr 106 2 true (x.map Kept.c)])=some r)))else(if(w (e1.Kind-1))=3 then(∃(v12:Int),Zb3 m.Merge v2 v3 (w (cc-cl))=some (I v12,[])/\(∃(e19:Za),x1[x4.toNat]?=some e19/\(some (.tup [.agg [Bo cn,I cc,I cd,.own 0,.t .nil,.t .nil],.own 1,Bo true],[.arr 211 3 true (([(⟨e19.Mask,v12,false⟩:Zh)]).map Zh.c),.arr 106 2 true (x.map Kept.c)])=some r)))else(if(w (e1.Kind-1))=4 then(∃(v13:Int),Zb3 m.Nested v2 v3 (w (cc-cl))=some (I v13,[])/\(∃(e21:Za),x1[x4.toNat]?=some e21/\(some (.tup [.agg [Bo cn,I cc,I cd,.own 0,.t .nil,.t .nil],.own 1,Bo true],[.arr 211 3 true (([(⟨e21.Mask,v13,false⟩:Zh)]).map Zh.c),.arr 106 2 true (x.map Kept.c)])=some r)))else False))))))else(some (.tup [.agg [Bo cn,I cc,I cd,.t .nil,.t .nil,.t .nil],.own 0,Bo true],[.arr 106 2 true (x.map Kept.c)])=some r))else(if 3<=e1.Kind then(∃(e22:Za),x1[x4.toNat]?=some e22/\(∃(v14:Int),Zev (e4.Rows.length:Int)=some (I v14,[])/\(∃(v15:List Kept),Zfw x (⟨e22.Mask,(e4.Rows.length:Int)⟩:Kept)=some (.own 0,[.arr 106 2 true (v15.map Kept.c)])/\(if(v15.length:Int)<=8 then(Zb4 m p cv cu cp v15 x1 fr l co cn (w (cl+v5)) (w (cd+1)) ([(⟨e22.Mask,v14,true⟩:Zh)]) cc x2 x3 (w (x4+1))=some r)else(Zb4 m p cv cu cp x x1 fr l co cn (w (cl+v5)) (w (cd+1)) ([(⟨e22.Mask,v14,true⟩:Zh)]) cc x2 x3 (w (x4+1))=some r)))))else(Zfx m p cv cu cp x x1 fr l co cn (w (cl+v5)) (w (cd+1)) cc x2 x3 (w (x4+1))=some r))))))))))))else(0<=(w ((l.length:Int)-1))/\(∃(e25:Zb),l[(w ((l.length:Int)-1)).toNat]?=some e25/\((∃(v16:List Int) (v17:List (List Int)),Zfp e25=some (.tup [.agg [.own 0,.own 1],Bo true],[.arr 3 1 true (v16.map ic),.arr 30 1 true (v17.map isc)])/\(some (.tup [.agg [Bo true,I cl,I cd,.t .nil,.own 0,.own 1],.own 2,Bo true],[.arr 3 1 true (v16.map ic),.arr 30 1 true (v17.map isc),.arr 106 2 true (x.map Kept.c)])=some r))\/(Zfp e25=some (.tup [.agg [.t .nil,.t .nil],Bo false],[])/\(some (.tup [.agg [Bo true,I cl,I cd,.t .nil,.t .nil,.t .nil],.own 0,Bo true],[.arr 106 2 true (x.map Kept.c)])=some r))))))):Zfx m p cv cu cp x x1 fr l co cn cl cd cc x2 x3 x4=some r:=by
 unfold Zfx;rw[Zd Znz.eq_1];by_cases q1:x4<x3
 .rw[if_pos q1]at h;obtain⟨q2,h⟩:=h;obtain⟨e1,q3,h⟩:=h;have gq3:=Zbx q3;have kq3:=Zb0 q3;obtain⟨v,q4,h⟩:=h;unfold Zlc at q4
  try simp at q4
  by_cases q5:v=true
  .rw[if_pos q5]at h;refine Ya ?_ h;clear h;simp +decide[*,tI,tII,Zfx,Zdr]
  .rw[if_neg q5]at h;obtain⟨v1,q6,h⟩:=h;unfold Zeh at q6
   try simp at q6
   obtain⟨e4,q7,h⟩:=h;have gq7:=Zbx q7;have kq7:=Zb0 q7;obtain⟨v2,v3,v4,q8,h⟩:=h;unfold Zhh at q8
   try simp at q8
   obtain⟨v5,q9,h⟩:=h;unfold Zkm at q9
   try simp at q9
   by_cases q10:v1=true
   .rw[if_pos q10]at h;obtain⟨v6,q11,h⟩:=h;unfold Zhl at q11
    try simp at q11
    by_cases q12:(w (cc-cl))<v6
    .rw[if_pos q12]at h;by_cases q13:3<=e1.Kind
     .rw[if_pos q13]at h;refine Ya ?_ h;clear h;simp +decide[*,tI,tII,Zc1,Zbr]
     .rw[if_neg q13]at h;refine Ya ?_ h;clear h;simp +decide[*,tI,tII,Zc1,Zbr]
    .rw[if_neg q12]at h;by_cases q14:3<=e1.Kind
     .rw[if_pos q14]at h;obtain⟨e8,q15,h⟩:=h;have gq15:=Zbx q15;have kq15:=Zb0 q15;obtain⟨v7,q16,h⟩:=h;unfold Zev at q16
      try simp at q16
      obtain⟨v8,q17,h⟩:=h;unfold Zfw at q17
      try simp at q17
      by_cases q18:(v8.length:Int)<=8
      .rw[if_pos q18]at h;have zq18:=eq_true q18;try simp only[Yck,Ycl,Ycm,Ycn,Ycv,Ye,Yco,Yb4]at zq18
       refine Ya ?_ h;clear h;simp +decide[*,tI,tII,Zb4,Zdr,Zbr]
      .rw[if_neg q18]at h;have zq18:=eq_false q18;try simp only[Yck,Ycl,Ycm,Ycn,Ycv,Ye,Yco,Yb4]at zq18
       refine Ya ?_ h;clear h;simp +decide[*,tI,tII,Zb4,Zdr,Zbr]
     .rw[if_neg q14]at h;refine Ya ?_ h;clear h;simp +decide[*,tI,tII,Zfx,Zdr,Zbr]
   .rw[if_neg q10]at h;by_cases q19:(w (cc-cl))<v5
    .rw[if_pos q19]at h;by_cases q20:3<=e1.Kind
     .rw[if_pos q20]at h;obtain⟨q21,h⟩:=h;unfold Zd2 at q21
      try simp at q21
      by_cases q22:(w (e1.Kind-1))=0
      .rw[if_pos q22]at h;obtain⟨v9,q23,h⟩:=h;unfold Zb3 at q23
       try simp at q23
       obtain⟨e13,q24,h⟩:=h;have gq24:=Zbx q24;have kq24:=Zb0 q24;refine Ya ?_ h;clear h;simp +decide[*,tI,tII,Zc1,Zbr]
      .rw[if_neg q22]at h;replace q22:=eq_false q22;by_cases q25:(w (e1.Kind-1))=1
       .rw[if_pos q25]at h;obtain⟨v10,q26,h⟩:=h;unfold Zb3 at q26
        try simp at q26
        obtain⟨e15,q27,h⟩:=h;have gq27:=Zbx q27;have kq27:=Zb0 q27;refine Ya ?_ h;clear h;simp +decide[*,tI,tII,Zc1,Zbr]
       .rw[if_neg q25]at h;replace q25:=eq_false q25;by_cases q28:(w (e1.Kind-1))=2
        .rw[if_pos q28]at h;obtain⟨v11,q29,h⟩:=h;unfold Zb3 at q29
         try simp at q29
         obtain⟨e17,q30,h⟩:=h;have gq30:=Zbx q30;have kq30:=Zb0 q30;refine Ya ?_ h;clear h;simp +decide[*,tI,tII,Zc1,Zbr]
        .rw[if_neg q28]at h;replace q28:=eq_false q28;by_cases q31:(w (e1.Kind-1))=3
         .rw[if_pos q31]at h;obtain⟨v12,q32,h⟩:=h;unfold Zb3 at q32
          try simp at q32
          obtain⟨e19,q33,h⟩:=h;have gq33:=Zbx q33;have kq33:=Zb0 q33;refine Ya ?_ h;clear h;simp +decide[*,tI,tII,Zc1,Zbr]
         .rw[if_neg q31]at h;replace q31:=eq_false q31;by_cases q34:(w (e1.Kind-1))=4
          .rw[if_pos q34]at h;obtain⟨v13,q35,h⟩:=h;unfold Zb3 at q35
           try simp at q35
           obtain⟨e21,q36,h⟩:=h;have gq36:=Zbx q36;have kq36:=Zb0 q36;refine Ya ?_ h;clear h;simp +decide[*,tI,tII,Zc1,Zbr]
          .rw[if_neg q34]at h;replace q34:=eq_false q34;cases h
     .rw[if_neg q20]at h;refine Ya ?_ h;clear h;simp +decide[*,tI,tII,Zc1,Zbr]
    .rw[if_neg q19]at h;by_cases q37:3<=e1.Kind
     .rw[if_pos q37]at h;obtain⟨e22,q38,h⟩:=h;have gq38:=Zbx q38;have kq38:=Zb0 q38;obtain⟨v14,q39,h⟩:=h;unfold Zev at q39
      try simp at q39
      obtain⟨v15,q40,h⟩:=h;unfold Zfw at q40
      try simp at q40
      by_cases q41:(v15.length:Int)<=8
      .rw[if_pos q41]at h;have zq41:=eq_true q41;try simp only[Yck,Ycl,Ycm,Ycn,Ycv,Ye,Yco,Yb4]at zq41
       refine Ya ?_ h;clear h;simp +decide[*,tI,tII,Zb4,Zdr,Zbr]
      .rw[if_neg q41]at h;have zq41:=eq_false q41;try simp only[Yck,Ycl,Ycm,Ycn,Ycv,Ye,Yco,Yb4]at zq41
       refine Ya ?_ h;clear h;simp +decide[*,tI,tII,Zb4,Zdr,Zbr]
     .rw[if_neg q37]at h;refine Ya ?_ h;clear h;simp +decide[*,tI,tII,Zfx,Zdr,Zbr]
 .rw[if_neg q1]at h;obtain⟨q42,h⟩:=h;have zq42:=q42;try simp at zq42
  obtain⟨e25,q43,h⟩:=h;have gq43:=Zbx q43;have kq43:=Zb0 q43;rcases h with h|h
  .obtain⟨v16,v17,q44,h⟩:=h;unfold Zfp at q44
   try simp at q44
   refine Ya ?_ h;clear h;simp +decide[*,tI,tII,Zi1]
  .obtain⟨q45,h⟩:=h;unfold Zfp at q45
   try simp at q45
   refine Ya ?_ h;clear h;simp +decide[*,tI,tII,Zi1]
theorem Zbhu{m:Zi}{p:Plan}{cv:Bool}{cu cp:Int}{x:List Kept}{x1:List Za}{fr:Bool}{l:List Zb}{co:List Int}{cn:Bool}{cl cd:Int}{x2:List Zh}{cc:Int}{x3:List Zf}{x4 x5:Int}{r:AV×List Blk}(h:(if x5<x4 then(0<=x5/\(∃(e1:Zf),x3[x5.toNat]?=some e1/\(∃(v:Bool),Zlc co x1 x5=some (Bo v,[])/\(if v=true then(Zb4 m p cv cu cp x x1 fr l co cn cl cd x2 cc x3 x4 (w (x5+1))=some r)else(∃(v1:Bool),Zeh co x5=some (Bo v1,[])/\(∃(e4:Zb),l[x5.toNat]?=some e4/\(∃(v2:Int) (v3:Int) (v4:Int),Zhh x1 l x5=some (.tup [I v2,I v3,I v4],[])/\(∃(v5:Int),Zkm m p x1 l x5=some (I v5,[])/\(if v1=true then(∃(v6:Int),Zhl m (e4.Rows.length:Int)=some (I v6,[])/\(if(w (cc-cl))<v6 then(if 3<=e1.Kind then(some (.tup [.agg [Bo cn,I cc,I cd,.own 0,.t .nil,.t .nil],.own 1,Bo true],[.arr 211 3 true (x2.map Zh.c),.arr 106 2 true (x.map Kept.c)])=some r)else(some (.tup [.agg [Bo cn,I cc,I cd,.own 0,.t .nil,.t .nil],.own 1,Bo true],[.arr 211 3 true (x2.map Zh.c),.arr 106 2 true (x.map Kept.c)])=some r))else(if 3<=e1.Kind then(∃(e8:Za),x1[x5.toNat]?=some e8/\(∃(v7:Int),Zev (e4.Rows.length:Int)=some (I v7,[])/\(x2.length+1<=68719476736/\(∃(v8:List Kept),Zfw x (⟨e8.Mask,(e4.Rows.length:Int)⟩:Kept)=some (.own 0,[.arr 106 2 true (v8.map Kept.c)])/\(if(v8.length:Int)<=8 then(Zb4 m p cv cu cp v8 x1 fr l co cn (w (cl+v6)) (w (cd+1)) (x2++[(⟨e8.Mask,v7,true⟩:Zh)]) cc x3 x4 (w (x5+1))=some r)else(Zb4 m p cv cu cp x x1 fr l co cn (w (cl+v6)) (w (cd+1)) (x2++[(⟨e8.Mask,v7,true⟩:Zh)]) cc x3 x4 (w (x5+1))=some r))))))else(Zb4 m p cv cu cp x x1 fr l co cn (w (cl+v6)) (w (cd+1)) x2 cc x3 x4 (w (x5+1))=some r))))else(if(w (cc-cl))<v5 then(if 3<=e1.Kind then(Zd2 m=some (.bsl 1 5,[.box (m.c.map .t),.box [.ptr 0 0,.ptr 0 6,.ptr 0 12,.ptr 0 18,.ptr 0 24]])/\(if(w (e1.Kind-1))=0 then(∃(v9:Int),Zb3 m.Scan v2 v3 (w (cc-cl))=some (I v9,[])/\(∃(e13:Za),x1[x5.toNat]?=some e13/\(x2.length+1<=68719476736/\(some (.tup [.agg [Bo cn,I cc,I cd,.own 0,.t .nil,.t .nil],.own 1,Bo true],[.arr 211 3 true ((x2++[(⟨e13.Mask,v9,false⟩:Zh)]).map Zh.c),.arr 106 2 true (x.map Kept.c)])=some r))))else(if(w (e1.Kind-1))=1 then(∃(v10:Int),Zb3 m.Sort_ v2 v3 (w (cc-cl))=some (I v10,[])/\(∃(e15:Za),x1[x5.toNat]?=some e15/\(x2.length+1<=68719476736/\(some (.tup [.agg [Bo cn,I cc,I cd,.own 0,.t .nil,.t .nil],.own 1,Bo true],[.arr 211 3 true ((x2++[(⟨e15.Mask,v10,false⟩:Zh)]).map Zh.c),.arr 106 2 true (x.map Kept.c)])=some r))))else(if(w (e1.Kind-1))=2 then(∃(v11:Int),Zb3 m.Hash v2 v3 (w (cc-cl))=some (I v11,[])/\(∃(e17:Za),x1[x5.toNat]?=some e17/\(x2.length+1<=68719476736/\(some (.tup [.agg [Bo cn,I cc,I cd,.own 0,.t .nil,.t .nil],.own 1,Bo true],[.arr 211 3 true ((x2++[(⟨e17.Mask,v11,false⟩:Zh)]).map Zh.c),.arr 106 2 true (x.map Kept.c)])=some r))))else(if(w (e1.Kind-1))=3 then(∃(v12:Int),Zb3 m.Merge v2 v3 (w (cc-cl))=some (I v12,[])/\(∃(e19:Za),x1[x5.toNat]?=some e19/\(x2.length+1<=68719476736/\(some (.tup [.agg [Bo cn,I cc,I cd,.own 0,.t .nil,.t .nil],.own 1,Bo true],[.arr 211 3 true ((x2++[(⟨e19.Mask,v12,false⟩:Zh)]).map Zh.c),.arr 106 2 true (x.map Kept.c)])=some r))))else(if(w (e1.Kind-1))=4 then(∃(v13:Int),Zb3 m.Nested v2 v3 (w (cc-cl))=some (I v13,[])/\(∃(e21:Za),x1[x5.toNat]?=some e21/\(x2.length+1<=68719476736/\(some (.tup [.agg [Bo cn,I cc,I cd,.own 0,.t .nil,.t .nil],.own 1,Bo true],[.arr 211 3 true ((x2++[(⟨e21.Mask,v13,false⟩:Zh)]).map Zh.c),.arr 106 2 true (x.map Kept.c)])=some r))))else False))))))else(some (.tup [.agg [Bo cn,I cc,I cd,.own 0,.t .nil,.t .nil],.own 1,Bo true],[.arr 211 3 true (x2.map Zh.c),.arr 106 2 true (x.map Kept.c)])=some r))else(if 3<=e1.Kind then(∃(e22:Za),x1[x5.toNat]?=some e22/\(∃(v14:Int),Zev (e4.Rows.length:Int)=some (I v14,[])/\(x2.length+1<=68719476736/\(∃(v15:List Kept),Zfw x (⟨e22.Mask,(e4.Rows.length:Int)⟩:Kept)=some (.own 0,[.arr 106 2 true (v15.map Kept.c)])/\(if(v15.length:Int)<=8 then(Zb4 m p cv cu cp v15 x1 fr l co cn (w (cl+v5)) (w (cd+1)) (x2++[(⟨e22.Mask,v14,true⟩:Zh)]) cc x3 x4 (w (x5+1))=some r)else(Zb4 m p cv cu cp x x1 fr l co cn (w (cl+v5)) (w (cd+1)) (x2++[(⟨e22.Mask,v14,true⟩:Zh)]) cc x3 x4 (w (x5+1))=some r))))))else(Zb4 m p cv cu cp x x1 fr l co cn (w (cl+v5)) (w (cd+1)) x2 cc x3 x4 (w (x5+1))=some r))))))))))))else(0<=(w ((l.length:Int)-1))/\(∃(e25:Zb),l[(w ((l.length:Int)-1)).toNat]?=some e25/\((∃(v16:List Int) (v17:List (List Int)),Zfp e25=some (.tup [.agg [.own 0,.own 1],Bo true],[.arr 3 1 true (v16.map ic),.arr 30 1 true (v17.map isc)])/\(some (.tup [.agg [Bo true,I cl,I cd,.own 0,.own 1,.own 2],.own 3,Bo true],[.arr 211 3 true (x2.map Zh.c),.arr 3 1 true (v16.map ic),.arr 30 1 true (v17.map isc),.arr 106 2 true (x.map Kept.c)])=some r))\/(Zfp e25=some (.tup [.agg [.t .nil,.t .nil],Bo false],[])/\(some (.tup [.agg [Bo true,I cl,I cd,.own 0,.t .nil,.t .nil],.own 1,Bo true],[.arr 211 3 true (x2.map Zh.c),.arr 106 2 true (x.map Kept.c)])=some r))))))):Zb4 m p cv cu cp x x1 fr l co cn cl cd x2 cc x3 x4 x5=some r:=by
 unfold Zb4;rw[Zd Znz.eq_1];by_cases q1:x5<x4
 .rw[if_pos q1]at h;obtain⟨q2,h⟩:=h;obtain⟨e1,q3,h⟩:=h;have gq3:=Zbx q3;have kq3:=Zb0 q3;obtain⟨v,q4,h⟩:=h;unfold Zlc at q4
  try simp at q4
  by_cases q5:v=true
  .rw[if_pos q5]at h;refine Ya ?_ h;clear h;simp +decide[*,tI,tII,Zb4,Zdr]
  .rw[if_neg q5]at h;obtain⟨v1,q6,h⟩:=h;unfold Zeh at q6
   try simp at q6
   obtain⟨e4,q7,h⟩:=h;have gq7:=Zbx q7;have kq7:=Zb0 q7;obtain⟨v2,v3,v4,q8,h⟩:=h;unfold Zhh at q8
   try simp at q8
   obtain⟨v5,q9,h⟩:=h;unfold Zkm at q9
   try simp at q9
   by_cases q10:v1=true
   .rw[if_pos q10]at h;obtain⟨v6,q11,h⟩:=h;unfold Zhl at q11
    try simp at q11
    by_cases q12:(w (cc-cl))<v6
    .rw[if_pos q12]at h;by_cases q13:3<=e1.Kind
     .rw[if_pos q13]at h;refine Ya ?_ h;clear h;simp +decide[*,tI,tII,Zc1,Zbr]
     .rw[if_neg q13]at h;refine Ya ?_ h;clear h;simp +decide[*,tI,tII,Zc1,Zbr]
    .rw[if_neg q12]at h;by_cases q14:3<=e1.Kind
     .rw[if_pos q14]at h;obtain⟨e8,q15,h⟩:=h;have gq15:=Zbx q15;have kq15:=Zb0 q15;obtain⟨v7,q16,h⟩:=h;unfold Zev at q16
      try simp at q16
      obtain⟨q17,h⟩:=h;have rq17:=roomA (b:=24) q17 (by omega);have sq17:=roomB q17
      try simp[*]at rq17
      try simp[*]at sq17
      obtain⟨v8,q18,h⟩:=h;unfold Zfw at q18
      try simp at q18
      by_cases q19:(v8.length:Int)<=8
      .rw[if_pos q19]at h;have zq19:=eq_true q19;try simp only[Yck,Ycl,Ycm,Ycn,Ycv,Ye,Yco,Yb4]at zq19
       refine Ya ?_ h;clear h;simp +decide[*,tI,tII,Zb4,Zdr,Zbr]
      .rw[if_neg q19]at h;have zq19:=eq_false q19;try simp only[Yck,Ycl,Ycm,Ycn,Ycv,Ye,Yco,Yb4]at zq19
       refine Ya ?_ h;clear h;simp +decide[*,tI,tII,Zb4,Zdr,Zbr]
     .rw[if_neg q14]at h;refine Ya ?_ h;clear h;simp +decide[*,tI,tII,Zb4,Zdr,Zbr]
   .rw[if_neg q10]at h;by_cases q20:(w (cc-cl))<v5
    .rw[if_pos q20]at h;by_cases q21:3<=e1.Kind
     .rw[if_pos q21]at h;obtain⟨q22,h⟩:=h;unfold Zd2 at q22
      try simp at q22
      by_cases q23:(w (e1.Kind-1))=0
      .rw[if_pos q23]at h;obtain⟨v9,q24,h⟩:=h;unfold Zb3 at q24
       try simp at q24
       obtain⟨e13,q25,h⟩:=h;have gq25:=Zbx q25;have kq25:=Zb0 q25;obtain⟨q26,h⟩:=h;have rq26:=roomA (b:=24) q26 (by omega);have sq26:=roomB q26
       try simp[*]at rq26
       try simp[*]at sq26
       refine Ya ?_ h;clear h;simp +decide[*,tI,tII,Zc1,Zbr]
      .rw[if_neg q23]at h;replace q23:=eq_false q23;by_cases q27:(w (e1.Kind-1))=1
       .rw[if_pos q27]at h;obtain⟨v10,q28,h⟩:=h;unfold Zb3 at q28
        try simp at q28
        obtain⟨e15,q29,h⟩:=h;have gq29:=Zbx q29;have kq29:=Zb0 q29;obtain⟨q30,h⟩:=h;have rq30:=roomA (b:=24) q30 (by omega);have sq30:=roomB q30
        try simp[*]at rq30
        try simp[*]at sq30
        refine Ya ?_ h;clear h;simp +decide[*,tI,tII,Zc1,Zbr]
       .rw[if_neg q27]at h;replace q27:=eq_false q27;by_cases q31:(w (e1.Kind-1))=2
        .rw[if_pos q31]at h;obtain⟨v11,q32,h⟩:=h;unfold Zb3 at q32
         try simp at q32
         obtain⟨e17,q33,h⟩:=h;have gq33:=Zbx q33;have kq33:=Zb0 q33;obtain⟨q34,h⟩:=h;have rq34:=roomA (b:=24) q34 (by omega);have sq34:=roomB q34
         try simp[*]at rq34
         try simp[*]at sq34
         refine Ya ?_ h;clear h;simp +decide[*,tI,tII,Zc1,Zbr]
        .rw[if_neg q31]at h;replace q31:=eq_false q31;by_cases q35:(w (e1.Kind-1))=3
         .rw[if_pos q35]at h;obtain⟨v12,q36,h⟩:=h;unfold Zb3 at q36
          try simp at q36
          obtain⟨e19,q37,h⟩:=h;have gq37:=Zbx q37;have kq37:=Zb0 q37;obtain⟨q38,h⟩:=h;have rq38:=roomA (b:=24) q38 (by omega);have sq38:=roomB q38
          try simp[*]at rq38
          try simp[*]at sq38
          refine Ya ?_ h;clear h;simp +decide[*,tI,tII,Zc1,Zbr]
         .rw[if_neg q35]at h;replace q35:=eq_false q35;by_cases q39:(w (e1.Kind-1))=4
          .rw[if_pos q39]at h;obtain⟨v13,q40,h⟩:=h;unfold Zb3 at q40
           try simp at q40
           obtain⟨e21,q41,h⟩:=h;have gq41:=Zbx q41;have kq41:=Zb0 q41;obtain⟨q42,h⟩:=h;have rq42:=roomA (b:=24) q42 (by omega);have sq42:=roomB q42
           try simp[*]at rq42
           try simp[*]at sq42
           refine Ya ?_ h;clear h;simp +decide[*,tI,tII,Zc1,Zbr]
          .rw[if_neg q39]at h;replace q39:=eq_false q39;cases h
     .rw[if_neg q21]at h;refine Ya ?_ h;clear h;simp +decide[*,tI,tII,Zc1,Zbr]
    .rw[if_neg q20]at h;by_cases q43:3<=e1.Kind
     .rw[if_pos q43]at h;obtain⟨e22,q44,h⟩:=h;have gq44:=Zbx q44;have kq44:=Zb0 q44;obtain⟨v14,q45,h⟩:=h;unfold Zev at q45
      try simp at q45
      obtain⟨q46,h⟩:=h;have rq46:=roomA (b:=24) q46 (by omega);have sq46:=roomB q46
      try simp[*]at rq46
      try simp[*]at sq46
      obtain⟨v15,q47,h⟩:=h;unfold Zfw at q47
      try simp at q47
      by_cases q48:(v15.length:Int)<=8
      .rw[if_pos q48]at h;have zq48:=eq_true q48;try simp only[Yck,Ycl,Ycm,Ycn,Ycv,Ye,Yco,Yb4]at zq48
       refine Ya ?_ h;clear h;simp +decide[*,tI,tII,Zb4,Zdr,Zbr]
      .rw[if_neg q48]at h;have zq48:=eq_false q48;try simp only[Yck,Ycl,Ycm,Ycn,Ycv,Ye,Yco,Yb4]at zq48
       refine Ya ?_ h;clear h;simp +decide[*,tI,tII,Zb4,Zdr,Zbr]
     .rw[if_neg q43]at h;refine Ya ?_ h;clear h;simp +decide[*,tI,tII,Zb4,Zdr,Zbr]
 .rw[if_neg q1]at h;obtain⟨q49,h⟩:=h;have zq49:=q49;try simp at zq49
  obtain⟨e25,q50,h⟩:=h;have gq50:=Zbx q50;have kq50:=Zb0 q50;rcases h with h|h
  .obtain⟨v16,v17,q51,h⟩:=h;unfold Zfp at q51
   try simp at q51
   refine Ya ?_ h;clear h;simp +decide[*,tI,tII,Zi1]
  .obtain⟨q52,h⟩:=h;unfold Zfp at q52
   try simp at q52
   refine Ya ?_ h;clear h;simp +decide[*,tI,tII,Zi1]
theorem Zbzb:∀⦃a a1 a2 a3 a4 a5 r⦄,Im (Zvy a a1 a2 a3 a4 a5=some r) (a5.length<=68719476736/\((Zkh a1 a2 a3=some (.tup [.t .nil,.t .nil,Bo false],[])/\(some (.tup [.agg [Bo false,I 0,I 0,.t .nil,.t .nil,.t .nil],.own 0,Bo false],[.arr 106 2 true (a5.map Kept.c)])=some r))\/(∃(v:List Za),∃v1,∃(v2:List Zb),Zkh a1 a2 a3=some (.tup [.own 0,.own 1,Bo true],[.arr 209 4 true (v.map Za.c),.arr 199 2 v1 (v2.map Zb.c)])/\(∃v3,Zhg a=some (Bo v3,[])/\(if v3=true then(∃v4,Zz a4 0 1000000000000=some (Bo v4,[])/\(if v4=true then(if 8<(a5.length:Int)then(some (.tup [.agg [Bo false,I 0,I 0,.t .nil,.t .nil,.t .nil],.own 0,Bo false],[.arr 106 2 true (a5.map Kept.c)])=some r)else((Zny a a2 a3 a5=some (.t .nil,[])/\(Zbd5 a a3 false 0 0 a5 v v1 v2 false 0 0 a4 a3.Steps (a3.Steps.length:Int) 0=some r))\/(∃(v5:List Int),Zny a a2 a3 a5=some (.own 0,[.arr 3 1 true (v5.map ic)])/\(Zfx a a3 false 0 0 a5 v v1 v2 v5 false 0 0 a4 a3.Steps (a3.Steps.length:Int) 0=some r))))else(some (.tup [.agg [Bo false,I 0,I 0,.t .nil,.t .nil,.t .nil],.own 0,Bo false],[.arr 106 2 true (a5.map Kept.c)])=some r)))else(some (.tup [.agg [Bo false,I 0,I 0,.t .nil,.t .nil,.t .nil],.own 0,Bo false],[.arr 106 2 true (a5.map Kept.c)])=some r)))))):=by
 all_goals intros
 all_goals unfold Im
 all_goals try simp only[Zvy,Zkh,Zhg,Zz,Zny,Zl.c_def,Kept.c_def,Zi.c_def,Zk.c_def,Plan.c_def,Ze.c_def,Zbd5,Zfx,mpl,dfs]
 all_goals try simp only[itb]
 all_goals try simp only[itf,gS,kk]
 all_goals repeat' first|refine exI λ_=>?_|refine anJ λ_ _=>?_|refine anI λ_=>?_|refine orE2 ?_ ?_|exact False.elim
 all_goals (intro h;first|refine run Zbu4 rfl ?_)
 all_goals (refine Ya ?_ h;clear h;simp +decide[*,kk,tI,tII,Zbd4])
abbrev Z4y:=Zbzb
theorem Zfz:(∀⦃l cp i r⦄,Im (Zn0 l cp i=some r) (if i<(l.length:Int)then(0<=i/\(∃e1,l[i.toNat]?=some e1/\(if e1.Mask=cp then(∃v3,Zbf e1.Size 0 4096=some (Bo v3,[])/\(if v3=true then(some (I e1.Size,[])=some r)else(Zn0 l cp (w (i+1))=some r)))else(Zn0 l cp (w (i+1))=some r))))else(some (I (-1),[])=some r)))/\
 (∀⦃a a1 r⦄,Im (Zvz a a1=some r) (Zn0 a a1 0=some r))/\
 (∀⦃a a1 r⦄,Im (Zi2 a a1=some r) (∃v,Zbf a1 0 4096=some (Bo v,[])/\(if v=true then(∃v3,Zck a1=some (I v3,[])/\(∃v4,Zex a.Scan v3 0 v3=some (I v4,[])/\(some (I v4,[])=some r)))else(some (I (-1),[])=some r))))/\
 (∀⦃m p cc cd cl i r⦄,Im (Zhn m p cc cd cl i=some r) (if i<(cd.length:Int)then(0<=i/\(∃e1,cd[i.toNat]?=some e1/\(∃v3,Zvz cl e1.Mask=some (I v3,[])/\(if e1.Right<0 then(Zhn m p cc cd cl (w (i+1))=some r)else(if v3<0 then(Zhn m p cc cd cl (w (i+1))=some r)else(∃v4,Zi2 m v3=some (I v4,[])/\(∃e4,p.Steps[i.toNat]?=some e4/\(∃(v6:Zk),Zhi m e4.Kind=some (.agg (v6.c.map .t),[])/\(∃v7,Zck v3=some (I v7,[])/\(∃v8,Zex v6 0 0 v7=some (I v8,[])/\(if v8<v4 then(Zhn m p cc cd cl (w (i+1))=some r)else(∃v9,Zm0 cd i=some (I v9,[])/\(Zn1 m p cc cd ([]:List Int) cl i v9 0=some r)))))))))))))else(some (.own 0,[.arr 3 1 true (cc.map ic)])=some r)))/\
 (∀⦃m p cc cd co cl i first k r⦄,Im (Zn1 m p cc cd co cl i first k=some r) (if k<(cc.length:Int)then(0<=k/\(∃e1,cc[k.toNat]?=some e1/\(if e1<first then(co.length+1<=68719476736/\(Zn1 m p cc cd (co++[e1]) cl i first (w (k+1))=some r))else(Zn1 m p cc cd co cl i first (w (k+1))=some r))))else(co.length+1<=68719476736/\(Zhn m p (co++[i]) cd cl (w (i+1))=some r))))/\
 (∀⦃a a1 a2 a3 r⦄,Im (Zv2 a a1 a2 a3=some r) (∃(v:List Za),∃v1,Zks a1 a2=some (.tup [.own 0,Bo v1],[.arr 209 4 true (v.map Za.c)])/\(if v1=true then(∃v3,Zi0 a=some (Bo v3,[])/\(if v3=true then(Zhn a a2 ([]:List Int) v a3 0=some r)else(some (.own 0,[.arr 3 1 true (([]:List Int).map ic)])=some r)))else(some (.own 0,[.arr 3 1 true (([]:List Int).map ic)])=some r))))/\
 (∀⦃cd cn i k r⦄,Im (Zrw cd cn i k=some r) (if k<(cn.length:Int)then(0<=k/\(∃e1,cn[k.toNat]?=some e1/\(∃v3,Zm0 cd e1=some (I v3,[])/\(∃v4,Zbf i v3 (w (e1-1))=some (Bo v4,[])/\(if v4=true then(some (Bo true,[])=some r)else(Zrw cd cn i (w (k+1))=some r))))))else(some (Bo false,[])=some r)))/\
 (∀⦃a a1 a2 r⦄,Im (Zld a a1 a2=some r) (Zrw a a1 a2 0=some r))/\
 (∀⦃x cc l cu i r⦄,Im (Zgl x cc l cu i=some r) (if i<(l.length:Int)then(if cu=true then(0<=i/\(∃e1,l[i.toNat]?=some e1/\(if e1.Mask=x.Mask then(Zgl x cc l true (w (i+1))=some r)else(cc.length+1<=68719476736/\(Zgl x (cc++[e1]) l true (w (i+1))=some r)))))else(0<=i/\(∃e2,l[i.toNat]?=some e2/\(if x.Mask<=e2.Mask then(cc.length+1<=68719476736/\(if e2.Mask=x.Mask then(Zgl x (cc++[x]) l true (w (i+1))=some r)else(cc.length+1+1<=68719476736/\(Zgl x ((cc++[x])++[e2]) l true (w (i+1))=some r))))else(if e2.Mask=x.Mask then(Zgl x cc l false (w (i+1))=some r)else(cc.length+1<=68719476736/\(Zgl x (cc++[e2]) l false (w (i+1))=some r)))))))else(if cu=true then(some (.own 0,[.arr 106 2 true (cc.map Kept.c)])=some r)else(cc.length+1<=68719476736/\(some (.own 0,[.arr 106 2 true ((cc++[x]).map Kept.c)])=some r)))))/\
 (∀⦃a a1 r⦄,Im (Zho a a1=some r) (Zgl a1 ([]:List Kept) a false 0=some r))/\
 (∀⦃a a1 a2 a3 a4 a5 r⦄,Im (Zv3 a a1 a2 a3 a4 a5=some r) (∃(v:List Zb),∃(v1:List Za),∃v2,Znm a1 a2 a3=some (.tup [.own 0,.own 1,Bo v2],[.arr 199 2 true (v.map Zb.c),.arr 209 4 true (v1.map Za.c)])/\(a5.length<=68719476736/\(if v2=true then(∃v3,Zi0 a=some (Bo v3,[])/\(if v3=true then(∃v4,Zbf a4 0 1000000000000=some (Bo v4,[])/\(if v4=true then(if 8<(a5.length:Int)then(some (.tup [.agg [Bo false,I 0,I 0,.t .nil,.t .nil,.t .nil],.own 0,Bo false],[.arr 106 2 true (a5.map Kept.c)])=some r)else(∃(v5:List Int),Zv2 a a2 a3 a5=some (.own 0,[.arr 3 1 true (v5.map ic)])/\(Zhp a a3 false 0 0 v v1 a5 v5 ([]:List Int) false 0 0 a4 0=some r)))else(some (.tup [.agg [Bo false,I 0,I 0,.t .nil,.t .nil,.t .nil],.own 0,Bo false],[.arr 106 2 true (a5.map Kept.c)])=some r)))else(some (.tup [.agg [Bo false,I 0,I 0,.t .nil,.t .nil,.t .nil],.own 0,Bo false],[.arr 106 2 true (a5.map Kept.c)])=some r)))else(some (.tup [.agg [Bo false,I 0,I 0,.t .nil,.t .nil,.t .nil],.own 0,Bo false],[.arr 106 2 true (a5.map Kept.c)])=some r))))):=by
 and_intros
 all_goals intros
 all_goals unfold Im
 all_goals try simp only[Zn0,Zvz,Zi2,Zhn,Zn1,Zv2,Zrw,Zld,Zgl,Zho,Zv3,Zbf,Zck,Zex,Zk.c_def,Zhi,Zm0,Kept.c_def,Zi.c_def,Za.c_def,Zks,Zi0,Plan.c_def,Ze.c_def,Znm,Zl.c_def,Zhp,mpl,dfs]
 all_goals try simp only[itb]
 all_goals try simp only[itf,gS,kk]
 all_goals repeat' first|refine exI λ_=>?_|refine anJ λ_ _=>?_|refine anI λ_=>?_|refine orE2 ?_ ?_|exact False.elim
 all_goals (intro h;first|rw[Zd Z37.eq_1]|refine run Zbu5 rfl ?_|refine run Zbu6 rfl ?_|rw[Zd Zv0.eq_1]|rw[Zd Z39.eq_1]|refine run Zbu7 rfl ?_|rw[Zd Z4c.eq_1]|refine run Zbu8 rfl ?_|rw[Zd Z4e.eq_1]|refine run Zbu9 rfl ?_|refine run Zbva rfl ?_)
 all_goals (refine Ya ?_ h;clear h;simp +decide[*,kk,tI,tII,Z38,Zbd6,Zbd7,Z4b,Zv1,Zbd8,Z4a,Zbd9,Z4d,Zbea,Zbeb,Zbec,Z4f,Zbed,Zbee])
abbrev Zbhv:=Zfz.1
abbrev Zbzc:=Zfz.2.1
abbrev Zbzd:=Zfz.2.2.1
abbrev Zbhw:=Zfz.2.2.2.1
abbrev Zbhx:=Zfz.2.2.2.2.1
abbrev Zbze:=Zfz.2.2.2.2.2.1
abbrev Zbhy:=Zfz.2.2.2.2.2.2.1
abbrev Zbzf:=Zfz.2.2.2.2.2.2.2.1
abbrev Zbhz:=Zfz.2.2.2.2.2.2.2.2.1
abbrev Zbzg:=Zfz.2.2.2.2.2.2.2.2.2.1
abbrev Z4z:=Zfz.2.2.2.2.2.2.2.2.2.2
theorem Zbh0{m:Zi}{p:Plan}{cz:Bool}{cy cv:Int}{l:List Zb}{cp:List Za}{cu:List Kept}{cn n:List Int}{co:Bool}{cl cc cd i:Int}{r:AV×List Blk}(h:(if i<(l.length:Int)then(0<=i/\(∃(e1:Zb),l[i.toNat]?=some e1/\(n.length+1<=68719476736/\(∃(v:Bool),Zld cp cn i=some (Bo v,[])/\(if v=true then(Zhp m p cz cy cv l cp cu cn (n++[(e1.Rows.length:Int)]) co cl cc cd (w (i+1))=some r)else(∃(v1:Int),Zk8 m p cp (n++[(e1.Rows.length:Int)]) i=some (I v1,[])/\(∃(v2:Bool),Zfq cn i=some (Bo v2,[])/\(if v2=true then(∃(e5:Int),(n++[(e1.Rows.length:Int)])[i.toNat]?=some e5/\(∃(v3:Int),Zi2 m e5=some (I v3,[])/\(if(w (cd-cl))<v3 then(∃(e7:Za),cp[i.toNat]?=some e7/\(if 0<=e7.Right then(some (.tup [.agg [Bo co,I cd,I cc,.t .nil,.t .nil,.t .nil],.own 0,Bo true],[.arr 106 2 true (cu.map Kept.c)])=some r)else(some (.tup [.agg [Bo co,I cd,I cc,.t .nil,.t .nil,.t .nil],.own 0,Bo true],[.arr 106 2 true (cu.map Kept.c)])=some r)))else(∃(e8:Za),cp[i.toNat]?=some e8/\(if 0<=e8.Right then(∃(v4:Int),Zgj e5=some (I v4,[])/\(∃(v5:List Kept),Zho cu (⟨e8.Mask,e5⟩:Kept)=some (.own 0,[.arr 106 2 true (v5.map Kept.c)])/\(if(v5.length:Int)<=8 then(Zdc m p cz cy cv l cp v5 cn (n++[(e1.Rows.length:Int)]) co (w (cl+v3)) (w (cc+1)) ([(⟨e8.Mask,v4,true⟩:Zh)]) cd (w (i+1))=some r)else(Zdc m p cz cy cv l cp cu cn (n++[(e1.Rows.length:Int)]) co (w (cl+v3)) (w (cc+1)) ([(⟨e8.Mask,v4,true⟩:Zh)]) cd (w (i+1))=some r))))else(Zhp m p cz cy cv l cp cu cn (n++[(e1.Rows.length:Int)]) co (w (cl+v3)) (w (cc+1)) cd (w (i+1))=some r))))))else(if(w (cd-cl))<v1 then(∃(e11:Za),cp[i.toNat]?=some e11/\(if 0<=e11.Right then(∃(e12:Zf),p.Steps[i.toNat]?=some e12/\(0<=e11.Left/\(∃(e13:Int),(n++[(e1.Rows.length:Int)])[e11.Left.toNat]?=some e13/\(∃(v6:Int),Zck e13=some (I v6,[])/\(∃(e15:Int),(n++[(e1.Rows.length:Int)])[e11.Right.toNat]?=some e15/\(∃(v7:Int),Zck e15=some (I v7,[])/\(∃(v8:Int),Zk9 m e12.Kind v6 v7 (w (cd-cl))=some (I v8,[])/\(some (.tup [.agg [Bo co,I cd,I cc,.own 0,.t .nil,.t .nil],.own 1,Bo true],[.arr 211 3 true (([(⟨e11.Mask,v8,false⟩:Zh)]).map Zh.c),.arr 106 2 true (cu.map Kept.c)])=some r))))))))else(some (.tup [.agg [Bo co,I cd,I cc,.t .nil,.t .nil,.t .nil],.own 0,Bo true],[.arr 106 2 true (cu.map Kept.c)])=some r)))else(∃(e18:Za),cp[i.toNat]?=some e18/\(if 0<=e18.Right then(∃(e19:Int),(n++[(e1.Rows.length:Int)])[i.toNat]?=some e19/\(∃(v9:Int),Zgj e19=some (I v9,[])/\(∃(v10:List Kept),Zho cu (⟨e18.Mask,e19⟩:Kept)=some (.own 0,[.arr 106 2 true (v10.map Kept.c)])/\(if(v10.length:Int)<=8 then(Zdc m p cz cy cv l cp v10 cn (n++[(e1.Rows.length:Int)]) co (w (cl+v1)) (w (cc+1)) ([(⟨e18.Mask,v9,true⟩:Zh)]) cd (w (i+1))=some r)else(Zdc m p cz cy cv l cp cu cn (n++[(e1.Rows.length:Int)]) co (w (cl+v1)) (w (cc+1)) ([(⟨e18.Mask,v9,true⟩:Zh)]) cd (w (i+1))=some r)))))else(Zhp m p cz cy cv l cp cu cn (n++[(e1.Rows.length:Int)]) co (w (cl+v1)) (w (cc+1)) cd (w (i+1))=some r))))))))))))else(0<=(w ((l.length:Int)-1))/\(∃(e22:Zb),l[(w ((l.length:Int)-1)).toNat]?=some e22/\((Zfv e22=some (.tup [.agg [.t .nil,.t .nil],Bo false],[])/\(some (.tup [.agg [Bo true,I cl,I cc,.t .nil,.t .nil,.t .nil],.own 0,Bo true],[.arr 106 2 true (cu.map Kept.c)])=some r))\/(∃(v11:List Int),Zfv e22=some (.tup [.agg [.own 0,.t .nil],Bo true],[.arr 3 1 true (v11.map ic)])/\(some (.tup [.agg [Bo true,I cl,I cc,.t .nil,.own 0,.t .nil],.own 1,Bo true],[.arr 3 1 true (v11.map ic),.arr 106 2 true (cu.map Kept.c)])=some r))\/(∃(v12:List Int) (v13:List (List Int)),Zfv e22=some (.tup [.agg [.own 0,.own 1],Bo true],[.arr 3 1 true (v12.map ic),.arr 30 1 true (v13.map isc)])/\(some (.tup [.agg [Bo true,I cl,I cc,.t .nil,.own 0,.own 1],.own 2,Bo true],[.arr 3 1 true (v12.map ic),.arr 30 1 true (v13.map isc),.arr 106 2 true (cu.map Kept.c)])=some r))))))):Zhp m p cz cy cv l cp cu cn n co cl cc cd i=some r:=by
 unfold Zhp;rw[Zd Zrx.eq_1];simp only[Zld,Zk8,Zfq,Zi2,Zgj,Zho,Zck,Zk9,Zfv,Kept.c_def,Zi.c_def,Zk.c_def,Plan.c_def,Za.c_def,Zb.c_def,mpl,dfs]at h
 try simp only[itb]at h
 try simp only[itf,gS,kk]at h
 rcases h with⟨q1,q2,e1,⟨g3,q3⟩,q4,v,q5,(⟨q6,h⟩|⟨q6,v1,q7,v2,q8,(⟨q9,e5,⟨g10,q10⟩,v3,q11,(⟨q12,e7,⟨g13,q13⟩,(⟨q14,h⟩|⟨q14,h⟩)⟩|⟨q12,e8,⟨g15,q15⟩,(⟨q16,v4,q17,v5,q18,(⟨q19,h⟩|⟨q19,h⟩)⟩|⟨q16,h⟩)⟩)⟩|⟨q9,(⟨q20,e11,⟨g21,q21⟩,(⟨q22,e12,⟨g23,q23⟩,q24,e13,⟨g25,q25⟩,v6,q26,e15,⟨g27,q27⟩,v7,q28,v8,q29,h⟩|⟨q22,h⟩)⟩|⟨q20,e18,⟨g30,q30⟩,(⟨q31,e19,⟨g32,q32⟩,v9,q33,v10,q34,(⟨q35,h⟩|⟨q35,h⟩)⟩|⟨q31,h⟩)⟩)⟩)⟩)⟩|⟨q1,q36,e22,⟨g37,q37⟩,(⟨q39,h⟩|⟨v11,q40,h⟩|⟨v12,v13,q41,h⟩)⟩
 all_goals ((try simp only[appI]at *);refine Ya ?_ h;clear h;simp +decide[*,-List.map_append,-List.length_append,appI,appO,kk,tI,tII,Zhp,Z4i,Z4g,Z4h,Zdc,Zry])
theorem Zbh1{m:Zi}{p:Plan}{cz:Bool}{cy cv:Int}{l:List Zb}{cp:List Za}{cu:List Kept}{cn n:List Int}{co:Bool}{cl cc:Int}{x:List Zh}{cd i:Int}{r:AV×List Blk}(h:(if i<(l.length:Int)then(0<=i/\(∃(e1:Zb),l[i.toNat]?=some e1/\(n.length+1<=68719476736/\(∃(v:Bool),Zld cp cn i=some (Bo v,[])/\(if v=true then(Zdc m p cz cy cv l cp cu cn (n++[(e1.Rows.length:Int)]) co cl cc x cd (w (i+1))=some r)else(∃(v1:Int),Zk8 m p cp (n++[(e1.Rows.length:Int)]) i=some (I v1,[])/\(∃(v2:Bool),Zfq cn i=some (Bo v2,[])/\(if v2=true then(∃(e5:Int),(n++[(e1.Rows.length:Int)])[i.toNat]?=some e5/\(∃(v3:Int),Zi2 m e5=some (I v3,[])/\(if(w (cd-cl))<v3 then(∃(e7:Za),cp[i.toNat]?=some e7/\(if 0<=e7.Right then(some (.tup [.agg [Bo co,I cd,I cc,.own 0,.t .nil,.t .nil],.own 1,Bo true],[.arr 211 3 true (x.map Zh.c),.arr 106 2 true (cu.map Kept.c)])=some r)else(some (.tup [.agg [Bo co,I cd,I cc,.own 0,.t .nil,.t .nil],.own 1,Bo true],[.arr 211 3 true (x.map Zh.c),.arr 106 2 true (cu.map Kept.c)])=some r)))else(∃(e8:Za),cp[i.toNat]?=some e8/\(if 0<=e8.Right then(∃(v4:Int),Zgj e5=some (I v4,[])/\(x.length+1<=68719476736/\(∃(v5:List Kept),Zho cu (⟨e8.Mask,e5⟩:Kept)=some (.own 0,[.arr 106 2 true (v5.map Kept.c)])/\(if(v5.length:Int)<=8 then(Zdc m p cz cy cv l cp v5 cn (n++[(e1.Rows.length:Int)]) co (w (cl+v3)) (w (cc+1)) (x++[(⟨e8.Mask,v4,true⟩:Zh)]) cd (w (i+1))=some r)else(Zdc m p cz cy cv l cp cu cn (n++[(e1.Rows.length:Int)]) co (w (cl+v3)) (w (cc+1)) (x++[(⟨e8.Mask,v4,true⟩:Zh)]) cd (w (i+1))=some r)))))else(Zdc m p cz cy cv l cp cu cn (n++[(e1.Rows.length:Int)]) co (w (cl+v3)) (w (cc+1)) x cd (w (i+1))=some r))))))else(if(w (cd-cl))<v1 then(∃(e11:Za),cp[i.toNat]?=some e11/\(if 0<=e11.Right then(∃(e12:Zf),p.Steps[i.toNat]?=some e12/\(0<=e11.Left/\(∃(e13:Int),(n++[(e1.Rows.length:Int)])[e11.Left.toNat]?=some e13/\(∃(v6:Int),Zck e13=some (I v6,[])/\(∃(e15:Int),(n++[(e1.Rows.length:Int)])[e11.Right.toNat]?=some e15/\(∃(v7:Int),Zck e15=some (I v7,[])/\(∃(v8:Int),Zk9 m e12.Kind v6 v7 (w (cd-cl))=some (I v8,[])/\(x.length+1<=68719476736/\(some (.tup [.agg [Bo co,I cd,I cc,.own 0,.t .nil,.t .nil],.own 1,Bo true],[.arr 211 3 true ((x++[(⟨e11.Mask,v8,false⟩:Zh)]).map Zh.c),.arr 106 2 true (cu.map Kept.c)])=some r)))))))))else(some (.tup [.agg [Bo co,I cd,I cc,.own 0,.t .nil,.t .nil],.own 1,Bo true],[.arr 211 3 true (x.map Zh.c),.arr 106 2 true (cu.map Kept.c)])=some r)))else(∃(e18:Za),cp[i.toNat]?=some e18/\(if 0<=e18.Right then(∃(e19:Int),(n++[(e1.Rows.length:Int)])[i.toNat]?=some e19/\(∃(v9:Int),Zgj e19=some (I v9,[])/\(x.length+1<=68719476736/\(∃(v10:List Kept),Zho cu (⟨e18.Mask,e19⟩:Kept)=some (.own 0,[.arr 106 2 true (v10.map Kept.c)])/\(if(v10.length:Int)<=8 then(Zdc m p cz cy cv l cp v10 cn (n++[(e1.Rows.length:Int)]) co (w (cl+v1)) (w (cc+1)) (x++[(⟨e18.Mask,v9,true⟩:Zh)]) cd (w (i+1))=some r)else(Zdc m p cz cy cv l cp cu cn (n++[(e1.Rows.length:Int)]) co (w (cl+v1)) (w (cc+1)) (x++[(⟨e18.Mask,v9,true⟩:Zh)]) cd (w (i+1))=some r))))))else(Zdc m p cz cy cv l cp cu cn (n++[(e1.Rows.length:Int)]) co (w (cl+v1)) (w (cc+1)) x cd (w (i+1))=some r))))))))))))else(0<=(w ((l.length:Int)-1))/\(∃(e22:Zb),l[(w ((l.length:Int)-1)).toNat]?=some e22/\((Zfv e22=some (.tup [.agg [.t .nil,.t .nil],Bo false],[])/\(some (.tup [.agg [Bo true,I cl,I cc,.own 0,.t .nil,.t .nil],.own 1,Bo true],[.arr 211 3 true (x.map Zh.c),.arr 106 2 true (cu.map Kept.c)])=some r))\/(∃(v11:List Int),Zfv e22=some (.tup [.agg [.own 0,.t .nil],Bo true],[.arr 3 1 true (v11.map ic)])/\(some (.tup [.agg [Bo true,I cl,I cc,.own 0,.own 1,.t .nil],.own 2,Bo true],[.arr 211 3 true (x.map Zh.c),.arr 3 1 true (v11.map ic),.arr 106 2 true (cu.map Kept.c)])=some r))\/(∃(v12:List Int) (v13:List (List Int)),Zfv e22=some (.tup [.agg [.own 0,.own 1],Bo true],[.arr 3 1 true (v12.map ic),.arr 30 1 true (v13.map isc)])/\(some (.tup [.agg [Bo true,I cl,I cc,.own 0,.own 1,.own 2],.own 3,Bo true],[.arr 211 3 true (x.map Zh.c),.arr 3 1 true (v12.map ic),.arr 30 1 true (v13.map isc),.arr 106 2 true (cu.map Kept.c)])=some r))))))):Zdc m p cz cy cv l cp cu cn n co cl cc x cd i=some r:=by
 unfold Zdc;rw[Zd Zrx.eq_1];simp only[Zld,Zk8,Zfq,Zi2,Zgj,Zho,Zck,Zk9,Zfv,Kept.c_def,Zi.c_def,Zk.c_def,Plan.c_def,Za.c_def,Zb.c_def,mpl,dfs]at h
 try simp only[itb]at h
 try simp only[itf,gS,kk]at h
 rcases h with⟨q1,q2,e1,⟨g3,q3⟩,q4,v,q5,(⟨q6,h⟩|⟨q6,v1,q7,v2,q8,(⟨q9,e5,⟨g10,q10⟩,v3,q11,(⟨q12,e7,⟨g13,q13⟩,(⟨q14,h⟩|⟨q14,h⟩)⟩|⟨q12,e8,⟨g15,q15⟩,(⟨q16,v4,q17,q18,v5,q19,(⟨q20,h⟩|⟨q20,h⟩)⟩|⟨q16,h⟩)⟩)⟩|⟨q9,(⟨q21,e11,⟨g22,q22⟩,(⟨q23,e12,⟨g24,q24⟩,q25,e13,⟨g26,q26⟩,v6,q27,e15,⟨g28,q28⟩,v7,q29,v8,q30,q31,h⟩|⟨q23,h⟩)⟩|⟨q21,e18,⟨g32,q32⟩,(⟨q33,e19,⟨g34,q34⟩,v9,q35,q36,v10,q37,(⟨q38,h⟩|⟨q38,h⟩)⟩|⟨q33,h⟩)⟩)⟩)⟩)⟩|⟨q1,q39,e22,⟨g40,q40⟩,(⟨q42,h⟩|⟨v11,q43,h⟩|⟨v12,v13,q44,h⟩)⟩
 all_goals ((try simp only[appI]at *);refine Ya ?_ h;clear h;simp +decide[*,-List.map_append,-List.length_append,appI,appO,kk,tI,tII,Zdc,Z4i,Z4g,Z4h,Zry])
@[simp] theorem Zc2(a b c:Int):Zz a b c=some (Bo (inR a b c),[]):=by
 refine Zbvb ?_;by_cases h:b<=a<;>simp[inR,h]
@[simp] theorem Zdd(a b c:Int):Zbf a b c=some (Bo (inR a b c),[]):=by
 refine Zbw4 ?_;by_cases h:b<=a<;>simp[inR,h]
theorem lIndexI(xs:List Int)(v:Int)(hx:Le xs):∀i,i<=xs.length->
  Zpt xs v xs.length i=some (I (Zbe (λx=>decide (v=x)) (xs.drop i) i),[]):=by
 refine down _ ?_ ?_
 .refine Zbek ?_;simp[Zbe]
 .intro i hi ih;refine Zbek ?_;have h4:=Zbb (i:=i) (by omega);rw[Zh9 _ hi];simp at ih;by_cases e:v=xs[i]<;>simp[hi,h4,e,ih]
@[simp] theorem xIndexI(xs:List Int)(v:Int)(hx:Le xs):Zda xs v=some (I (Zbe (λx=>decide (v=x)) xs 0),[]):=by
 refine Zbvd ?_;have:=lIndexI xs v hx 0 (Yb _);simpa using this
@[simp] theorem Zle(xs:List Int)(v:Int)(hx:Le xs):Zeh xs v=some (Bo (has xs v),[]):=by
 refine Zbve ?_;unfold has;rcases tf (xs.any (λx=>decide (v=x)))with e|e
 .simp[hx,Zpm _ _ _ e,e]
 .have:=Ztv _ _ 0 e;simp[hx,this,e]
theorem lIndexB(xs:List Bool)(v:Bool)(hx:Le xs):∀i,i<=xs.length->
  Zpu xs v xs.length i=some (I (Zbe (λx=>v == x) (xs.drop i) i),[]):=by
 refine down _ ?_ ?_
 .refine Zbel ?_;simp[Zbe]
 .intro i hi ih;refine Zbel ?_;have h4:=Zbb (i:=i) (by omega);rw[Zh9 _ hi];simp at ih;by_cases e:v=xs[i]<;>simp[hi,h4,e,ih]
@[simp] theorem Zbzh(xs:List Bool)(v:Bool)(hx:Le xs):Zt5 xs v=some (Bo (xs.any (λx=>v == x)),[]):=by
 refine Zbvg ?_;have q:Zt4 xs v=some (I (Zbe (λx=>v == x) xs 0),[]):=by
  refine Zbvf ?_;have:=lIndexB xs v hx 0 (Yb _);simpa using this
 rcases tf (xs.any (λx=>v == x))with e|e
 .rw[Zpm _ _ _ e]at q;rw[e];simp[q]
 .have:=Ztv _ _ 0 e;rw[e];simp[q,this]
theorem l_l7Has(xs:List Int)(v:Int)(hx:Le xs):∀i,i<=xs.length->Zqo xs v i=some (Bo (has (xs.drop i) v),[]):=by
 unfold has;refine down _ ?_ ?_
 .refine Zbf6 ?_;simp
 .intro i hi ih;refine Zbf6 ?_;have h4:=Zbb (i:=i) (by omega);rw[drop_any _ hi];simp at ih;by_cases e:v=xs[i]
  .simp[hi,h4,<-e]
  .have e':¬xs[i]=v:=λhc=>e hc.symm
   simp[hi,h4,e,e',ih]
@[simp] theorem Zr3(xs:List Int)(v:Int)(hx:Le xs):Zfq xs v=some (Bo (has xs v),[]):=by
 refine Zbw6 ?_;have:=l_l7Has xs v hx 0 (Yb _);simpa using this
theorem nm_aux(s:ByteArray)(P:Prop):(if(s.size:Int)=1 then(∃(b1:UInt8),s[0]?=some b1/\(if 97<=(b1.toNat:Int)then(some (Bo (decide ((b1.toNat:Int)<=122)),[])=some (Bo (nmOk s),([]:List Blk)))else(some (Bo false,[])=some (Bo (nmOk s),([]:List Blk)))))else(some (Bo false,[])=some (Bo (nmOk s),([]:List Blk)))):=by
 by_cases h:s.size=1
 .obtain⟨b,hb⟩:=get0 h;rw[if_pos (by omega)];refine⟨b,hb,?_⟩;have e:nmOk s=(decide (97<=(b.toNat:Int)) && decide ((b.toNat:Int)<=122)):=by
   unfold nmOk;rw[hb];simp only[h,decide_true,Yx]
  by_cases h1:(97:Int)<=(b.toNat:Int)
  .rw[if_pos h1,e,decide_eq_true h1,Yx]
  .rw[if_neg h1,e,decide_eq_false h1,Ydn]
 .have h':¬(s.size:Int)=1:=by omega
  have:nmOk s=false:=by unfold nmOk;split<;>simp[h]
  simp[h',this]
@[simp] theorem x_nameOk(s:ByteArray):Zmb s=some (Bo (nmOk s),[]):=Zbvc (nm_aux s True)
@[simp] theorem x_l4Name(s:ByteArray):Zmx s=some (Bo (nmOk s),[]):=Zbw5 (nm_aux s True)
def LeQ(q:Ze):Prop:=Le q.Atoms/\∀a∈q.Atoms,Le a.Vars
def blB(p:Nat->Bool)(n:Nat):List Bool:=(List.range n).map p
theorem blB_set(p:Nat->Bool)(n:Nat){v:Int}(h:inR v 0 ((n:Int)-1)=true):(blB p n).set v.toNat true=blB (addV p [v]) n:=by
 simp[inR]at h;apply Ycz
 .simp[blB]
 .intro i h1 h2;simp only[blB,Ycy,Ybf,List.length_range]at h1;rw[List.getElem_set];simp only[blB,List.getElem_map,List.getElem_range];by_cases e:v.toNat=i
  .have:(i:Int)=v:=by omega
   simp[e,addV,has,this]
  .have:¬(i:Int)=v:=by omega
   simp[e,addV,has,this]
theorem Zbzi(q:Ze)(n:Nat)(hn:n<=4)(hq:q.Zm=n)(a:Atom)(qa:List Atom)(l j:Int)(hv:Le a.Vars)(r:AV×List Blk):∀k,k<=a.Vars.length->∀p,
  (if Zdo n (a.Vars.take k) (a.Vars.drop k)=true then Zjw q (blB (addV p (a.Vars.drop k)) n) qa l (w (j+1))=some r else some (Bo false,[])=some r)->
  Zpv q (blB p n) a qa l j a.Vars a.Vars.length k=some r:=by
 refine down _ ?_ ?_
 .intro p h;refine Zben ?_;simpa[Zdo,Zyz]using h
 .intro k hk ih p h;have h4:=Zbb (i:=k) (by omega);have hw:w (q.Zm-1)=(n:Int)-1:=by rw[hq];exact Zo (by omega) (by omega)
  have hl:=Zle (a.Vars.take k) a.Vars[k] (by simp;omega);refine Zben ?_;rw[Z9d _ hk]at h;rcases tf (inR a.Vars[k] 0 ((n:Int)-1))with e1|e1
  .simp[e1]at h;simp[hk,h4,hw,e1,<-h]
  .rcases tf (has (a.Vars.take k) a.Vars[k])with e2|e2
   .rw[Zy0 p hk]at h;simp only[e1,e2,Yx,Bool.not_false]at h;have ih:=ih _ h;have e0:=e1;simp[inR]at e0;have e5:(a.Vars[k]).toNat<(blB p n).length:=by simp[blB];omega
    have e6:=blB_set p n e1;have e7:k<=a.Vars.length:=by omega
    simp at ih;simp[hk,h4,hw,e1,e2,hl,e0,e5,e6,e7,ih]
   .simp[e1,e2]at h;have e7:k<=a.Vars.length:=by omega
    simp[hk,h4,hw,e1,e2,hl,e7,<-h]
theorem Zbzj(q:Ze)(n:Nat)(hn:n<=4)(hq:q.Zm=n)(qa:List Atom)(hl:Le qa)(hv:∀a∈qa,Le a.Vars):∀k,k<=qa.length->∀p,
  Zjw q (blB p n) qa qa.length k=some (Bo ((qa.drop k).all (Zch n) && (List.range n).all (addA p (qa.drop k))),[]):=by
 refine down _ ?_ ?_
 .intro p;refine Zbem ?_;have e:addA p []=p:=by funext u;simp[addA]
  have q1:=Zbzh (blB p n) false (by simp[blB];omega);have q2:(blB p n).any (λx=>false == x)=!(List.range n).all p:=bl_any p n;rw[q2]at q1;simp[q1,e]
 .intro k hk ih p;refine Zbem ?_;have h4:=Zbb (i:=k) (by omega);rw[Zyy _ hk];rcases tf (nmOk qa[k].Name)with e1|e1
  .simp[hk,e1,Zch]
  rcases tf (inR qa[k].Vars.length 1 3)with e2|e2
  .simp[hk,e1,e2,Zch]
  have b:=Zbzi q n hn hq qa[k] qa qa.length k (hv _ (Yd hk)) (Bo (Zch n qa[k] && (qa.drop (k+1)).all (Zch n) && (List.range n).all (addA p (qa.drop k))),[]) 0 (Yb _) p ?_
  .simp at b;simp[hk,e1,e2,b]
  .simp only[Ycc,Yj,Zch,e1,e2,Yx];rcases tf (Zdo n [] qa[k].Vars)with e3|e3
   .simp[e3]
   .have ih:=ih (addV p qa[k].Vars);simp only[e3,if_true,Yx,Z9e p hk];simp at ih;rw[show w ((k:Int)+1)=(k:Int)+1 from h4,ih]
@[simp] theorem Z40(q:Ze)(h:LeQ q):Zg9 q=some (Bo (Zw q.Zm q.Atoms),[]):=by
 refine Zbvn ?_;unfold Zw;rcases tf (inR q.Zm 1 4)with e1|e1
 .simp[e1]
 rcases tf (inR q.Atoms.length 1 4)with e2|e2
 .simp[e1,e2]
 have e0:=e1;simp[inR]at e0;have hn:q.Zm=(q.Zm.toNat:Int):=by omega
 have b:=Zbzj q q.Zm.toNat (by omega) hn q.Atoms h.1 h.2 0 (Yb _) (λ_=>false);have r1:q.Zm.toNat<=room:=room2 (by omega);have r2:q.Zm<=room:=by
  have:(q.Zm.toNat:Int)<=room:=by exact_mod_cast r1
  omega
 have r3:q.Zm<=140737488355328:=by omega
 have ez:blB (λ_=>false) q.Zm.toNat=List.replicate q.Zm.toNat false:=by
  apply Ycz<;>simp[blB]
 rw[ez,<-hn]at b;simp at b;simp[e1,e2,e0,r1,r2,r3,b];omega
theorem Zbzk(q:Ze)(n:Nat)(hn1:1<=n)(hn:n<=4)(hq:q.Zm=n)(a:Atom)(j:Int)(hv:Le a.Vars)(r:AV×List Blk):∀k,k<=a.Vars.length->∀p,
  (if Zdo n (a.Vars.take k) (a.Vars.drop k)=true then Zmy q (Zbk (addV p (a.Vars.drop k))) (w (j+1))=some r else some (Bo false,[])=some r)->
  Zqp q a (Zbk p) j k=some r:=by
 refine down _ ?_ ?_
 .intro p h;refine Zbf8 ?_;simpa[Zdo,Zyz]using h
 .intro k hk ih p h;have h4:=Zbb (i:=k) (by omega);have hw:w (q.Zm-1)=(n:Int)-1:=by rw[hq];exact Zo (by omega) (by omega)
  have hl:=Zr3 (a.Vars.take k) a.Vars[k] (by simp;omega);have e7:k<=a.Vars.length:=by omega
  refine Zbf8 ?_;rw[Z9d _ hk]at h;rcases tf (inR a.Vars[k] 0 ((n:Int)-1))with e1|e1
  .simp[e1]at h;simp[hk,h4,hw,e1,<-h]
  .rcases tf (has (a.Vars.take k) a.Vars[k])with e2|e2
   .rw[Zy0 p hk]at h;simp only[e1,e2,Yx,Bool.not_false]at h;have ih:=ih _ h;have e0:=e1;simp[inR]at e0;have e6:=or_bit p (v:=a.Vars[k]) (by simp[inR];omega);have e8:¬a.Vars[k]<0:=by omega
    simp at ih;simp[hk,h4,hw,e1,e2,hl,e0,e6,e7,e8,ih]
   .simp[e1,e2]at h;simp[hk,h4,hw,e1,e2,hl,e7,<-h]
def Zr4(n:Int)(p:Nat->Bool):Bool:=decide (Zbk p=w (shlI 1 n-1))
theorem Zbzl(q:Ze)(n:Nat)(hn1:1<=n)(hn:n<=4)(hq:q.Zm=n)(hl:Le q.Atoms)(hv:∀a∈q.Atoms,Le a.Vars):∀k,k<=q.Atoms.length->∀p,
  Zmy q (Zbk p) k=some (Bo ((q.Atoms.drop k).all (Zch n) && Zr4 n (addA p (q.Atoms.drop k))),[]):=by
 refine down _ ?_ ?_
 .intro p;refine Zbf7 ?_;have e:addA p []=p:=by funext u;simp[addA]
  have h0:¬(n:Int)<0:=by omega
  simp[e,hq,h0,Zr4]
 .intro k hk ih p;refine Zbf7 ?_;have h4:=Zbb (i:=k) (by omega);rw[Zyy _ hk];rcases tf (nmOk q.Atoms[k].Name)with e1|e1
  .simp[hk,e1,Zch]
  rcases tf (inR q.Atoms[k].Vars.length 1 3)with e2|e2
  .simp[hk,e1,e2,Zch]
  have b:=Zbzk q n hn1 hn hq q.Atoms[k] k (hv _ (Yd hk)) (Bo (Zch n q.Atoms[k] && (q.Atoms.drop (k+1)).all (Zch n) && Zr4 n (addA p (q.Atoms.drop k))),[]) 0 (Yb _) p ?_
  .simp at b;simp[hk,e1,e2,b]
  .simp only[Ycc,Yj,Zch,e1,e2,Yx];rcases tf (Zdo n [] q.Atoms[k].Vars)with e3|e3
   .simp[e3]
   .have ih:=ih (addV p q.Atoms[k].Vars);simp only[e3,if_true,Yx,Z9e p hk];simp at ih;rw[show w ((k:Int)+1)=(k:Int)+1 from h4,ih]
@[simp] theorem Zv9(q:Ze)(h:LeQ q):Zgf q=some (Bo (Zw q.Zm q.Atoms),[]):=by
 refine Zbw7 ?_;unfold Zw;rcases tf (inR q.Zm 1 4)with e1|e1
 .simp[e1]
 rcases tf (inR q.Atoms.length 1 4)with e2|e2
 .simp[e1,e2]
 have e0:=e1;simp[inR]at e0;obtain⟨k,hk⟩:∃k:Nat,q.Zm=k:=⟨q.Zm.toNat,by omega⟩;have b:=Zbzl q k (by omega) (by omega) hk h.1 h.2 0 (Yb _) (λ_=>false);have ez:Zbk (λ_=>false)=0:=rfl;rw[ez]at b;simp only[Yj,Int.ofNat_zero]at b;have e3:(q.Atoms.all (Zch k) && Zr4 k (addA (λ_=>false) q.Atoms))=(q.Atoms.all (Zch k) && (List.range k).all (addA (λ_=>false) q.Atoms)):=by
  rcases tf (q.Atoms.all (Zch k))with e3|e3
  .simp[e3]
  .have hk':k=1\/k=2\/k=3\/k=4:=by omega
   have hz:=all_in e3;have hz':∀u:Nat,k<=u->addA (λ_=>false) q.Atoms u=false:=λu hu=>by simp only[addA,Ydk];exact hz u (by omega)
   rw[e3,Yx,Yx,Yb8,Zr4,decide_eq_true_eq,Zbk];rcases hk' with rfl|rfl|rfl|rfl
   .simp[shlI,Zo,Ztw,hz' 1 (by omega),hz' 2 (by omega),hz' 3 (by omega),Yca]
   .simp[shlI,Zo,Ztw,hz' 2 (by omega),hz' 3 (by omega),Yca]
   .simp[shlI,Zo,Ztw,hz' 3 (by omega),Yca,and_assoc]
   .simp[shlI,Zo,Ztw,Yca,and_assoc]
 rw[e3]at b;rw[hk]at e1;simp only[Zdd,Ybk,Ybz,AV.t.injEq,T.bool.injEq,and_true,exists_eq_left',e1,e2,if_true,b,hk,Ye];simp
@[simp] theorem Zb7f(q:Ze)(h:LeQ q):Z3m q=some (I (fullM q.Zm q.Atoms),[]):=by
 refine Zbyt ?_;have q1:=Z40 q h;unfold fullM;rcases tf (Zw q.Zm q.Atoms)with e|e
 .simp[q1,e]
 .have:=(Z9f e).2.2.1;have h0:¬((q.Atoms.length:Int)<0):=by omega
  simp[q1,e,this,h0]
@[simp] theorem Zb7g(q:Ze)(h:LeQ q):Z3s q=some (I (fullM q.Zm q.Atoms),[]):=by
 refine Zbyx ?_;have q1:=Zv9 q h;unfold fullM;rcases tf (Zw q.Zm q.Atoms)with e|e
 .simp[q1,e]
 .have:=(Z9f e).2.2.1;have h0:¬((q.Atoms.length:Int)<0):=by omega
  simp[q1,e,this,h0]
theorem Zbzm(xs:List Int)(hx:Le xs):∀i,i<=xs.length->Zro xs i=some (Bo (Zjq (xs.drop i) && decide ((xs.length:Int)<=16)),[]):=by
 refine down _ ?_ ?_
 .refine Zbhl ?_;simp[Zjq]
 .intro i hi ih;refine Zbhl ?_;have h4:=Zbb (i:=i) (by omega);rw[Z9a hi];simp at ih;rcases tf (inR xs[i] 0 7)with h|h<;>simp[hi,h4,h,ih]
@[simp] theorem Zbh2(xs:List Int)(hx:Le xs):Zrn xs=some (Bo (Zgc xs),[]):=by
 refine Zbyu ?_;have:=Zbzm xs hx 0 (Yb _);simpa[Zgc]using this
theorem Zbzn(xs:List Int)(hx:Le xs):∀i,i<=xs.length->Zrl xs xs xs.length i=some (Bo (Zjq (xs.drop i) && decide ((xs.length:Int)<=16)),[]):=by
 refine down _ ?_ ?_
 .refine Zbhj ?_;simp[Zjq]
 .intro i hi ih;refine Zbhj ?_;have h4:=Zbb (i:=i) (by omega);rw[Z9a hi];simp at ih;rcases tf (inR xs[i] 0 7)with h|h<;>simp[hi,h4,h,ih]
@[simp] theorem Zbh3(xs:List Int)(hx:Le xs):Zrk xs=some (Bo (Zgc xs),[]):=by
 refine Zbyq ?_;have:=Zbzn xs hx 0 (Yb _);simpa[Zgc]using this
theorem Zbzo(xs ys:List Int)(hx:Le xs)(hl:ys.length=xs.length):∀i,i<=xs.length->Zrp xs ys i=some (Bo (Zg7 (xs.drop i) (ys.drop i)),[]):=by
 refine down _ ?_ ?_
 .refine Zbhm ?_;simp[Zg7]
 .intro i hi ih;refine Zbhm ?_;have hi2:i<ys.length:=by omega
  have h4:=Zbb (i:=i) (by omega);rw[Z9b hi hi2];simp at ih;by_cases h:xs[i]<ys[i]
  .simp[hi,hi2,h4,h,show ¬ys[i]<=xs[i] by omega]
  .simp[hi,hi2,h4,h,show ys[i]<=xs[i] by omega,ih]
@[simp] theorem Zbzp(xs ys:List Int)(hx:Le xs):Zvu xs ys=some (Bo (dom xs ys),[]):=by
 refine Zbyv ?_;by_cases hl:ys.length=xs.length
 .have:=Zbzo xs ys hx hl 0 (Yb _);simp at this;simp[hl,this,dom]
 .have h2:¬((xs.length:Int)=ys.length):=by omega
  have h1:¬(xs.length=ys.length):=by omega
  simp[h1,h2,dom]
theorem Zbzq(xs ys:List Int)(hx:Le xs)(hl:ys.length=xs.length):∀i,i<=xs.length->Zrm xs ys xs.length i=some (Bo (Zg7 (xs.drop i) (ys.drop i)),[]):=by
 refine down _ ?_ ?_
 .refine Zbhk ?_;simp[Zg7]
 .intro i hi ih;refine Zbhk ?_;have hi2:i<ys.length:=by omega
  have h4:=Zbb (i:=i) (by omega);rw[Z9b hi hi2];simp at ih;by_cases h:xs[i]<ys[i]
  .simp[hi,hi2,h4,h,show ¬ys[i]<=xs[i] by omega]
  .simp[hi,hi2,h4,h,show ys[i]<=xs[i] by omega,ih]
@[simp] theorem Zbzr(xs ys:List Int)(hx:Le xs):Zvt xs ys=some (Bo (dom xs ys),[]):=by
 refine Zbyr ?_;by_cases hl:ys.length=xs.length
 .have:=Zbzq xs ys hx hl 0 (Yb _);simp at this;simp[hl,this,dom]
 .have h2:¬((xs.length:Int)=ys.length):=by omega
  have h1:¬(xs.length=ys.length):=by omega
  simp[h1,h2,dom]
def LeX(b:Box):Prop:=Le b.Low/\Le b.High
@[simp] theorem Zb7h(b:Box)(h:LeX b):Z3l b=some (Bo (Ztu b.Low b.High),[]):=by
 refine Zbys ?_;have q1:=Zbh3 b.Low h.1;have q2:=Zbh3 b.High h.2;have q3:=Zbzr b.High b.Low h.2;unfold Ztu;rcases tf (Zgc b.Low)with e1|e1<;>rcases tf (Zgc b.High)with e2|e2<;>by_cases e3:0<b.Low.length<;>simp[q1,q2,q3,e1,e2,e3]
@[simp] theorem Zb7i(b:Box)(h:LeX b):Z3r b=some (Bo (Ztu b.Low b.High),[]):=by
 refine Zbyw ?_;have q1:=Zbh2 b.Low h.1;have q2:=Zbh2 b.High h.2;have q3:=Zbzp b.High b.Low h.2;unfold Ztu;rcases tf (Zgc b.Low)with e1|e1<;>rcases tf (Zgc b.High)with e2|e2<;>by_cases e3:0<b.Low.length<;>simp[q1,q2,q3,e1,e2,e3]
theorem l_vars0(q:Ze)(m:Int)(hl:Le q.Atoms)(hv:∀a∈q.Atoms,Le a.Vars)(v:Nat)(hv4:v<8)(out:List Int)(ho:out.length<=8)(r:AV×List Blk):∀i,i<=q.Atoms.length->
  Zia q (out++if hasV m (q.Atoms.drop i) i v=true then[(v:Int)]else[]) m (w ((v:Int)+1))=some r->
  Zmd q out m v q.Atoms q.Atoms.length i=some r:=by
 refine down _ ?_ ?_
 .intro h;refine Zbep ?_;simpa[hasV]using h
 .intro i hi ih h;refine Zbep ?_;have h4:=Zbb (i:=i) (by omega);have c1:=Zle q.Atoms[i].Vars v (hv _ (Yd hi));have h0:¬(i:Int)<0:=by omega
  rw[Z9g _ hi]at h;by_cases e1:andI (shrI m i) 1=1
  .have e2:Zce m i=true:=by simp[Zce,e1]
   rcases tf (has q.Atoms[i].Vars v)with e3|e3
   .simp[e2,e3]at h;have ih:=ih (by simpa using h);simp at ih;simp[hi,h4,h0,e1,c1,e3,ih]
   .simp[e2,e3]at h;have e4:out.length+1<=68719476736:=by omega
    simp[hi,h4,h0,e1,c1,e3,e4,h]
  .have e2:Zce m i=false:=by simp[Zce,e1]
   simp[e2]at h;have ih:=ih (by simpa using h);simp at ih;simp[hi,h4,h0,e1,ih]
theorem l_vars1(q:Ze)(m:Int)(hl:Le q.Atoms)(hv:∀a∈q.Atoms,Le a.Vars)(n:Nat)(hq:q.Zm=n)(hn:n<=4):∀k,k<=n->
  Zia q (varL m q.Atoms k) m k=some (.own 0,[.arr Zb1 1 true ((varL m q.Atoms n).map ic)]):=by
 refine down _ ?_ ?_
 .refine Zbeo ?_;simp[hq]
 .intro k hk ih;refine Zbeo ?_;have h4:=Zbb (i:=k) (by omega)
  have b:=l_vars0 q m hl hv k (by omega) (varL m q.Atoms k) (by have:=Zl8 m q.Atoms k;omega) _ 0 (Yb _) (by
   rw[Yj,<-Zbpm,show w ((k:Int)+1)=(k:Int)+1 from h4];simpa using ih)
  simp at b;simp[hq,hk,b]
@[simp] theorem Z41(q:Ze)(m:Int)(h:LeQ q)(hv:Zw q.Zm q.Atoms=true):Zmc q m=some (.own 0,[.arr Zb1 1 true ((varL m q.Atoms q.Zm.toNat).map ic)]):=by
 refine Zbvh ?_;have hn:=Zjr hv;have b:=l_vars1 q m h.1 h.2 q.Zm.toNat (by omega) (by omega) 0 (Yb _);simpa[varL]using b
theorem l_both(b xs:List Int)(hb:Le b)(hx:xs.length<=1000000):∀i,i<=xs.length->
  Zme ((xs.take i).filter (has b)) b xs xs.length i=some (.own 0,[.arr Zb1 1 true ((xs.filter (has b)).map ic)]):=by
 refine down _ ?_ ?_
 .refine Zbeq ?_;simp
 .intro i hi ih;refine Zbeq ?_;have h4:=Zbb (i:=i) (by omega);have c1:=Zle b xs[i] hb;have e4:((xs.take i).filter (has b)).length+1<=68719476736:=by
   have:=Ycb (has b) (xs.take i);simp at this;omega
  rw[Zbpn _ hi]at ih;rcases tf (has b xs[i])with e|e
  .simp[e]at ih;simp[hi,h4,c1,e,ih]
  .simp[e]at ih;simp[hi,h4,c1,e,e4,ih]
@[simp] theorem x_both(xs b:List Int)(hb:Le b)(hx:xs.length<=1000000):Zub xs b=some (.own 0,[.arr Zb1 1 true ((xs.filter (has b)).map ic)]):=by
 refine Zbvi ?_;have:=l_both b xs hb hx 0 (Yb _);simpa using this
theorem l_bits0(q:Ze)(m:Int)(hv:∀a∈q.Atoms,Le a.Vars)(h4v:Var4 q.Atoms)(i:Nat)(hi:i<q.Atoms.length)(hm:Zce m i=true)(r:AV×List Blk):∀k,k<=q.Atoms[i].Vars.length->∀p,
  Zkn q m (Zbk (addV p (q.Atoms[i].Vars.drop k))) (w ((i:Int)+1))=some r->Zmz q m (Zbk p) i k=some r:=by
 have e1:andI (shrI m i) 1=1:=by simpa[Zce]using hm
 have h0:¬(i:Int)<0:=by omega
 have ha:=Yd hi;refine down _ ?_ ?_
 .intro p h;refine Z4r ?_;rw[Ym,Zyz]at h;simp[hi,h]
 .intro k hk ih p h;refine Z4r ?_;have h4:=Zbb (i:=k) (by have:=hv _ ha;omega);have e6:=or_bit p (v:=q.Atoms[i].Vars[k]) (h4v _ ha _ (Yd hk));have e7:=h4v _ ha _ (Yd hk);simp[inR]at e7;have e8:¬q.Atoms[i].Vars[k]<0:=by omega
  rw[Zy0 p hk]at h;have ih:=ih _ h;simp at ih;simp[hi,hk,h0,e1,h4,e6,e7,e8,ih]
theorem l_bits1(q:Ze)(m:Int)(hl:Le q.Atoms)(hv:∀a∈q.Atoms,Le a.Vars)(h4v:Var4 q.Atoms):∀i,i<=q.Atoms.length->∀p,
  Zkn q m (Zbk p) i=some (I (Zbk (addM m p q.Atoms i)),[]):=by
 refine down _ ?_ ?_
 .intro p;refine Zbf9 ?_;have e:addM m p q.Atoms q.Atoms.length=p:=by funext u;simp[addM,hasV]
  simp[e]
 .intro i hi ih p;refine Zbf9 ?_;have h4:=Zbb (i:=i) (by omega);have h0:¬(i:Int)<0:=by omega
  rw[Zbpl m p hi];rcases tf (Zce m i)with e|e
  .have e1:¬andI (shrI m i) 1=1:=by simpa[Zce]using e
   have ih:=ih p;simp at ih;have b:Zmz q m (Zbk p) i 0=some (I (Zbk (addM m p q.Atoms (i+1))),[]):=by
    refine Z4r ?_;simp[hi,h0,e1,h4,ih]
   simp[hi,e,b]
  .have ih:=ih (addV p q.Atoms[i].Vars);have b:=l_bits0 q m hv h4v i hi e _ 0 (Yb _) p (by rw[Yj,show w ((i:Int)+1)=(i:Int)+1 from h4];simpa using ih);simp at b;simp[hi,e,b]
@[simp] theorem Zwa(q:Ze)(m:Int)(h:LeQ q)(h4v:Var4 q.Atoms):Zei q m=some (I (Zbk (pV m q.Atoms)),[]):=by
 refine Zbw8 ?_;have b:=l_bits1 q m h.1 h.2 h4v 0 (Yb _) (λ_=>false);have ez:Zbk (λ_=>false)=0:=rfl;have e:addM m (λ_=>false) q.Atoms 0=pV m q.Atoms:=by funext u;simp[addM,pV]
 rw[ez,e]at b;simpa using b
theorem Zbzs(q:Ze)(hq:LeQ q)(h:Zw q.Zm q.Atoms=true)(x:Zf)(info:List Za)(st:List Int)(hs:StOk info st)(hil:info.length<=100)(hst:st.length<=100) :
  match Zc9 q.Atoms x info st with
  |some y=>Zmf q x info st=some (.tup [.agg (y.c.map .t),Bo true],[])
  |none=>∃y:Za,Zmf q x info st=some (.tup [.agg (y.c.map .t),Bo false],[]):=by
 have hl:=Zgd h;have wl:w ((q.Atoms.length:Int)-1)=(q.Atoms.length:Int)-1:=Zo (by omega) (by omega);unfold Zc9;by_cases k1:x.Kind=1
 .rw[if_pos k1];by_cases c1:inR x.Atom 0 (q.Atoms.length-1)=true/\x.Order=0
  .rw[if_pos c1];have c2:=c1.1;simp[inR]at c2;have hlt:x.Atom.toNat<q.Atoms.length:=by omega
   have hv:=Zpn h _ (Yd hlt);have h0:¬x.Atom<0:=by omega
   simp only;refine Zi3 ?_;have e:q.Atoms[x.Atom.toNat].Vars.headD 0=q.Atoms[x.Atom.toNat].Vars[0]'(by omega):=by
    rw[Yd2,hd0 (by omega)]
   rw[Yd2]at e;simp[k1,wl,c1,h0,hlt,c2,e,show 0<q.Atoms[x.Atom.toNat].Vars.length by omega]
  .rw[if_neg c1];refine⟨⟨0,-1,-1,-1⟩,Zi3 ?_⟩;rcases tf (inR x.Atom 0 (q.Atoms.length-1))with e|e
   .simp[k1,wl,e]
   .have e2:¬x.Order=0:=λhc=>c1 ⟨e,hc⟩
    simp[k1,wl,e,e2]
 rw[if_neg k1];by_cases k0:x.Atom=0
 rotate_left
 .rw[if_pos k0];exact⟨⟨0,-1,-1,-1⟩,Zi3 (by simp[k1,k0])⟩
 rw[if_neg (by simpa using k0)];have w1:w ((st.length:Int)-1)=(st.length:Int)-1:=Zo (by omega) (by omega);have w2:w ((st.length:Int)-2)=(st.length:Int)-2:=Zo (by omega) (by omega);by_cases k2:x.Kind=2
 .rw[if_pos k2];by_cases n1:st.length<1
  .have:Zdp st info 1=none:=by unfold Zdp;rw[if_neg (by omega)]
   rw[this];have n1':(st.length:Int)<1:=by omega
   exact⟨⟨0,-1,-1,-1⟩,Zi3 (by simp[k1,k2,k0,n1'])⟩
  .have n1':¬(st.length:Int)<1:=by omega
   obtain⟨s,y,t1,t2,t3,t4⟩:=Zjs hs (by omega:1<=1) (by omega:1<=st.length);have z1:(0:Int)<=(st.length:Int)-1:=by omega
   have z5:(1:Int)<=(st.length:Int):=by omega
   have z2:((st.length:Int)-1).toNat=st.length-1:=by omega
   have q1:=Z41 q y.Mask hq h;have q2:=Zle (varL y.Mask q.Atoms q.Zm.toNat) x.Order (by have:=Zl8 y.Mask q.Atoms q.Zm.toNat;have:=Zjr h;omega);rw[Zl9 h]at q2;rw[t1];simp only;by_cases c1:vin q.Atoms y.Mask x.Order=true/\y.Order≠x.Order
   .rw[if_pos c1];refine Zi3 ?_;simp[k1,k2,k0,n1',w1,z1,z2,z5,t2,t3,t4,q1,q2,c1]
   .rw[if_neg c1];refine⟨⟨0,-1,-1,-1⟩,Zi3 ?_⟩;rcases tf (vin q.Atoms y.Mask x.Order)with e|e
    .simp[k1,k2,k0,n1',w1,z1,z2,z5,t2,t3,t4,q1,q2,e]
    .have e2:y.Order=x.Order:=Decidable.byContradiction λhc=>c1 ⟨e,hc⟩
     simp[k1,k2,k0,n1',w1,z1,z2,z5,t2,t3,t4,q1,q2,e,e2]
 rw[if_neg k2];by_cases n2:st.length<2
 .have:Zdp st info 2=none:=by unfold Zdp;rw[if_neg (by omega)]
  rw[this];have n2':(st.length:Int)<2:=by omega
  exact⟨⟨0,-1,-1,-1⟩,Zi3 (by simp[k1,k2,k0,n2'])⟩
 have n2':¬(st.length:Int)<2:=by omega
 obtain⟨s,y,t1,t2,t3,t4⟩:=Zjs hs (by omega:1<=2) (by omega:2<=st.length);obtain⟨t,z,u1,u2,u3,u4⟩:=Zjs hs (by omega:1<=1) (by omega:1<=st.length);have z1:(0:Int)<=(st.length:Int)-1:=by omega
 have z2:((st.length:Int)-1).toNat=st.length-1:=by omega
 have z3:(0:Int)<=(st.length:Int)-2:=by omega
 have z4:((st.length:Int)-2).toNat=st.length-2:=by omega
 have hn:=Zjr h;have q1:=Z41 q y.Mask hq h;have q2:=Z41 q z.Mask hq h;have l1:=Zl8 y.Mask q.Atoms q.Zm.toNat;have l2:=Zl8 z.Mask q.Atoms q.Zm.toNat;have q3:=x_both (varL y.Mask q.Atoms q.Zm.toNat) (varL z.Mask q.Atoms q.Zm.toNat) (by omega) (by omega)
 have q4:=Zle ((varL y.Mask q.Atoms q.Zm.toNat).filter (has (varL z.Mask q.Atoms q.Zm.toNat))) x.Order (by
  have:=Ycb (has (varL z.Mask q.Atoms q.Zm.toNat)) (varL y.Mask q.Atoms q.Zm.toNat);omega)
 rw[Zbpp h]at q4;have q5:=Zbpo h y.Mask z.Mask;generalize hS:(varL y.Mask q.Atoms q.Zm.toNat).filter (has (varL z.Mask q.Atoms q.Zm.toNat))=S at q3 q4 q5;rw[t1,u1];simp only
 have base:∀(r:AV×List Blk),(if andI y.Mask z.Mask=0 then
    if((S.length:Int)=0)then some (.tup [.agg [I (orI y.Mask z.Mask),I (-1),I s,I t],Bo false],[])=some r
    else if x.Kind=3 then some (.tup [.agg [I (orI y.Mask z.Mask),I (-1),I s,I t],Bo (decide (x.Order=0))],[])=some r
    else if x.Kind=5 then some (.tup [.agg [I (orI y.Mask z.Mask),I y.Order,I s,I t],Bo (decide (x.Order=0))],[])=some r
    else if x.Kind=4 then
     if(vin q.Atoms y.Mask x.Order && vin q.Atoms z.Mask x.Order)=true then
      if y.Order=x.Order then some (.tup [.agg [I (orI y.Mask z.Mask),I x.Order,I s,I t],Bo (decide (z.Order=x.Order))],[])=some r
      else some (.tup [.agg [I (orI y.Mask z.Mask),I x.Order,I s,I t],Bo false],[])=some r
     else some (.tup [.agg [I (orI y.Mask z.Mask),I x.Order,I s,I t],Bo false],[])=some r
    else some (.tup [.agg [I (orI y.Mask z.Mask),I (-1),I s,I t],Bo false],[])=some r
   else some (.tup [.agg [I (orI y.Mask z.Mask),I (-1),I s,I t],Bo false],[])=some r)->Zmf q x info st=some r:=by
  intro r hr;refine Zi3 ?_;simp only[k1,k0,k2,if_false,if_true,n2',w1,w2,z1,z2,z3,z4,t2,t3,t4,u2,u3,u4,q1,q2,true_and,Ybk,exists_eq_left'];refine⟨_,rfl,_,rfl,S,?_,?_⟩
  .simpa using q3
  .simp only[q4,Ybk,Ybz,AV.t.injEq,T.bool.injEq,and_true,exists_eq_left'];simpa using hr
 by_cases c1:andI y.Mask z.Mask=0/\shr q.Atoms y.Mask z.Mask=true
 rotate_left
 .rw[if_neg c1];refine⟨⟨orI y.Mask z.Mask,-1,s,t⟩,base _ ?_⟩;by_cases c2:andI y.Mask z.Mask=0
  .have c3:S.length=0:=q5.2 (by rcases tf (shr q.Atoms y.Mask z.Mask)with e|e;exact e;exact absurd ⟨c2,e⟩ c1);have c4:(S.length:Int)=0:=by omega
   rw[if_pos c2,if_pos c4];simp
  .rw[if_neg c2];simp
 rw[if_pos c1];have c4:¬(S.length:Int)=0:=λhc=>by
  have:=q5.1 (by omega);rw[c1.2]at this;cases this
 have c5:¬S=[]:=λhc=>c4 (by simp[hc])
 unfold Zeg;by_cases j1:x.Kind=3/\x.Order=0
 .rw[if_pos j1];exact base _ (by simp[c1.1,c4,c5,j1])
 rw[if_neg j1];by_cases j2:x.Kind=5/\x.Order=0
 .rw[if_pos j2];exact base _ (by simp[c1.1,c4,c5,j2])
 rw[if_neg j2];by_cases j3:x.Kind=4/\vin q.Atoms y.Mask x.Order=true/\vin q.Atoms z.Mask x.Order=true/\y.Order=x.Order/\z.Order=x.Order
 .rw[if_pos j3];exact base _ (by simp[c1.1,c4,c5,j3])
 rw[if_neg j3];simp only[Option.map_none];by_cases k3:x.Kind=3
 .have e:¬x.Order=0:=λhc=>j1 ⟨k3,hc⟩
  exact⟨⟨orI y.Mask z.Mask,-1,s,t⟩,base _ (by simp[c1.1,c4,c5,k3,e])⟩
 by_cases k5:x.Kind=5
 .have e:¬x.Order=0:=λhc=>j2 ⟨k5,hc⟩
  exact⟨⟨orI y.Mask z.Mask,y.Order,s,t⟩,base _ (by simp[c1.1,c4,c5,k5,e])⟩
 by_cases k4:x.Kind=4
 .refine⟨⟨orI y.Mask z.Mask,x.Order,s,t⟩,base _ ?_⟩;rcases tf (vin q.Atoms y.Mask x.Order)with e1|e1<;>rcases tf (vin q.Atoms z.Mask x.Order)with e2|e2<;>by_cases e3:y.Order=x.Order<;>simp[c1.1,c4,c5,k4,e1,e2,e3];exact λe4=>j3 ⟨k4,e1,e2,e3,e4⟩
 .exact⟨⟨orI y.Mask z.Mask,-1,s,t⟩,base _ (by simp[c1.1,c4,c5,k3,k4,k5])⟩
@[simp] theorem Zwb(b v:Int):Zko b v=some (Bo (inR v 0 3 && decide (andI (shrI b v) 1=1)),[]):=by
 refine Zbw9 ?_;rcases tf (inR v 0 3)with e|e
 .simp[e]
 .have e0:=e;simp[inR]at e0;have:¬v<0:=by omega
  simp[e,this]
def Zbn(x:Zf):Option Za->AV×List Blk
 |some y=>(.tup [.agg (y.c.map .t),I (popsI x)],[])
 |none=>(.tup [.agg [I 0,I 0,I 0,I 0],I (-1)],[])
theorem Zbzt(q:Ze)(hq:LeQ q)(h:Zw q.Zm q.Atoms=true)(x:Zf)(info:List Za)(st:List Int)(hs:StOk info st)(hil:info.length<=100)(hst:st.length<=100) :
  Zkp q x info st=some (Zbn x (Zc9 q.Atoms x info st)):=by
 have hl:=Zgd h;have wl:w ((q.Atoms.length:Int)-1)=(q.Atoms.length:Int)-1:=Zo (by omega) (by omega);unfold Zc9;by_cases k1:x.Kind=1
 .rw[if_pos k1];by_cases c1:inR x.Atom 0 (q.Atoms.length-1)=true/\x.Order=0
  .rw[if_pos c1];have c2:=c1.1;simp[inR]at c2;have hlt:x.Atom.toNat<q.Atoms.length:=by omega
   have hv:=Zpn h _ (Yd hlt);have h0:¬x.Atom<0:=by omega
   refine Zgn ?_;have e:q.Atoms[x.Atom.toNat].Vars.headD 0=q.Atoms[x.Atom.toNat].Vars[0]'(by omega):=by
    rw[Yd2,hd0 (by omega)]
   rw[Yd2]at e;simp[k1,wl,c1,h0,hlt,c2,e,Zbn,popsI,show 0<q.Atoms[x.Atom.toNat].Vars.length by omega]
  .rw[if_neg c1];refine Zgn ?_;rcases tf (inR x.Atom 0 (q.Atoms.length-1))with e|e
   .simp[k1,wl,e,Zbn]
   .have e2:¬x.Order=0:=λhc=>c1 ⟨e,hc⟩
    simp[k1,wl,e,e2,Zbn]
 rw[if_neg k1];have w1:w ((st.length:Int)-1)=(st.length:Int)-1:=Zo (by omega) (by omega);have w2:w ((st.length:Int)-2)=(st.length:Int)-2:=Zo (by omega) (by omega);by_cases k0:x.Atom=0
 rotate_left
 .rw[if_pos k0];refine Zgn ?_;have j:∀b,Zkq q x ⟨0,0,0,0⟩ info st st.length x.Kind b=some (Zbn x none):=by
   intro b;refine Zr1 ?_;cases b<;>simp[k0,Zbn]
  by_cases k2:x.Kind=2
  .simp[k1,k2,k0,Zbn]
  .by_cases k3:x.Kind=3<;>by_cases k4:x.Kind=4<;>simp[k1,k2,k0,k3,k4,j]<;>first|(simp only[k3]at j;simp[j,Zbn])|(simp only[k4]at j;simp[j,Zbn])|simp[Zbn]
 rw[if_neg (by simpa using k0)];by_cases k2:x.Kind=2
 .rw[if_pos k2];refine Zgn ?_;by_cases n1:st.length<1
  .have:Zdp st info 1=none:=by unfold Zdp;rw[if_neg (by omega)]
   rw[this];have n1':(st.length:Int)<1:=by omega
   simp[k1,k2,k0,n1',Zbn]
  .have n1':¬(st.length:Int)<1:=by omega
   obtain⟨s,y,t1,t2,t3,t4⟩:=Zjs hs (by omega:1<=1) (by omega:1<=st.length);have z1:(0:Int)<=(st.length:Int)-1:=by omega
   have z5:(1:Int)<=(st.length:Int):=by omega
   have z2:((st.length:Int)-1).toNat=st.length-1:=by omega
   have q1:=Zwa q y.Mask hq (Zpo h);have q2:(inR x.Order 0 3 && decide (andI (shrI (Zbk (pV y.Mask q.Atoms)) x.Order) 1=1))=vin q.Atoms y.Mask x.Order:=by
    unfold vin;rcases tf (inR x.Order 0 3)with e|e
    .simp[e]
    .rw[e,Yx,Yx,Yb8,decide_eq_true_eq];exact at_bit _ e
   rw[t1];simp only;by_cases e2:y.Order=x.Order
   .simp[k1,k2,k0,n1',w1,z1,z2,z5,t2,t3,t4,e2,Zbn]
   .rcases tf (vin q.Atoms y.Mask x.Order)with e|e
    .simp only[k1,k2,k0,n1',w1,z1,z2,t2,t3,t4,q1,Zwb,q2,e,e2,if_false,if_true,true_and,Ybk,exists_eq_left',Ybz,AV.t.injEq,T.int.injEq,T.bool.injEq,and_true];simp[Zbn]
    .simp only[k1,k2,k0,n1',w1,z1,z2,t2,t3,t4,q1,Zwb,q2,e,e2,if_false,if_true,true_and,Ybk,exists_eq_left',Ybz,AV.t.injEq,T.int.injEq,T.bool.injEq,and_true];simp[Zbn,popsI,k1,k2,e2]
 rw[if_neg k2]
 -- a join
 have q0:∀(b:Za) (c:Za) (y:Za) (f:Bool),x.Kind=4->∀m1 m2,Zit q x ⟨0,0,0,0⟩ b c y (andI (Zbk (pV m1 q.Atoms)) (Zbk (pV m2 q.Atoms))) f =
   if vin q.Atoms m1 x.Order=true/\vin q.Atoms m2 x.Order=true/\b.Order=x.Order/\c.Order=x.Order then some (.tup [.agg [I y.Mask,I x.Order,I y.Left,I y.Right],I 2],[])else some (Zbn x none):=by
  intro b c y f k4 m1 m2;have e:(inR x.Order 0 3 && decide (andI (shrI (andI (Zbk (pV m1 q.Atoms)) (Zbk (pV m2 q.Atoms))) x.Order) 1=1))=(vin q.Atoms m1 x.Order && vin q.Atoms m2 x.Order):=by
   unfold vin;rcases tf (inR x.Order 0 3)with e|e
   .simp[e]
   .rw[e,Yx,Yx,Yx,Yb8,decide_eq_true_eq,Z9c];simpa using at_bit (λu=>pV m1 q.Atoms u && pV m2 q.Atoms u) e
  split
  .rename_i hc;refine Z4s ?_;simp only[Zwb,e,hc];simp[k4]
  .rename_i hc;refine Z4s ?_;simp only[Zwb,e];rcases tf (vin q.Atoms m1 x.Order)with e1|e1<;>rcases tf (vin q.Atoms m2 x.Order)with e2|e2<;>by_cases e3:b.Order=x.Order<;>by_cases e4:c.Order=x.Order<;>simp[k4,e1,e2,e3,e4,Zbn];exact hc ⟨e1,e2,e3,e4⟩
 have q3:∀(b:Za) (c:Za) (y:Za) (v:Int) (f:Bool),x.Kind≠4->Zit q x ⟨0,0,0,0⟩ b c y v f=some (.tup [.agg (y.c.map .t),I 2],[]):=by
  intro b c y v f k4;exact Z4s (by simp[k4])
 have q5:∀(b:Za) (c:Za) (y:Za) (v:Int),x.Kind≠4->Zkr q x ⟨0,0,0,0⟩ b c y v=some (.tup [.agg (y.c.map .t),I 2],[]):=by
  intro b c y v k4;exact Zbxa (by simp[k4])
 by_cases kk:x.Kind=3\/x.Kind=4\/x.Kind=5
 rotate_left
 .have k3:¬x.Kind=3:=λhc=>kk (.inl hc)
  have k4:¬x.Kind=4:=λhc=>kk (.inr (.inl hc))
  have k5:¬x.Kind=5:=λhc=>kk (.inr (.inr hc))
  have hj:∀y z,Zeg q.Atoms x y z=none:=by intro y z;simp[Zeg,k3,k4,k5]
  refine Ya (b:=some (Zbn x none)) (Zgn (by simp[k1,k2,k3,k4,k5,Zbn])) ?_;simp only[hj,Option.map_none,ite_self];split<;>rfl
 have k5':x.Kind≠3->x.Kind≠4->x.Kind=5:=λa b=>by rcases kk with h|h|h;exact absurd h a;exact absurd h b;exact h
 have red:∀r,Zkq q x ⟨0,0,0,0⟩ info st st.length x.Kind true=some r->(x.Kind=5->Zkp q x info st=some r)->Zkp q x info st=some r:=by
  intro r hr h5;by_cases k5:x.Kind=5
  .exact h5 k5
  .refine Zgn ?_;by_cases k3:x.Kind=3
   .rw[if_neg k1,if_neg k2,if_pos k3];exact hr
   .by_cases k4:x.Kind=4
    .rw[if_neg k1,if_neg k2,if_neg k3,if_pos k4];exact hr
    .exact absurd (k5' k3 k4) k5
 by_cases n2:st.length<2
 .have:Zdp st info 2=none:=by unfold Zdp;rw[if_neg (by omega)]
  rw[this];have n2':(st.length:Int)<2:=by omega
  refine red _ ?_ ?_
  .exact Zr1 (by simp[k0,n2',Zbn])
  .intro k5;exact Zgn (by simp[k5,k0,n2',Zbn])
 have n2':¬(st.length:Int)<2:=by omega
 obtain⟨s,y,t1,t2,t3,t4⟩:=Zjs hs (by omega:1<=2) (by omega:2<=st.length);obtain⟨t,z,u1,u2,u3,u4⟩:=Zjs hs (by omega:1<=1) (by omega:1<=st.length);have z1:(0:Int)<=(st.length:Int)-1:=by omega
 have z2:((st.length:Int)-1).toNat=st.length-1:=by omega
 have z3:(0:Int)<=(st.length:Int)-2:=by omega
 have z4:((st.length:Int)-2).toNat=st.length-2:=by omega
 have b1:=Zwa q y.Mask hq (Zpo h);have b2:=Zwa q z.Mask hq (Zpo h);have b3:=shr_bits q.Atoms y.Mask z.Mask;rw[t1,u1];simp only;by_cases c1:andI y.Mask z.Mask=0
 rotate_left
 .rw[if_neg (λhc=>c1 hc.1)];refine red _ ?_ ?_
  .refine Zr1 ?_;simp only[k0,n2',w1,w2,z1,z2,z3,z4,t2,t3,t4,u2,u3,u4,b1,b2,c1,if_true,if_false,true_and,Ybk,exists_eq_left',Ybz,AV.t.injEq,T.int.injEq,and_true];simp[Zbn]
  .intro k5;refine Zgn ?_;simp only[k5,k0,n2',w1,w2,z1,z2,z3,z4,t2,t3,t4,u2,u3,u4,b1,b2,c1,if_true,if_false,true_and,Ybk,exists_eq_left',Ybz,AV.t.injEq,T.int.injEq,and_true];simp[Zbn]
 rcases tf (shr q.Atoms y.Mask z.Mask)with c2|c2
 .rw[if_neg (λhc=>by rw[hc.2]at c2;cases c2)];have c3:=b3.2 c2;refine red _ ?_ ?_
  .refine Zr1 ?_;simp only[k0,n2',w1,w2,z1,z2,z3,z4,t2,t3,t4,u2,u3,u4,b1,b2,c1,c3,if_true,if_false,true_and,Ybk,exists_eq_left',Ybz,AV.t.injEq,T.int.injEq,and_true];simp[Zbn]
  .intro k5;refine Zgn ?_;simp only[k5,k0,n2',w1,w2,z1,z2,z3,z4,t2,t3,t4,u2,u3,u4,b1,b2,c1,c3,if_true,if_false,true_and,Ybk,exists_eq_left',Ybz,AV.t.injEq,T.int.injEq,and_true];simp[Zbn]
 rw[if_pos ⟨c1,c2⟩];have c3:¬andI (Zbk (pV y.Mask q.Atoms)) (Zbk (pV z.Mask q.Atoms))=0:=λhc=>by rw[b3.1 hc]at c2;cases c2
 have p2:popsI x=2:=by unfold popsI;rw[if_neg k1,if_neg k2]
 refine red _ ?_ ?_
 .refine Zr1 ?_;simp only[k0,n2',w1,w2,z1,z2,z3,z4,t2,t3,t4,u2,u3,u4,b1,b2,c1,c3,if_true,if_false,true_and,Ybk,exists_eq_left',Ybz,AV.t.injEq,T.int.injEq,and_true];by_cases k4:x.Kind=4
  .have k3:¬x.Kind=3:=by omega
   have k5:¬x.Kind=5:=by omega
   rw[if_pos k4,q0 _ _ _ _ k4];simp only[Zeg,k3,k4,k5,false_and,true_and,if_false];split
   .rename_i hc;simp[Zbn,p2]
   .rfl
  .by_cases e:x.Order=0
   .by_cases k5:x.Kind=5
    .rw[if_neg k4,if_pos e,if_pos k5,q5 _ _ _ _ k4];simp[Zeg,k5,e,Zbn,p2]
    .have k3:x.Kind=3:=by omega
     rw[if_neg k4,if_pos e,if_neg k5,q3 _ _ _ _ _ k4];simp[Zeg,k3,e,Zbn,p2]
   .rw[if_neg k4,if_neg e];simp[Zeg,k4,e,Zbn]
 .intro k5;refine Zgn ?_;have k4:x.Kind≠4:=by omega
  simp only[k5,k0,n2',w1,w2,z1,z2,z3,z4,t2,t3,t4,u2,u3,u4,b1,b2,c1,c3,if_true,if_false,true_and,Ybk,exists_eq_left',Ybz,AV.t.injEq,T.int.injEq,and_true];by_cases e:x.Order=0
  .simp[e,q5 _ _ _ _ k4,Zeg,k5,Zbn,p2]
  .simp[e,Zeg,k5,Zbn]
theorem Zbzu(q:Ze)(hq:LeQ q)(h:Zw q.Zm q.Atoms=true)(p:Plan)(hl:p.Steps.length<=14):∀i,i<=p.Steps.length->∀info st,StOk info st->info.length=i->st.length<=i->
  Zqr q p info st i=some (match Zca q.Atoms (p.Steps.drop i) i info st with
   |some (info',st')=>if st'.length=1 then(.tup [.own 0,Bo true],[.arr Zjv 4 true (info'.map Za.c)])else(.tup [.own 0,Bo false],[.arr Zjv 4 true []])
   |none=>(.tup [.own 0,Bo false],[.arr Zjv 4 true []])):=by
 refine down _ ?_ ?_
 .intro info st _ _ _;rw[Ym,Zca];refine Zbga ?_;by_cases c:st.length=1
  .simp[c]
  .have c':¬(st.length:Int)=1:=by omega
   simp[c,c']
 .intro i hi ih info st hs hil hst;have h5:=Zbb (i:=i) (by omega);have s1:=Zbzt q hq h p.Steps[i] info st hs (by omega) (by omega);rw[Z9i q.Atoms hi];refine Zbga ?_
  cases he:Zc9 q.Atoms p.Steps[i] info st with
  |none =>
   rw[he,Zbn]at s1;have e0:Zkp q p.Steps[i] info st=some (.tup [.agg ((⟨0,0,0,0⟩:Za).c.map .t),I (-1)],[]):=s1;rw[if_pos (by omega)];refine⟨by omega,_,Yg hi,_,_,e0,?_⟩
   simp
  |some y =>
   rw[he,Zbn]at s1;obtain⟨f1,f2,f3⟩:=Zy2 hs he;rw[f1]at s1;have hn:=Zpp hs y (st.length-pops y);rw[hil]at hn;have ih:=ih (info++[y]) (st.take (st.length-pops y)++[(i:Int)]) hn (by simp[hil]) (st_len hst _);have w2:w ((st.length:Int)-(pops y:Int))=(st.length:Int)-(pops y:Int):=Zo (by omega) (by omega);have z2:((st.length:Int)-(pops y:Int)).toNat=st.length-pops y:=by omega
   rw[if_pos (by omega)];refine⟨by omega,_,Yg hi,_,_,s1,?_⟩;rw[if_neg (by omega),w2,z2];refine⟨by omega,by omega,by omega,by omega,by omega,?_⟩;rw[show w ((i:Int)+1)=(i:Int)+1 from h5];simpa using ih
@[simp] theorem Z42(q:Ze)(p:Plan)(hq:LeQ q):Zks q p=some (match Zby q.Zm q.Atoms p.Steps with
  |some info=>(.tup [.own 0,Bo true],[.arr Zjv 4 true (info.map Za.c)])
  |none=>(.tup [.own 0,Bo false],[.arr Zjv 4 true []])):=by
 refine Zbxb ?_;have q1:=Zv9 q hq;unfold Zby;rcases tf (Zw q.Zm q.Atoms)with e|e
 .simp[q1,e]
 rcases tf (inR p.Steps.length 1 14)with e2|e2
 .simp[q1,e,e2]
 .have e3:=e2;simp[inR]at e3;have b:=Zbzu q hq e p (by omega) 0 (Yb _) [] [] (λs hs=>by cases hs) rfl (Yc _);simp only[Yj]at b;simp only[q1,e,e2,Zdd,Ybk,Ybz,AV.t.injEq,T.bool.injEq,and_true,exists_eq_left',if_true,and_self];refine Ya b ?_
  cases Zca q.Atoms p.Steps 0 [] []with
  |none=>rfl
  |some r=>obtain⟨a,b⟩:=r;simp only;split<;>rfl
theorem Zbzv(q:Ze)(hq:LeQ q)(h:Zw q.Zm q.Atoms=true)(steps:List Zf)(hl:steps.length<=14):∀i,i<=steps.length->∀info st,StOk info st->info.length=i->st.length<=i->
  Zjx q info st steps steps.length i=some (match Zca q.Atoms (steps.drop i) i info st with
   |some (info',st')=>if st'.length=1 then(.tup [.own 0,Bo true],[.arr Zjv 4 true (info'.map Za.c)])else(.tup [.t .nil,Bo false],[])
   |none=>(.tup [.t .nil,Bo false],[])):=by
 refine down _ ?_ ?_
 .intro info st _ _ _;rw[Ym,Zca];refine Zber ?_;by_cases c:st.length=1
  .simp[c]
  .have c':¬(st.length:Int)=1:=by omega
   simp[c,c']
 .intro i hi ih info st hs hil hst;have h5:=Zbb (i:=i) (by omega);have s1:=Zbzs q hq h steps[i] info st hs (by omega) (by omega);rw[Z9i q.Atoms hi];refine Zber ?_
  cases he:Zc9 q.Atoms steps[i] info st with
  |none =>
   rw[he]at s1;obtain⟨y,s1⟩:=s1;rw[if_pos (by omega)];refine⟨by omega,_,Yg hi,_,_,s1,?_⟩
   simp
  |some y =>
   rw[he]at s1;obtain⟨f1,f2,f3⟩:=Zy2 hs he;have hn:=Zpp hs y (st.length-pops y);rw[hil]at hn;have ih:=ih (info++[y]) (st.take (st.length-pops y)++[(i:Int)]) hn (by simp[hil]) (st_len hst _);rw[if_pos (by omega)];refine⟨by omega,_,Yg hi,_,_,s1,?_⟩;rw[if_pos rfl];refine⟨by omega,?_⟩;simp only;unfold pops at ih f2|-;rw[show w ((i:Int)+1)=(i:Int)+1 from h5];by_cases r:0<=y.Right
   .simp only[if_pos r]at ih f2|-;have w2:w ((st.length:Int)-2)=(st.length:Int)-2:=Zo (by omega) (by omega);have z2:((st.length:Int)-2).toNat=st.length-2:=by omega
    rw[w2,z2];refine⟨by omega,by omega,by omega,by simpa using ih⟩
   .simp only[if_neg r]at ih f2|-;by_cases l:0<=y.Left
    .simp only[if_pos l]at ih f2|-;have w2:w ((st.length:Int)-1)=(st.length:Int)-1:=Zo (by omega) (by omega);have z2:((st.length:Int)-1).toNat=st.length-1:=by omega
     rw[w2,z2];refine⟨by omega,by omega,by omega,by simpa using ih⟩
    .simp only[if_neg l]at ih f2|-;exact⟨by omega,by simpa using ih⟩
@[simp] theorem Z43(q:Ze)(p:Plan)(hq:LeQ q):Zha q p=some (match Zby q.Zm q.Atoms p.Steps with
  |some info=>(.tup [.own 0,Bo true],[.arr Zjv 4 true (info.map Za.c)])
  |none=>(.tup [.t .nil,Bo false],[])):=by
 refine Zbvj ?_;have q1:=Z40 q hq;unfold Zby;rcases tf (Zw q.Zm q.Atoms)with e|e
 .simp[q1,e]
 rcases tf (inR p.Steps.length 1 14)with e2|e2
 .simp[q1,e,e2]
 .have e3:=e2;simp[inR]at e3;have b:=Zbzv q hq e p.Steps (by omega) 0 (Yb _) [] [] (λs hs=>by cases hs) rfl (Yc _);simp only[Yj]at b;simp only[q1,e,e2,Zc2,Ybk,Ybz,AV.t.injEq,T.bool.injEq,and_true,exists_eq_left',if_true,and_self];refine Ya b ?_
  cases Zca q.Atoms p.Steps 0 [] []with
  |none=>rfl
  |some r=>obtain⟨a,b⟩:=r;simp only;split<;>rfl
theorem Zbzw(xs:List Int)(v:Int)(hx:Le xs):∀i,i<=xs.length->Zq5 xs v i=some (I (Zbe (λx=>decide (v=x)) (xs.drop i) i),[]):=by
 refine down _ ?_ ?_
 .refine Zbgn ?_;simp[Zbe]
 .intro i hi ih;refine Zbgn ?_;have h4:=Zbb (i:=i) (by omega);rw[Zh9 _ hi];simp at ih;by_cases e:v=xs[i]
  .simp[hi,h4,<-e]
  .have e':¬xs[i]=v:=λhc=>e hc.symm
   simp[hi,h4,e,e',ih]
@[simp] theorem Zbzx(xs:List Int)(v:Int)(hx:Le xs):Zd4 xs v=some (I (Zbe (λx=>decide (v=x)) xs 0),[]):=by
 refine Zbxu ?_;have:=Zbzw xs v hx 0 (Yb _);simpa using this
def Zgq:Int->List Zg->Bool
 |_,[]=>true
 |p,s::r=>inR s.From 1 8192 && inR s.Add (-99) 99 && decide (p<s.From) && Zgq s.From r
def Zde(l:List Zg):Nat->Int
 |0=>0
 |i+1=>match l[i]? with|some s=>s.From|none=>0
def Zd5(n:Int):Bool:=inR n (-99) 99
def Zbs(o:Zk):Bool:=Zd5 o.Fixed && Zd5 o.Z2 && Zd5 o.Z3 && Zd5 o.Z4 && Zd5 o.Z5 && decide (o.Steps.length<=4) && Zgq 0 o.Steps
theorem Zbh4(p:Int){l:List Zg}{i:Nat}(h:i<l.length):Zgq p (l.drop i)=(inR l[i].From 1 8192 && inR l[i].Add (-99) 99 && decide (p<l[i].From) && Zgq l[i].From (l.drop (i+1))):=by
 rw[Yh h,Zgq]
@[simp] theorem Zbzy(n:Int):Zgh n=some (Bo (Zd5 n),[]):=by
 refine Zbx7 ?_;simp[Zd5]
theorem Zbzz(o:Zk)(hl:Le o.Steps):∀i,i<=o.Steps.length->Zk5 o i=some (Bo (Zgq (Zde o.Steps i) (o.Steps.drop i)),[]):=by
 refine down _ ?_ ?_
 .refine Zbg7 ?_;simp[Zgq]
 .intro i hi ih;refine Zbg7 ?_;have h4:=Zbb (i:=i) (by omega);rw[Zbh4 _ hi];have pn:Zde o.Steps (i+1)=o.Steps[i].From:=by simp[Zde,Yg hi]
  rw[pn]at ih;simp only[Yba,Ybb]at ih;rw[if_pos (by omega)];refine⟨by omega,o.Steps[i],by rw[Ye];exact Yg hi,_,Zdd _ _ _,?_⟩;rcases tf (inR o.Steps[i].From 1 8192)with e1|e1
  .rw[e1];simp
  rw[e1,if_pos rfl];refine⟨_,Zbzy _,?_⟩;unfold Zd5;rcases tf (inR o.Steps[i].Add (-99) 99)with e2|e2
  .rw[e2];simp
  rw[e2,if_pos rfl,show w ((i:Int)+1)=(i:Int)+1 from h4]
  cases i with
  |zero =>
   rw[if_neg (by omega),ih];have:Zde o.Steps 0<o.Steps[0].From:=by simp[inR]at e1;simp[Zde];omega
   simp[this]
  |succ j =>
   have hj:j<o.Steps.length:=by omega
   have w2:w (((j+1:Nat):Int)-1)=j:=by rw[show((j+1:Nat):Int)-1=j by omega];exact Zo (by omega) (by omega)
   have pj:Zde o.Steps (j+1)=o.Steps[j].From:=by simp[Zde,Yg hj]
   rw[if_pos (by omega),w2,pj];refine⟨by omega,o.Steps[j],by rw[Ye];exact Yg hj,?_⟩;by_cases e3:o.Steps[j+1].From<=o.Steps[j].From
   .rw[if_pos e3,decide_eq_false (by omega)];simp
   .rw[if_neg e3,decide_eq_true (by omega),ih];simp
@[simp] theorem Zr5(o:Zk)(hl:Le o.Steps):Ziz o=some (Bo (Zbs o),[]):=by
 refine Zbx8 ?_;have b:=Zbzz o hl 0 (Yb _);simp only[Zde,Yj,Int.ofNat_zero]at b;have b:Zk5 o 0=_:=b;unfold Zbs;rcases tf (Zd5 o.Fixed)with e1|e1
 .simp[e1]
 rcases tf (Zd5 o.Z2)with e2|e2
 .simp[e1,e2]
 rcases tf (Zd5 o.Z3)with e3|e3
 .simp[e1,e2,e3]
 rcases tf (Zd5 o.Z4)with e4|e4
 .simp[e1,e2,e3,e4]
 rcases tf (Zd5 o.Z5)with e5|e5
 .simp[e1,e2,e3,e4,e5]
 by_cases e6:o.Steps.length<=4
 .have e7:¬(4:Int)<o.Steps.length:=by omega
  simp[e1,e2,e3,e4,e5,e6,e7,b]
 .have e7:(4:Int)<o.Steps.length:=by omega
  simp[e1,e2,e3,e4,e5,e6,e7]
theorem Zbz0(o:Zk)(hl:Le o.Steps):∀i,i<=o.Steps.length->Zij o o.Steps o.Steps.length i=some (Bo (Zgq (Zde o.Steps i) (o.Steps.drop i) && decide (o.Steps.length<=4)),[]):=by
 refine down _ ?_ ?_
 .refine Zbfs ?_;rw[if_neg (by omega)];by_cases e:o.Steps.length<=4
  .simp[Zgq,e];omega
  .simp[Zgq,e];omega
 .intro i hi ih;refine Zbfs ?_;have h4:=Zbb (i:=i) (by omega);rw[Zbh4 _ hi];have pn:Zde o.Steps (i+1)=o.Steps[i].From:=by simp[Zde,Yg hi]
  rw[pn]at ih;simp only[Yba,Ybb]at ih;rw[if_pos (by omega)];refine⟨by omega,o.Steps[i],by rw[Ye];exact Yg hi,_,Zc2 _ _ _,?_⟩;rcases tf (inR o.Steps[i].Add (-99) 99)with e2|e2
  .rw[e2];simp
  rw[e2,if_pos rfl];refine⟨_,Zc2 _ _ _,?_⟩;rcases tf (inR o.Steps[i].From 1 8192)with e1|e1
  .rw[e1];simp
  rw[e1,if_pos rfl,show w ((i:Int)+1)=(i:Int)+1 from h4]
  cases i with
  |zero =>
   rw[if_neg (by omega),ih];have:Zde o.Steps 0<o.Steps[0].From:=by simp[inR]at e1;simp[Zde];omega
   simp[this]
  |succ j =>
   have hj:j<o.Steps.length:=by omega
   have w2:w (((j+1:Nat):Int)-1)=j:=by rw[show((j+1:Nat):Int)-1=j by omega];exact Zo (by omega) (by omega)
   have pj:Zde o.Steps (j+1)=o.Steps[j].From:=by simp[Zde,Yg hj]
   rw[if_pos (by omega),w2,pj];refine⟨by omega,o.Steps[j],by rw[Ye];exact Yg hj,?_⟩;by_cases e3:o.Steps[j+1].From<=o.Steps[j].From
   .rw[if_pos e3,decide_eq_false (by omega)];simp
   .rw[if_neg e3,decide_eq_true (by omega),ih];simp
@[simp] theorem Zdf(o:Zk)(hl:Le o.Steps):Zcf o=some (Bo (Zbs o),[]):=by
 refine Zbwo ?_;have hc:Zu0 o=some (.bsl 1 5,[.box (o.c.map .t),.box [.ptr 0 0,.ptr 0 1,.ptr 0 2,.ptr 0 3,.ptr 0 4]]):=Zbwn rfl;refine⟨hc,?_⟩;have b:=Zbz0 o hl 0 (Yb _);simp only[Zde,Yj]at b;have b:Zij o o.Steps o.Steps.length 0=_:=b;have w1:w (0+1)=1:=by decide
 have w2:w (1+1)=2:=by decide
 have w3:w (2+1)=3:=by decide
 have w4:w (3+1)=4:=by decide
 have w5:w (4+1)=5:=by decide
 unfold Zbs Zd5;refine Zn5 ?_;rw[if_pos (by omega),if_pos rfl];refine⟨_,Zc2 _ _ _,?_⟩;rcases tf (inR o.Fixed (-99) 99)with e1|e1
 .rw[e1];simp
 rw[e1,if_pos rfl,w1];refine Zn5 ?_;rw[if_pos (by omega),if_neg (by omega),if_pos rfl];refine⟨_,Zc2 _ _ _,?_⟩;rcases tf (inR o.Z2 (-99) 99)with e2|e2
 .rw[e2];simp
 rw[e2,if_pos rfl,w2];refine Zn5 ?_;rw[if_pos (by omega),if_neg (by omega),if_neg (by omega),if_pos rfl];refine⟨_,Zc2 _ _ _,?_⟩;rcases tf (inR o.Z3 (-99) 99)with e3|e3
 .rw[e3];simp
 rw[e3,if_pos rfl,w3];refine Zn5 ?_;rw[if_pos (by omega),if_neg (by omega),if_neg (by omega),if_neg (by omega),if_pos rfl];refine⟨_,Zc2 _ _ _,?_⟩;rcases tf (inR o.Z4 (-99) 99)with e4|e4
 .rw[e4];simp
 rw[e4,if_pos rfl,w4];refine Zn5 ?_;rw[if_pos (by omega),if_neg (by omega),if_neg (by omega),if_neg (by omega),if_neg (by omega),if_pos rfl];refine⟨_,Zc2 _ _ _,?_⟩;rcases tf (inR o.Z5 (-99) 99)with e5|e5
 .rw[e5];simp
 rw[e5,if_pos rfl,w5];refine Zn5 ?_;rw[if_neg (by omega),b];simp[Bool.and_comm]
def Zoa(o:Zk)(l r n:Int):Int:=w (w (w (w (o.Fixed+w (o.Z2*l))+w (o.Z3*r))+w (o.Z4*n))+w (w (o.Z5*l)*r))
def Zlf(l r n:Int)(s:Zg):Int:=if s.From<=w (l+r)then w (n+s.Add)else n
def Zob(o:Zk)(l r n:Int):Int:=o.Steps.foldl (Zlf l r) (Zoa o l r n)
def Zdg(o:Zk)(l r n:Int):Int:=if(Zbs o && inR l 0 4096 && inR r 0 4096 && inR n 0 4096)=true then Zob o l r n else 0
theorem Zbz1(l r:Int)(st:List Zg)(hl:Le st):∀i,i<=st.length->∀n,Zkj l r n st st.length i=some (I ((st.drop i).foldl (Zlf l r) n),[]):=by
 refine down _ ?_ ?_
 .intro n;refine Zbfw ?_;simp
 .intro i hi ih n;refine Zbfw ?_;have h4:=Zbb (i:=i) (by omega);rw[Yh hi,Ydt];simp only[Yba,Ybb]at ih;by_cases e:st[i].From<=w (l+r)
  .simp[hi,h4,e,ih,Zlf]
  .simp[hi,h4,e,ih,Zlf]
@[simp] theorem Zbz2(o:Zk)(hl:Le o.Steps)(l r n:Int):Zik o l r n=some (I (Zob o l r n),[]):=by
 refine Zbwr ?_;have b:=Zbz1 l r o.Steps hl 0 (Yb _) (Zoa o l r n);simpa[Zob,Zoa]using b
@[simp] theorem Zlg(o:Zk)(hl:Le o.Steps)(l r n:Int):Zb2 o l r n=some (I (Zdg o l r n),[]):=by
 refine Zbwz ?_;unfold Zdg;rcases tf (Zbs o)with e1|e1<;>rcases tf (inR l 0 4096)with e2|e2<;>rcases tf (inR r 0 4096)with e3|e3<;>rcases tf (inR n 0 4096)with e4|e4<;>simp[hl,e1,e2,e3,e4]
theorem Zbz3(o:Zk)(l r:Int)(hl:Le o.Steps):∀i,i<=o.Steps.length->∀n,Zk6 o l r n i=some (I ((o.Steps.drop i).foldl (Zlf l r) n),[]):=by
 refine down _ ?_ ?_
 .intro n;refine Zbg8 ?_;simp
 .intro i hi ih n;refine Zbg8 ?_;have h4:=Zbb (i:=i) (by omega);rw[Yh hi,Ydt];simp only[Yba,Ybb]at ih;by_cases e:o.Steps[i].From<=w (l+r)
  .simp[hi,h4,e,ih,Zlf]
  .simp[hi,h4,e,ih,Zlf]
@[simp] theorem Zoc(o:Zk)(hl:Le o.Steps)(l r n:Int):Zex o l r n=some (I (Zdg o l r n),[]):=by
 refine Zbyb ?_;have b:=Zbz3 o l r hl 0 (Yb _) (Zoa o l r n);simp only[Yj,Zoa]at b;have b:Zk6 o l r _ 0=_:=b;unfold Zdg;rcases tf (Zbs o)with e1|e1<;>rcases tf (inR l 0 4096)with e2|e2<;>rcases tf (inR r 0 4096)with e3|e3<;>rcases tf (inR n 0 4096)with e4|e4<;>simp[hl,e1,e2,e3,e4,b,Zob,Zoa]
end Go.Proofs.YtgnfoghkbpkgjaaGreat
