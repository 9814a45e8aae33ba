/-
  Parts of the proofs for this seat: G19 G20.
-/
import Derived.Test.YtgbipcfdgfjplaaGreatP11
set_option linter.unusedSectionVars false
set_option linter.unusedSimpArgs false
set_option linter.unusedVariables false
set_option maxRecDepth 100000
set_option maxHeartbeats 4000000
namespace Go.Proofs.YtgbipcfdgfjplaaGreat
open Go.AM
theorem Ux:(((∀a b x x1 co only x2 cd cc i r,Im (ZaI a b x x1 co only x2 cd cc i=some r) (if i<cd then UR a b x x1 co only x2 cd cc i 0=some r else some (.agg [.own 0,.own 1],[.arr 3 1 true (x.map ic),.arr 42 1 true (x1.map isc)])=some r))/\
 ((∀a b x x1 co only x2 cd cc i k r,Im (UR a b x x1 co only x2 cd cc i k=some r) (if k<cc then if(x1.length:Int)<=4096 then 0<=(if(w ((a.Rows.length:Int)-1))<i then(w ((a.Rows.length:Int)-1))else i)/\∃e1,a.Rows[(if(w ((a.Rows.length:Int)-1))<i then(w ((a.Rows.length:Int)-1))else i).toNat]?=some e1/\0<=(if(w ((b.Rows.length:Int)-1))<k then(w ((b.Rows.length:Int)-1))else k)/\∃e2,b.Rows[(if(w ((b.Rows.length:Int)-1))<k then(w ((b.Rows.length:Int)-1))else k).toNat]?=some e2/\if co=true then qG a.Rows k (λe3=>qG b.Rows i (λe4=>if only<0 then qB (Xs a.Vars e3 b.Vars e4) (qO 3 1 ic (Xt x a.Vars e3 b.Vars e4) (λv9=>x1.length+1<=68719476736/\XX a b x (x1++[v9]) true only x2 cd cc i (w (k+1))=some r)) (UR a b x x1 true only x2 cd cc i (w (k+1))=some r)else qG e3 x2 (λe7=>if e7=only then qB (Xs a.Vars e3 b.Vars e4) (qO 3 1 ic (Xt x a.Vars e3 b.Vars e4) (λv11=>x1.length+1<=68719476736/\XX a b x (x1++[v11]) true only x2 cd cc i (w (k+1))=some r)) (UR a b x x1 true only x2 cd cc i (w (k+1))=some r)else UR a b x x1 true only x2 cd cc i (w (k+1))=some r)))else if only<0 then qB (Xs a.Vars e1 b.Vars e2) (qO 3 1 ic (Xt x a.Vars e1 b.Vars e2) (λv13=>x1.length+1<=68719476736/\XX a b x (x1++[v13]) false only x2 cd cc i (w (k+1))=some r)) (UR a b x x1 false only x2 cd cc i (w (k+1))=some r)else qG e1 x2 (λe12=>if e12=only then qB (Xs a.Vars e1 b.Vars e2) (qO 3 1 ic (Xt x a.Vars e1 b.Vars e2) (λv15=>x1.length+1<=68719476736/\XX a b x (x1++[v15]) false only x2 cd cc i (w (k+1))=some r)) (UR a b x x1 false only x2 cd cc i (w (k+1))=some r)else UR a b x x1 false only x2 cd cc i (w (k+1))=some r)else ZaI a b x x1 co only x2 cd cc (w (i+1))=some r else ZaI a b x x1 co only x2 cd cc (w (i+1))=some r))/\
 (∀a b x x1 co only x2 cd cc i k r,Im (XX a b x x1 co only x2 cd cc i k=some r) (if k<cc then if(x1.length:Int)<=4096 then 0<=(if(w ((a.Rows.length:Int)-1))<i then(w ((a.Rows.length:Int)-1))else i)/\∃e1,a.Rows[(if(w ((a.Rows.length:Int)-1))<i then(w ((a.Rows.length:Int)-1))else i).toNat]?=some e1/\0<=(if(w ((b.Rows.length:Int)-1))<k then(w ((b.Rows.length:Int)-1))else k)/\∃e2,b.Rows[(if(w ((b.Rows.length:Int)-1))<k then(w ((b.Rows.length:Int)-1))else k).toNat]?=some e2/\if co=true then qG a.Rows k (λe3=>qG b.Rows i (λe4=>if only<0 then qB (Xs a.Vars e3 b.Vars e4) (qO 3 1 ic (Xt x a.Vars e3 b.Vars e4) (λv9=>x1.length+1<=68719476736/\XX a b x (x1++[v9]) true only x2 cd cc i (w (k+1))=some r)) (XX a b x x1 true only x2 cd cc i (w (k+1))=some r)else qG e3 x2 (λe7=>if e7=only then qB (Xs a.Vars e3 b.Vars e4) (qO 3 1 ic (Xt x a.Vars e3 b.Vars e4) (λv11=>x1.length+1<=68719476736/\XX a b x (x1++[v11]) true only x2 cd cc i (w (k+1))=some r)) (XX a b x x1 true only x2 cd cc i (w (k+1))=some r)else XX a b x x1 true only x2 cd cc i (w (k+1))=some r)))else if only<0 then qB (Xs a.Vars e1 b.Vars e2) (qO 3 1 ic (Xt x a.Vars e1 b.Vars e2) (λv13=>x1.length+1<=68719476736/\XX a b x (x1++[v13]) false only x2 cd cc i (w (k+1))=some r)) (XX a b x x1 false only x2 cd cc i (w (k+1))=some r)else qG e1 x2 (λe12=>if e12=only then qB (Xs a.Vars e1 b.Vars e2) (qO 3 1 ic (Xt x a.Vars e1 b.Vars e2) (λv15=>x1.length+1<=68719476736/\XX a b x (x1++[v15]) false only x2 cd cc i (w (k+1))=some r)) (XX a b x x1 false only x2 cd cc i (w (k+1))=some r)else XX a b x x1 false only x2 cd cc i (w (k+1))=some r)else ZcJ a b x x1 co only x2 cd cc (w (i+1))=some r else ZcJ a b x x1 co only x2 cd cc (w (i+1))=some r))))/\
 ((∀a b x x1 co only x2 cd cc i r,Im (ZcJ a b x x1 co only x2 cd cc i=some r) (if i<cd then XX a b x x1 co only x2 cd cc i 0=some r else some (.agg [.own 0,.own 2],[.arr 3 1 true (x.map ic),.dead,.arr 42 1 true (x1.map isc)])=some r))/\
 ((∀x x1 a a1 a2 a3 a4 r,Im (ZfF x x1 a a1 a2 a3 a4=some r) (qI (VH a.Vars a3) (λv1=>if a2=true then ZaI a a1 x x1 true a4 v1 (a1.Rows.length:Int) (a.Rows.length:Int) 0=some r else ZaI a a1 x x1 false a4 v1 (a.Rows.length:Int) (a1.Rows.length:Int) 0=some r)))/\
 (∀a b x v cp r,Im (ZfG a b x v cp=some r) (if cp<=9 then(∃(v1:WA),Uv x a b false v cp=some (.agg [.own 0,.t .nil],[.arr 3 1 true (v1.map ic)])/\ZfG a b v1 v (w (cp+1))=some r)\/(∃(v3:WA) (v4:XS),Uv x a b false v cp=some (.agg [.own 0,.own 1],[.arr 3 1 true (v3.map ic),.arr 42 1 true (v4.map isc)])/\ZcL a b v3 v4 v (w (cp+1))=some r)else ∃(v5:WA),ZcH x=some (.tup [.agg [.own 0,.t .nil],Bo true],[.arr 3 1 true (v5.map ic)])/\some (.tup [.agg [.own 0,.t .nil],Bo true],[.arr 3 1 true (v5.map ic)])=some r)))))/\
 (((∀a b x x1 v cp r,Im (ZcL a b x x1 v cp=some r) (if cp<=9 then(∃(v1:WA) (v2:XS),ZfF x x1 a b false v cp=some (.agg [.own 0,.own 1],[.arr 3 1 true (v1.map ic),.arr 42 1 true (v2.map isc)])/\ZcL a b v1 v2 v (w (cp+1))=some r)\/(∃(v3:WA) (v4:XS),ZfF x x1 a b false v cp=some (.agg [.own 0,.own 2],[.arr 3 1 true (v3.map ic),.dead,.arr 42 1 true (v4.map isc)])/\ZcL a b v3 v4 v (w (cp+1))=some r)else(∃(v5:WA) (v6:XS),Qs x x1=some (.tup [.agg [.t .nil,.t .nil],Bo false],[.arr 3 1 true (v5.map ic),.arr 42 1 true (v6.map isc)])/\some (.tup [.agg [.t .nil,.t .nil],Bo false],[])=some r)\/(∃(v7:WA) (v8:XS),Qs x x1=some (.tup [.agg [.own 0,.own 1],Bo true],[.arr 3 1 true (v7.map ic),.arr 42 1 true (v8.map isc)])/\some (.tup [.agg [.own 0,.own 1],Bo true],[.arr 3 1 true (v7.map ic),.arr 42 1 true (v8.map isc)])=some r)))/\
 ((∀a a1 a2 r,Im (ZcK a a1 a2=some r) (qB (ZcI a a2) (qB (ZcI a1 a2) (qO 3 1 ic (KT a.Vars a1.Vars) (λv5=>ZfG a a1 v5 a2 0=some r)) (some (.tup [.agg [.t .nil,.t .nil],Bo false],[])=some r)) (some (.tup [.agg [.t .nil,.t .nil],Bo false],[])=some r)))/\
 (∀d q p cn cl i r,Im (Wf d q p cn cl i=some r) (if i<(cn.length:Int)then qG p.Steps i (λe1=>if e1.Kind=1 then(Za9 d q e1.Zc=some (.tup [.agg [.t .nil,.t .nil],Bo false],[])/\cl.length+1<=68719476736/\Wf d q p cn (cl++[(⟨[],[]⟩:Zb)]) (w (i+1))=some r)\/(∃(v5:WA),Za9 d q e1.Zc=some (.tup [.agg [.own 0,.t .nil],Bo true],[.arr 3 1 true (v5.map ic)])/\cl.length+1<=68719476736/\Wf d q p cn (cl++[(⟨v5,[]⟩:Zb)]) (w (i+1))=some r)\/(∃(v7:WA) (v8:XS),Za9 d q e1.Zc=some (.tup [.agg [.own 0,.own 1],Bo true],[.arr 3 1 true (v7.map ic),.arr 42 1 true (v8.map isc)])/\cl.length+1<=68719476736/\Wf d q p cn (cl++[(⟨v7,v8⟩:Zb)]) (w (i+1))=some r)else if e1.Kind=2 then qH cn i (λe5=>qG cl e5.Left (λe6=>(ZaB e6 e1.Order=some (.tup [.agg [.t .nil,.t .nil],Bo false],[])/\cl.length+1<=68719476736/\Wf d q p cn (cl++[(⟨[],[]⟩:Zb)]) (w (i+1))=some r)\/(∃(v10:WA),ZaB e6 e1.Order=some (.tup [.agg [.own 0,.t .nil],Bo true],[.arr 3 1 true (v10.map ic)])/\cl.length+1<=68719476736/\Wf d q p cn (cl++[(⟨v10,[]⟩:Zb)]) (w (i+1))=some r)\/(∃(v11:WA) (v12:XS),ZaB e6 e1.Order=some (.tup [.agg [.own 0,.own 1],Bo true],[.arr 3 1 true (v11.map ic),.arr 42 1 true (v12.map isc)])/\cl.length+1<=68719476736/\Wf d q p cn (cl++[(⟨v11,v12⟩:Zb)]) (w (i+1))=some r)))else if e1.Kind=3 then qH cn i (λe10=>qG cl e10.Left (λe11=>qG cl e10.Right (λe12=>(∃(v14:WA),ZaG e11 e12=some (.tup [.agg [.own 0,.t .nil],Bo true],[.arr 3 1 true (v14.map ic)])/\cl.length+1<=68719476736/\Wf d q p cn (cl++[(⟨v14,[]⟩:Zb)]) (w (i+1))=some r)\/(ZaG e11 e12=some (.tup [.agg [.t .nil,.t .nil],Bo false],[])/\cl.length+1<=68719476736/\Wf d q p cn (cl++[(⟨[],[]⟩:Zb)]) (w (i+1))=some r)\/(∃(v16:WA) (v17:XS),ZaG e11 e12=some (.tup [.agg [.own 0,.own 1],Bo true],[.arr 3 1 true (v16.map ic),.arr 42 1 true (v17.map isc)])/\cl.length+1<=68719476736/\Wf d q p cn (cl++[(⟨v16,v17⟩:Zb)]) (w (i+1))=some r))))else if e1.Kind=5 then qH cn i (λe16=>qG cl e16.Left (λe17=>qG cl e16.Right (λe18=>(∃(v18:WA),ZaH e17 e18=some (.tup [.agg [.own 0,.t .nil],Bo true],[.arr 3 1 true (v18.map ic)])/\cl.length+1<=68719476736/\Wf d q p cn (cl++[(⟨v18,[]⟩:Zb)]) (w (i+1))=some r)\/(ZaH e17 e18=some (.tup [.agg [.t .nil,.t .nil],Bo false],[])/\cl.length+1<=68719476736/\Wf d q p cn (cl++[(⟨[],[]⟩:Zb)]) (w (i+1))=some r)\/(∃(v19:WA) (v20:XS),ZaH e17 e18=some (.tup [.agg [.own 0,.own 1],Bo true],[.arr 3 1 true (v19.map ic),.arr 42 1 true (v20.map isc)])/\cl.length+1<=68719476736/\Wf d q p cn (cl++[(⟨v19,v20⟩:Zb)]) (w (i+1))=some r))))else qH cn i (λe22=>qG cl e22.Left (λe23=>qG cl e22.Right (λe24=>(ZcK e23 e24 e1.Order=some (.tup [.agg [.t .nil,.t .nil],Bo false],[])/\cl.length+1<=68719476736/\Wf d q p cn (cl++[(⟨[],[]⟩:Zb)]) (w (i+1))=some r)\/(∃(v21:WA),ZcK e23 e24 e1.Order=some (.tup [.agg [.own 0,.t .nil],Bo true],[.arr 3 1 true (v21.map ic)])/\cl.length+1<=68719476736/\Wf d q p cn (cl++[(⟨v21,[]⟩:Zb)]) (w (i+1))=some r)\/(∃(v22:WA) (v23:XS),ZcK e23 e24 e1.Order=some (.tup [.agg [.own 0,.own 1],Bo true],[.arr 3 1 true (v22.map ic),.arr 42 1 true (v23.map isc)])/\cl.length+1<=68719476736/\Wf d q p cn (cl++[(⟨v22,v23⟩:Zb)]) (w (i+1))=some r)))))else some (.tup [.own 0,.own 1,Bo true],[.arr 102 2 true (cl.map Zb.c),.arr 113 4 true (cn.map Za.c)])=some r))))/\
 ((∀a a1 a2 r,Im (KV a a1 a2=some r) (∃(v1:List Za),∃v2,K6 a1 a2=some (.tup [.own 0,Bo v2],[.arr 113 4 true (v1.map Za.c)])/\if v2=true then qB (QL a a1) (Wf a a1 a2 v1 ([]:List Zb) 0=some r) (some (.tup [.own 0,.own 1,Bo false],[.arr 102 2 true (([]:List Zb).map Zb.c),.arr 113 4 true (v1.map Za.c)])=some r)else some (.tup [.own 0,.own 1,Bo false],[.arr 102 2 true (([]:List Zb).map Zb.c),.arr 113 4 true (v1.map Za.c)])=some r))/\
 ((∀a a1 r,Im (Qt a a1=some r) (if a1=1 then some (.agg (a.Scan.c.map .t),[])=some r else if a1=2 then some (.agg (a.Sort_.c.map .t),[])=some r else if a1=3 then some (.agg (a.Hash.c.map .t),[])=some r else if a1=4 then some (.agg (a.Merge.c.map .t),[])=some r else some (.agg (a.Nested.c.map .t),[])=some r))/\
 (∀a r,Im (Qu a=some r) (qV (ZB a (-99) 99) (λv1=>qb v1 r)))))):=by
 and_intros
 all_goals(intros;unfold Im;(try simp only[ZaI,UR,XX,ZcJ,ZfF,ZfG,ZcL,ZcK,Wf,KV,Qt,Qu,Xs,Xt,VH,Uv,ZcH,Zb.c_def,Qs,ZcI,KT,Za9,ZaB,ZaG,ZaH,Zn.c_def,Ze.c_def,K6,QL,Zo.c_def,ZB,mpl,dfs,qs]);(try simp only[itb]);(try simp only[itf,gS,kk]))
 all_goals(repeat' first|refine exI λ_=>?_|refine anJ λ_ _=>?_|refine anI λ_=>?_|refine orE2 ?_ ?_|exact False.elim)
 all_goals(intro h;first|rw[Zl UO.eq_1]|rw[Zl ZaE.eq_1]|refine ZR ZwF rfl ?_|rw[Zl ZiD.eq_1]|refine run Z6j rfl ?_|rw[Zl Zox.eq_1]|refine run Z6k rfl ?_|refine run Z6l rfl ?_|refine run Z6m rfl ?_)
 all_goals (refine Yc ?_ h;clear h;simp +decide[*,kk,tI,tII,UP,Zoq,ZaF,Zos,Zor,ZiE,ZvZ,Zwa,Zoy,Zwb,Zwc,Zwd])
abbrev ZyN:=uq Ux.1.1.1
abbrev ZyO:=uq Ux.1.1.2.1
abbrev ZyP:=uq Ux.1.1.2.2
abbrev ZyQ:=uq Ux.1.2.1
abbrev Z8M:=uq Ux.1.2.2.1
abbrev ZyR:=uq Ux.1.2.2.2
abbrev ZyS:=uq Ux.2.1.1
abbrev Z8N:=uq Ux.2.1.2.1
abbrev ZyT:=uq Ux.2.1.2.2
abbrev Zp9:=uq Ux.2.2.1
abbrev Z8O:=uq Ux.2.2.2.1
abbrev Z8P:=uq Ux.2.2.2.2
theorem W6:((((∀o i r,Im (ZaK o i=some r) (if i<(o.Steps.length:Int)then qG o.Steps i (λe1=>qB (ZB e1.From 1 8192) (qB (Qu e1.Add) (if 0<i then 0<=(w (i-1))/\∃e4,o.Steps[(w (i-1)).toNat]?=some e4/\if e1.From<=e4.From then qb false r else ZaK o (w (i+1))=some r else ZaK o (w (i+1))=some r) (qb false r)) (qb false r))else qb true r))/\
 (∀a r,Im (ZaJ a=some r) (qB (Qu a.Fixed) (qB (Qu a.Xb) (qB (Qu a.Xc) (qB (Qu a.Xd) (qB (Qu a.Xe) (if 4<(a.Steps.length:Int)then qb false r else ZaK a 0=some r) (qb false r)) (qb false r)) (qb false r)) (qb false r)) (qb false r))))/\
 ((∀k n i r,Im (ZcM k n i=some r) (if i<k then ZcM k (if 1<(w (n*4))then(w (n*4))else 1) (w (i+1))=some r else qi n r))/\
 (∀a r,Im (US a=some r) (qB (ZB a 0 7) (ZcM a 0 0=some r) (qi (-1) r)))))/\
 (((∀o l cc n i r,Im (ZaL o l cc n i=some r) (if i<(o.Steps.length:Int)then qG o.Steps i (λe1=>if e1.From<=(w (l+cc))then ZaL o l cc (w (n+e1.Add)) (w (i+1))=some r else ZaL o l cc n (w (i+1))=some r)else qi n r))/\
 (∀a a1 a2 a3 r,Im (Uw a a1 a2 a3=some r) (qB (ZaJ a) (qB (ZB a1 0 4096) (qB (ZB a2 0 4096) (qB (ZB a3 0 4096) (ZaL a a1 a2 (w ((w ((w ((w (a.Fixed+(w (a.Xb*a1))))+(w (a.Xc*a2))))+(w (a.Xd*a3))))+(w ((w (a.Xe*a1))*a2)))) 0=some r) (qi 0 r)) (qi 0 r)) (qi 0 r)) (qi 0 r))))/\
 ((∀a a1 r,Im (ZcN a a1=some r) (∃e1,a1[0]?=some e1/\qI (US e1) (λv1=>∃e3,a1[1]?=some e3/\qI (US e3) (λv5=>∃e5,a1[2]?=some e5/\qI (US e5) (λv6=>qI (Uw a v1 v5 v6) (λv7=>qi v7 r))))))/\
 ((∀o a r,Im (ZcQ o a=some r) (if a<=7 then ZcR o a 0=some r else some (.tup [.own 0,.own 1,Bo false],[.arr 3 1 true (([]:WA).map ic),.arr 3 1 true (([]:WA).map ic)])=some r))/\
 (∀o a b r,Im (ZcR o a b=some r) (if b<=7 then ZcS o a b 0=some r else ZcQ o (w (a+1))=some r))))))/\
 ((((∀o a b e r,Im (ZcS o a b e=some r) (if e<=7 then QX o ([a,b,e]) a b e 0=some r else ZcR o a (w (b+1))=some r))/\
 (∀o x a b e k r,Im (QX o x a b e k=some r) (if k<3 then x.length<=68719476736/\qG x k (λe1=>if(w (e1+1))<=7 then qI (ZcN o (x.set k.toNat (w (e1+1)))) (λv1=>qI (ZcN o x) (λv2=>if v1<v2 then some (.tup [.own 0,.own 1,Bo true],[.arr 3 1 true (x.map ic),.arr 3 1 true ((x.set k.toNat (w (e1+1))).map ic)])=some r else QX o x a b e (w (k+1))=some r))else QX o x a b e (w (k+1))=some r)else ZcS o a b (w (e+1))=some r)))/\
 ((∀a r,Im (ZiJ a=some r) (qB (ZaJ a) (ZcQ a 0=some r) (some (.tup [.own 0,.own 1,Bo false],[.arr 3 1 true (([]:WA).map ic),.arr 3 1 true (([]:WA).map ic)])=some r)))/\
 (∀o a r,Im (ZcT o a=some r) (if a<=7 then ZcU o a 0=some r else some (.own 0,[.arr 3 1 true (([]:WA).map ic)])=some r))))/\
 (((∀o a b r,Im (ZcU o a b=some r) (if b<=7 then ZfL o a b 0=some r else ZcT o (w (a+1))=some r))/\
 (∀o a b e r,Im (ZfL o a b e=some r) (if e<=7 then qI (ZcN o ([a,b,e])) (λv=>if v<1 then some (.own 0,[.arr 3 1 true (([a,b,e]).map ic)])=some r else ZfL o a b (w (e+1))=some r)else ZcU o a (w (b+1))=some r)))/\
 ((∀a r,Im (ZiM a=some r) (ZcT a 0=some r))/\
 ((∀m k r,Im (ZcV m k=some r) (if k<=5 then qA Zr.c (Qt m k) (λv=>qB (ZaJ v) (∃(v2:WA),∃(v3:WA),∃v4,ZiJ v=some (.tup [.own 0,.own 1,Bo v4],[.arr 3 1 true (v2.map ic),.arr 3 1 true (v3.map ic)])/\if v4=true then some (.tup [I k,.own 0,.own 1],[.arr 3 1 true (v2.map ic),.arr 3 1 true (v3.map ic)])=some r else qO 3 1 ic (ZiM v) (λv5=>if 0<(v5.length:Int)then some (.tup [I k,.own 0,.own 1],[.arr 3 1 true (v5.map ic),.arr 3 1 true (([]:WA).map ic)])=some r else ZcV m (w (k+1))=some r)) (some (.tup [I k,.own 0,.own 1],[.arr 3 1 true (([]:WA).map ic),.arr 3 1 true (([]:WA).map ic)])=some r))else some (.tup [I 0,.own 0,.own 1],[.arr 3 1 true (([]:WA).map ic),.arr 3 1 true (([]:WA).map ic)])=some r))/\
 (∀a r,Im (ZiN a=some r) (ZcV a 1=some r)))))):=by
 and_intros
 all_goals(intros;unfold Im;(try simp only[ZaK,ZaJ,ZcM,US,ZaL,Uw,ZcN,ZcQ,ZcR,ZcS,QX,ZiJ,ZcT,ZcU,ZfL,ZiM,ZcV,ZiN,ZB,Qu,Zr.c_def,Qt,Zm.c_def,mpl,dfs,qs]);(try simp only[itb]);(try simp only[itf,gS,kk]))
 all_goals(repeat' first|refine exI λ_=>?_|refine anJ λ_ _=>?_|refine anI λ_=>?_|refine orE2 ?_ ?_|exact False.elim)
 all_goals(intro h;first|rw[Zl Zo0.eq_1]|refine run Z6n rfl ?_|rw[Zl Zo3.eq_1]|refine run Z6o rfl ?_|rw[Zl Zo5.eq_1]|refine run Z6p rfl ?_|refine run Z6q rfl ?_|rw[Zl ZcO.eq_1]|rw[Zl ZfH.eq_1]|rw[Zl ZiH.eq_1]|rw[Zl Zo7.eq_1]|refine run Z6r rfl ?_|rw[Zl ZfJ.eq_1]|rw[Zl ZiK.eq_1]|rw[Zl Zo9.eq_1]|refine run Z6s rfl ?_|rw[Zl ZoC.eq_1]|refine run Z6t rfl ?_)
 all_goals (refine Yc ?_ h;clear h;simp +decide[*,kk,tI,tII,Zo1,Zwe,Zo4,Zwf,Zwg,Zo6,Zwh,Zwi,ZcP,ZfI,ZiI,Zo8,Zwj,ZfK,ZiL,ZoA,Zwk,ZoD,Zwl])
abbrev ZyU:=uq W6.1.1.1.1
abbrev Z8Q:=uq W6.1.1.1.2
abbrev Z8R:=uq W6.1.1.2.1
abbrev Z8S:=uq W6.1.1.2.2
abbrev ZyV:=uq W6.1.2.1.1
abbrev Z8T:=uq W6.1.2.1.2
abbrev Z8U:=uq W6.1.2.2.1
abbrev ZyW:=uq W6.1.2.2.2.1
abbrev ZyX:=uq W6.1.2.2.2.2
abbrev ZyY:=uq W6.2.1.1.1
abbrev ZyZ:=uq W6.2.1.1.2
abbrev Z8V:=uq W6.2.1.2.1
abbrev Zza:=uq W6.2.1.2.2
abbrev Zzb:=uq W6.2.2.1.1
abbrev ZpA:=uq W6.2.2.1.2
abbrev Z8W:=uq W6.2.2.2.1
abbrev Zzc:=uq W6.2.2.2.2.1
abbrev Z8X:=uq W6.2.2.2.2.2
theorem Uy:(((∀a r,Im (QY a=some r) (∃(v:WA),∃(v1:WA),∃v2,ZiN a=some (.tup [I v2,.own 0,.own 1],[.arr 3 1 true (v.map ic),.arr 3 1 true (v1.map ic)])/\qb (decide (v2=0)) r))/\
 ((∀l co i r,Im (ZcW l co i=some r) (if i<(l.length:Int)then qG l i (λe1=>if e1.Mask=co then qB (ZB e1.Size 0 4096) (qi e1.Size r) (ZcW l co (w (i+1))=some r)else ZcW l co (w (i+1))=some r)else qi (-1) r))/\
 (∀a a1 r,Im (ZiO a a1=some r) (ZcW a a1 0=some r))))/\
 ((∀n k r,Im (ZfM n k=some r) (if k<=7 then qI (US k) (λv=>if n<=v then qi k r else ZfM n (w (k+1))=some r)else qi (-1) r))/\
 ((∀a r,Im (VI a=some r) (if a<0 then qi (-1) r else ZfM a 0=some r))/\
 (∀a r,Im (Xm a=some r) (qI (VI a) (λv=>qI (US v) (λv3=>qi v3 r)))))))/\
 (((∀a a1 r,Im (KW a a1=some r) (qB (ZB a1 0 4096) (qI (Xm a1) (λv3=>qI (Uw a.Scan v3 0 v3) (λv4=>qi v4 r))) (qi (-1) r)))/\
 ((∀cc i r,Im (ZfN cc i=some r) (qG cc i (λe1=>if 0<=e1.Left then ZfN cc e1.Left=some r else qi i r)))/\
 (∀a a1 r,Im (ZcX a a1=some r) (ZfN a a1=some r))))/\
 ((∀m p cl cc cd i r,Im (QZ m p cl cc cd i=some r) (if i<(cc.length:Int)then qG cc i (λe1=>qI (ZiO cd e1.Mask) (λv3=>if e1.Right<0 then QZ m p cl cc cd (w (i+1))=some r else if v3<0 then QZ m p cl cc cd (w (i+1))=some r else qI (KW m v3) (λv4=>qH p.Steps i (λe4=>qA Zr.c (Qt m e4.Kind) (λv5=>qI (Xm v3) (λv6=>qI (Uw v5 0 0 v6) (λv7=>if v7<v4 then QZ m p cl cc cd (w (i+1))=some r else qI (ZcX cc i) (λv8=>ZcY m p cl cc ([]:WA) cd i v8 0=some r))))))))else some (.own 0,[.arr 3 1 true (cl.map ic)])=some r))/\
 ((∀m p cl cc cn cd i first k r,Im (ZcY m p cl cc cn cd i first k=some r) (if k<(cl.length:Int)then qG cl k (λe1=>if e1<first then cn.length+1<=68719476736/\ZcY m p cl cc (cn++[e1]) cd i first (w (k+1))=some r else ZcY m p cl cc cn cd i first (w (k+1))=some r)else cn.length+1<=68719476736/\QZ m p (cn++[i]) cc cd (w (i+1))=some r))/\
 (∀a a1 a2 a3 r,Im (KX a a1 a2 a3=some r) (∃(v:List Za),∃v1,K6 a1 a2=some (.tup [.own 0,Bo v1],[.arr 113 4 true (v.map Za.c)])/\if v1=true then qB (QY a) (QZ a a2 ([]:WA) v a3 0=some r) (some (.own 0,[.arr 3 1 true (([]:WA).map ic)])=some r)else some (.own 0,[.arr 3 1 true (([]:WA).map ic)])=some r))))):=by
 and_intros
 all_goals(intros;unfold Im;(try simp only[QY,ZcW,ZiO,ZfM,VI,Xm,KW,ZfN,ZcX,QZ,ZcY,KX,ZiN,Zm.c_def,Zr.c_def,ZB,US,Uw,Qt,Zd.c_def,Za.c_def,K6,Zo.c_def,Ze.c_def,mpl,dfs,qs]);(try simp only[itb]);(try simp only[itf,gS,kk]))
 all_goals(repeat' first|refine exI λ_=>?_|refine anJ λ_ _=>?_|refine anI λ_=>?_|refine orE2 ?_ ?_|exact False.elim)
 all_goals(intro h;first|refine run Z6u rfl ?_|rw[Zl ZoF.eq_1]|refine run Z6v rfl ?_|rw[Zl ZoI.eq_1]|refine run Z6w rfl ?_|refine run Z6x rfl ?_|refine run Z6y rfl ?_|rw[Zl ZoL.eq_1]|refine run Z6z rfl ?_|rw[Zl ZiP.eq_1]|rw[Zl ZoN.eq_1]|refine run Z60 rfl ?_)
 all_goals (refine Yc ?_ h;clear h;simp +decide[*,kk,tI,tII,Zwm,ZoG,Zwn,ZoJ,Zwo,Zwp,Zwq,ZoM,Zwr,ZoP,ZiQ,Zws,ZoO,Zwt])
abbrev Z8Y:=uq Uy.1.1.1
abbrev Zzd:=uq Uy.1.1.2.1
abbrev Z8Z:=uq Uy.1.1.2.2
abbrev Je:=uq Uy.1.2.1
abbrev Z9a:=uq Uy.1.2.2.1
abbrev Z9b:=uq Uy.1.2.2.2
abbrev Z9c:=uq Uy.2.1.1
abbrev Z9d:=uq Uy.2.1.2.1
abbrev Z9e:=uq Uy.2.1.2.2
abbrev Zze:=uq Uy.2.2.1
abbrev Zzf:=uq Uy.2.2.2.1
abbrev Z9f:=uq Uy.2.2.2.2
end Go.Proofs.YtgbipcfdgfjplaaGreat
