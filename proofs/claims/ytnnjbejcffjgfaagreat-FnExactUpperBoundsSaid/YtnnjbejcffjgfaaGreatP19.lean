/-
  Parts of the proofs for this seat: G21 G22 G23 G24.
-/
import Derived.Test.YtnnjbejcffjgfaaGreatP11
import Derived.Test.YtnnjbejcffjgfaaGreatP12
set_option linter.unusedSectionVars false
set_option linter.unusedSimpArgs false
set_option linter.unusedVariables false
set_option maxRecDepth 100000
set_option maxHeartbeats 4000000
namespace Go.Proofs.YtnnjbejcffjgfaaGreat
open Go.AM
theorem Zd5:((((∀⦃p cd d n r⦄,Im (Zi3 p cd d n=some r) (if n<300 then(∃v,Zxm d=some (I v,[])/\(if v<0 then(Z4l p cd d d.Value 0=some r)else(∃v7,Zxn d v=some (I v7,[])/\(if v7<0 then(some (.tup [.agg [I 0,I 0,.own 0,.own 1],Bo false],[.arr 149 2 true (([]:List Za).map Za.c),.arr 149 2 true (([]:List Za).map Za.c)])=some r)else((∃(v11:List Int),∃(v12:List Int),∃(v13:List (List Za)),∃(v14:List Za),∃(v15:List Za),∃(v16:Za),∃v17,Zrl d v7 v=some (.tup [.agg [.own 0,.own 1,.own 2,.own 3,.own 4,I v16.Num,I v16.Den],Bo v17],[.arr 3 1 true (v11.map ic),.arr 3 1 true (v12.map ic),.arr 179 1 true (v13.map (lc 2 Za.c)),.arr 149 2 true (v14.map Za.c),.arr 149 2 true (v15.map Za.c)])/\(if v17=true then(Zi3 p cd (⟨v11,v12,v13,v14,v15,v16⟩:Zn) (w (n+1))=some r)else(some (.tup [.agg [I 0,I 0,.own 0,.own 1],Bo false],[.arr 149 2 true (([]:List Za).map Za.c),.arr 149 2 true (([]:List Za).map Za.c)])=some r)))\/(∃(v18:List Int),∃(v19:List Int),∃v20,∃(v21:List (List Za)),∃(v22:List Za),∃(v23:List Za),∃(v24:Za),Zrl d v7 v=some (.tup [.agg [.own 0,.own 1,.own 2,.own 3,.own 4,I v24.Num,I v24.Den],Bo true],[.arr 3 1 true (v18.map ic),.arr 3 1 true (v19.map ic),.arr 179 1 v20 (v21.map (lc 2 Za.c)),.arr 149 2 true (v22.map Za.c),.arr 149 2 true (v23.map Za.c)])/\(Zi3 p cd (⟨v18,v19,v21,v22,v23,v24⟩:Zn) (w (n+1))=some r)))))))else(some (.tup [.agg [I 0,I 0,.own 0,.own 1],Bo false],[.arr 149 2 true (([]:List Za).map Za.c),.arr 149 2 true (([]:List Za).map Za.c)])=some r)))/\
 (∀⦃p cd d cc k r⦄,Im (Z4l p cd d cc k=some r) (if k<(p.Objective.length:Int)then(∃(v:Za),Zcb 0=some (.agg (v.c.map .t),[])/\(Zxx p cd d cc ([v]) (w (k+1))=some r))else(Zbw6 p cd d cc 0=some r))))/\
 ((∀⦃p cd d cc x k r⦄,Im (Zxx p cd d cc x k=some r) (if k<(p.Objective.length:Int)then(∃(v:Za),Zcb 0=some (.agg (v.c.map .t),[])/\(x.length+1<=68719476736/\(Zxx p cd d cc (x++[v]) (w (k+1))=some r)))else(Zbhv p cd d cc x 0=some r)))/\
 (∀⦃p cd d cc x i r⦄,Im (Zbhv p cd d cc x i=some r) (if i<(p.Rows.length:Int)then(∃(v:Za),Zcb 0=some (.agg (v.c.map .t),[])/\(Zxy p cd d cc x ([v]) (w (i+1))=some r))else(Zbw7 p cd d cc x 0=some r)))))/\
 (((∀⦃p cd d cc x x1 i r⦄,Im (Zxy p cd d cc x x1 i=some r) (if i<(p.Rows.length:Int)then(∃(v:Za),Zcb 0=some (.agg (v.c.map .t),[])/\(x1.length+1<=68719476736/\(Zxy p cd d cc x (x1++[v]) (w (i+1))=some r)))else(Zro p cd d cc x x1 0=some r)))/\
 (∀⦃p cd d cc x x1 i r⦄,Im (Zro p cd d cc x x1 i=some r) (if i<(d.Basic.length:Int)then(0<=i/\(∃e1,d.Basic[i.toNat]?=some e1/\(if e1<(p.Objective.length:Int)then(∃e2,d.Limits[i.toNat]?=some e2/\(0<=e1/\(∃e3,x[e1.toNat]?=some e3/\(Zro p cd d cc (x.set e1.toNat e2) x1 (w (i+1))=some r))))else(Zro p cd d cc x x1 (w (i+1))=some r))))else(Zrp p cd d cc x x1 0=some r))))/\
 ((∀⦃p cd d cc x x1 k r⦄,Im (Zrp p cd d cc x x1 k=some r) (if k<(d.Free.length:Int)then(0<=k/\(∃e1,d.Free[k.toNat]?=some e1/\(if(p.Objective.length:Int)<=e1 then(∃e2,d.Costs[k.toNat]?=some e2/\(0<=(w (e1-(p.Objective.length:Int)))/\(∃e3,x1[(w (e1-(p.Objective.length:Int))).toNat]?=some e3/\(Zrp p cd d cc x (x1.set ((w (e1-(p.Objective.length:Int))).toNat) (⟨(w (0-e2.Num)),e2.Den⟩:Za)) (w (k+1))=some r))))else(Zrp p cd d cc x x1 (w (k+1))=some r))))else(some (.tup [.agg [I cc.Num,I cc.Den,.own 0,.own 1],Bo true],[.arr 149 2 true (x.map Za.c),.arr 149 2 true (x1.map Za.c)])=some r)))/\
 (∀⦃a r⦄,Im (Zxw a=some r) (∃(v:List Int),∃(v1:List Int),∃(v2:List (List Za)),∃(v3:List Za),∃(v4:List Za),∃(v5:Za),∃v6,Zxd a=some (.tup [.agg [.own 0,.own 1,.own 2,.own 3,.own 4,I v5.Num,I v5.Den],Bo v6],[.arr 3 1 true (v.map ic),.arr 3 1 true (v1.map ic),.arr 179 1 true (v2.map (lc 2 Za.c)),.arr 149 2 true (v3.map Za.c),.arr 149 2 true (v4.map Za.c)])/\(if v6=true then(Zi3 a (⟨0,0⟩:Za) (⟨v,v1,v2,v3,v4,v5⟩:Zn) 0=some r)else(some (.tup [.agg [I 0,I 0,.own 0,.own 1],Bo false],[.arr 149 2 true (([]:List Za).map Za.c),.arr 149 2 true (([]:List Za).map Za.c)])=some r)))))))/\
 ((((∀⦃a a1 a2 r⦄,Im (Z4m a a1 a2=some r) (∃(v:List Int),∃(v1:List (List Int)),∃(v2:List Int),∃v3,Z34 a a1 a2=some (.tup [.agg [.own 0,.own 1,.own 2],Bo v3],[.arr 3 1 true (v.map ic),.arr 56 1 true (v1.map isc),.arr 3 1 true (v2.map ic)])/\(if v3=true then(∃(v7:List Za),∃(v8:List Za),∃(v9:Za),∃v10,Zxw (⟨v,v1,v2⟩:Program)=some (.tup [.agg [I v9.Num,I v9.Den,.own 0,.own 1],Bo v10],[.arr 149 2 true (v7.map Za.c),.arr 149 2 true (v8.map Za.c)])/\(some (.tup [.agg [I v9.Num,I v9.Den,.own 0,.own 1],Bo v10],[.arr 149 2 true (v7.map Za.c),.arr 149 2 true (v8.map Za.c)])=some r))else(some (.tup [.agg [I 0,I 0,.own 0,.own 1],Bo false],[.arr 149 2 true (([]:List Za).map Za.c),.arr 149 2 true (([]:List Za).map Za.c)])=some r))))/\
 (∀⦃a a1 a2 r⦄,Im (Zxz a a1 a2=some r) (∃(v:List Za),∃(v1:List Za),∃(v2:Za),∃v3,Z4m a a1 a2=some (.tup [.agg [I v2.Num,I v2.Den,.own 0,.own 1],Bo v3],[.arr 149 2 true (v.map Za.c),.arr 149 2 true (v1.map Za.c)])/\(some (.tup [.agg (v2.c.map .t),Bo v3],[])=some r))))/\
 ((∀⦃a r⦄,Im (Z4n a=some r) (∃v,Zcn a=some (Bo v,[])/\(if v=true then(¬a.Den=0/\(if(w ((w (Int.tdiv a.Num a.Den))*a.Den))<a.Num then(some (I (w ((w (Int.tdiv a.Num a.Den))+1)),[])=some r)else(some (I (w (Int.tdiv a.Num a.Den)),[])=some r)))else(some (I 0,[])=some r))))/\
 (∀⦃a r⦄,Im (Zbhw a=some r) (if 12<a then(some (I 4096,[])=some r)else(¬a<0/\(some (I (shlI 1 a),[])=some r))))))/\
 (((∀⦃n co cl x i r⦄,Im (Zx0 n co cl x i=some r) (if i<co then(¬cl<0/\(if(shlI 1 cl)<(w (x*n))then(some (Bo false,[])=some r)else(Zx0 n co cl (w (x*n)) (w (i+1))=some r)))else(some (Bo true,[])=some r)))/\
 (∀⦃a a1 a2 r⦄,Im (Z4o a a1 a2=some r) (Zx0 a a1 a2 1 0=some r)))/\
 ((∀⦃cn n r⦄,Im (Zx2 cn n=some r) (if n<4096 then(∃v,Z4o (w (n+1)) cn.Den cn.Num=some (Bo v,[])/\(if v=true then(Zx2 cn (w (n+1))=some r)else(some (I n,[])=some r)))else(some (I n,[])=some r)))/\
 (∀⦃a r⦄,Im (Zx1 a=some r) (∃v,Zcn a=some (Bo v,[])/\(if v=true then(if a.Num<0 then(some (I (-1),[])=some r)else(if 40<a.Num then(∃v7,Z4n a=some (I v7,[])/\(∃v11,Zbhw v7=some (I v11,[])/\(some (I v11,[])=some r)))else(Zx2 a 1=some r)))else(some (I (-1),[])=some r))))))):=by
 and_intros
 all_goals intros
 all_goals unfold Im
 all_goals try simp only[Zi3,Z4l,Zxx,Zbhv,Zxy,Zro,Zrp,Zxw,Z4m,Zxz,Z4n,Zbhw,Zx0,Z4o,Zx2,Zx1,Zxm,Zxn,Zrl,Zn.c_def,Za.c_def,Zcb,Zxd,Program.c_def,Z34,Zl.c_def,Zi.c_def,Zb.c_def,Zf.c_def,Zcn,Zbw6,Zbw7,mpl,dfs]
 all_goals try simp only[itb]
 all_goals try simp only[itf,gS,kk]
 all_goals repeat' first|refine exI λ_=>?_|refine anJ λ_ _=>?_|refine anI λ_=>?_|refine orE2 ?_ ?_|exact False.elim
 all_goals (intro h;first|rw[Zd Zgz.eq_1]|rw[Zd Z4h.eq_1]|rw[Zd Zxu.eq_1]|rw[Zd Z4i.eq_1]|rw[Zd Zbht.eq_1]|refine run Zck2 rfl ?_|refine run Zck3 rfl ?_|refine run Zck4 rfl ?_|refine run Zck5 rfl ?_|refine run Zck6 rfl ?_|rw[Zd Zbhy.eq_1]|refine run Zck7 rfl ?_|rw[Zd Zbh1.eq_1]|refine run Zck8 rfl ?_)
 all_goals (refine Yf ?_ h;clear h;simp +decide[*,kk,tI,tII,Zhz,Zh0,Zg0,Z4k,Zxv,Zbw3,Z4j,Zbw4,Zbhu,Zbw5,Zbw8,Zbw9,Zbxc,Zbxb,Zbxd,Zbhz,Zbxe,Zbh2,Zbxf])
abbrev Zyo:=Zd5.1.1.1.1
abbrev Zcr9:=Zd5.1.1.1.2
abbrev Zb3n:=Zd5.1.1.2.1
abbrev Zcsa:=Zd5.1.1.2.2
abbrev Zb3o:=Zd5.1.2.1.1
abbrev Zbjt:=Zd5.1.2.1.2
abbrev Zbju:=Zd5.1.2.2.1
abbrev Zb3p:=Zd5.1.2.2.2
abbrev Zbjv:=Zd5.2.1.1.1
abbrev Zcsb:=Zd5.2.1.1.2
abbrev Zcsc:=Zd5.2.1.2.1
abbrev Zcsd:=Zd5.2.1.2.2
abbrev Zb3q:=Zd5.2.2.1.1
abbrev Zcse:=Zd5.2.2.1.2
abbrev Zb3r:=Zd5.2.2.2.1
abbrev Zcsf:=Zd5.2.2.2.2
theorem Zdl:((((∀⦃s q cc i r⦄,Im (Zrr s q cc i=some r) (if i<(q.Atoms.length:Int)then(¬i<0/\(if(andI (shrI cc i) 1)=1 then(∃(v:List Zh),∃v1,∃v2,∃v3,Zfs s q i=some (.agg [.t (.str v1),I v2,I v3,.own 0],[.arr 200 3 true (v.map Zh.c)])/\(if v3=0 then(some (I 0,[])=some r)else(Zrr s q cc (w (i+1))=some r)))else(Zrr s q cc (w (i+1))=some r)))else(∃(v4:Za),∃v5,Zxz s q cc=some (.tup [.agg (v4.c.map .t),Bo v5],[])/\(if v5=true then(∃v6,Zx1 v4=some (I v6,[])/\(some (I v6,[])=some r))else(some (I 4096,[])=some r)))))/\
 (∀⦃a a1 a2 r⦄,Im (Zrq a a1 a2=some r) (∃v,Zcv a a1 a2=some (Bo v,[])/\(if v=true then(Zrr a a1 a2 0=some r)else(some (I (-1),[])=some r)))))/\
 ((∀⦃s q l cc n cl r⦄,Im (Zx4 s q l cc n cl=some r) (if 1<(l.length:Int)then(∃v,Zrq s q cc=some (I v,[])/\(if v<n then(some (.tup [I v,I 4],[])=some r)else(some (.tup [I n,I cl],[])=some r)))else(some (.tup [I n,I cl],[])=some r)))/\
 (∀⦃s q l cc n cl x x1 r⦄,Im (Zx5 s q l cc n cl x x1=some r) (if 1<(l.length:Int)then(∃v,Zrq s q cc=some (I v,[])/\(if v<n then(some (.tup [I v,I 4],[])=some r)else(some (.tup [I n,I cl],[])=some r)))else(some (.tup [I n,I cl],[])=some r)))))/\
 (((∀⦃s q l cc n cl x r⦄,Im (Zx6 s q l cc n cl x=some r) (if 1<(l.length:Int)then(∃v,Zrq s q cc=some (I v,[])/\(if v<n then(some (.tup [I v,I 4],[])=some r)else(some (.tup [I n,I cl],[])=some r)))else(some (.tup [I n,I cl],[])=some r)))/\
 (∀⦃a a1 a2 r⦄,Im (Zrs a a1 a2=some r) (∃v,Zcv a a1 a2=some (Bo v,[])/\(if v=true then(∃v4,Zwt a a1 a2=some (I v4,[])/\(∃v6,Zww a a1 a2=some (I v6,[])/\(if v6<v4 then(∃(v7:List Int),Zq6 a2=some (.own 0,[.arr 3 1 true (v7.map ic)])/\(if(v7.length:Int)=2 then(∃e5,v7[0]?=some e5/\(∃e6,v7[1]?=some e6/\(∃v8,Zrc a a1 e5 e6=some (I v8,[])/\(if v8<v6 then(Zx4 a a1 v7 a2 v8 3=some r)else(Zx5 a a1 v7 a2 v6 2 v8 false=some r)))))else(Zx6 a a1 v7 a2 v6 2 false=some r)))else(∃(v9:List Int),Zq6 a2=some (.own 0,[.arr 3 1 true (v9.map ic)])/\(if(v9.length:Int)=2 then(∃e9,v9[0]?=some e9/\(∃e10,v9[1]?=some e10/\(∃v10,Zrc a a1 e9 e10=some (I v10,[])/\(if v10<v4 then(Zx4 a a1 v9 a2 v10 3=some r)else(Zx5 a a1 v9 a2 v4 1 v10 false=some r)))))else(Zx6 a a1 v9 a2 v4 1 false=some r))))))else(some (.tup [I (-1),I 0],[])=some r)))))/\
 ((∀⦃a a1 a2 r⦄,Im (Zx7 a a1 a2=some r) (∃v v1,Zrs a a1 a2=some (.tup [I v,I v1],[])/\(some (I v,[])=some r)))/\
 ((∀⦃a a1 a2 r⦄,Im (Z4q a a1 a2=some r) (∃v,Zcu a a1 a2=some (Bo v,[])/\(if v=true then(∃v4 v5,Zp4 a a1 a2=some (.tup [I v4,I v5],[])/\(some (I v5,[])=some r))else(some (I 0,[])=some r))))/\
 (∀⦃a a1 a2 r⦄,Im (Z4r a a1 a2=some r) (∃v v1,Zrs a a1 a2=some (.tup [I v,I v1],[])/\(some (I v1,[])=some r)))))))/\
 ((((∀⦃co cc cd x x1 x2 r⦄,Im (Zns co cc cd x x1 x2=some r) (if x2<x1 then(0<=x2/\(∃e1,x[x2.toNat]?=some e1/\(¬x2<0/\(if(andI (shrI cc x2) 1)=0 then(∃(v4:List Int),Zki e1.Vars co=some (.own 0,[.arr 3 1 true (v4.map ic)])/\(if 0<(v4.length:Int)then(Zns co cc (orI cd (shlI 1 x2)) x x1 (w (x2+1))=some r)else(Zns co cc cd x x1 (w (x2+1))=some r)))else(Zns co cc cd x x1 (w (x2+1))=some r)))))else(some (I cd,[])=some r)))/\
 (∀⦃a a1 r⦄,Im (Z4t a a1=some r) (∃(v:List Int),Zhp a a1=some (.own 0,[.arr 3 1 true (v.map ic)])/\(Zns v a1 0 a.Atoms (a.Atoms.length:Int) 0=some r))))/\
 ((∀⦃q cc cp r⦄,Im (Zx8 q cc cp=some r) (∃v,Z4t q cp=some (I v,[])/\(if(orI cp (andI v cc))=cp then(some (Bo (decide (cp=cc)),[])=some r)else(Zx8 q cc (orI cp (andI v cc))=some r))))/\
 (∀⦃a a1 r⦄,Im (Zrt a a1=some r) (if a1=0 then(some (Bo false,[])=some r)else(Zx8 a a1 (andI a1 (w (0-a1)))=some r)))))/\
 (((∀⦃q cd cc r⦄,Im (Zru q cd cc=some r) (∃v,Ze5 q=some (I v,[])/\(if cc<=v then(∃v4,Zrt q cc=some (Bo v4,[])/\(if v4=true then(cd.length+1<=68719476736/\(Zru q (cd++[cc]) (w (cc+1))=some r))else(Zru q cd (w (cc+1))=some r)))else(some (.own 0,[.arr 3 1 true (cd.map ic)])=some r))))/\
 (∀⦃a r⦄,Im (Znt a=some r) (Zru a ([]:List Int) 1=some r)))/\
 ((∀⦃s q cd x x1 x2 r⦄,Im (Zrv s q cd x x1 x2=some r) (if x2<x1 then(0<=x2/\(∃e1,x[x2.toNat]?=some e1/\(∃v4 v5,Zp4 s q e1=some (.tup [I v4,I v5],[])/\(0<=e1/\(∃e3,cd[e1.toNat]?=some e3/\(Zrv s q (cd.set e1.toNat v4) x x1 (w (x2+1))=some r))))))else(some (.own 0,[.arr 3 1 true (cd.map ic)])=some r)))/\
 ((∀⦃q cc cd cn i r⦄,Im (Znu q cc cd cn i=some r) (if i<(q.Atoms.length:Int)then(¬i<0/\(if(andI (shrI cc i) 1)=0 then(∃v,Zix q (shlI 1 i)=some (I v,[])/\(if(andI v cn)=0 then(Znu q cc cd cn (w (i+1))=some r)else(Znu q cc (orI cd (shlI 1 i)) cn (w (i+1))=some r)))else(Znu q cc cd cn (w (i+1))=some r)))else(some (I cd,[])=some r)))/\
 (∀⦃a a1 r⦄,Im (Zx9 a a1=some r) (∃v,Zix a a1=some (I v,[])/\(Znu a a1 0 v 0=some r))))))):=by
 and_intros
 all_goals intros
 all_goals unfold Im
 all_goals try simp only[Zrr,Zrq,Zrs,Zx7,Z4q,Z4r,Zns,Z4t,Zx8,Zrt,Zru,Znt,Zrv,Znu,Zx9,Zfs,Zxz,Zx1,Zl.c_def,Zi.c_def,Zb.c_def,Za.c_def,Zf.c_def,Zcv,Zwt,Zww,Zq6,Zrc,Zcu,Zp4,Zki,Zhp,Ze5,Zix,Zx4,Zx5,Zx6,mpl,dfs]
 all_goals try simp only[itb]
 all_goals try simp only[itf,gS,kk]
 all_goals repeat' first|refine exI λ_=>?_|refine anJ λ_ _=>?_|refine anI λ_=>?_|refine orE2 ?_ ?_|exact False.elim
 all_goals (intro h;first|rw[Zd Zbh4.eq_1]|refine run Zck9 rfl ?_|rw[Ev_eq Zx3.eq_1]|refine run Zcla rfl ?_|refine run Zclb rfl ?_|refine run Zclc rfl ?_|refine run Zcld rfl ?_|rw[Zd Zbh6.eq_1]|refine run Zcle rfl ?_|rw[Zd Zbh8.eq_1]|refine run Zclf rfl ?_|rw[Zd Zbh9.eq_1]|refine run Zclg rfl ?_|rw[Zd Zbic.eq_1]|rw[Zd Zbif.eq_1]|refine run Zcli rfl ?_)
 all_goals (refine Yf ?_ h;clear h;simp +decide[*,kk,tI,tII,Zbh5,Zbxg,Zbxh,Zbxj,Zbxi,Zbxk,Zbxl,Zbxm,Zbxn,Zbh7,Zbxo,Zbxq,Zbxr,Zbia,Zbxs,Zbid,Zbxt,Zbig,Zbxu])
abbrev Zb3s:=Zdl.1.1.1.1
abbrev Zcsg:=Zdl.1.1.1.2
abbrev Zcsh:=Zdl.1.1.2.1
abbrev Zcsi:=Zdl.1.1.2.2
abbrev Zcsj:=Zdl.1.2.1.1
abbrev Zb3t:=Zdl.1.2.1.2
abbrev Zcsk:=Zdl.1.2.2.1
abbrev Zcsl:=Zdl.1.2.2.2.1
abbrev Zcsm:=Zdl.1.2.2.2.2
abbrev Zb3u:=Zdl.2.1.1.1
abbrev Zcsn:=Zdl.2.1.1.2
abbrev Zb3v:=Zdl.2.1.2.1
abbrev Zb3w:=Zdl.2.1.2.2
abbrev Zb3x:=Zdl.2.2.1.1
abbrev Zcso:=Zdl.2.2.1.2
abbrev Zb3y:=Zdl.2.2.2.1
abbrev Zb3z:=Zdl.2.2.2.2.1
abbrev Zcsp:=Zdl.2.2.2.2.2
theorem Zi9:(((∀⦃q cc x n r⦄,Im (Zya q cc x n=some r) (if n<(q.Atoms.length:Int)then(∃v1,Zx9 q x=some (I v1,[])/\(Zya q cc (orI x (andI v1 cc)) (w (n+1))=some r))else(some (Bo (decide (x=cc)),[])=some r)))/\
 (∀⦃a a1 r⦄,Im (Z4w a a1=some r) (Zya a a1 (andI a1 (w (0-a1))) 0=some r)))/\
 ((∀⦃a a1 r⦄,Im (Znv a a1=some r) (∃v1,Zq8 a a1=some (Bo v1,[])/\(if v1=true then(if 0<a1 then(∃v2,Z4w a a1=some (Bo v2,[])/\(some (Bo v2,[])=some r))else(some (Bo false,[])=some r))else(some (Bo false,[])=some r))))/\
 (∀⦃s q c m r⦄,Im (Zrx s q c m=some r) (∃v1,Zfr q=some (I v1,[])/\(if m<=v1 then(∃v2,Znv q m=some (Bo v2,[])/\(if v2=true then(∃v3,Zx7 s q m=some (I v3,[])/\(c.length+1<=68719476736/\(Zrx s q (c++[v3]) (w (m+1))=some r)))else(c.length+1<=68719476736/\(Zrx s q (c++[0]) (w (m+1))=some r))))else(some (.own 0,[.arr 3 1 true (c.map ic)])=some r))))))/\
 (((∀⦃a a1 r⦄,Im (Zrw a a1=some r) (∃v1,Zfr a1=some (I v1,[])/\(∃v2,Zcv a a1 v1=some (Bo v2,[])/\(if v2=true then(Zrx a a1 ([]:List Int) 0=some r)else(some (.own 0,[.arr 3 1 true (([]:List Int).map ic)])=some r)))))/\
 (∀⦃a a1 r⦄,Im (Zyb a a1=some r) (∃v1,Zpr a a1=some (Bo v1,[])/\(if v1=true then(∃v2,Zrt a a1=some (Bo v2,[])/\(some (Bo v2,[])=some r))else(some (Bo false,[])=some r)))))/\
 ((∀⦃v s x x1 r⦄,Im (Zyc v s x x1=some r) (if x1<x then(0<=x1/\(∃e1,s[x1.toNat]?=some e1/\(if v.Name=e1.Name/\v.Column=e1.Column/\v.Into=e1.Into/\v.IntoColumn=e1.IntoColumn then(some (I x1,[])=some r)else(Zyc v s x (w (x1+1))=some r))))else(some (I (-1),[])=some r)))/\
 ((∀⦃a a1 r⦄,Im (Zbip a a1=some r) (Zyc a1 a (a.length:Int) 0=some r))/\
 (∀⦃a a1 r⦄,Im (Znw a a1=some r) (∃v1,Zbip a a1=some (I v1,[])/\(some (Bo (decide (0<=v1)),[])=some r)))))):=by
 and_intros
 all_goals intros
 all_goals unfold Im
 all_goals try simp only[Zya,Z4w,Znv,Zrx,Zrw,Zyb,Zyc,Zbip,Znw,Zx9,Zb.c_def,Zq8,Zfr,Zx7,Zl.c_def,Zi.c_def,Zf.c_def,Zcv,Zpr,Zrt,Zj.c_def,mpl,dfs]
 all_goals try simp only[itb]
 all_goals try simp only[itf,gS,kk]
 all_goals repeat' first|refine exI λ_=>?_|refine anJ λ_ _=>?_|refine anI λ_=>?_|refine orE2 ?_ ?_|exact False.elim
 all_goals (intro h;first|rw[Zd Zbii.eq_1]|refine run Zclj rfl ?_|refine run Zclk rfl ?_|rw[Zd Zbik.eq_1]|refine run Zcll rfl ?_|refine run Zclm rfl ?_|rw[Zd Zbin.eq_1]|refine run Zcln rfl ?_|refine run Zclo rfl ?_)
 all_goals (refine Yf ?_ h;clear h;simp +decide[*,kk,tI,tII,Zbij,Zbxv,Zbxw,Zbxx,Zbil,Zbxy,Zbxz,Zbio,Zbx0,Zbx1])
abbrev Zb30:=Zi9.1.1.1
abbrev Zcsq:=Zi9.1.1.2
abbrev Zcsr:=Zi9.1.2.1
abbrev Zb31:=Zi9.1.2.2
abbrev Zcss:=Zi9.2.1.1
abbrev Zcst:=Zi9.2.1.2
abbrev Zb32:=Zi9.2.2.1
abbrev Zcsu:=Zi9.2.2.2.1
abbrev Zcsv:=Zi9.2.2.2.2
theorem Zcsw{a:Zf}{a1:Zb}{r:AV×List Blk}(h:(∃(v:Bool),Zcu a a1 1=some (Bo v,[])/\(if v=true then(∃(v1:Int),Ze5 a1=some (I v1,[])/\(0<=(w (v1+1))/\((w (v1+1))<=(w (v1+1))/\((w (v1+1)).toNat*8<=room/\((w (v1+1))<=140737488355328/\(∃(v2:List Int),Znt a1=some (.own 0,[.arr 3 1 true (v2.map ic)])/\(Zrv a a1 (List.replicate ((w (v1+1))).toNat 0) v2 (v2.length:Int) 0=some r)))))))else(some (.t .nil,[])=some r)))):Zi4 a a1=some r:=by
 unfold Zi4;refine run Zclh rfl ?_;obtain⟨v,q1,h⟩:=h;unfold Zcu at q1
 try simp at q1
 by_cases q2:v=true
 .rw[if_pos q2]at h;obtain⟨v1,q3,h⟩:=h;unfold Ze5 at q3
  try simp at q3
  obtain⟨q4,h⟩:=h;obtain⟨q5,h⟩:=h;obtain⟨q6,h⟩:=h;have zq6:=q6;try simp at zq6
  obtain⟨q7,h⟩:=h;obtain⟨v2,q8,h⟩:=h;unfold Znt at q8
  try simp at q8
  refine Yf ?_ h;clear h;simp +decide[*,Zbie,tI,tII,Zrv]
 .rw[if_neg q2]at h;refine Yf ?_ h;clear h;simp +decide[*,Zbie,tI,tII]
theorem Zdm:((((∀⦃s q x x1 v cn x2 x3 r⦄,Im (Zk8 s q x x1 v cn x2 x3=some r) (if x3<x2 then(0<=x3/\(∃e1,x1[x3.toNat]?=some e1/\(0<=e1/\(∃e2,q.Atoms[e1.toNat]?=some e2/\(∃v3,Zmd e2.Vars v=some (I v3,[])/\(if v3<0 then(Zk8 s q x x1 v cn x2 (w (x3+1))=some r)else(if e2.Name=x.Name then(if v3=cn then(some (Bo true,[])=some r)else(∃v7,Znw s.Inclusions (⟨e2.Name,v3,x.Name,cn⟩:Zj)=some (Bo v7,[])/\(if v7=true then(some (Bo true,[])=some r)else(Zk8 s q x x1 v cn x2 (w (x3+1))=some r))))else(∃v8,Znw s.Inclusions (⟨e2.Name,v3,x.Name,cn⟩:Zj)=some (Bo v8,[])/\(if v8=true then(some (Bo true,[])=some r)else(Zk8 s q x x1 v cn x2 (w (x3+1))=some r))))))))))else(some (Bo false,[])=some r)))/\
 (∀⦃a a1 a2 a3 r⦄,Im (Z41 a a1 a2 a3=some r) (0<=a3/\(∃e1,a1.Atoms[a3.toNat]?=some e1/\(∃(v2:List Int),Zhp a1 a2=some (.own 0,[.arr 3 1 true (v2.map ic)])/\(∃(v3:List Int),Zki e1.Vars v2=some (.own 0,[.arr 3 1 true (v3.map ic)])/\(¬a3<0/\(if(andI (shrI a2 a3) 1)=1 then(some (Bo false,[])=some r)else(if(v3.length:Int)=1 then(∃e4,v3[0]?=some e4/\(∃v8,Zmd e1.Vars e4=some (I v8,[])/\((Zca a2=some (.t .nil,[])/\(Zbx4 a a1 e1 e4 v8 0 0=some r))\/(∃(v14:List Int),Zca a2=some (.own 0,[.arr 3 1 true (v14.map ic)])/\(Zk8 a a1 e1 v14 e4 v8 (v14.length:Int) 0=some r)))))else(some (Bo false,[])=some r))))))))))/\
 ((∀⦃cd s q x cv cp x1 x2 r⦄,Im (Zg1 cd s q x cv cp x1 x2=some r) (if x2<x1 then(0<=x2/\(∃e1,x[x2.toNat]?=some e1/\(∃v2,Z41 s q cv e1=some (Bo v2,[])/\(if v2=true then(∃(v3:List Int),Zep cd=some (.own 0,[.arr 3 1 true (v3.map ic)])/\(v3.length+1<=68719476736/\(¬e1<0/\((∃(v7:List Int),Ze8 (v3++[e1]) s q (orI cv (shlI 1 e1)) (Zr cp (shlI 1 e1))=some (.tup [.own 0,Bo true],[.arr 3 1 true (v7.map ic)])/\(some (.tup [.own 1,Bo true],[.arr 3 1 true (cd.map ic),.arr 3 1 true (v7.map ic)])=some r))\/(∃(v8:List Int),Ze8 (v3++[e1]) s q (orI cv (shlI 1 e1)) (Zr cp (shlI 1 e1))=some (.tup [.t .nil,Bo false],[.arr 3 1 true (v8.map ic)])/\(Zg1 cd s q x cv cp x1 (w (x2+1))=some r))\/(∃(v10:List Int) (v11:List Int),Ze8 (v3++[e1]) s q (orI cv (shlI 1 e1)) (Zr cp (shlI 1 e1))=some (.tup [.own 1,Bo true],[.arr 3 1 true (v10.map ic),.arr 3 1 true (v11.map ic)])/\(some (.tup [.own 1,Bo true],[.arr 3 1 true (cd.map ic),.arr 3 1 true (v11.map ic)])=some r))))))else(Zg1 cd s q x cv cp x1 (w (x2+1))=some r)))))else(some (.tup [.t .nil,Bo false],[.arr 3 1 true (cd.map ic)])=some r)))/\
 (∀⦃x a a1 a2 a3 r⦄,Im (Ze8 x a a1 a2 a3=some r) (if a3=0 then(some (.tup [.own 0,Bo true],[.arr 3 1 true (x.map ic)])=some r)else((Zca a3=some (.t .nil,[])/\(Zbx7 x a a1 a2 a3 0 0=some r))\/(∃(v2:List Int),Zca a3=some (.own 0,[.arr 3 1 true (v2.map ic)])/\(Zg1 x a a1 v2 a2 a3 (v2.length:Int) 0=some r)))))))/\
 (((∀⦃s q x cc cl x1 x2 r⦄,Im (Znx s q x cc cl x1 x2=some r) (if x2<x1 then(0<=x2/\(∃e1,x[x2.toNat]?=some e1/\(¬e1<0/\((∃(v2:List Int),Ze8 ([e1]) s q (shlI 1 e1) (Zr cc (shlI 1 e1))=some (.tup [.own 0,Bo true],[.arr 3 1 true (v2.map ic)])/\(∃(v3:List Zh),∃v4,∃v5,∃v6,Zgb s q e1=some (.agg [.t (.str v4),I v5,I v6,.own 0],[.arr 200 3 true (v3.map Zh.c)])/\(Znx s q x cc (if cl<v6 then v6 else cl) x1 (w (x2+1))=some r)))\/(∃(v7:List Int),Ze8 ([e1]) s q (shlI 1 e1) (Zr cc (shlI 1 e1))=some (.tup [.t .nil,Bo false],[.arr 3 1 true (v7.map ic)])/\(Znx s q x cc cl x1 (w (x2+1))=some r))\/(∃(v8:List Int) (v9:List Int),Ze8 ([e1]) s q (shlI 1 e1) (Zr cc (shlI 1 e1))=some (.tup [.own 1,Bo true],[.arr 3 1 true (v8.map ic),.arr 3 1 true (v9.map ic)])/\(∃(v10:List Zh),∃v11,∃v12,∃v13,Zgb s q e1=some (.agg [.t (.str v11),I v12,I v13,.own 0],[.arr 200 3 true (v10.map Zh.c)])/\(Znx s q x cc (if cl<v13 then v13 else cl) x1 (w (x2+1))=some r)))))))else(some (I cl,[])=some r)))/\
 (∀⦃a a1 a2 r⦄,Im (Z48 a a1 a2=some r) (∃v1,Zcu a a1 a2=some (Bo v1,[])/\(if v1=true then((Zca a2=some (.t .nil,[])/\(Zbya a a1 a2 0 0 0=some r))\/(∃(v3:List Int),Zca a2=some (.own 0,[.arr 3 1 true (v3.map ic)])/\(Znx a a1 v3 a2 0 (v3.length:Int) 0=some r)))else(some (I (-1),[])=some r)))))/\
 ((∀⦃s q co x x1 x2 r⦄,Im (Zrz s q co x x1 x2=some r) (if x2<x1 then(0<=x2/\(∃e1,x[x2.toNat]?=some e1/\(∃v2,Z48 s q e1=some (I v2,[])/\(0<=e1/\(∃e3,co[e1.toNat]?=some e3/\(Zrz s q (co.set e1.toNat v2) x x1 (w (x2+1))=some r))))))else(some (.own 0,[.arr 3 1 true (co.map ic)])=some r)))/\
 ((∀⦃a r⦄,Im (Z49 a=some r) (∃v1,Z7 a 0 7=some (Bo v1,[])/\(if v1=true then(if a=0 then(some (I 0,[])=some r)else(¬(w (2*(w (a-1))))<0/\(some (I (shlI 1 (w (2*(w (a-1))))),[])=some r)))else(some (I (-1),[])=some r))))/\
 (∀⦃n c r⦄,Im (Z5b n c=some r) (∃v1,Z49 c=some (I v1,[])/\(if n<=v1 then(some (I c,[])=some r)else(Z5b n (w (c+1))=some r))))))))/\
 ((((∀⦃a r⦄,Im (Z5a a=some r) (∃v1,Z7 a 0 4096=some (Bo v1,[])/\(if v1=true then(Z5b a 0=some r)else(some (I (-1),[])=some r))))/\
 (∀⦃co x x1 x2 r⦄,Im (Zyd co x x1 x2=some r) (if x2<x1 then(0<=x2/\(∃e1,x[x2.toNat]?=some e1/\(∃v2,Z5a e1=some (I v2,[])/\(co.length+1<=68719476736/\(Zyd (co++[v2]) x x1 (w (x2+1))=some r)))))else(some (.own 0,[.arr 3 1 true (co.map ic)])=some r))))/\
 ((∀⦃a r⦄,Im (Zr0 a=some r) (Zyd ([]:List Int) a (a.length:Int) 0=some r))/\
 (∀⦃a a1 r⦄,Im (Z5c a a1=some r) (∃v1,Zcu a a1 1=some (Bo v1,[])/\(if v1=true then(∃v2,Ze5 a1=some (I v2,[])/\(∃v3,Zyb a1 v2=some (Bo v3,[])/\(if v3=true then((Zry a a1=some (.t .nil,[])/\(∃(v8:List Int),Zbix=some (.own 0,[.arr 3 1 true (v8.map ic)])/\((Zi4 a a1=some (.t .nil,[])/\(some (.tup [.agg [.own 0,.own 1],Bo true],[.arr 3 1 true (v8.map ic),.arr 3 1 true (v8.map ic)])=some r))\/(∃(v14:List Int),Zi4 a a1=some (.own 0,[.arr 3 1 true (v14.map ic)])/\(∃(v15:List Int),Zr0 v14=some (.own 0,[.arr 3 1 true (v15.map ic)])/\(some (.tup [.agg [.own 0,.own 1],Bo true],[.arr 3 1 true (v8.map ic),.arr 3 1 true (v15.map ic)])=some r))))))\/(∃(v16:List Int),Zry a a1=some (.own 0,[.arr 3 1 true (v16.map ic)])/\(∃(v17:List Int),Zr0 v16=some (.own 0,[.arr 3 1 true (v17.map ic)])/\((Zi4 a a1=some (.t .nil,[])/\(∃(v18:List Int),Zbix=some (.own 0,[.arr 3 1 true (v18.map ic)])/\(some (.tup [.agg [.own 0,.own 1],Bo true],[.arr 3 1 true (v17.map ic),.arr 3 1 true (v18.map ic)])=some r)))\/(∃(v19:List Int),Zi4 a a1=some (.own 0,[.arr 3 1 true (v19.map ic)])/\(∃(v20:List Int),Zr0 v19=some (.own 0,[.arr 3 1 true (v20.map ic)])/\(some (.tup [.agg [.own 0,.own 1],Bo true],[.arr 3 1 true (v17.map ic),.arr 3 1 true (v20.map ic)])=some r)))))))else(some (.tup [.agg [.t .nil,.t .nil],Bo false],[])=some r))))else(some (.tup [.agg [.t .nil,.t .nil],Bo false],[])=some r))))))/\
 (((∀⦃a v k r⦄,Im (Zyf a v k=some r) (if k<(a.Vars.length:Int)then(0<=k/\(∃e1,a.Vars[k.toNat]?=some e1/\(if e1=v then(some (I k,[])=some r)else(Zyf a v (w (k+1))=some r))))else(some (I (-1),[])=some r)))/\
 (∀⦃a a1 r⦄,Im (Zye a a1=some r) (Zyf a a1 0=some r)))/\
 ((∀⦃s q v cc i k r⦄,Im (Zk9 s q v cc i k=some r) (if k<(q.Atoms.length:Int)then(¬k<0/\(if(andI (shrI cc k) 1)=0 then(Zk9 s q v cc i (w (k+1))=some r)else(0<=k/\(∃e1,q.Atoms[k.toNat]?=some e1/\(∃e2,v[0]?=some e2/\(∃v3,Zes e1.Vars e2=some (Bo v3,[])/\(if v3=true then(∃v7,Zye e1 e2=some (I v7,[])/\(0<=i/\(∃e5,q.Atoms[i.toNat]?=some e5/\(∃v10,Zye e5 e2=some (I v10,[])/\(if e1.Name=e5.Name then(if v7=v10 then(some (Bo true,[])=some r)else(Zr1 s q v (⟨e1.Name,v7,e5.Name,v10⟩:Zj) cc i k 0=some r))else(Zr1 s q v (⟨e1.Name,v7,e5.Name,v10⟩:Zj) cc i k 0=some r))))))else(Zk9 s q v cc i (w (k+1))=some r))))))))else(some (Bo false,[])=some r)))/\
 ((∀⦃s q v cu cc i k j r⦄,Im (Zr1 s q v cu cc i k j=some r) (if j<(s.Inclusions.length:Int)then(0<=j/\(∃e1,s.Inclusions[j.toNat]?=some e1/\(if e1.Name=cu.Name/\e1.Column=cu.Column/\e1.Into=cu.Into/\e1.IntoColumn=cu.IntoColumn then(some (Bo true,[])=some r)else(Zr1 s q v cu cc i k (w (j+1))=some r))))else(Zk9 s q v cc i (w (k+1))=some r)))/\
 (∀⦃a a1 a2 a3 r⦄,Im (Zyh a a1 a2 a3=some r) (∃v1,Zcv a a1 a2=some (Bo v1,[])/\(if v1=true then(∃v2,Z0 a3 0 (w ((a1.Atoms.length:Int)-1))=some (Bo v2,[])/\(if v2=true then(¬a3<0/\(if(andI (shrI a2 a3) 1)=1 then(some (Bo false,[])=some r)else(∃(v3:List Int),Zne a1 a2 (shlI 1 a3)=some (.own 0,[.arr 3 1 true (v3.map ic)])/\(if(v3.length:Int)=1 then(Zk9 a a1 v3 a2 a3 0=some r)else(some (Bo false,[])=some r)))))else(some (Bo false,[])=some r)))else(some (Bo false,[])=some r)))))))):=by
 and_intros
 all_goals intros
 all_goals unfold Im
 all_goals try simp only[Zk8,Z41,Zg1,Ze8,Znx,Z48,Zrz,Z49,Z5b,Z5a,Zyd,Zr0,Z5c,Zyf,Zye,Zk9,Zr1,Zyh,Zmd,Znw,Zj.c_def,Zhp,Zki,Zca,Zb.c_def,Zep,Zl.c_def,Zi.c_def,Zf.c_def,Zgb,Zcu,Z7,Ze5,Zyb,Zry,Zbix,Zi4,Zes,Atom.c_def,Zcv,Z0,Zne,Zbx4,Zbx7,Zbya,mpl,dfs]
 all_goals try simp only[itb]
 all_goals try simp only[itf,gS,kk]
 all_goals repeat' first|refine exI λ_=>?_|refine anJ λ_ _=>?_|refine anI λ_=>?_|refine orE2 ?_ ?_|exact False.elim
 all_goals (intro h;first|rw[Zd Z4z.eq_1]|refine run Zclp rfl ?_|rw[Zd Z43.eq_1]|refine runM Zclq rfl ?_|rw[Zd Z46.eq_1]|refine run Zclr rfl ?_|rw[Zd Zbir.eq_1]|refine run Zclu rfl ?_|rw[Zd Zbiy.eq_1]|refine run Zclv rfl ?_|rw[Zd Zbiv.eq_1]|refine run Zclt rfl ?_|refine run Zclw rfl ?_|rw[Zd Zbi0.eq_1]|refine run Zclx rfl ?_|rw[Zd Z5d.eq_1]|rw[Zd Zbi2.eq_1]|refine run Zcly rfl ?_)
 all_goals (refine Yf ?_ h;clear h;simp +decide[*,kk,tI,tII,Zbx2,Z40,Zbx3,Zbx5,Z44,Zbx6,Zbx8,Z47,Zbx9,Zbis,Zbyc,Zbye,Zbiw,Zbyb,Zbyf,Zbi1,Zbyg,Zbi3,Z5e,Zbyh])
abbrev Zb33:=Zdm.1.1.1.1
abbrev Zcsx:=Zdm.1.1.1.2
abbrev Zbjw:=Zdm.1.1.2.1
abbrev Zbjx:=Zdm.1.1.2.2
abbrev Zb34:=Zdm.1.2.1.1
abbrev Zcsy:=Zdm.1.2.1.2
abbrev Zb35:=Zdm.1.2.2.1
abbrev Zcsz:=Zdm.1.2.2.2.1
abbrev Zld:=Zdm.1.2.2.2.2
abbrev Zcs0:=Zdm.2.1.1.1
abbrev Zb36:=Zdm.2.1.1.2
abbrev Zcs1:=Zdm.2.1.2.1
abbrev Zcs2:=Zdm.2.1.2.2
abbrev Zb37:=Zdm.2.2.1.1
abbrev Zcs3:=Zdm.2.2.1.2
abbrev Zb38:=Zdm.2.2.2.1
abbrev Zb39:=Zdm.2.2.2.2.1
abbrev Zcs4:=Zdm.2.2.2.2.2
theorem Zcs5{a:Zf}{a1:Zb}{r:AV×List Blk}(h:(∃(v:Bool),Zcu a a1 1=some (Bo v,[])/\(if v=true then(∃(v1:Int),Ze5 a1=some (I v1,[])/\(0<=(w (v1+1))/\((w (v1+1))<=(w (v1+1))/\((w (v1+1)).toNat*8<=room/\((w (v1+1))<=140737488355328/\(∃(v2:List Int),Znt a1=some (.own 0,[.arr 3 1 true (v2.map ic)])/\(Zrz a a1 (List.replicate ((w (v1+1))).toNat 0) v2 (v2.length:Int) 0=some r)))))))else(some (.t .nil,[])=some r)))):Zry a a1=some r:=by
 unfold Zry;refine run Zcls rfl ?_;obtain⟨v,q1,h⟩:=h;unfold Zcu at q1
 try simp at q1
 by_cases q2:v=true
 .rw[if_pos q2]at h;obtain⟨v1,q3,h⟩:=h;unfold Ze5 at q3
  try simp at q3
  obtain⟨q4,h⟩:=h;obtain⟨q5,h⟩:=h;obtain⟨q6,h⟩:=h;have zq6:=q6;try simp at zq6
  obtain⟨q7,h⟩:=h;obtain⟨v2,q8,h⟩:=h;unfold Znt at q8
  try simp at q8
  refine Yf ?_ h;clear h;simp +decide[*,Zbit,tI,tII,Zrz]
 .rw[if_neg q2]at h;refine Yf ?_ h;clear h;simp +decide[*,Zbit,tI,tII]
theorem Zev:(((∀⦃cc s q cd cl i r⦄,Im (Zyi cc s q cd cl i=some r) (if i<(cc.length:Int)then(0<=i/\(∃e1,cc[i.toNat]?=some e1/\(¬e1<0/\(Zyi cc s q cd (orI cl (shlI 1 e1)) (w (i+1))=some r))))else(if cl=cd then(some (.own 0,[.arr 3 1 true (cc.map ic)])=some r)else(Zeu cc s q cd cl 0=some r))))/\
 ((∀⦃cc s q cd cl i r⦄,Im (Zeu cc s q cd cl i=some r) (if i<(q.Atoms.length:Int)then(¬i<0/\(if(andI (shrI cd i) 1)=1 then(∃v,Zyh s q cl i=some (Bo v,[])/\(if v=true then(cc.length<=68719476736/\(cc.length+1<=68719476736/\((∃(v1:List Int),Zfu (cc++[i]) s q cd=some (.own 0,[.arr 3 1 true (v1.map ic)])/\(if 0<(v1.length:Int)then(some (.own 1,[.arr 3 1 true (cc.map ic),.arr 3 1 true (v1.map ic)])=some r)else(Zeu cc s q cd cl (w (i+1))=some r)))\/(∃(v5:List Int) (v6:List Int),Zfu (cc++[i]) s q cd=some (.own 1,[.arr 3 1 true (v5.map ic),.arr 3 1 true (v6.map ic)])/\(if 0<(v6.length:Int)then(some (.own 1,[.arr 3 1 true (cc.map ic),.arr 3 1 true (v6.map ic)])=some r)else(Zeu cc s q cd cl (w (i+1))=some r))))))else(Zeu cc s q cd cl (w (i+1))=some r)))else(Zeu cc s q cd cl (w (i+1))=some r)))else(some (.own 1,[.arr 3 1 true (cc.map ic),.arr 3 1 true (([]:List Int).map ic)])=some r)))/\
 (∀⦃x a a1 a2 r⦄,Im (Zfu x a a1 a2=some r) (Zyi x a a1 a2 0 0=some r))))/\
 (((∀⦃a a1 a2 a3 r⦄,Im (Zyj a a1 a2 a3=some r) (∃v,Zcv a a1 a2=some (Bo v,[])/\(if v=true then(∃v1,Z0 a3 0 (w ((a1.Atoms.length:Int)-1))=some (Bo v1,[])/\(if v1=true then(¬a3<0/\(if(andI (shrI a2 a3) 1)=0 then(some (.own 0,[.arr 3 1 true (([]:List Int).map ic)])=some r)else((∃(v5:List Int),Zfu ([a3]) a a1 a2=some (.own 0,[.arr 3 1 true (v5.map ic)])/\(some (.own 0,[.arr 3 1 true (v5.map ic)])=some r))\/(∃(v7:List Int) (v8:List Int),Zfu ([a3]) a a1 a2=some (.own 1,[.arr 3 1 true (v7.map ic),.arr 3 1 true (v8.map ic)])/\(some (.own 0,[.arr 3 1 true (v8.map ic)])=some r)))))else(some (.own 0,[.arr 3 1 true (([]:List Int).map ic)])=some r)))else(some (.own 0,[.arr 3 1 true (([]:List Int).map ic)])=some r))))/\
 (∀⦃s q cd n i r⦄,Im (Zr3 s q cd n i=some r) (if i<(q.Atoms.length:Int)then(∃(v:List Int),Zyj s q cd i=some (.own 0,[.arr 3 1 true (v.map ic)])/\(if 0<(v.length:Int)then(∃(v1:List Zh),∃v2,∃v3,∃v4,Zfs s q i=some (.agg [.t (.str v2),I v3,I v4,.own 0],[.arr 200 3 true (v1.map Zh.c)])/\(Zr3 s q cd (if n<v4 then v4 else n) (w (i+1))=some r))else(Zr3 s q cd n (w (i+1))=some r)))else(some (I n,[])=some r))))/\
 ((∀⦃a a1 a2 r⦄,Im (Z5g a a1 a2=some r) (∃v,Zcv a a1 a2=some (Bo v,[])/\(if v=true then(Zr3 a a1 a2 0 0=some r)else(some (I (-1),[])=some r))))/\
 (∀⦃s q cp m r⦄,Im (Zr4 s q cp m=some r) (∃v,Zfr q=some (I v,[])/\(if m<=v then(∃v1,Znv q m=some (Bo v1,[])/\(if v1=true then(∃v5,Z5g s q m=some (I v5,[])/\(cp.length+1<=68719476736/\(Zr4 s q (cp++[v5]) (w (m+1))=some r)))else(cp.length+1<=68719476736/\(Zr4 s q (cp++[0]) (w (m+1))=some r))))else(some (.own 0,[.arr 3 1 true (cp.map ic)])=some r)))))))/\
 ((((∀⦃a a1 r⦄,Im (Z5i a a1=some r) (∃v,Zfr a1=some (I v,[])/\(∃v1,Zcv a a1 v=some (Bo v1,[])/\(if v1=true then(Zr4 a a1 ([]:List Int) 0=some r)else(some (.own 0,[.arr 3 1 true (([]:List Int).map ic)])=some r)))))/\
 (∀⦃k n i r⦄,Im (Zr5 k n i=some r) (if i<k then(Zr5 k (if 1<(w (n*4))then(w (n*4))else 1) (w (i+1))=some r)else(some (I n,[])=some r))))/\
 ((∀⦃a r⦄,Im (Z5j a=some r) (∃v,Z0 a 0 7=some (Bo v,[])/\(if v=true then(Zr5 a 0 0=some r)else(some (I (-1),[])=some r))))/\
 (∀⦃n k r⦄,Im (Z5k n k=some r) (if k<=7 then(∃v,Z5j k=some (I v,[])/\(if n<=v then(some (I k,[])=some r)else(Z5k n (w (k+1))=some r)))else(some (I (-1),[])=some r)))))/\
 (((∀⦃a r⦄,Im (Zny a=some r) (if a<0 then(some (I (-1),[])=some r)else(Z5k a 0=some r)))/\
 (∀⦃co cn m r⦄,Im (Z5o co cn m=some r) (if m<(co.length:Int)then(0<=m/\(∃e1,co[m.toNat]?=some e1/\(∃v1,Zny e1=some (I v1,[])/\(∃e3,cn[m.toNat]?=some e3/\(∃v7,Zny e3=some (I v7,[])/\(Zyk co cn ([v1]) ([v7]) (w (m+1))=some r))))))else(some (.tup [.agg [.t .nil,.t .nil],Bo true],[])=some r))))/\
 ((∀⦃co cn x x1 m r⦄,Im (Zyk co cn x x1 m=some r) (if m<(co.length:Int)then(0<=m/\(∃e1,co[m.toNat]?=some e1/\(∃v1,Zny e1=some (I v1,[])/\(x.length+1<=68719476736/\(∃e3,cn[m.toNat]?=some e3/\(∃v7,Zny e3=some (I v7,[])/\(x1.length+1<=68719476736/\(Zyk co cn (x++[v1]) (x1++[v7]) (w (m+1))=some r))))))))else(some (.tup [.agg [.own 0,.own 1],Bo true],[.arr 3 1 true (x.map ic),.arr 3 1 true (x1.map ic)])=some r)))/\
 (∀⦃a a1 r⦄,Im (Z5n a a1=some r) (∃(v:List Int),Z5i a a1=some (.own 0,[.arr 3 1 true (v.map ic)])/\(∃(v1:List Int),Zrw a a1=some (.own 0,[.arr 3 1 true (v1.map ic)])/\(if(v.length:Int)=0 then(some (.tup [.agg [.t .nil,.t .nil],Bo false],[])=some r)else(∃v5,Zfr a1=some (I v5,[])/\(∃v7,Znv a1 v5=some (Bo v7,[])/\(if v7=true then(Z5o v v1 0=some r)else(some (.tup [.agg [.t .nil,.t .nil],Bo false],[])=some r))))))))))):=by
 and_intros
 all_goals intros
 all_goals unfold Im
 all_goals try simp only[Zyi,Zeu,Zfu,Zyj,Zr3,Z5g,Zr4,Z5i,Zr5,Z5j,Z5k,Zny,Z5o,Zyk,Z5n,Zyh,Zl.c_def,Zi.c_def,Zb.c_def,Zf.c_def,Zcv,Z0,Zfs,Zfr,Znv,Zrw,mpl,dfs]
 all_goals try simp only[itb]
 all_goals try simp only[itf,gS,kk]
 all_goals repeat' first|refine exI λ_=>?_|refine anJ λ_ _=>?_|refine anI λ_=>?_|refine orE2 ?_ ?_|exact False.elim
 all_goals (intro h;first|rw[Zd Zbi4.eq_1]|rw[Zd Zbi5.eq_1]|refine runM Zclz rfl ?_|refine run Zcl0 rfl ?_|rw[Zd Zbi8.eq_1]|refine run Zcl1 rfl ?_|rw[Zd Zbja.eq_1]|refine run Zcl2 rfl ?_|rw[Zd Zbjd.eq_1]|refine run Zcl3 rfl ?_|rw[Zd Zbjg.eq_1]|refine run Zcl4 rfl ?_|rw[Zd Z5l.eq_1]|refine run Zcl5 rfl ?_)
 all_goals (refine Yf ?_ h;clear h;simp +decide[*,kk,tI,tII,Zbi7,Zbyi,Zbi6,Zbyj,Zbyk,Zbyl,Zbi9,Zbym,Zbyn,Zbjb,Zbyo,Zbje,Zbyp,Zbjh,Zbyq,Z5m,Zbyr])
abbrev Zb4a:=Zev.1.1.1
abbrev Z5q:=Zev.1.1.2.1
abbrev Zb4b:=Zev.1.1.2.2
abbrev Zcs6:=Zev.1.2.1.1
abbrev Zb4c:=Zev.1.2.1.2
abbrev Zcs7:=Zev.1.2.2.1
abbrev Zb4d:=Zev.1.2.2.2
abbrev Zcs8:=Zev.2.1.1.1
abbrev Zcs9:=Zev.2.1.1.2
abbrev Zcta:=Zev.2.1.2.1
abbrev Zja:=Zev.2.1.2.2
abbrev Zctb:=Zev.2.2.1.1
abbrev Zctc:=Zev.2.2.1.2
abbrev Zb4e:=Zev.2.2.2.1
abbrev Zctd:=Zev.2.2.2.2
end Go.Proofs.YtnnjbejcffjgfaaGreat
