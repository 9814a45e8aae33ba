/-
  Parts of the proofs for this seat: G21 G22 G23 G24.
-/
import Derived.Test.YtnnjbejcffjgfaaGreatP11
import Derived.Test.YtnnjbejcffjgfaaGreatP12
set_option linter.unusedSectionVars false
set_option linter.unusedSimpArgs false
set_option linter.unusedVariables false
set_option maxRecDepth 100000
set_option maxHeartbeats 4000000
namespace Go.Proofs.YtnnjbejcffjgfaaGreat
open Go.AM
theorem Zd4:((((∀p cd d n r,Im (Zi0 p cd d n=some r) (if n<300 then qI (Zxh d) (λv=>if v<0 then Z4h p cd d d.Value 0=some r else qI (Zxi d v) (λv7=>if v7<0 then some (.tup [.agg [I 0,I 0,.own 0,.own 1],Bo false],[.arr 149 2 true (([]:List Za).map Za.c),.arr 149 2 true (([]:List Za).map Za.c)])=some r else(∃(v11:List Int),∃(v12:List Int),∃(v13:List (List Za)),∃(v14:List Za),∃(v15:List Za),∃(v16:Za),∃v17,Zri d v7 v=some (.tup [.agg [.own 0,.own 1,.own 2,.own 3,.own 4,I v16.Num,I v16.Den],Bo v17],[.arr 3 1 true (v11.map ic),.arr 3 1 true (v12.map ic),.arr 179 1 true (v13.map (lc 2 Za.c)),.arr 149 2 true (v14.map Za.c),.arr 149 2 true (v15.map Za.c)])/\if v17=true then Zi0 p cd (⟨v11,v12,v13,v14,v15,v16⟩:Zm) (w (n+1))=some r else some (.tup [.agg [I 0,I 0,.own 0,.own 1],Bo false],[.arr 149 2 true (([]:List Za).map Za.c),.arr 149 2 true (([]:List Za).map Za.c)])=some r)\/(∃(v18:List Int),∃(v19:List Int),∃v20,∃(v21:List (List Za)),∃(v22:List Za),∃(v23:List Za),∃(v24:Za),Zri d v7 v=some (.tup [.agg [.own 0,.own 1,.own 2,.own 3,.own 4,I v24.Num,I v24.Den],Bo true],[.arr 3 1 true (v18.map ic),.arr 3 1 true (v19.map ic),.arr 179 1 v20 (v21.map (lc 2 Za.c)),.arr 149 2 true (v22.map Za.c),.arr 149 2 true (v23.map Za.c)])/\Zi0 p cd (⟨v18,v19,v21,v22,v23,v24⟩:Zm) (w (n+1))=some r)))else some (.tup [.agg [I 0,I 0,.own 0,.own 1],Bo false],[.arr 149 2 true (([]:List Za).map Za.c),.arr 149 2 true (([]:List Za).map Za.c)])=some r))/\
 (∀p cd d cc k r,Im (Z4h p cd d cc k=some r) (if k<(p.Objective.length:Int)then qA Za.c (Zca 0) (λv=>Zxs p cd d cc ([v]) (w (k+1))=some r)else Zbwq p cd d cc 0=some r)))/\
 ((∀p cd d cc x k r,Im (Zxs p cd d cc x k=some r) (if k<(p.Objective.length:Int)then qA Za.c (Zca 0) (λv=>x.length+1<=68719476736/\Zxs p cd d cc (x++[v]) (w (k+1))=some r)else Zbhk p cd d cc x 0=some r))/\
 (∀p cd d cc x i r,Im (Zbhk p cd d cc x i=some r) (if i<(p.Rows.length:Int)then qA Za.c (Zca 0) (λv=>Zxt p cd d cc x ([v]) (w (i+1))=some r)else Zbwr p cd d cc x 0=some r))))/\
 (((∀p cd d cc x x1 i r,Im (Zxt p cd d cc x x1 i=some r) (if i<(p.Rows.length:Int)then qA Za.c (Zca 0) (λv=>x1.length+1<=68719476736/\Zxt p cd d cc x (x1++[v]) (w (i+1))=some r)else Zrl p cd d cc x x1 0=some r))/\
 (∀p cd d cc x x1 i r,Im (Zrl p cd d cc x x1 i=some r) (if i<(d.Basic.length:Int)then qG d.Basic i (λe1=>if e1<(p.Objective.length:Int)then qH d.Limits i (λe2=>qG x e1 (λe3=>Zrl p cd d cc (x.set e1.toNat e2) x1 (w (i+1))=some r))else Zrl p cd d cc x x1 (w (i+1))=some r)else Zrm p cd d cc x x1 0=some r)))/\
 ((∀p cd d cc x x1 k r,Im (Zrm p cd d cc x x1 k=some r) (if k<(d.Free.length:Int)then qG d.Free k (λe1=>if(p.Objective.length:Int)<=e1 then qH d.Costs k (λe2=>0<=(w (e1-(p.Objective.length:Int)))/\∃e3,x1[(w (e1-(p.Objective.length:Int))).toNat]?=some e3/\Zrm p cd d cc x (x1.set ((w (e1-(p.Objective.length:Int))).toNat) (⟨(w (0-e2.Num)),e2.Den⟩:Za)) (w (k+1))=some r)else Zrm p cd d cc x x1 (w (k+1))=some r)else some (.tup [.agg [I cc.Num,I cc.Den,.own 0,.own 1],Bo true],[.arr 149 2 true (x.map Za.c),.arr 149 2 true (x1.map Za.c)])=some r))/\
 (∀a r,Im (Zxr a=some r) (∃(v:List Int),∃(v1:List Int),∃(v2:List (List Za)),∃(v3:List Za),∃(v4:List Za),∃(v5:Za),∃v6,Zw8 a=some (.tup [.agg [.own 0,.own 1,.own 2,.own 3,.own 4,I v5.Num,I v5.Den],Bo v6],[.arr 3 1 true (v.map ic),.arr 3 1 true (v1.map ic),.arr 179 1 true (v2.map (lc 2 Za.c)),.arr 149 2 true (v3.map Za.c),.arr 149 2 true (v4.map Za.c)])/\if v6=true then Zi0 a (⟨0,0⟩:Za) (⟨v,v1,v2,v3,v4,v5⟩:Zm) 0=some r else some (.tup [.agg [I 0,I 0,.own 0,.own 1],Bo false],[.arr 149 2 true (([]:List Za).map Za.c),.arr 149 2 true (([]:List Za).map Za.c)])=some r)))))/\
 ((((∀a a1 a2 r,Im (Z4i a a1 a2=some r) (∃(v:List Int),∃(v1:List (List Int)),∃(v2:List Int),∃v3,Z30 a a1 a2=some (.tup [.agg [.own 0,.own 1,.own 2],Bo v3],[.arr 3 1 true (v.map ic),.arr 56 1 true (v1.map isc),.arr 3 1 true (v2.map ic)])/\if v3=true then ∃(v7:List Za),∃(v8:List Za),∃(v9:Za),∃v10,Zxr (⟨v,v1,v2⟩:Program)=some (.tup [.agg [I v9.Num,I v9.Den,.own 0,.own 1],Bo v10],[.arr 149 2 true (v7.map Za.c),.arr 149 2 true (v8.map Za.c)])/\some (.tup [.agg [I v9.Num,I v9.Den,.own 0,.own 1],Bo v10],[.arr 149 2 true (v7.map Za.c),.arr 149 2 true (v8.map Za.c)])=some r else some (.tup [.agg [I 0,I 0,.own 0,.own 1],Bo false],[.arr 149 2 true (([]:List Za).map Za.c),.arr 149 2 true (([]:List Za).map Za.c)])=some r))/\
 (∀a a1 a2 r,Im (Zxu a a1 a2=some r) (∃(v:List Za),∃(v1:List Za),∃(v2:Za),∃v3,Z4i a a1 a2=some (.tup [.agg [I v2.Num,I v2.Den,.own 0,.own 1],Bo v3],[.arr 149 2 true (v.map Za.c),.arr 149 2 true (v1.map Za.c)])/\some (.tup [.agg (v2.c.map .t),Bo v3],[])=some r)))/\
 ((∀a r,Im (Z4j a=some r) (qB (Zcn a) (¬a.Den=0/\if(w ((w (Int.tdiv a.Num a.Den))*a.Den))<a.Num then qi (w ((w (Int.tdiv a.Num a.Den))+1)) r else qi (w (Int.tdiv a.Num a.Den)) r) (qi 0 r)))/\
 (∀a r,Im (Zbhl a=some r) (if 12<a then qi 4096 r else ¬a<0/\qi (shlI 1 a) r))))/\
 (((∀n co cl x i r,Im (Zxv n co cl x i=some r) (if i<co then ¬cl<0/\if(shlI 1 cl)<(w (x*n))then qb false r else Zxv n co cl (w (x*n)) (w (i+1))=some r else qb true r))/\
 (∀a a1 a2 r,Im (Z4k a a1 a2=some r) (Zxv a a1 a2 1 0=some r)))/\
 ((∀cn n r,Im (Zxx cn n=some r) (if n<4096 then qB (Z4k (w (n+1)) cn.Den cn.Num) (Zxx cn (w (n+1))=some r) (qi n r)else qi n r))/\
 (∀a r,Im (Zxw a=some r) (qB (Zcn a) (if a.Num<0 then qi (-1) r else if 40<a.Num then qI (Z4j a) (λv7=>qI (Zbhl v7) (λv11=>qi v11 r))else Zxx a 1=some r) (qi (-1) r)))))):=by
 and_intros
 all_goals(intros;unfold Im;(try simp only[Zi0,Z4h,Zxs,Zbhk,Zxt,Zrl,Zrm,Zxr,Z4i,Zxu,Z4j,Zbhl,Zxv,Z4k,Zxx,Zxw,Zxh,Zxi,Zri,Zm.c_def,Za.c_def,Zca,Zw8,Program.c_def,Z30,Zl.c_def,Zi.c_def,Zc.c_def,Zh.c_def,Zcn,Zbwq,Zbwr,mpl,dfs,qs]);(try simp only[itb]);(try simp only[itf,gS,kk]))
 all_goals(repeat' first|refine exI λ_=>?_|refine anJ λ_ _=>?_|refine anI λ_=>?_|refine orE2 ?_ ?_|exact False.elim)
 all_goals(intro h;first|rw[Zd Zgx.eq_1]|rw[Zd Z4d.eq_1]|rw[Zd Zxp.eq_1]|rw[Zd Z4e.eq_1]|rw[Zd Zbhi.eq_1]|refine run Zckc rfl ?_|refine run Zckd rfl ?_|refine run Zcke rfl ?_|refine run Zckf rfl ?_|refine run Zckg rfl ?_|rw[Zd Zbhn.eq_1]|refine run Zckh rfl ?_|rw[Zd Zbhq.eq_1]|refine run Zcki rfl ?_)
 all_goals (refine Yf ?_ h;clear h;simp +decide[*,kk,tI,tII,Zhw,Zhx,Zgy,Z4g,Zxq,Zbwn,Z4f,Zbwo,Zbhj,Zbwp,Zbws,Zbwt,Zbww,Zbwv,Zbwx,Zbho,Zbwy,Zbhr,Zbwz])
abbrev Zyl:=uq Zd4.1.1.1.1
abbrev Zcrh:=uq Zd4.1.1.1.2
abbrev Zb25:=uq Zd4.1.1.2.1
abbrev Zcri:=uq Zd4.1.1.2.2
abbrev Zb26:=uq Zd4.1.2.1.1
abbrev Zbji:=uq Zd4.1.2.1.2
abbrev Zbjj:=uq Zd4.1.2.2.1
abbrev Zb27:=uq Zd4.1.2.2.2
abbrev Zbjk:=uq Zd4.2.1.1.1
abbrev Zcrj:=uq Zd4.2.1.1.2
abbrev Zcrk:=uq Zd4.2.1.2.1
abbrev Zcrl:=uq Zd4.2.1.2.2
abbrev Zb28:=uq Zd4.2.2.1.1
abbrev Zcrm:=uq Zd4.2.2.1.2
abbrev Zb29:=uq Zd4.2.2.2.1
abbrev Zcrn:=uq Zd4.2.2.2.2
theorem Zdk:((((∀s q cc i r,Im (Zro s q cc i=some r) (if i<(q.Atoms.length:Int)then ¬i<0/\if(andI (shrI cc i) 1)=1 then ∃(v:List Zg),∃v1,∃v2,∃v3,Zfs s q i=some (.agg [.t (.str v1),I v2,I v3,.own 0],[.arr 200 3 true (v.map Zg.c)])/\if v3=0 then qi 0 r else Zro s q cc (w (i+1))=some r else Zro s q cc (w (i+1))=some r else qS Za.c (Zxu s q cc) (λv4 v5=>if v5=true then qI (Zxw v4) (λv6=>qi v6 r)else qi 4096 r)))/\
 (∀a a1 a2 r,Im (Zrn a a1 a2=some r) (qB (Zct a a1 a2) (Zro a a1 a2 0=some r) (qi (-1) r))))/\
 ((∀s q l cc n cl r,Im (Zx0 s q l cc n cl=some r) (if 1<(l.length:Int)then qI (Zrn s q cc) (λv=>if v<n then some (.tup [I v,I 4],[])=some r else some (.tup [I n,I cl],[])=some r)else some (.tup [I n,I cl],[])=some r))/\
 (∀s q l cc n cl x x1 r,Im (Zx1 s q l cc n cl x x1=some r) (if 1<(l.length:Int)then qI (Zrn s q cc) (λv=>if v<n then some (.tup [I v,I 4],[])=some r else some (.tup [I n,I cl],[])=some r)else some (.tup [I n,I cl],[])=some r))))/\
 (((∀s q l cc n cl x r,Im (Zx2 s q l cc n cl x=some r) (if 1<(l.length:Int)then qI (Zrn s q cc) (λv=>if v<n then some (.tup [I v,I 4],[])=some r else some (.tup [I n,I cl],[])=some r)else some (.tup [I n,I cl],[])=some r))/\
 (∀a a1 a2 r,Im (Zxz a a1 a2=some r) (qB (Zct a a1 a2) (qI (Zwo a a1 a2) (λv4=>qI (Zwr a a1 a2) (λv6=>if v6<v4 then qO 3 1 ic (Zq3 a2) (λv7=>if(v7.length:Int)=2 then ∃e5,v7[0]?=some e5/\∃e6,v7[1]?=some e6/\qI (Zq9 a a1 e5 e6) (λv8=>if v8<v6 then Zx0 a a1 v7 a2 v8 3=some r else Zx1 a a1 v7 a2 v6 2 v8 false=some r)else Zx2 a a1 v7 a2 v6 2 false=some r)else qO 3 1 ic (Zq3 a2) (λv9=>if(v9.length:Int)=2 then ∃e9,v9[0]?=some e9/\∃e10,v9[1]?=some e10/\qI (Zq9 a a1 e9 e10) (λv10=>if v10<v4 then Zx0 a a1 v9 a2 v10 3=some r else Zx1 a a1 v9 a2 v4 1 v10 false=some r)else Zx2 a a1 v9 a2 v4 1 false=some r)))) (some (.tup [I (-1),I 0],[])=some r))))/\
 ((∀a a1 a2 r,Im (Zx3 a a1 a2=some r) (∃v v1,Zxz a a1 a2=some (.tup [I v,I v1],[])/\qi v r))/\
 ((∀co cc cd x x1 x2 r,Im (Zno co cc cd x x1 x2=some r) (if x2<x1 then qG x x2 (λe1=>¬x2<0/\if(andI (shrI cc x2) 1)=0 then qO 3 1 ic (Zkd e1.Vars co) (λv4=>if 0<(v4.length:Int)then Zno co cc (orI cd (shlI 1 x2)) x x1 (w (x2+1))=some r else Zno co cc cd x x1 (w (x2+1))=some r)else Zno co cc cd x x1 (w (x2+1))=some r)else qi cd r))/\
 (∀a a1 r,Im (Z4n a a1=some r) (qO 3 1 ic (Zhm a a1) (λv=>Zno v a1 0 a.Atoms (a.Atoms.length:Int) 0=some r)))))))/\
 ((((∀q cc cp r,Im (Zx4 q cc cp=some r) (qI (Z4n q cp) (λv=>if(orI cp (andI v cc))=cp then qb (decide (cp=cc)) r else Zx4 q cc (orI cp (andI v cc))=some r)))/\
 (∀a a1 r,Im (Zrp a a1=some r) (if a1=0 then qb false r else Zx4 a a1 (andI a1 (w (0-a1)))=some r)))/\
 ((∀q cd cc r,Im (Zrq q cd cc=some r) (qI (Ze4 q) (λv=>if cc<=v then qB (Zrp q cc) (cd.length+1<=68719476736/\Zrq q (cd++[cc]) (w (cc+1))=some r) (Zrq q cd (w (cc+1))=some r)else some (.own 0,[.arr 3 1 true (cd.map ic)])=some r)))/\
 (∀a r,Im (Znp a=some r) (Zrq a ([]:List Int) 1=some r))))/\
 (((∀s q cd x x1 x2 r,Im (Zrr s q cd x x1 x2=some r) (if x2<x1 then qG x x2 (λe1=>∃v4 v5,Zvk s q e1=some (.tup [I v4,I v5],[])/\qG cd e1 (λe3=>Zrr s q (cd.set e1.toNat v4) x x1 (w (x2+1))=some r))else some (.own 0,[.arr 3 1 true (cd.map ic)])=some r))/\
 (∀q cc cd cn i r,Im (Znq q cc cd cn i=some r) (if i<(q.Atoms.length:Int)then ¬i<0/\if(andI (shrI cc i) 1)=0 then qI (Ziu q (shlI 1 i)) (λv=>if(andI v cn)=0 then Znq q cc cd cn (w (i+1))=some r else Znq q cc (orI cd (shlI 1 i)) cn (w (i+1))=some r)else Znq q cc cd cn (w (i+1))=some r else qi cd r)))/\
 ((∀a a1 r,Im (Z4q a a1=some r) (qI (Ziu a a1) (λv=>Znq a a1 0 v 0=some r)))/\
 ((∀q cc x n r,Im (Zx6 q cc x n=some r) (if n<(q.Atoms.length:Int)then qI (Z4q q x) (λv=>Zx6 q cc (orI x (andI v cc)) (w (n+1))=some r)else qb (decide (x=cc)) r))/\
 (∀a a1 r,Im (Zx5 a a1=some r) (Zx6 a a1 (andI a1 (w (0-a1))) 0=some r)))))):=by
 and_intros
 all_goals(intros;unfold Im;(try simp only[Zro,Zrn,Zxz,Zx3,Zno,Z4n,Zx4,Zrp,Zrq,Znp,Zrr,Znq,Z4q,Zx6,Zx5,Zfs,Zxu,Zxw,Zl.c_def,Zi.c_def,Zc.c_def,Za.c_def,Zh.c_def,Zct,Zwo,Zwr,Zq3,Zq9,Zkd,Zhm,Ze4,Zvk,Ziu,Zx0,Zx1,Zx2,mpl,dfs,qs]);(try simp only[itb]);(try simp only[itf,gS,kk]))
 all_goals(repeat' first|refine exI λ_=>?_|refine anJ λ_ _=>?_|refine anI λ_=>?_|refine orE2 ?_ ?_|exact False.elim)
 all_goals(intro h;first|rw[Zd Zbht.eq_1]|refine run Zckj rfl ?_|rw[Ev_eq Zxy.eq_1]|refine run Zckk rfl ?_|refine run Zckl rfl ?_|rw[Zd Zbhv.eq_1]|refine run Zckm rfl ?_|rw[Zd Zbhx.eq_1]|refine run Zckn rfl ?_|rw[Zd Zbhy.eq_1]|refine run Zcko rfl ?_|rw[Zd Zbh1.eq_1]|rw[Zd Zbh4.eq_1]|refine run Zckq rfl ?_|rw[Zd Zbh7.eq_1]|refine run Zckr rfl ?_)
 all_goals (refine Yf ?_ h;clear h;simp +decide[*,kk,tI,tII,Zbhu,Zbw0,Zbw1,Zbw3,Zbw2,Zbw4,Zbw5,Zbhw,Zbw6,Zbw8,Zbw9,Zbhz,Zbxa,Zbh2,Zbxb,Zbh5,Zbxc,Zbh8,Zbxd])
abbrev Zb3a:=uq Zdk.1.1.1.1
abbrev Zcro:=uq Zdk.1.1.1.2
abbrev Zcrp:=uq Zdk.1.1.2.1
abbrev Zcrq:=uq Zdk.1.1.2.2
abbrev Zcrr:=uq Zdk.1.2.1.1
abbrev Zb3b:=uq Zdk.1.2.1.2
abbrev Zcrs:=uq Zdk.1.2.2.1
abbrev Zb3c:=uq Zdk.1.2.2.2.1
abbrev Zcrt:=uq Zdk.1.2.2.2.2
abbrev Zb3d:=uq Zdk.2.1.1.1
abbrev Zb3e:=uq Zdk.2.1.1.2
abbrev Zb3f:=uq Zdk.2.1.2.1
abbrev Zcru:=uq Zdk.2.1.2.2
abbrev Zb3g:=uq Zdk.2.2.1.1
abbrev Zb3h:=uq Zdk.2.2.1.2
abbrev Zcrv:=uq Zdk.2.2.2.1
abbrev Zb3i:=uq Zdk.2.2.2.2.1
abbrev Zcrw:=uq Zdk.2.2.2.2.2
theorem Znw:((∀a a1 r,Im (Znr a a1=some r) (qB (Zq5 a a1) (if 0<a1 then qV (Zx5 a a1) (λv2=>qb v2 r)else qb false r) (qb false r)))/\
 ((∀s q c m r,Im (Zrs s q c m=some r) (qI (Zfr q) (λv1=>if m<=v1 then qB (Znr q m) (qI (Zx3 s q m) (λv3=>c.length+1<=68719476736/\Zrs s q (c++[v3]) (w (m+1))=some r)) (c.length+1<=68719476736/\Zrs s q (c++[0]) (w (m+1))=some r)else some (.own 0,[.arr 3 1 true (c.map ic)])=some r)))/\
 (∀a a1 r,Im (Zx7 a a1=some r) (qI (Zfr a1) (λv1=>qB (Zct a a1 v1) (Zrs a a1 ([]:List Int) 0=some r) (some (.own 0,[.arr 3 1 true (([]:List Int).map ic)])=some r))))))/\
 (((∀a a1 r,Im (Zx8 a a1=some r) (qB (Zpp a a1) (qV (Zrp a a1) (λv2=>qb v2 r)) (qb false r)))/\
 (∀v s x x1 r,Im (Zx9 v s x x1=some r) (if x1<x then qG s x1 (λe1=>if v.Name=e1.Name/\v.Column=e1.Column/\v.Into=e1.Into/\v.IntoColumn=e1.IntoColumn then qi x1 r else Zx9 v s x (w (x1+1))=some r)else qi (-1) r)))/\
 ((∀a a1 r,Im (Zbie a a1=some r) (Zx9 a1 a (a.length:Int) 0=some r))/\
 (∀a a1 r,Im (Zns a a1=some r) (qI (Zbie a a1) (λv1=>qb (decide (0<=v1)) r))))):=by
 and_intros
 all_goals(intros;unfold Im;(try simp only[Znr,Zrs,Zx7,Zx8,Zx9,Zbie,Zns,Zq5,Zx5,Zc.c_def,Zfr,Zx3,Zl.c_def,Zi.c_def,Zh.c_def,Zct,Zpp,Zrp,Zj.c_def,mpl,dfs,qs]);(try simp only[itb]);(try simp only[itf,gS,kk]))
 all_goals(repeat' first|refine exI λ_=>?_|refine anJ λ_ _=>?_|refine anI λ_=>?_|refine orE2 ?_ ?_|exact False.elim)
 all_goals(intro h;first|refine run Zcks rfl ?_|rw[Zd Zbh9.eq_1]|refine run Zckt rfl ?_|refine run Zcku rfl ?_|rw[Zd Zbic.eq_1]|refine run Zckv rfl ?_|refine run Zckw rfl ?_)
 all_goals (refine Yf ?_ h;clear h;simp +decide[*,kk,tI,tII,Zbxe,Zbxf,Zbia,Zbxg,Zbxh,Zbid,Zbxi,Zbxj])
abbrev Zcrx:=uq Znw.1.1
abbrev Zb3j:=uq Znw.1.2.1
abbrev Zcry:=uq Znw.1.2.2
abbrev Zcrz:=uq Znw.2.1.1
abbrev Zb3k:=uq Znw.2.1.2
abbrev Zcr0:=uq Znw.2.2.1
abbrev Zcr1:=uq Znw.2.2.2
theorem Zcr2{a:Zh}{a1:Zc}{r:AV×List Blk}(h:(∃(v:Bool),Zc6 a a1 1=some (Bo v,[])/\(if v=true then(∃(v1:Int),Ze4 a1=some (I v1,[])/\(0<=(w (v1+1))/\((w (v1+1))<=(w (v1+1))/\((w (v1+1)).toNat*8<=room/\((w (v1+1))<=140737488355328/\(∃(v2:List Int),Znp a1=some (.own 0,[.arr 3 1 true (v2.map ic)])/\(Zrr a a1 (List.replicate ((w (v1+1))).toNat 0) v2 (v2.length:Int) 0=some r)))))))else(some (.t .nil,[])=some r)))):Zk3 a a1=some r:=by
 unfold Zk3;refine run Zckp rfl ?_;obtain⟨v,q1,h⟩:=h;unfold Zc6 at q1
 try simp at q1
 by_cases q2:v=true
 .rw[if_pos q2]at h;obtain⟨v1,q3,h⟩:=h;unfold Ze4 at q3
  try simp at q3
  obtain⟨q4,h⟩:=h;obtain⟨q5,h⟩:=h;obtain⟨q6,h⟩:=h;have zq6:=q6;try simp at zq6
  obtain⟨q7,h⟩:=h;obtain⟨v2,q8,h⟩:=h;unfold Znp at q8
  try simp at q8
  refine Yf ?_ h;clear h;simp +decide[*,Zbh3,tI,tII,Zrr]
 .rw[if_neg q2]at h;refine Yf ?_ h;clear h;simp +decide[*,Zbh3,tI,tII]
theorem Zdl:((((∀s q x x1 v cn x2 x3 r,Im (Zk4 s q x x1 v cn x2 x3=some r) (if x3<x2 then qG x1 x3 (λe1=>qG q.Atoms e1 (λe2=>qI (Zl9 e2.Vars v) (λv3=>if v3<0 then Zk4 s q x x1 v cn x2 (w (x3+1))=some r else if e2.Name=x.Name then if v3=cn then qb true r else qB (Zns s.Inclusions (⟨e2.Name,v3,x.Name,cn⟩:Zj)) (qb true r) (Zk4 s q x x1 v cn x2 (w (x3+1))=some r)else qB (Zns s.Inclusions (⟨e2.Name,v3,x.Name,cn⟩:Zj)) (qb true r) (Zk4 s q x x1 v cn x2 (w (x3+1))=some r))))else qb false r))/\
 (∀a a1 a2 a3 r,Im (Z4v a a1 a2 a3=some r) (qG a1.Atoms a3 (λe1=>qO 3 1 ic (Zhm a1 a2) (λv2=>qO 3 1 ic (Zkd e1.Vars v2) (λv3=>¬a3<0/\if(andI (shrI a2 a3) 1)=1 then qb false r else if(v3.length:Int)=1 then ∃e4,v3[0]?=some e4/\qI (Zl9 e1.Vars e4) (λv8=>(Zb9 a2=some (.t .nil,[])/\Zbxm a a1 e1 e4 v8 0 0=some r)\/(qO 3 1 ic (Zb9 a2) (λv14=>Zk4 a a1 e1 v14 e4 v8 (v14.length:Int) 0=some r)))else qb false r))))))/\
 ((∀cd s q x cv cp x1 x2 r,Im (Zgz cd s q x cv cp x1 x2=some r) (if x2<x1 then qG x x2 (λe1=>qB (Z4v s q cv e1) (qO 3 1 ic (Zeo cd) (λv3=>v3.length+1<=68719476736/\¬e1<0/\((∃(v7:List Int),Ze7 (v3++[e1]) s q (orI cv (shlI 1 e1)) (Zr cp (shlI 1 e1))=some (.tup [.own 0,Bo true],[.arr 3 1 true (v7.map ic)])/\some (.tup [.own 1,Bo true],[.arr 3 1 true (cd.map ic),.arr 3 1 true (v7.map ic)])=some r)\/(∃(v8:List Int),Ze7 (v3++[e1]) s q (orI cv (shlI 1 e1)) (Zr cp (shlI 1 e1))=some (.tup [.t .nil,Bo false],[.arr 3 1 true (v8.map ic)])/\Zgz cd s q x cv cp x1 (w (x2+1))=some r)\/(∃(v10:List Int) (v11:List Int),Ze7 (v3++[e1]) s q (orI cv (shlI 1 e1)) (Zr cp (shlI 1 e1))=some (.tup [.own 1,Bo true],[.arr 3 1 true (v10.map ic),.arr 3 1 true (v11.map ic)])/\some (.tup [.own 1,Bo true],[.arr 3 1 true (cd.map ic),.arr 3 1 true (v11.map ic)])=some r)))) (Zgz cd s q x cv cp x1 (w (x2+1))=some r))else some (.tup [.t .nil,Bo false],[.arr 3 1 true (cd.map ic)])=some r))/\
 (∀x a a1 a2 a3 r,Im (Ze7 x a a1 a2 a3=some r) (if a3=0 then some (.tup [.own 0,Bo true],[.arr 3 1 true (x.map ic)])=some r else(Zb9 a3=some (.t .nil,[])/\Zbxp x a a1 a2 a3 0 0=some r)\/(qO 3 1 ic (Zb9 a3) (λv2=>Zgz x a a1 v2 a2 a3 (v2.length:Int) 0=some r))))))/\
 (((∀s q x cc cl x1 x2 r,Im (Znt s q x cc cl x1 x2=some r) (if x2<x1 then qG x x2 (λe1=>¬e1<0/\((∃(v2:List Int),Ze7 ([e1]) s q (shlI 1 e1) (Zr cc (shlI 1 e1))=some (.tup [.own 0,Bo true],[.arr 3 1 true (v2.map ic)])/\∃(v3:List Zg),∃v4,∃v5,∃v6,Zgb s q e1=some (.agg [.t (.str v4),I v5,I v6,.own 0],[.arr 200 3 true (v3.map Zg.c)])/\Znt s q x cc (if cl<v6 then v6 else cl) x1 (w (x2+1))=some r)\/(∃(v7:List Int),Ze7 ([e1]) s q (shlI 1 e1) (Zr cc (shlI 1 e1))=some (.tup [.t .nil,Bo false],[.arr 3 1 true (v7.map ic)])/\Znt s q x cc cl x1 (w (x2+1))=some r)\/(∃(v8:List Int) (v9:List Int),Ze7 ([e1]) s q (shlI 1 e1) (Zr cc (shlI 1 e1))=some (.tup [.own 1,Bo true],[.arr 3 1 true (v8.map ic),.arr 3 1 true (v9.map ic)])/\∃(v10:List Zg),∃v11,∃v12,∃v13,Zgb s q e1=some (.agg [.t (.str v11),I v12,I v13,.own 0],[.arr 200 3 true (v10.map Zg.c)])/\Znt s q x cc (if cl<v13 then v13 else cl) x1 (w (x2+1))=some r)))else qi cl r))/\
 (∀a a1 a2 r,Im (Z42 a a1 a2=some r) (qB (Zc6 a a1 a2) ((Zb9 a2=some (.t .nil,[])/\Zbxs a a1 a2 0 0 0=some r)\/(qO 3 1 ic (Zb9 a2) (λv3=>Znt a a1 v3 a2 0 (v3.length:Int) 0=some r))) (qi (-1) r))))/\
 ((∀s q co x x1 x2 r,Im (Zru s q co x x1 x2=some r) (if x2<x1 then qG x x2 (λe1=>qI (Z42 s q e1) (λv2=>qG co e1 (λe3=>Zru s q (co.set e1.toNat v2) x x1 (w (x2+1))=some r)))else some (.own 0,[.arr 3 1 true (co.map ic)])=some r))/\
 ((∀a r,Im (Z43 a=some r) (qB (Z7 a 0 7) (if a=0 then qi 0 r else ¬(w (2*(w (a-1))))<0/\qi (shlI 1 (w (2*(w (a-1))))) r) (qi (-1) r)))/\
 (∀n c r,Im (Z45 n c=some r) (qI (Z43 c) (λv1=>if n<=v1 then qi c r else Z45 n (w (c+1))=some r)))))))/\
 ((((∀a r,Im (Z44 a=some r) (qB (Z7 a 0 4096) (Z45 a 0=some r) (qi (-1) r)))/\
 (∀co x x1 x2 r,Im (Zya co x x1 x2=some r) (if x2<x1 then qG x x2 (λe1=>qI (Z44 e1) (λv2=>co.length+1<=68719476736/\Zya (co++[v2]) x x1 (w (x2+1))=some r))else some (.own 0,[.arr 3 1 true (co.map ic)])=some r)))/\
 ((∀a r,Im (Zrv a=some r) (Zya ([]:List Int) a (a.length:Int) 0=some r))/\
 (∀a a1 r,Im (Z46 a a1=some r) (qB (Zc6 a a1 1) (qI (Ze4 a1) (λv2=>qB (Zx8 a1 v2) ((Zrt a a1=some (.t .nil,[])/\qO 3 1 ic Zbim (λv8=>(Zk3 a a1=some (.t .nil,[])/\some (.tup [.agg [.own 0,.own 1],Bo true],[.arr 3 1 true (v8.map ic),.arr 3 1 true (v8.map ic)])=some r)\/(qO 3 1 ic (Zk3 a a1) (λv14=>qO 3 1 ic (Zrv v14) (λv15=>some (.tup [.agg [.own 0,.own 1],Bo true],[.arr 3 1 true (v8.map ic),.arr 3 1 true (v15.map ic)])=some r)))))\/(qO 3 1 ic (Zrt a a1) (λv16=>qO 3 1 ic (Zrv v16) (λv17=>(Zk3 a a1=some (.t .nil,[])/\qO 3 1 ic Zbim (λv18=>some (.tup [.agg [.own 0,.own 1],Bo true],[.arr 3 1 true (v17.map ic),.arr 3 1 true (v18.map ic)])=some r))\/(qO 3 1 ic (Zk3 a a1) (λv19=>qO 3 1 ic (Zrv v19) (λv20=>some (.tup [.agg [.own 0,.own 1],Bo true],[.arr 3 1 true (v17.map ic),.arr 3 1 true (v20.map ic)])=some r))))))) (some (.tup [.agg [.t .nil,.t .nil],Bo false],[])=some r))) (some (.tup [.agg [.t .nil,.t .nil],Bo false],[])=some r)))))/\
 (((∀a v k r,Im (Zyc a v k=some r) (if k<(a.Vars.length:Int)then qG a.Vars k (λe1=>if e1=v then qi k r else Zyc a v (w (k+1))=some r)else qi (-1) r))/\
 (∀a a1 r,Im (Zyb a a1=some r) (Zyc a a1 0=some r)))/\
 ((∀s q v cc i k r,Im (Zk5 s q v cc i k=some r) (if k<(q.Atoms.length:Int)then ¬k<0/\if(andI (shrI cc k) 1)=0 then Zk5 s q v cc i (w (k+1))=some r else qG q.Atoms k (λe1=>∃e2,v[0]?=some e2/\qB (Zer e1.Vars e2) (qI (Zyb e1 e2) (λv7=>qG q.Atoms i (λe5=>qI (Zyb e5 e2) (λv10=>if e1.Name=e5.Name then if v7=v10 then qb true r else Zrw s q v (⟨e1.Name,v7,e5.Name,v10⟩:Zj) cc i k 0=some r else Zrw s q v (⟨e1.Name,v7,e5.Name,v10⟩:Zj) cc i k 0=some r)))) (Zk5 s q v cc i (w (k+1))=some r))else qb false r))/\
 ((∀s q v cu cc i k j r,Im (Zrw s q v cu cc i k j=some r) (if j<(s.Inclusions.length:Int)then qG s.Inclusions j (λe1=>if e1.Name=cu.Name/\e1.Column=cu.Column/\e1.Into=cu.Into/\e1.IntoColumn=cu.IntoColumn then qb true r else Zrw s q v cu cc i k (w (j+1))=some r)else Zk5 s q v cc i (w (k+1))=some r))/\
 (∀a a1 a2 a3 r,Im (Zye a a1 a2 a3=some r) (qB (Zct a a1 a2) (qB (Z0 a3 0 (w ((a1.Atoms.length:Int)-1))) (¬a3<0/\if(andI (shrI a2 a3) 1)=1 then qb false r else qO 3 1 ic (Zna a1 a2 (shlI 1 a3)) (λv3=>if(v3.length:Int)=1 then Zk5 a a1 v3 a2 a3 0=some r else qb false r)) (qb false r)) (qb false r))))))):=by
 and_intros
 all_goals(intros;unfold Im;(try simp only[Zk4,Z4v,Zgz,Ze7,Znt,Z42,Zru,Z43,Z45,Z44,Zya,Zrv,Z46,Zyc,Zyb,Zk5,Zrw,Zye,Zl9,Zns,Zj.c_def,Zhm,Zkd,Zb9,Zc.c_def,Zeo,Zl.c_def,Zi.c_def,Zh.c_def,Zgb,Zc6,Z7,Ze4,Zx8,Zrt,Zbim,Zk3,Zer,Atom.c_def,Zct,Z0,Zna,Zbxm,Zbxp,Zbxs,mpl,dfs,qs]);(try simp only[itb]);(try simp only[itf,gS,kk]))
 all_goals(repeat' first|refine exI λ_=>?_|refine anJ λ_ _=>?_|refine anI λ_=>?_|refine orE2 ?_ ?_|exact False.elim)
 all_goals(intro h;first|rw[Zd Z4t.eq_1]|refine run Zckx rfl ?_|rw[Zd Z4x.eq_1]|refine runM Zcky rfl ?_|rw[Zd Z40.eq_1]|refine run Zckz rfl ?_|rw[Zd Zbig.eq_1]|refine run Zck2 rfl ?_|rw[Zd Zbin.eq_1]|refine run Zck3 rfl ?_|rw[Zd Zbik.eq_1]|refine run Zck1 rfl ?_|refine run Zck4 rfl ?_|rw[Zd Zbip.eq_1]|refine run Zck5 rfl ?_|rw[Zd Z47.eq_1]|rw[Zd Zbir.eq_1]|refine run Zck6 rfl ?_)
 all_goals (refine Yf ?_ h;clear h;simp +decide[*,kk,tI,tII,Zbxk,Z4u,Zbxl,Zbxn,Z4y,Zbxo,Zbxq,Z41,Zbxr,Zbih,Zbxu,Zbxw,Zbil,Zbxt,Zbxx,Zbiq,Zbxy,Zbis,Z48,Zbxz])
abbrev Zb3l:=uq Zdl.1.1.1.1
abbrev Zcr3:=uq Zdl.1.1.1.2
abbrev Zbjl:=uq Zdl.1.1.2.1
abbrev Zbjm:=uq Zdl.1.1.2.2
abbrev Zb3m:=uq Zdl.1.2.1.1
abbrev Zcr4:=uq Zdl.1.2.1.2
abbrev Zb3n:=uq Zdl.1.2.2.1
abbrev Zcr5:=uq Zdl.1.2.2.2.1
abbrev Zk9:=uq Zdl.1.2.2.2.2
abbrev Zcr6:=uq Zdl.2.1.1.1
abbrev Zb3o:=uq Zdl.2.1.1.2
abbrev Zcr7:=uq Zdl.2.1.2.1
abbrev Zcr8:=uq Zdl.2.1.2.2
abbrev Zb3p:=uq Zdl.2.2.1.1
abbrev Zcr9:=uq Zdl.2.2.1.2
abbrev Zb3q:=uq Zdl.2.2.2.1
abbrev Zb3r:=uq Zdl.2.2.2.2.1
abbrev Zcsa:=uq Zdl.2.2.2.2.2
theorem Zcsb{a:Zh}{a1:Zc}{r:AV×List Blk}(h:(∃(v:Bool),Zc6 a a1 1=some (Bo v,[])/\(if v=true then(∃(v1:Int),Ze4 a1=some (I v1,[])/\(0<=(w (v1+1))/\((w (v1+1))<=(w (v1+1))/\((w (v1+1)).toNat*8<=room/\((w (v1+1))<=140737488355328/\(∃(v2:List Int),Znp a1=some (.own 0,[.arr 3 1 true (v2.map ic)])/\(Zru a a1 (List.replicate ((w (v1+1))).toNat 0) v2 (v2.length:Int) 0=some r)))))))else(some (.t .nil,[])=some r)))):Zrt a a1=some r:=by
 unfold Zrt;refine run Zck0 rfl ?_;obtain⟨v,q1,h⟩:=h;unfold Zc6 at q1
 try simp at q1
 by_cases q2:v=true
 .rw[if_pos q2]at h;obtain⟨v1,q3,h⟩:=h;unfold Ze4 at q3
  try simp at q3
  obtain⟨q4,h⟩:=h;obtain⟨q5,h⟩:=h;obtain⟨q6,h⟩:=h;have zq6:=q6;try simp at zq6
  obtain⟨q7,h⟩:=h;obtain⟨v2,q8,h⟩:=h;unfold Znp at q8
  try simp at q8
  refine Yf ?_ h;clear h;simp +decide[*,Zbii,tI,tII,Zru]
 .rw[if_neg q2]at h;refine Yf ?_ h;clear h;simp +decide[*,Zbii,tI,tII]
theorem Zeu:(((∀cc s q cd cl i r,Im (Zyf cc s q cd cl i=some r) (if i<(cc.length:Int)then qG cc i (λe1=>¬e1<0/\Zyf cc s q cd (orI cl (shlI 1 e1)) (w (i+1))=some r)else if cl=cd then some (.own 0,[.arr 3 1 true (cc.map ic)])=some r else Zet cc s q cd cl 0=some r))/\
 ((∀cc s q cd cl i r,Im (Zet cc s q cd cl i=some r) (if i<(q.Atoms.length:Int)then ¬i<0/\if(andI (shrI cd i) 1)=1 then qB (Zye s q cl i) (cc.length<=68719476736/\cc.length+1<=68719476736/\((qO 3 1 ic (Zfu (cc++[i]) s q cd) (λv1=>if 0<(v1.length:Int)then some (.own 1,[.arr 3 1 true (cc.map ic),.arr 3 1 true (v1.map ic)])=some r else Zet cc s q cd cl (w (i+1))=some r))\/(∃(v5:List Int) (v6:List Int),Zfu (cc++[i]) s q cd=some (.own 1,[.arr 3 1 true (v5.map ic),.arr 3 1 true (v6.map ic)])/\if 0<(v6.length:Int)then some (.own 1,[.arr 3 1 true (cc.map ic),.arr 3 1 true (v6.map ic)])=some r else Zet cc s q cd cl (w (i+1))=some r))) (Zet cc s q cd cl (w (i+1))=some r)else Zet cc s q cd cl (w (i+1))=some r else some (.own 1,[.arr 3 1 true (cc.map ic),.arr 3 1 true (([]:List Int).map ic)])=some r))/\
 (∀x a a1 a2 r,Im (Zfu x a a1 a2=some r) (Zyf x a a1 a2 0 0=some r))))/\
 (((∀a a1 a2 a3 r,Im (Zyg a a1 a2 a3=some r) (qB (Zct a a1 a2) (qB (Z0 a3 0 (w ((a1.Atoms.length:Int)-1))) (¬a3<0/\(if(andI (shrI a2 a3) 1)=0 then some (.own 0,[.arr 3 1 true (([]:List Int).map ic)])=some r else(qO 3 1 ic (Zfu ([a3]) a a1 a2) (λv5=>some (.own 0,[.arr 3 1 true (v5.map ic)])=some r))\/(∃(v7:List Int) (v8:List Int),Zfu ([a3]) a a1 a2=some (.own 1,[.arr 3 1 true (v7.map ic),.arr 3 1 true (v8.map ic)])/\some (.own 0,[.arr 3 1 true (v8.map ic)])=some r))) (some (.own 0,[.arr 3 1 true (([]:List Int).map ic)])=some r)) (some (.own 0,[.arr 3 1 true (([]:List Int).map ic)])=some r)))/\
 (∀s q cd n i r,Im (Zry s q cd n i=some r) (if i<(q.Atoms.length:Int)then qO 3 1 ic (Zyg s q cd i) (λv=>if 0<(v.length:Int)then ∃(v1:List Zg),∃v2,∃v3,∃v4,Zfs s q i=some (.agg [.t (.str v2),I v3,I v4,.own 0],[.arr 200 3 true (v1.map Zg.c)])/\Zry s q cd (if n<v4 then v4 else n) (w (i+1))=some r else Zry s q cd n (w (i+1))=some r)else qi n r)))/\
 ((∀a a1 a2 r,Im (Z5a a a1 a2=some r) (qB (Zct a a1 a2) (Zry a a1 a2 0 0=some r) (qi (-1) r)))/\
 (∀s q cp m r,Im (Zrz s q cp m=some r) (qI (Zfr q) (λv=>if m<=v then qB (Znr q m) (qI (Z5a s q m) (λv5=>cp.length+1<=68719476736/\Zrz s q (cp++[v5]) (w (m+1))=some r)) (cp.length+1<=68719476736/\Zrz s q (cp++[0]) (w (m+1))=some r)else some (.own 0,[.arr 3 1 true (cp.map ic)])=some r))))))/\
 ((((∀a a1 r,Im (Z5c a a1=some r) (qI (Zfr a1) (λv=>qB (Zct a a1 v) (Zrz a a1 ([]:List Int) 0=some r) (some (.own 0,[.arr 3 1 true (([]:List Int).map ic)])=some r))))/\
 (∀k n i r,Im (Zr0 k n i=some r) (if i<k then Zr0 k (if 1<(w (n*4))then(w (n*4))else 1) (w (i+1))=some r else qi n r)))/\
 ((∀a r,Im (Z5d a=some r) (qB (Z0 a 0 7) (Zr0 a 0 0=some r) (qi (-1) r)))/\
 (∀n k r,Im (Z5e n k=some r) (if k<=7 then qI (Z5d k) (λv=>if n<=v then qi k r else Z5e n (w (k+1))=some r)else qi (-1) r))))/\
 (((∀a r,Im (Znu a=some r) (if a<0 then qi (-1) r else Z5e a 0=some r))/\
 (∀co cn m r,Im (Z5i co cn m=some r) (if m<(co.length:Int)then qG co m (λe1=>qI (Znu e1) (λv1=>qH cn m (λe3=>qI (Znu e3) (λv7=>Zyh co cn ([v1]) ([v7]) (w (m+1))=some r))))else some (.tup [.agg [.t .nil,.t .nil],Bo true],[])=some r)))/\
 ((∀co cn x x1 m r,Im (Zyh co cn x x1 m=some r) (if m<(co.length:Int)then qG co m (λe1=>qI (Znu e1) (λv1=>x.length+1<=68719476736/\qH cn m (λe3=>qI (Znu e3) (λv7=>x1.length+1<=68719476736/\Zyh co cn (x++[v1]) (x1++[v7]) (w (m+1))=some r))))else some (.tup [.agg [.own 0,.own 1],Bo true],[.arr 3 1 true (x.map ic),.arr 3 1 true (x1.map ic)])=some r))/\
 (∀a a1 r,Im (Z5h a a1=some r) (qO 3 1 ic (Z5c a a1) (λv=>qO 3 1 ic (Zx7 a a1) (λv1=>if(v.length:Int)=0 then some (.tup [.agg [.t .nil,.t .nil],Bo false],[])=some r else qI (Zfr a1) (λv5=>qB (Znr a1 v5) (Z5i v v1 0=some r) (some (.tup [.agg [.t .nil,.t .nil],Bo false],[])=some r))))))))):=by
 and_intros
 all_goals(intros;unfold Im;(try simp only[Zyf,Zet,Zfu,Zyg,Zry,Z5a,Zrz,Z5c,Zr0,Z5d,Z5e,Znu,Z5i,Zyh,Z5h,Zye,Zl.c_def,Zi.c_def,Zc.c_def,Zh.c_def,Zct,Z0,Zfs,Zfr,Znr,Zx7,mpl,dfs,qs]);(try simp only[itb]);(try simp only[itf,gS,kk]))
 all_goals(repeat' first|refine exI λ_=>?_|refine anJ λ_ _=>?_|refine anI λ_=>?_|refine orE2 ?_ ?_|exact False.elim)
 all_goals(intro h;first|rw[Zd Zbit.eq_1]|rw[Zd Zbiu.eq_1]|refine runM Zck7 rfl ?_|refine run Zck8 rfl ?_|rw[Zd Zbix.eq_1]|refine run Zck9 rfl ?_|rw[Zd Zbiz.eq_1]|refine run Zcla rfl ?_|rw[Zd Zbi2.eq_1]|refine run Zclb rfl ?_|rw[Zd Zbi5.eq_1]|refine run Zclc rfl ?_|rw[Zd Z5f.eq_1]|refine run Zcld rfl ?_)
 all_goals (refine Yf ?_ h;clear h;simp +decide[*,kk,tI,tII,Zbiw,Zbx0,Zbiv,Zbx1,Zbx2,Zbx3,Zbiy,Zbx4,Zbx5,Zbi0,Zbx6,Zbi3,Zbx7,Zbi6,Zbx8,Z5g,Zbx9])
abbrev Zb3s:=uq Zeu.1.1.1
abbrev Z5k:=uq Zeu.1.1.2.1
abbrev Zb3t:=uq Zeu.1.1.2.2
abbrev Zcsc:=uq Zeu.1.2.1.1
abbrev Zb3u:=uq Zeu.1.2.1.2
abbrev Zcsd:=uq Zeu.1.2.2.1
abbrev Zb3v:=uq Zeu.1.2.2.2
abbrev Zcse:=uq Zeu.2.1.1.1
abbrev Zcsf:=uq Zeu.2.1.1.2
abbrev Zcsg:=uq Zeu.2.1.2.1
abbrev Zi5:=uq Zeu.2.1.2.2
abbrev Zcsh:=uq Zeu.2.2.1.1
abbrev Zcsi:=uq Zeu.2.2.1.2
abbrev Zb3w:=uq Zeu.2.2.2.1
abbrev Zcsj:=uq Zeu.2.2.2.2
end Go.Proofs.YtnnjbejcffjgfaaGreat
