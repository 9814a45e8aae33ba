/-
  Parts of the proofs for this seat: G12 G13 G14 SN2 G15 G16 G17 G18 G19 G20 V1 V2 V3 V4 V5 V6 OP.
-/
import Derived.Test.YtgnfoghkbpkgjaaGreatP7
import Derived.Test.YtgnfoghkbpkgjaaGreatP9
import Derived.Test.YtgnfoghkbpkgjaaGreatP10
set_option linter.unusedSimpArgs false
set_option linter.unusedVariables false
set_option maxRecDepth 100000
set_option maxHeartbeats 4000000
namespace Go.Proofs.YtgnfoghkbpkgjaaGreat
open Go.AM
theorem Zfn:(∀⦃a b x cd only x1 cc c i r⦄,Im (Zm1 a b x cd only x1 cc c i=some r) (if i<cc then(Zfj a b x cd only x1 cc c i 0=some r)else(some (.agg [.own 0,.t .nil],[.arr 3 1 true (x.map ic)])=some r))) ∧
 (∀⦃a b x cd only x1 cc c i k r⦄,Im (Zfj a b x cd only x1 cc c i k=some r) (if k<c then(0≤(if(w ((a.Rows.length:Int)-1))<i then(w ((a.Rows.length:Int)-1))else i)∧(∃e1,a.Rows[(if(w ((a.Rows.length:Int)-1))<i then(w ((a.Rows.length:Int)-1))else i).toNat]?=some e1∧(0≤(if(w ((b.Rows.length:Int)-1))<k then(w ((b.Rows.length:Int)-1))else k)∧(∃e2,b.Rows[(if(w ((b.Rows.length:Int)-1))<k then(w ((b.Rows.length:Int)-1))else k).toNat]?=some e2∧(if cd=true then(0≤k∧(∃e3,a.Rows[k.toNat]?=some e3∧(0≤i∧(∃e4,b.Rows[i.toNat]?=some e4∧(if only<0 then(∃v4,Zbr a.Vars e3 b.Vars e4=some (Bo v4,[])∧(if v4=true then(∃(v5:List Int),Zbs x a.Vars e3 b.Vars e4=some (.own 0,[.arr 3 1 true (v5.map ic)])∧(Zcc a b x ([v5]) true only x1 cc c i (w (k+1))=some r))else(Zfj a b x true only x1 cc c i (w (k+1))=some r)))else(0≤x1∧(∃e7,e3[x1.toNat]?=some e7∧(if e7=only then(∃v9,Zbr a.Vars e3 b.Vars e4=some (Bo v9,[])∧(if v9=true then(∃(v11:List Int),Zbs x a.Vars e3 b.Vars e4=some (.own 0,[.arr 3 1 true (v11.map ic)])∧(Zcc a b x ([v11]) true only x1 cc c i (w (k+1))=some r))else(Zfj a b x true only x1 cc c i (w (k+1))=some r)))else(Zfj a b x true only x1 cc c i (w (k+1))=some r)))))))))else(if only<0 then(∃v12,Zbr a.Vars e1 b.Vars e2=some (Bo v12,[])∧(if v12=true then(∃(v13:List Int),Zbs x a.Vars e1 b.Vars e2=some (.own 0,[.arr 3 1 true (v13.map ic)])∧(Zcc a b x ([v13]) false only x1 cc c i (w (k+1))=some r))else(Zfj a b x false only x1 cc c i (w (k+1))=some r)))else(0≤x1∧(∃e12,e1[x1.toNat]?=some e12∧(if e12=only then(∃v14,Zbr a.Vars e1 b.Vars e2=some (Bo v14,[])∧(if v14=true then(∃(v15:List Int),Zbs x a.Vars e1 b.Vars e2=some (.own 0,[.arr 3 1 true (v15.map ic)])∧(Zcc a b x ([v15]) false only x1 cc c i (w (k+1))=some r))else(Zfj a b x false only x1 cc c i (w (k+1))=some r)))else(Zfj a b x false only x1 cc c i (w (k+1))=some r))))))))))else(Zm1 a b x cd only x1 cc c (w (i+1))=some r))) ∧
 (∀⦃a b x x1 cd only x2 cc c i k r⦄,Im (Zcc a b x x1 cd only x2 cc c i k=some r) (if k<c then(if(x1.length:Int)≤4096 then(0≤(if(w ((a.Rows.length:Int)-1))<i then(w ((a.Rows.length:Int)-1))else i)∧(∃e1,a.Rows[(if(w ((a.Rows.length:Int)-1))<i then(w ((a.Rows.length:Int)-1))else i).toNat]?=some e1∧(0≤(if(w ((b.Rows.length:Int)-1))<k then(w ((b.Rows.length:Int)-1))else k)∧(∃e2,b.Rows[(if(w ((b.Rows.length:Int)-1))<k then(w ((b.Rows.length:Int)-1))else k).toNat]?=some e2∧(if cd=true then(0≤k∧(∃e3,a.Rows[k.toNat]?=some e3∧(0≤i∧(∃e4,b.Rows[i.toNat]?=some e4∧(if only<0 then(∃v4,Zbr a.Vars e3 b.Vars e4=some (Bo v4,[])∧(if v4=true then(∃(v5:List Int),Zbs x a.Vars e3 b.Vars e4=some (.own 0,[.arr 3 1 true (v5.map ic)])∧(x1.length+1≤68719476736∧(Zcc a b x (x1++[v5]) true only x2 cc c i (w (k+1))=some r)))else(Zcc a b x x1 true only x2 cc c i (w (k+1))=some r)))else(0≤x2∧(∃e7,e3[x2.toNat]?=some e7∧(if e7=only then(∃v9,Zbr a.Vars e3 b.Vars e4=some (Bo v9,[])∧(if v9=true then(∃(v11:List Int),Zbs x a.Vars e3 b.Vars e4=some (.own 0,[.arr 3 1 true (v11.map ic)])∧(x1.length+1≤68719476736∧(Zcc a b x (x1++[v11]) true only x2 cc c i (w (k+1))=some r)))else(Zcc a b x x1 true only x2 cc c i (w (k+1))=some r)))else(Zcc a b x x1 true only x2 cc c i (w (k+1))=some r)))))))))else(if only<0 then(∃v12,Zbr a.Vars e1 b.Vars e2=some (Bo v12,[])∧(if v12=true then(∃(v13:List Int),Zbs x a.Vars e1 b.Vars e2=some (.own 0,[.arr 3 1 true (v13.map ic)])∧(x1.length+1≤68719476736∧(Zcc a b x (x1++[v13]) false only x2 cc c i (w (k+1))=some r)))else(Zcc a b x x1 false only x2 cc c i (w (k+1))=some r)))else(0≤x2∧(∃e12,e1[x2.toNat]?=some e12∧(if e12=only then(∃v14,Zbr a.Vars e1 b.Vars e2=some (Bo v14,[])∧(if v14=true then(∃(v15:List Int),Zbs x a.Vars e1 b.Vars e2=some (.own 0,[.arr 3 1 true (v15.map ic)])∧(x1.length+1≤68719476736∧(Zcc a b x (x1++[v15]) false only x2 cc c i (w (k+1))=some r)))else(Zcc a b x x1 false only x2 cc c i (w (k+1))=some r)))else(Zcc a b x x1 false only x2 cc c i (w (k+1))=some r))))))))))else(Zm2 a b x x1 cd only x2 cc c (w (i+1))=some r))else(Zm2 a b x x1 cd only x2 cc c (w (i+1))=some r))) ∧
 (∀⦃a b x x1 cd only x2 cc c i r⦄,Im (Zm2 a b x x1 cd only x2 cc c i=some r) (if i<cc then(Zcc a b x x1 cd only x2 cc c i 0=some r)else(some (.agg [.own 0,.own 1],[.arr 3 1 true (x.map ic),.arr 30 1 true (x1.map isc)])=some r))) ∧
 (∀⦃x a a1 a2 a3 a4 r⦄,Im (Zel x a a1 a2 a3 a4=some r) (∃v,Zdr a.Vars a3=some (I v,[])∧(if a2=true then(Zm1 a a1 x true a4 v (a1.Rows.length:Int) (a.Rows.length:Int) 0=some r)else(Zm1 a a1 x false a4 v (a.Rows.length:Int) (a1.Rows.length:Int) 0=some r)))) ∧
 (∀⦃x r⦄,Im (Zm3 x=some r) (some (.tup [.agg [.own 0,.t .nil],Bo true],[.arr 3 1 true (x.map ic)])=some r)) ∧
 (∀⦃x x1 r⦄,Im (Zf5 x x1=some r) (if 4096<(x1.length:Int)then(some (.tup [.agg [.t .nil,.t .nil],Bo false],[.arr 3 1 true (x.map ic),.arr 30 1 true (x1.map isc)])=some r)else(some (.tup [.agg [.own 0,.own 1],Bo true],[.arr 3 1 true (x.map ic),.arr 30 1 true (x1.map isc)])=some r))) ∧
 (∀⦃a a1 r⦄,Im (Zkh a a1=some r) (∃v,Zd5 a=some (Bo v,[])∧(if v=true then(∃v1,Zd5 a1=some (Bo v1,[])∧(if v1=true then(∃(v2:List Int),Zie a.Vars a1.Vars=some (.own 0,[.arr 3 1 true (v2.map ic)])∧((∃(v3:List Int),Zel v2 a a1 true 0 (-1)=some (.agg [.own 0,.t .nil],[.arr 3 1 true (v3.map ic)])∧(∃(v4:List Int),Zm3 v3=some (.tup [.agg [.own 0,.t .nil],Bo true],[.arr 3 1 true (v4.map ic)])∧(some (.tup [.agg [.own 0,.t .nil],Bo true],[.arr 3 1 true (v4.map ic)])=some r)))∨(∃(v5:List Int) (v6:List (List Int)),Zel v2 a a1 true 0 (-1)=some (.agg [.own 0,.own 1],[.arr 3 1 true (v5.map ic),.arr 30 1 true (v6.map isc)])∧((∃(v7:List Int) (v8:List (List Int)),Zf5 v5 v6=some (.tup [.agg [.t .nil,.t .nil],Bo false],[.arr 3 1 true (v7.map ic),.arr 30 1 true (v8.map isc)])∧(some (.tup [.agg [.t .nil,.t .nil],Bo false],[])=some r))∨(∃(v9:List Int) (v10:List (List Int)),Zf5 v5 v6=some (.tup [.agg [.own 0,.own 1],Bo true],[.arr 3 1 true (v9.map ic),.arr 30 1 true (v10.map isc)])∧(some (.tup [.agg [.own 0,.own 1],Bo true],[.arr 3 1 true (v9.map ic),.arr 30 1 true (v10.map isc)])=some r))))))else(some (.tup [.agg [.t .nil,.t .nil],Bo false],[])=some r)))else(some (.tup [.agg [.t .nil,.t .nil],Bo false],[])=some r)))) ∧
 (∀⦃a a1 r⦄,Im (Zki a a1=some r) (∃v,Zd5 a=some (Bo v,[])∧(if v=true then(∃v1,Zd5 a1=some (Bo v1,[])∧(if v1=true then(∃(v2:List Int),Zie a.Vars a1.Vars=some (.own 0,[.arr 3 1 true (v2.map ic)])∧((∃(v3:List Int),Zel v2 a a1 false 0 (-1)=some (.agg [.own 0,.t .nil],[.arr 3 1 true (v3.map ic)])∧(∃(v4:List Int),Zm3 v3=some (.tup [.agg [.own 0,.t .nil],Bo true],[.arr 3 1 true (v4.map ic)])∧(some (.tup [.agg [.own 0,.t .nil],Bo true],[.arr 3 1 true (v4.map ic)])=some r)))∨(∃(v5:List Int) (v6:List (List Int)),Zel v2 a a1 false 0 (-1)=some (.agg [.own 0,.own 1],[.arr 3 1 true (v5.map ic),.arr 30 1 true (v6.map isc)])∧((∃(v7:List Int) (v8:List (List Int)),Zf5 v5 v6=some (.tup [.agg [.t .nil,.t .nil],Bo false],[.arr 3 1 true (v7.map ic),.arr 30 1 true (v8.map isc)])∧(some (.tup [.agg [.t .nil,.t .nil],Bo false],[])=some r))∨(∃(v9:List Int) (v10:List (List Int)),Zf5 v5 v6=some (.tup [.agg [.own 0,.own 1],Bo true],[.arr 3 1 true (v9.map ic),.arr 30 1 true (v10.map isc)])∧(some (.tup [.agg [.own 0,.own 1],Bo true],[.arr 3 1 true (v9.map ic),.arr 30 1 true (v10.map isc)])=some r))))))else(some (.tup [.agg [.t .nil,.t .nil],Bo false],[])=some r)))else(some (.tup [.agg [.t .nil,.t .nil],Bo false],[])=some r)))) ∧
 (∀⦃s x i r⦄,Im (Zqs s x i=some r) (if i<(s.Rows.length:Int)then(0≤(w (i-1))∧(∃e1,s.Rows[(w (i-1)).toNat]?=some e1∧(0≤x∧(∃e2,e1[x.toNat]?=some e2∧(0≤i∧(∃e3,s.Rows[i.toNat]?=some e3∧(∃e4,e3[x.toNat]?=some e4∧(if e4<e2 then(some (Bo false,[])=some r)else(Zqs s x (w (i+1))=some r)))))))))else(some (Bo true,[])=some r))) ∧
 (∀⦃a a1 r⦄,Im (Zm4 a a1=some r) (∃v,Zdr a.Vars a1=some (I v,[])∧(∃v1,Zd5 a=some (Bo v1,[])∧(if v1=true then(if v<0 then(some (Bo false,[])=some r)else(Zqs a v 1=some r))else(some (Bo false,[])=some r))))):=by
 and_intros
 all_goals intros
 all_goals unfold Im
 all_goals try simp only[Zm1,Zfj,Zcc,Zm2,Zel,Zm3,Zf5,Zkh,Zki,Zqs,Zm4,Zbr,Zbs,Zdr,Zd5,Zie,Za.c_def,mpl,dfs]
 all_goals try simp only[itb]
 all_goals try simp only[itf,gS,kk]
 all_goals repeat' first|refine exI fun _=>?_|refine anJ fun _ _=>?_|refine anI fun _=>?_|refine orE2 ?_ ?_|exact False.elim
 all_goals (intro h;first|rw[Zf Zfh.eq_1]|rw[Zf Zkf.eq_1]|refine runM Zbc4 rfl ?_|refine runM Zbr2 rfl ?_|refine run Zbr3 rfl ?_|refine run Zbr4 rfl ?_|rw[Zf Z17.eq_1]|refine run Zbr5 rfl ?_)
 all_goals (refine Yb ?_ h;clear h;simp +decide[*,kk,tI,tII,Zfi,Z14,Zkg,Z16,Z15,Zbbl,Zbbm,Zbbn,Z18,Zbbo])
abbrev Zbfk:=Zfn.1
abbrev Zbfl:=Zfn.2.1
abbrev Zbfm:=Zfn.2.2.1
abbrev Zbfn:=Zfn.2.2.2.1
abbrev Z3r:=Zfn.2.2.2.2.1
abbrev Z3s:=Zfn.2.2.2.2.2.1
abbrev Zbv5:=Zfn.2.2.2.2.2.2.1
abbrev Zbv6:=Zfn.2.2.2.2.2.2.2.1
abbrev Zbv7:=Zfn.2.2.2.2.2.2.2.2.1
abbrev Z3t:=Zfn.2.2.2.2.2.2.2.2.2.1
abbrev Zbv8:=Zfn.2.2.2.2.2.2.2.2.2.2
theorem Zex:(∀⦃a b x x1 co only x2 cd cc i r⦄,Im (Zkj a b x x1 co only x2 cd cc i=some r) (if i<cd then(Zfk a b x x1 co only x2 cd cc i 0=some r)else(some (.agg [.own 0,.own 1],[.arr 3 1 true (x.map ic),.arr 30 1 true (x1.map isc)])=some r))) ∧
 (∀⦃a b x x1 co only x2 cd cc i k r⦄,Im (Zfk a b x x1 co only x2 cd cc i k=some r) (if k<cc then(if(x1.length:Int)≤4096 then(0≤(if(w ((a.Rows.length:Int)-1))<i then(w ((a.Rows.length:Int)-1))else i)∧(∃e1,a.Rows[(if(w ((a.Rows.length:Int)-1))<i then(w ((a.Rows.length:Int)-1))else i).toNat]?=some e1∧(0≤(if(w ((b.Rows.length:Int)-1))<k then(w ((b.Rows.length:Int)-1))else k)∧(∃e2,b.Rows[(if(w ((b.Rows.length:Int)-1))<k then(w ((b.Rows.length:Int)-1))else k).toNat]?=some e2∧(if co=true then(0≤k∧(∃e3,a.Rows[k.toNat]?=some e3∧(0≤i∧(∃e4,b.Rows[i.toNat]?=some e4∧(if only<0 then(∃v9,Zbr a.Vars e3 b.Vars e4=some (Bo v9,[])∧(if v9=true then(∃(v10:List Int),Zbs x a.Vars e3 b.Vars e4=some (.own 0,[.arr 3 1 true (v10.map ic)])∧(x1.length+1≤68719476736∧(Zcd a b x (x1++[v10]) true only x2 cd cc i (w (k+1))=some r)))else(Zfk a b x x1 true only x2 cd cc i (w (k+1))=some r)))else(0≤x2∧(∃e7,e3[x2.toNat]?=some e7∧(if e7=only then(∃v11,Zbr a.Vars e3 b.Vars e4=some (Bo v11,[])∧(if v11=true then(∃(v12:List Int),Zbs x a.Vars e3 b.Vars e4=some (.own 0,[.arr 3 1 true (v12.map ic)])∧(x1.length+1≤68719476736∧(Zcd a b x (x1++[v12]) true only x2 cd cc i (w (k+1))=some r)))else(Zfk a b x x1 true only x2 cd cc i (w (k+1))=some r)))else(Zfk a b x x1 true only x2 cd cc i (w (k+1))=some r)))))))))else(if only<0 then(∃v14,Zbr a.Vars e1 b.Vars e2=some (Bo v14,[])∧(if v14=true then(∃(v15:List Int),Zbs x a.Vars e1 b.Vars e2=some (.own 0,[.arr 3 1 true (v15.map ic)])∧(x1.length+1≤68719476736∧(Zcd a b x (x1++[v15]) false only x2 cd cc i (w (k+1))=some r)))else(Zfk a b x x1 false only x2 cd cc i (w (k+1))=some r)))else(0≤x2∧(∃e12,e1[x2.toNat]?=some e12∧(if e12=only then(∃v16,Zbr a.Vars e1 b.Vars e2=some (Bo v16,[])∧(if v16=true then(∃(v17:List Int),Zbs x a.Vars e1 b.Vars e2=some (.own 0,[.arr 3 1 true (v17.map ic)])∧(x1.length+1≤68719476736∧(Zcd a b x (x1++[v17]) false only x2 cd cc i (w (k+1))=some r)))else(Zfk a b x x1 false only x2 cd cc i (w (k+1))=some r)))else(Zfk a b x x1 false only x2 cd cc i (w (k+1))=some r))))))))))else(Zkj a b x x1 co only x2 cd cc (w (i+1))=some r))else(Zkj a b x x1 co only x2 cd cc (w (i+1))=some r))) ∧
 (∀⦃a b x x1 co only x2 cd cc i k r⦄,Im (Zcd a b x x1 co only x2 cd cc i k=some r) (if k<cc then(if(x1.length:Int)≤4096 then(0≤(if(w ((a.Rows.length:Int)-1))<i then(w ((a.Rows.length:Int)-1))else i)∧(∃e1,a.Rows[(if(w ((a.Rows.length:Int)-1))<i then(w ((a.Rows.length:Int)-1))else i).toNat]?=some e1∧(0≤(if(w ((b.Rows.length:Int)-1))<k then(w ((b.Rows.length:Int)-1))else k)∧(∃e2,b.Rows[(if(w ((b.Rows.length:Int)-1))<k then(w ((b.Rows.length:Int)-1))else k).toNat]?=some e2∧(if co=true then(0≤k∧(∃e3,a.Rows[k.toNat]?=some e3∧(0≤i∧(∃e4,b.Rows[i.toNat]?=some e4∧(if only<0 then(∃v9,Zbr a.Vars e3 b.Vars e4=some (Bo v9,[])∧(if v9=true then(∃(v10:List Int),Zbs x a.Vars e3 b.Vars e4=some (.own 0,[.arr 3 1 true (v10.map ic)])∧(x1.length+1≤68719476736∧(Zcd a b x (x1++[v10]) true only x2 cd cc i (w (k+1))=some r)))else(Zcd a b x x1 true only x2 cd cc i (w (k+1))=some r)))else(0≤x2∧(∃e7,e3[x2.toNat]?=some e7∧(if e7=only then(∃v11,Zbr a.Vars e3 b.Vars e4=some (Bo v11,[])∧(if v11=true then(∃(v12:List Int),Zbs x a.Vars e3 b.Vars e4=some (.own 0,[.arr 3 1 true (v12.map ic)])∧(x1.length+1≤68719476736∧(Zcd a b x (x1++[v12]) true only x2 cd cc i (w (k+1))=some r)))else(Zcd a b x x1 true only x2 cd cc i (w (k+1))=some r)))else(Zcd a b x x1 true only x2 cd cc i (w (k+1))=some r)))))))))else(if only<0 then(∃v14,Zbr a.Vars e1 b.Vars e2=some (Bo v14,[])∧(if v14=true then(∃(v15:List Int),Zbs x a.Vars e1 b.Vars e2=some (.own 0,[.arr 3 1 true (v15.map ic)])∧(x1.length+1≤68719476736∧(Zcd a b x (x1++[v15]) false only x2 cd cc i (w (k+1))=some r)))else(Zcd a b x x1 false only x2 cd cc i (w (k+1))=some r)))else(0≤x2∧(∃e12,e1[x2.toNat]?=some e12∧(if e12=only then(∃v16,Zbr a.Vars e1 b.Vars e2=some (Bo v16,[])∧(if v16=true then(∃(v17:List Int),Zbs x a.Vars e1 b.Vars e2=some (.own 0,[.arr 3 1 true (v17.map ic)])∧(x1.length+1≤68719476736∧(Zcd a b x (x1++[v17]) false only x2 cd cc i (w (k+1))=some r)))else(Zcd a b x x1 false only x2 cd cc i (w (k+1))=some r)))else(Zcd a b x x1 false only x2 cd cc i (w (k+1))=some r))))))))))else(Zm5 a b x x1 co only x2 cd cc (w (i+1))=some r))else(Zm5 a b x x1 co only x2 cd cc (w (i+1))=some r))) ∧
 (∀⦃a b x x1 co only x2 cd cc i r⦄,Im (Zm5 a b x x1 co only x2 cd cc i=some r) (if i<cd then(Zcd a b x x1 co only x2 cd cc i 0=some r)else(some (.agg [.own 0,.own 2],[.arr 3 1 true (x.map ic),.dead,.arr 30 1 true (x1.map isc)])=some r))) ∧
 (∀⦃x x1 a a1 a2 a3 a4 r⦄,Im (Zqt x x1 a a1 a2 a3 a4=some r) (∃v1,Zdr a.Vars a3=some (I v1,[])∧(if a2=true then(Zkj a a1 x x1 true a4 v1 (a1.Rows.length:Int) (a.Rows.length:Int) 0=some r)else(Zkj a a1 x x1 false a4 v1 (a.Rows.length:Int) (a1.Rows.length:Int) 0=some r)))) ∧
 (∀⦃a b x v cp r⦄,Im (Zqu a b x v cp=some r) (if cp≤9 then((∃(v1:List Int),Zel x a b false v cp=some (.agg [.own 0,.t .nil],[.arr 3 1 true (v1.map ic)])∧(Zqu a b v1 v (w (cp+1))=some r))∨(∃(v3:List Int) (v4:List (List Int)),Zel x a b false v cp=some (.agg [.own 0,.own 1],[.arr 3 1 true (v3.map ic),.arr 30 1 true (v4.map isc)])∧(Zm7 a b v3 v4 v (w (cp+1))=some r)))else(∃(v5:List Int),Zm3 x=some (.tup [.agg [.own 0,.t .nil],Bo true],[.arr 3 1 true (v5.map ic)])∧(some (.tup [.agg [.own 0,.t .nil],Bo true],[.arr 3 1 true (v5.map ic)])=some r)))) ∧
 (∀⦃a b x x1 v cp r⦄,Im (Zm7 a b x x1 v cp=some r) (if cp≤9 then((∃(v1:List Int) (v2:List (List Int)),Zqt x x1 a b false v cp=some (.agg [.own 0,.own 1],[.arr 3 1 true (v1.map ic),.arr 30 1 true (v2.map isc)])∧(Zm7 a b v1 v2 v (w (cp+1))=some r))∨(∃(v3:List Int) (v4:List (List Int)),Zqt x x1 a b false v cp=some (.agg [.own 0,.own 2],[.arr 3 1 true (v3.map ic),.dead,.arr 30 1 true (v4.map isc)])∧(Zm7 a b v3 v4 v (w (cp+1))=some r)))else((∃(v5:List Int) (v6:List (List Int)),Zf5 x x1=some (.tup [.agg [.t .nil,.t .nil],Bo false],[.arr 3 1 true (v5.map ic),.arr 30 1 true (v6.map isc)])∧(some (.tup [.agg [.t .nil,.t .nil],Bo false],[])=some r))∨(∃(v7:List Int) (v8:List (List Int)),Zf5 x x1=some (.tup [.agg [.own 0,.own 1],Bo true],[.arr 3 1 true (v7.map ic),.arr 30 1 true (v8.map isc)])∧(some (.tup [.agg [.own 0,.own 1],Bo true],[.arr 3 1 true (v7.map ic),.arr 30 1 true (v8.map isc)])=some r))))) ∧
 (∀⦃a a1 a2 r⦄,Im (Zm6 a a1 a2=some r) (∃v1,Zm4 a a2=some (Bo v1,[])∧(if v1=true then(∃v3,Zm4 a1 a2=some (Bo v3,[])∧(if v3=true then(∃(v5:List Int),Zie a.Vars a1.Vars=some (.own 0,[.arr 3 1 true (v5.map ic)])∧(Zqu a a1 v5 a2 0=some r))else(some (.tup [.agg [.t .nil,.t .nil],Bo false],[])=some r)))else(some (.tup [.agg [.t .nil,.t .nil],Bo false],[])=some r)))) ∧
 (∀⦃d q p cn cl i r⦄,Im (Zce d q p cn cl i=some r) (if i<(cn.length:Int)then(0≤i∧(∃e1,p.Steps[i.toNat]?=some e1∧(if e1.Kind=1 then((Zj9 d q e1.Atom=some (.tup [.agg [.t .nil,.t .nil],Bo false],[])∧(cl.length+1≤68719476736∧(Zce d q p cn (cl++[(⟨[],[]⟩:Za)]) (w (i+1))=some r)))∨(∃(v5:List Int),Zj9 d q e1.Atom=some (.tup [.agg [.own 0,.t .nil],Bo true],[.arr 3 1 true (v5.map ic)])∧(cl.length+1≤68719476736∧(Zce d q p cn (cl++[(⟨v5,[]⟩:Za)]) (w (i+1))=some r)))∨(∃(v7:List Int) (v8:List (List Int)),Zj9 d q e1.Atom=some (.tup [.agg [.own 0,.own 1],Bo true],[.arr 3 1 true (v7.map ic),.arr 30 1 true (v8.map isc)])∧(cl.length+1≤68719476736∧(Zce d q p cn (cl++[(⟨v7,v8⟩:Za)]) (w (i+1))=some r))))else(if e1.Kind=2 then(∃e5,cn[i.toNat]?=some e5∧(0≤e5.Left∧(∃e6,cl[e5.Left.toNat]?=some e6∧((Zkd e6 e1.Order=some (.tup [.agg [.t .nil,.t .nil],Bo false],[])∧(cl.length+1≤68719476736∧(Zce d q p cn (cl++[(⟨[],[]⟩:Za)]) (w (i+1))=some r)))∨(∃(v11:List Int),Zkd e6 e1.Order=some (.tup [.agg [.own 0,.t .nil],Bo true],[.arr 3 1 true (v11.map ic)])∧(cl.length+1≤68719476736∧(Zce d q p cn (cl++[(⟨v11,[]⟩:Za)]) (w (i+1))=some r)))∨(∃(v12:List Int) (v13:List (List Int)),Zkd e6 e1.Order=some (.tup [.agg [.own 0,.own 1],Bo true],[.arr 3 1 true (v12.map ic),.arr 30 1 true (v13.map isc)])∧(cl.length+1≤68719476736∧(Zce d q p cn (cl++[(⟨v12,v13⟩:Za)]) (w (i+1))=some r)))))))else(if e1.Kind=3 then(∃e10,cn[i.toNat]?=some e10∧(0≤e10.Left∧(∃e11,cl[e10.Left.toNat]?=some e11∧(0≤e10.Right∧(∃e12,cl[e10.Right.toNat]?=some e12∧((∃(v16:List Int),Zkh e11 e12=some (.tup [.agg [.own 0,.t .nil],Bo true],[.arr 3 1 true (v16.map ic)])∧(cl.length+1≤68719476736∧(Zce d q p cn (cl++[(⟨v16,[]⟩:Za)]) (w (i+1))=some r)))∨(Zkh e11 e12=some (.tup [.agg [.t .nil,.t .nil],Bo false],[])∧(cl.length+1≤68719476736∧(Zce d q p cn (cl++[(⟨[],[]⟩:Za)]) (w (i+1))=some r)))∨(∃(v18:List Int) (v19:List (List Int)),Zkh e11 e12=some (.tup [.agg [.own 0,.own 1],Bo true],[.arr 3 1 true (v18.map ic),.arr 30 1 true (v19.map isc)])∧(cl.length+1≤68719476736∧(Zce d q p cn (cl++[(⟨v18,v19⟩:Za)]) (w (i+1))=some r)))))))))else(if e1.Kind=5 then(∃e16,cn[i.toNat]?=some e16∧(0≤e16.Left∧(∃e17,cl[e16.Left.toNat]?=some e17∧(0≤e16.Right∧(∃e18,cl[e16.Right.toNat]?=some e18∧((∃(v20:List Int),Zki e17 e18=some (.tup [.agg [.own 0,.t .nil],Bo true],[.arr 3 1 true (v20.map ic)])∧(cl.length+1≤68719476736∧(Zce d q p cn (cl++[(⟨v20,[]⟩:Za)]) (w (i+1))=some r)))∨(Zki e17 e18=some (.tup [.agg [.t .nil,.t .nil],Bo false],[])∧(cl.length+1≤68719476736∧(Zce d q p cn (cl++[(⟨[],[]⟩:Za)]) (w (i+1))=some r)))∨(∃(v21:List Int) (v22:List (List Int)),Zki e17 e18=some (.tup [.agg [.own 0,.own 1],Bo true],[.arr 3 1 true (v21.map ic),.arr 30 1 true (v22.map isc)])∧(cl.length+1≤68719476736∧(Zce d q p cn (cl++[(⟨v21,v22⟩:Za)]) (w (i+1))=some r)))))))))else(∃e22,cn[i.toNat]?=some e22∧(0≤e22.Left∧(∃e23,cl[e22.Left.toNat]?=some e23∧(0≤e22.Right∧(∃e24,cl[e22.Right.toNat]?=some e24∧((Zm6 e23 e24 e1.Order=some (.tup [.agg [.t .nil,.t .nil],Bo false],[])∧(cl.length+1≤68719476736∧(Zce d q p cn (cl++[(⟨[],[]⟩:Za)]) (w (i+1))=some r)))∨(∃(v23:List Int),Zm6 e23 e24 e1.Order=some (.tup [.agg [.own 0,.t .nil],Bo true],[.arr 3 1 true (v23.map ic)])∧(cl.length+1≤68719476736∧(Zce d q p cn (cl++[(⟨v23,[]⟩:Za)]) (w (i+1))=some r)))∨(∃(v24:List Int) (v25:List (List Int)),Zm6 e23 e24 e1.Order=some (.tup [.agg [.own 0,.own 1],Bo true],[.arr 3 1 true (v24.map ic),.arr 30 1 true (v25.map isc)])∧(cl.length+1≤68719476736∧(Zce d q p cn (cl++[(⟨v24,v25⟩:Za)]) (w (i+1))=some r)))))))))))))))else(some (.tup [.own 0,.own 1,Bo true],[.arr 199 2 true (cl.map Za.c),.arr 209 4 true (cn.map Zb.c)])=some r))) ∧
 (∀⦃a a1 a2 r⦄,Im (Zm8 a a1 a2=some r) (∃(v1:List Zb),∃v2,Zd4 a1 a2=some (.tup [.own 0,Bo v2],[.arr 209 4 true (v1.map Zb.c)])∧(if v2=true then(∃v3,Zg1 a a1=some (Bo v3,[])∧(if v3=true then(Zce a a1 a2 v1 ([]:List Za) 0=some r)else(some (.tup [.own 0,.own 1,Bo false],[.arr 199 2 true (([]:List Za).map Za.c),.arr 209 4 true (v1.map Zb.c)])=some r)))else(some (.tup [.own 0,.own 1,Bo false],[.arr 199 2 true (([]:List Za).map Za.c),.arr 209 4 true (v1.map Zb.c)])=some r)))) ∧
 (∀⦃a a1 r⦄,Im (Zkk a a1=some r) (if a1=1 then(some (.agg (a.Scan.c.map .t),[])=some r)else(if a1=2 then(some (.agg (a.Sort_.c.map .t),[])=some r)else(if a1=3 then(some (.agg (a.Hash.c.map .t),[])=some r)else(if a1=4 then(some (.agg (a.Merge.c.map .t),[])=some r)else(some (.agg (a.Nested.c.map .t),[])=some r)))))) ∧
 (∀⦃a r⦄,Im (Zf6 a=some r) (∃v1,Z9 a (-99) 99=some (Bo v1,[])∧(some (Bo v1,[])=some r))):=by
 and_intros
 all_goals intros
 all_goals unfold Im
 all_goals try simp only[Zkj,Zfk,Zcd,Zm5,Zqt,Zqu,Zm7,Zm6,Zce,Zm8,Zkk,Zf6,Zbr,Zbs,Zdr,Zel,Zm3,Za.c_def,Zf5,Zm4,Zie,Zj9,Zkd,Zkh,Zki,Zl.c_def,Zd.c_def,Zd4,Zg1,Plan.c_def,Z9,mpl,dfs]
 all_goals try simp only[itb]
 all_goals try simp only[itf,gS,kk]
 all_goals repeat' first|refine exI fun _=>?_|refine anJ fun _ _=>?_|refine anI fun _=>?_|refine orE2 ?_ ?_|exact False.elim
 all_goals (intro h;first|rw[Zf Zfh.eq_1]|rw[Zf Zkf.eq_1]|refine runM Zbc4 rfl ?_|rw[Zf Zuu.eq_1]|refine run Zbr6 rfl ?_|rw[Zf Z19.eq_1]|refine run Zbr7 rfl ?_|refine run Zbr8 rfl ?_|refine run Zbr9 rfl ?_)
 all_goals (refine Yb ?_ h;clear h;simp +decide[*,kk,tI,tII,Zfi,Z14,Zkg,Z16,Z15,Zuv,Zbbp,Zbbq,Z2a,Zbbr,Zbbs,Zbbt])
abbrev Zbfo:=Zex.1
abbrev Zbfp:=Zex.2.1
abbrev Zbfq:=Zex.2.2.1
abbrev Zbfr:=Zex.2.2.2.1
abbrev Zbv9:=Zex.2.2.2.2.1
abbrev Zbfs:=Zex.2.2.2.2.2.1
abbrev Zbft:=Zex.2.2.2.2.2.2.1
abbrev Zbwa:=Zex.2.2.2.2.2.2.2.1
abbrev Zbfu:=Zex.2.2.2.2.2.2.2.2.1
abbrev Z3u:=Zex.2.2.2.2.2.2.2.2.2.1
abbrev Zbwb:=Zex.2.2.2.2.2.2.2.2.2.2.1
abbrev Zbwc:=Zex.2.2.2.2.2.2.2.2.2.2.2
theorem Zey:(∀⦃o i r⦄,Im (Zkl o i=some r) (if i<(o.Steps.length:Int)then(0≤i∧(∃e1,o.Steps[i.toNat]?=some e1∧(∃v1,Z9 e1.From 1 8192=some (Bo v1,[])∧(if v1=true then(∃v2,Zf6 e1.Add=some (Bo v2,[])∧(if v2=true then(if 0<i then(0≤(w (i-1))∧(∃e4,o.Steps[(w (i-1)).toNat]?=some e4∧(if e1.From≤e4.From then(some (Bo false,[])=some r)else(Zkl o (w (i+1))=some r))))else(Zkl o (w (i+1))=some r))else(some (Bo false,[])=some r)))else(some (Bo false,[])=some r)))))else(some (Bo true,[])=some r))) ∧
 (∀⦃a r⦄,Im (Zif a=some r) (∃v,Zf6 a.Fixed=some (Bo v,[])∧(if v=true then(∃v1,Zf6 a.Z0=some (Bo v1,[])∧(if v1=true then(∃v2,Zf6 a.Z1=some (Bo v2,[])∧(if v2=true then(∃v3,Zf6 a.Z2=some (Bo v3,[])∧(if v3=true then(∃v4,Zf6 a.Z3=some (Bo v4,[])∧(if v4=true then(if 4<(a.Steps.length:Int)then(some (Bo false,[])=some r)else(Zkl a 0=some r))else(some (Bo false,[])=some r)))else(some (Bo false,[])=some r)))else(some (Bo false,[])=some r)))else(some (Bo false,[])=some r)))else(some (Bo false,[])=some r)))) ∧
 (∀⦃k n i r⦄,Im (Zm9 k n i=some r) (if i<k then(Zm9 k (if 1<(w (n*4))then(w (n*4))else 1) (w (i+1))=some r)else(some (I n,[])=some r))) ∧
 (∀⦃a r⦄,Im (Zf7 a=some r) (∃v,Z9 a 0 7=some (Bo v,[])∧(if v=true then(Zm9 a 0 0=some r)else(some (I (-1),[])=some r)))) ∧
 (∀⦃o l c n i r⦄,Im (Zkm o l c n i=some r) (if i<(o.Steps.length:Int)then(0≤i∧(∃e1,o.Steps[i.toNat]?=some e1∧(if e1.From≤(w (l+c))then(Zkm o l c (w (n+e1.Add)) (w (i+1))=some r)else(Zkm o l c n (w (i+1))=some r))))else(some (I n,[])=some r))) ∧
 (∀⦃a a1 a2 a3 r⦄,Im (Zg2 a a1 a2 a3=some r) (∃v,Zif a=some (Bo v,[])∧(if v=true then(∃v1,Z9 a1 0 4096=some (Bo v1,[])∧(if v1=true then(∃v2,Z9 a2 0 4096=some (Bo v2,[])∧(if v2=true then(∃v3,Z9 a3 0 4096=some (Bo v3,[])∧(if v3=true then(Zkm a a1 a2 (w ((w ((w ((w (a.Fixed+(w (a.Z0*a1))))+(w (a.Z1*a2))))+(w (a.Z2*a3))))+(w ((w (a.Z3*a1))*a2)))) 0=some r)else(some (I 0,[])=some r)))else(some (I 0,[])=some r)))else(some (I 0,[])=some r)))else(some (I 0,[])=some r)))) ∧
 (∀⦃a a1 r⦄,Im (Zkn a a1=some r) (∃e1,a1[0]?=some e1∧(∃v1,Zf7 e1=some (I v1,[])∧(∃e3,a1[1]?=some e3∧(∃v3,Zf7 e3=some (I v3,[])∧(∃e5,a1[2]?=some e5∧(∃v5,Zf7 e5=some (I v5,[])∧(∃v6,Zg2 a v1 v3 v5=some (I v6,[])∧(some (I v6,[])=some r))))))))) ∧
 (∀⦃o a r⦄,Im (Znc o a=some r) (if a≤7 then(Znd o a 0=some r)else(some (.tup [.own 0,.own 1,Bo false],[.arr 3 1 true (([]:List Int).map ic),.arr 3 1 true (([]:List Int).map ic)])=some r))) ∧
 (∀⦃o a b r⦄,Im (Znd o a b=some r) (if b≤7 then(Zne o a b 0=some r)else(Znc o (w (a+1))=some r))) ∧
 (∀⦃o a b e r⦄,Im (Zne o a b e=some r) (if e≤7 then(Zg3 o ([a,b,e]) a b e 0=some r)else(Znd o a (w (b+1))=some r))) ∧
 (∀⦃o x a b e k r⦄,Im (Zg3 o x a b e k=some r) (if k<3 then(x.length≤68719476736∧(0≤k∧(∃e1,x[k.toNat]?=some e1∧(if(w (e1+1))≤7 then(∃v1,Zkn o (x.set k.toNat (w (e1+1)))=some (I v1,[])∧(∃v2,Zkn o x=some (I v2,[])∧(if v1<v2 then(some (.tup [.own 0,.own 1,Bo true],[.arr 3 1 true (x.map ic),.arr 3 1 true ((x.set k.toNat (w (e1+1))).map ic)])=some r)else(Zg3 o x a b e (w (k+1))=some r))))else(Zg3 o x a b e (w (k+1))=some r)))))else(Zne o a b (w (e+1))=some r))) ∧
 (∀⦃a r⦄,Im (Zqx a=some r) (∃v,Zif a=some (Bo v,[])∧(if v=true then(Znc a 0=some r)else(some (.tup [.own 0,.own 1,Bo false],[.arr 3 1 true (([]:List Int).map ic),.arr 3 1 true (([]:List Int).map ic)])=some r)))):=by
 and_intros
 all_goals intros
 all_goals unfold Im
 all_goals try simp only[Zkl,Zif,Zm9,Zf7,Zkm,Zg2,Zkn,Znc,Znd,Zne,Zg3,Zqx,Z9,Zf6,Zm.c_def,mpl,dfs]
 all_goals try simp only[itb]
 all_goals try simp only[itf,gS,kk]
 all_goals repeat' first|refine exI fun _=>?_|refine anJ fun _ _=>?_|refine anI fun _=>?_|refine orE2 ?_ ?_|exact False.elim
 all_goals (intro h;first|rw[Zf Z2b.eq_1]|refine run Zbsa rfl ?_|rw[Zf Z2d.eq_1]|refine run Zbsb rfl ?_|rw[Zf Z2f.eq_1]|refine run Zbsc rfl ?_|refine run Zbsd rfl ?_|rw[Zf Zna.eq_1]|rw[Zf Zqv.eq_1]|rw[Zf Zuw.eq_1]|rw[Zf Z2h.eq_1]|refine run Zbse rfl ?_)
 all_goals (refine Yb ?_ h;clear h;simp +decide[*,kk,tI,tII,Z2c,Zbbu,Z2e,Zbbv,Zbbw,Z2g,Zbbx,Zbby,Znb,Zqw,Zux,Z2i,Zbbz])
abbrev Zbfv:=Zey.1
abbrev Zbwd:=Zey.2.1
abbrev Zbwe:=Zey.2.2.1
abbrev Zbwf:=Zey.2.2.2.1
abbrev Zbfw:=Zey.2.2.2.2.1
abbrev Zbwg:=Zey.2.2.2.2.2.1
abbrev Zbwh:=Zey.2.2.2.2.2.2.1
abbrev Zbfx:=Zey.2.2.2.2.2.2.2.1
abbrev Zbfy:=Zey.2.2.2.2.2.2.2.2.1
abbrev Zbfz:=Zey.2.2.2.2.2.2.2.2.2.1
abbrev Zbf0:=Zey.2.2.2.2.2.2.2.2.2.2.1
abbrev Zbwi:=Zey.2.2.2.2.2.2.2.2.2.2.2
theorem Zez:(∀⦃o a r⦄,Im (Znf o a=some r) (if a≤7 then(Zng o a 0=some r)else(some (.own 0,[.arr 3 1 true (([]:List Int).map ic)])=some r))) ∧
 (∀⦃o a b r⦄,Im (Zng o a b=some r) (if b≤7 then(Zq0 o a b 0=some r)else(Znf o (w (a+1))=some r))) ∧
 (∀⦃o a b e r⦄,Im (Zq0 o a b e=some r) (if e≤7 then(∃v,Zkn o ([a,b,e])=some (I v,[])∧(if v<1 then(some (.own 0,[.arr 3 1 true (([a,b,e]).map ic)])=some r)else(Zq0 o a b (w (e+1))=some r)))else(Zng o a (w (b+1))=some r))) ∧
 (∀⦃a r⦄,Im (Zu0 a=some r) (Znf a 0=some r)) ∧
 (∀⦃m k r⦄,Im (Znh m k=some r) (if k≤5 then(∃(v:Zm),Zkk m k=some (.agg (v.c.map .t),[])∧(∃v3,Zif v=some (Bo v3,[])∧(if v3=true then(∃(v4:List Int),∃(v5:List Int),∃v6,Zqx v=some (.tup [.own 0,.own 1,Bo v6],[.arr 3 1 true (v4.map ic),.arr 3 1 true (v5.map ic)])∧(if v6=true then(some (.tup [I k,.own 0,.own 1],[.arr 3 1 true (v4.map ic),.arr 3 1 true (v5.map ic)])=some r)else(∃(v7:List Int),Zu0 v=some (.own 0,[.arr 3 1 true (v7.map ic)])∧(if 0<(v7.length:Int)then(some (.tup [I k,.own 0,.own 1],[.arr 3 1 true (v7.map ic),.arr 3 1 true (([]:List Int).map ic)])=some r)else(Znh m (w (k+1))=some r)))))else(some (.tup [I k,.own 0,.own 1],[.arr 3 1 true (([]:List Int).map ic),.arr 3 1 true (([]:List Int).map ic)])=some r))))else(some (.tup [I 0,.own 0,.own 1],[.arr 3 1 true (([]:List Int).map ic),.arr 3 1 true (([]:List Int).map ic)])=some r))) ∧
 (∀⦃a r⦄,Im (Z2n a=some r) (Znh a 1=some r)) ∧
 (∀⦃a r⦄,Im (Zg4 a=some r) (∃(v:List Int),∃(v1:List Int),∃v2,Z2n a=some (.tup [I v2,.own 0,.own 1],[.arr 3 1 true (v.map ic),.arr 3 1 true (v1.map ic)])∧(some (Bo (decide (v2=0)),[])=some r))) ∧
 (∀⦃n k r⦄,Im (Zq1 n k=some r) (if k≤7 then(∃v,Zf7 k=some (I v,[])∧(if n≤v then(some (I k,[])=some r)else(Zq1 n (w (k+1))=some r)))else(some (I (-1),[])=some r))) ∧
 (∀⦃a r⦄,Im (Zig a=some r) (if a<0 then(some (I (-1),[])=some r)else(Zq1 a 0=some r))) ∧
 (∀⦃a r⦄,Im (Zcl a=some r) (∃v,Zig a=some (I v,[])∧(∃v3,Zf7 v=some (I v3,[])∧(some (I v3,[])=some r)))) ∧
 (∀⦃a a1 a2 a3 a4 r⦄,Im (Zko a a1 a2 a3 a4=some r) (0≤a4∧(∃e1,a1.Steps[a4.toNat]?=some e1∧(∃(v3:Zm),Zkk a e1.Kind=some (.agg (v3.c.map .t),[])∧(∃e3,a2[a4.toNat]?=some e3∧(if e3.Left<0 then(∃e4,a3[a4.toNat]?=some e4∧(∃v8,Zcl e4=some (I v8,[])∧(∃v9,Zg2 v3 v8 0 v8=some (I v9,[])∧(some (I v9,[])=some r))))else(if e3.Right<0 then(0≤e3.Left∧(∃e7,a3[e3.Left.toNat]?=some e7∧(∃v10,Zcl e7=some (I v10,[])∧(∃e9,a3[a4.toNat]?=some e9∧(∃v11,Zcl e9=some (I v11,[])∧(∃v12,Zg2 v3 v10 0 v11=some (I v12,[])∧(some (I v12,[])=some r)))))))else(0≤e3.Left∧(∃e12,a3[e3.Left.toNat]?=some e12∧(∃v13,Zcl e12=some (I v13,[])∧(0≤e3.Right∧(∃e14,a3[e3.Right.toNat]?=some e14∧(∃v14,Zcl e14=some (I v14,[])∧(∃e16,a3[a4.toNat]?=some e16∧(∃v15,Zcl e16=some (I v15,[])∧(∃v16,Zg2 v3 v13 v14 v15=some (I v16,[])∧(some (I v16,[])=some r))))))))))))))))) ∧
 (∀⦃m cd l cl cc n r⦄,Im (Zni m cd l cl cc n=some r) (if n≤7 then(∃(v:Zm),Zkk m cd=some (.agg (v.c.map .t),[])∧(∃v3,Zf7 n=some (I v3,[])∧(∃v4,Zg2 v l cl v3=some (I v4,[])∧(if v4≤cc then(Zni m cd l cl cc (w (n+1))=some r)else(some (I n,[])=some r)))))else(some (I n,[])=some r))):=by
 and_intros
 all_goals intros
 all_goals unfold Im
 all_goals try simp only[Znf,Zng,Zq0,Zu0,Znh,Z2n,Zg4,Zq1,Zig,Zcl,Zko,Zni,Zkn,Zm.c_def,Zkk,Zif,Zqx,Zk.c_def,Zf7,Zg2,mpl,dfs]
 all_goals try simp only[itb]
 all_goals try simp only[itf,gS,kk]
 all_goals repeat' first|refine exI fun _=>?_|refine anJ fun _ _=>?_|refine anI fun _=>?_|refine orE2 ?_ ?_|exact False.elim
 all_goals (intro h;first|rw[Zf Zqy.eq_1]|rw[Zf Zuy.eq_1]|rw[Zf Z2j.eq_1]|refine run Zbsf rfl ?_|rw[Zf Z2l.eq_1]|refine run Zbsg rfl ?_|refine run Zbsh rfl ?_|rw[Zf Z2o.eq_1]|refine run Zbsi rfl ?_|refine run Zbsj rfl ?_|refine run Zbsk rfl ?_|rw[Zf Z2q.eq_1])
 all_goals (refine Yb ?_ h;clear h;simp +decide[*,kk,tI,tII,Zqz,Zuz,Z2k,Zbb0,Z2m,Zbb1,Zbb2,Z2p,Zbb3,Zbb4,Zbb5,Z2r])
abbrev Zbf1:=Zez.1
abbrev Zbf2:=Zez.2.1
abbrev Z3v:=Zez.2.2.1
abbrev Zbwj:=Zez.2.2.2.1
abbrev Zbf3:=Zez.2.2.2.2.1
abbrev Zbwk:=Zez.2.2.2.2.2.1
abbrev Zbwl:=Zez.2.2.2.2.2.2.1
abbrev Zik:=Zez.2.2.2.2.2.2.2.1
abbrev Zbwm:=Zez.2.2.2.2.2.2.2.2.1
abbrev Zbwn:=Zez.2.2.2.2.2.2.2.2.2.1
abbrev Zbwo:=Zez.2.2.2.2.2.2.2.2.2.2.1
abbrev Zbf4:=Zez.2.2.2.2.2.2.2.2.2.2.2
theorem Zro:(∀⦃a a1 a2 a3 a4 r⦄,Im (Zkp a a1 a2 a3 a4=some r) (∃v,Zg4 a=some (Bo v,[])∧(if v=true then(∃v1,Z9 a1 1 5=some (Bo v1,[])∧(if v1=true then(∃v2,Z9 a2 0 4096=some (Bo v2,[])∧(if v2=true then(∃v3,Z9 a3 0 4096=some (Bo v3,[])∧(if v3=true then(Zni a a1 a2 a3 a4 0=some r)else(some (I 0,[])=some r)))else(some (I 0,[])=some r)))else(some (I 0,[])=some r)))else(some (I 0,[])=some r)))) ∧
 (∀⦃c cc cl i r⦄,Im (Z2s c cc cl i=some r) (if i<0 then False else(if cl=true then(some (.own 0,[.arr 30 1 true (c.map isc)])=some r)else(cc.length≤68719476736∧(c.length+1≤68719476736∧(some (.own 0,[.arr 30 1 true ((c++[cc]).map isc)])=some r)))))) ∧
 (∀⦃a r⦄,Im (Zq2 a=some r) (Z2s ([]:List (List Int)) a false 0=some r)) ∧
 (∀⦃c cd cc cl i r⦄,Im (Zg5 c cd cc cl i=some r) (if i<(cd.length:Int)then(0≤i∧(∃e1,cd[i.toNat]?=some e1∧(∃v1,Zmo e1 cc=some (I v1,[])∧(if v1=0 then(if 0<v1 then(e1.length≤68719476736∧(c.length+1≤68719476736∧(Zg5 (c++[e1]) cd cc true (w (i+1))=some r)))else(e1.length≤68719476736∧(c.length+1≤68719476736∧(Zg5 (c++[e1]) cd cc true (w (i+1))=some r))))else(if 0<v1 then(if cl=true then(e1.length≤68719476736∧(c.length+1≤68719476736∧(Zg5 (c++[e1]) cd cc true (w (i+1))=some r)))else(cc.length≤68719476736∧(c.length+1≤68719476736∧(e1.length≤68719476736∧(c.length+1+1≤68719476736∧(Zg5 ((c++[cc])++[e1]) cd cc true (w (i+1))=some r))))))else(e1.length≤68719476736∧(c.length+1≤68719476736∧(Zg5 (c++[e1]) cd cc cl (w (i+1))=some r))))))))else(if cl=true then(some (.own 0,[.arr 30 1 true (c.map isc)])=some r)else(cc.length≤68719476736∧(c.length+1≤68719476736∧(some (.own 0,[.arr 30 1 true ((c++[cc]).map isc)])=some r)))))) ∧
 (∀⦃a a1 r⦄,Im (Zq3 a a1=some r) (Zg5 ([]:List (List Int)) a a1 false 0=some r)):=by
 and_intros
 all_goals intros
 all_goals unfold Im
 all_goals try simp only[Zkp,Z2s,Zq2,Zg5,Zq3,Zg4,Z9,Zk.c_def,Zm.c_def,Zmo,Zni,mpl,dfs]
 all_goals try simp only[itb]
 all_goals try simp only[itf,gS,kk]
 all_goals repeat' first|refine exI fun _=>?_|refine anJ fun _ _=>?_|refine anI fun _=>?_|refine orE2 ?_ ?_|exact False.elim
 all_goals (intro h;first|refine run Zbsl rfl ?_|rw[Zf Zu1.eq_1]|refine run Zbsm rfl ?_)
 all_goals (refine Yb ?_ h;clear h;simp +decide[*,kk,tI,tII,Zbb6,Zbb9,Zu2,Zbca,Zbb7,Zbb8])
abbrev Zbwp:=Zro.1
abbrev Zbwq:=Zro.2.1
abbrev Zbwr:=Zro.2.2.1
abbrev Zbf5:=Zro.2.2.2.1
abbrev Zbws:=Zro.2.2.2.2
theorem appO(l:List Zg)(a b:Int)(c:Bool):l.map Zg.c++[[.int .i64 a,.int .i64 b,.bool c]]=(l++[(⟨a,b,c⟩:Zg)]).map Zg.c:=by simp
theorem Ze0:(∀⦃s x i r⦄,Im (Z2t s x i=some r) (if i<(s.Rows.length:Int)then(0≤i∧(∃e1,s.Rows[i.toNat]?=some e1∧(∃(v3:List (List Int)),Zq2 e1=some (.own 0,[.arr 30 1 true (v3.map isc)])∧(Zq4 s x v3 (w (i+1))=some r))))else(some (.tup [.agg [.own 0,.t .nil],Bo true],[.arr 3 1 true (x.map ic)])=some r))) ∧
 (∀⦃s x x1 i r⦄,Im (Zq4 s x x1 i=some r) (if i<(s.Rows.length:Int)then(0≤i∧(∃e1,s.Rows[i.toNat]?=some e1∧(∃(v3:List (List Int)),Zq3 x1 e1=some (.own 0,[.arr 30 1 true (v3.map isc)])∧(Zq4 s x v3 (w (i+1))=some r))))else(some (.tup [.agg [.own 0,.own 1],Bo true],[.arr 3 1 true (x.map ic),.arr 30 1 true (x1.map isc)])=some r))) ∧
 (∀⦃a r⦄,Im (Zfl a=some r) (∃v,Zd5 a=some (Bo v,[])∧(if v=true then(a.Vars.length≤68719476736∧(Z2t a a.Vars 0=some r))else(some (.tup [.agg [.t .nil,.t .nil],Bo false],[])=some r)))) ∧
 (∀⦃a a1 a2 a3 a4 r⦄,Im (Zg6 a a1 a2 a3 a4=some r) (∃(v:List Za),∃(v1:List Zb),∃v2,Zm8 a1 a2 a3=some (.tup [.own 0,.own 1,Bo v2],[.arr 199 2 true (v.map Za.c),.arr 209 4 true (v1.map Zb.c)])∧(if v2=true then(∃v3,Zg4 a=some (Bo v3,[])∧(if v3=true then(∃v7,Z9 a4 0 1000000000000=some (Bo v7,[])∧(if v7=true then(Zkq a a3 false 0 0 v v1 ([]:List Int) false 0 0 a4 0=some r)else(some (.tup [.agg [Bo false,I 0,I 0,.t .nil,.t .nil,.t .nil],Bo false],[])=some r)))else(some (.tup [.agg [Bo false,I 0,I 0,.t .nil,.t .nil,.t .nil],Bo false],[])=some r)))else(some (.tup [.agg [Bo false,I 0,I 0,.t .nil,.t .nil,.t .nil],Bo false],[])=some r)))) ∧
 (∀⦃a a1 a2 a3 a4 a5 r⦄,Im (Zf8 a a1 a2 a3 a4 a5=some r) ((∃(v:List Ze),Zml a2 a3 a4=some (.tup [.agg [.own 0],Bo true],[.arr 194 3 true (v.map Ze.c)])∧((∃v3 v4 v5 v6,Zg6 a a1 a2 (⟨v⟩:Plan) a5=some (.tup [.agg [Bo v3,I v4,I v5,.t .nil,.t .nil,.t .nil],Bo v6],[])∧(some (.tup [.agg [Bo v3,I v4,I v5,.t .nil,.t .nil,.t .nil],Bo v6],[])=some r))∨(∃(v7:List Zg),∃v8,∃v9,∃v10,Zg6 a a1 a2 (⟨v⟩:Plan) a5=some (.tup [.agg [Bo v8,I v9,I v10,.own 0,.t .nil,.t .nil],Bo true],[.arr 211 3 true (v7.map Zg.c)])∧(some (.tup [.agg [Bo v8,I v9,I v10,.own 0,.t .nil,.t .nil],Bo true],[.arr 211 3 true (v7.map Zg.c)])=some r))∨(∃(v11:List Int),∃v12,∃v13,∃v14,Zg6 a a1 a2 (⟨v⟩:Plan) a5=some (.tup [.agg [Bo v12,I v13,I v14,.t .nil,.own 0,.t .nil],Bo true],[.arr 3 1 true (v11.map ic)])∧(some (.tup [.agg [Bo v12,I v13,I v14,.t .nil,.own 0,.t .nil],Bo true],[.arr 3 1 true (v11.map ic)])=some r))∨(∃(v15:List Int),∃(v16:List (List Int)),∃v17,∃v18,∃v19,Zg6 a a1 a2 (⟨v⟩:Plan) a5=some (.tup [.agg [Bo v17,I v18,I v19,.t .nil,.own 0,.own 1],Bo true],[.arr 3 1 true (v15.map ic),.arr 30 1 true (v16.map isc)])∧(some (.tup [.agg [Bo v17,I v18,I v19,.t .nil,.own 0,.own 1],Bo true],[.arr 3 1 true (v15.map ic),.arr 30 1 true (v16.map isc)])=some r))∨(∃(v20:List Zg),∃(v21:List Int),∃v22,∃v23,∃v24,Zg6 a a1 a2 (⟨v⟩:Plan) a5=some (.tup [.agg [Bo v22,I v23,I v24,.own 0,.own 1,.t .nil],Bo true],[.arr 211 3 true (v20.map Zg.c),.arr 3 1 true (v21.map ic)])∧(some (.tup [.agg [Bo v22,I v23,I v24,.own 0,.own 1,.t .nil],Bo true],[.arr 211 3 true (v20.map Zg.c),.arr 3 1 true (v21.map ic)])=some r))∨(∃(v25:List Zg),∃(v26:List Int),∃(v27:List (List Int)),∃v28,∃v29,∃v30,Zg6 a a1 a2 (⟨v⟩:Plan) a5=some (.tup [.agg [Bo v28,I v29,I v30,.own 0,.own 1,.own 2],Bo true],[.arr 211 3 true (v25.map Zg.c),.arr 3 1 true (v26.map ic),.arr 30 1 true (v27.map isc)])∧(some (.tup [.agg [Bo v28,I v29,I v30,.own 0,.own 1,.own 2],Bo true],[.arr 211 3 true (v25.map Zg.c),.arr 3 1 true (v26.map ic),.arr 30 1 true (v27.map isc)])=some r))))∨(Zml a2 a3 a4=some (.tup [.agg [.t .nil],Bo false],[])∧(some (.tup [.agg [Bo false,I 0,I 0,.t .nil,.t .nil,.t .nil],Bo false],[])=some r)))) ∧
 (∀⦃a r⦄,Im (Zg7 a=some r) (∃(v:List Int),Zcu a.Low=some (.own 0,[.arr 3 1 true (v.map ic)])∧(∃(v3:List Int),Zcu a.High=some (.own 0,[.arr 3 1 true (v3.map ic)])∧(some (.agg [.own 0,.own 1],[.arr 3 1 true (v.map ic),.arr 3 1 true (v3.map ic)])=some r)))) ∧
 (∀⦃a a1 r⦄,Im (Zq7 a a1=some r) ((Zct a a1=some (.tup [.t .nil,Bo false],[])∧(some (Bo false,[])=some r))∨(∃(v3:List Zb),Zct a a1=some (.tup [.own 0,Bo true],[.arr 209 4 true (v3.map Zb.c)])∧(some (Bo true,[])=some r)))) ∧
 (∀⦃cc x x1 x2 r⦄,Im (Zq9 cc x x1 x2=some r) (if x2<x1 then(0≤x2∧(∃e1,x[x2.toNat]?=some e1∧(∃v3,Zz e1 0 7=some (Bo v3,[])∧(if v3=true then(Zq9 cc x x1 (w (x2+1))=some r)else(some (Bo false,[])=some r)))))else(some (Bo (decide ((cc.length:Int)≤16)),[])=some r))) ∧
 (∀⦃a r⦄,Im (Zq8 a=some r) (Zq9 a a (a.length:Int) 0=some r)) ∧
 (∀⦃a b x x1 r⦄,Im (Zra a b x x1=some r) (if x1<x then(0≤x1∧(∃e1,a[x1.toNat]?=some e1∧(∃e2,b[x1.toNat]?=some e2∧(if e1<e2 then(some (Bo false,[])=some r)else(Zra a b x (w (x1+1))=some r)))))else(some (Bo true,[])=some r))) ∧
 (∀⦃a a1 r⦄,Im (Zu5 a a1=some r) (if(a.length:Int)=(a1.length:Int)then(Zra a a1 (a.length:Int) 0=some r)else(some (Bo false,[])=some r))) ∧
 (∀⦃a r⦄,Im (Zg8 a=some r) (∃v,Zq8 a.Low=some (Bo v,[])∧(if v=true then(∃v3,Zq8 a.High=some (Bo v3,[])∧(if v3=true then(if 0<(a.Low.length:Int)then(∃v7,Zu5 a.High a.Low=some (Bo v7,[])∧(some (Bo v7,[])=some r))else(some (Bo false,[])=some r))else(some (Bo false,[])=some r)))else(some (Bo false,[])=some r)))):=by
 and_intros
 all_goals intros
 all_goals unfold Im
 all_goals try simp only[Z2t,Zq4,Zfl,Zg6,Zf8,Zg7,Zq7,Zq9,Zq8,Zra,Zu5,Zg8,Zq2,Zq3,Zd5,Za.c_def,Zm8,Zg4,Z9,Zl.c_def,Zk.c_def,Zm.c_def,Plan.c_def,Zd.c_def,Zml,Zcu,Zct,Zz,Zkq,mpl,dfs]
 all_goals try simp only[itb]
 all_goals try simp only[itf,gS,kk]
 all_goals repeat' first|refine exI fun _=>?_|refine anJ fun _ _=>?_|refine anI fun _=>?_|refine orE2 ?_ ?_|exact False.elim
 all_goals (intro h;first|rw[Zf Zu3.eq_1]|refine run Zbsn rfl ?_|refine run Zbso rfl ?_|refine run Zbsp rfl ?_|refine run Zbsq rfl ?_|refine run Zbsr rfl ?_|rw[Zf Z2w.eq_1]|refine run Zbss rfl ?_|rw[Zf Z2y.eq_1]|refine run Zbst rfl ?_|refine run Zbsu rfl ?_)
 all_goals (refine Yb ?_ h;clear h;simp +decide[*,kk,tI,tII,Zu4,Zbcb,Zbcc,Zbcd,Zbce,Zbcf,Z2x,Zbcg,Z2z,Zbch,Zbci])
abbrev Zbwt:=Ze0.1
abbrev Zbf6:=Ze0.2.1
abbrev Zbwu:=Ze0.2.2.1
abbrev Z3w:=Ze0.2.2.2.1
abbrev Zbwv:=Ze0.2.2.2.2.1
abbrev Zbww:=Ze0.2.2.2.2.2.1
abbrev Zbwx:=Ze0.2.2.2.2.2.2.1
abbrev Zbf7:=Ze0.2.2.2.2.2.2.2.1
abbrev Zbwy:=Ze0.2.2.2.2.2.2.2.2.1
abbrev Zbf8:=Ze0.2.2.2.2.2.2.2.2.2.1
abbrev Zbwz:=Ze0.2.2.2.2.2.2.2.2.2.2.1
abbrev Zbw0:=Ze0.2.2.2.2.2.2.2.2.2.2.2
theorem Znv:(∀⦃a r⦄,Im (Zu6 a=some r) (∃v,Zgt a=some (Bo v,[])∧(if v=true then(¬(a.Atoms.length:Int)<0∧(some (I (w ((shlI 1 (a.Atoms.length:Int))-1)),[])=some r))else(some (I 0,[])=some r)))) ∧
 (∀⦃a a1 r⦄,Im (Znj a a1=some r) (∃v,Zg8 a1=some (Bo v,[])∧(if v=true then(∃v2,Zu6 a=some (I v2,[])∧(some (Bo (decide ((a1.Low.length:Int)=(w (v2+1)))),[])=some r))else(some (Bo false,[])=some r)))) ∧
 (∀⦃b cc x x1 x2 r⦄,Im (Zrc b cc x x1 x2=some r) (if x2<x1 then(0≤x2∧(∃e1,x[x2.toNat]?=some e1∧(0≤e1∧(∃e2,cc[e1.toNat]?=some e2∧(0≤e2.Mask∧(∃e3,b.Low[e2.Mask.toNat]?=some e3∧(∃e4,b.High[e2.Mask.toNat]?=some e4∧(if e3<e4 then(some (I e2.Mask,[])=some r)else(Zrc b cc x x1 (w (x2+1))=some r)))))))))else(some (I 0,[])=some r))) ∧
 (∀⦃a a1 a2 r⦄,Im (Zrb a a1 a2=some r) ((Zct a a1=some (.tup [.t .nil,Bo false],[])∧(some (I 0,[])=some r))∨(∃(v2:List Zb),Zct a a1=some (.tup [.own 0,Bo true],[.arr 209 4 true (v2.map Zb.c)])∧(∃v3,Znj a a2=some (Bo v3,[])∧(if v3=true then(∃(v4:List Int),Zi7 a1=some (.own 0,[.arr 3 1 true (v4.map ic)])∧(Zrc a2 v2 v4 (v4.length:Int) 0=some r))else(some (I 0,[])=some r)))))) ∧
 (∀⦃x x1 n x2 x3 r⦄,Im (Z23 x x1 n x2 x3=some r) (if x3<x2 then False else(some (.tup [.agg [.own 0,.own 1],I n],[.arr 3 1 true (x.map ic),.arr 3 1 true (x1.map ic)])=some r))) ∧
 (∀⦃a r⦄,Im (Znk a=some r) (∃(v:List Int) (v1:List Int),Zg7 a=some (.agg [.own 0,.own 1],[.arr 3 1 true (v.map ic),.arr 3 1 true (v1.map ic)])∧(Z23 v v1 0 0 0=some r))):=by
 and_intros
 all_goals intros
 all_goals unfold Im
 all_goals try simp only[Zu6,Znj,Zrc,Zrb,Z23,Znk,Zgt,Zd.c_def,Zg8,Box.c_def,Zct,Zi7,Plan.c_def,Zg7,mpl,dfs]
 all_goals try simp only[itb]
 all_goals try simp only[itf,gS,kk]
 all_goals repeat' first|refine exI fun _=>?_|refine anJ fun _ _=>?_|refine anI fun _=>?_|refine orE2 ?_ ?_|exact False.elim
 all_goals (intro h;first|refine run Zbsv rfl ?_|refine run Zbsw rfl ?_|rw[Zf Z20.eq_1]|refine run Zbsx rfl ?_|rw[Zf Zrd.eq_1]|refine run Zbc5 rfl ?_)
 all_goals (refine Yb ?_ h;clear h;simp +decide[*,kk,tI,tII,Zbcj,Zbck,Z21,Zbcl,Zre,Z22])
abbrev Zbw1:=Znv.1
abbrev Zbw2:=Znv.2.1
abbrev Zbf9:=Znv.2.2.1
abbrev Zbw3:=Znv.2.2.2.1
abbrev Zbw4:=Znv.2.2.2.2.1
abbrev Zbw5:=Znv.2.2.2.2.2
theorem Zbga{m:Zk}{p:Plan}{cv:Bool}{cu cp:Int}{l:List Za}{co:List Zb}{n:List Int}{cn:Bool}{cl cc cd i:Int}{r:AV×List Blk}(h:(if i<(l.length:Int)then(0≤i∧(∃(e1:Za),l[i.toNat]?=some e1∧(n.length+1≤68719476736∧(∃(v:Int),Zko m p co (n++[(e1.Rows.length:Int)]) i=some (I v,[])∧(if(w (cd-cl))<v then(∃(e3:Zb),co[i.toNat]?=some e3∧(if 0≤e3.Right then(∃(e4:Ze),p.Steps[i.toNat]?=some e4∧(0≤e3.Left∧(∃(e5:Int),(n++[(e1.Rows.length:Int)])[e3.Left.toNat]?=some e5∧(∃(v1:Int),Zcl e5=some (I v1,[])∧(∃(e7:Int),(n++[(e1.Rows.length:Int)])[e3.Right.toNat]?=some e7∧(∃(v2:Int),Zcl e7=some (I v2,[])∧(∃(v3:Int),Zkp m e4.Kind v1 v2 (w (cd-cl))=some (I v3,[])∧(some (.tup [.agg [Bo cn,I cd,I cc,.own 0,.t .nil,.t .nil],Bo true],[.arr 211 3 true (([(⟨e3.Mask,v3,false⟩:Zg)]).map Zg.c)])=some r))))))))else(some (.tup [.agg [Bo cn,I cd,I cc,.t .nil,.t .nil,.t .nil],Bo true],[])=some r)))else(∃(e10:Zb),co[i.toNat]?=some e10∧(if 0≤e10.Right then(∃(e11:Int),(n++[(e1.Rows.length:Int)])[i.toNat]?=some e11∧(∃(v4:Int),Zig e11=some (I v4,[])∧(Zih m p cv cu cp l co (n++[(e1.Rows.length:Int)]) cn (w (cl+v)) (w (cc+1)) ([(⟨e10.Mask,v4,true⟩:Zg)]) cd (w (i+1))=some r)))else(Zkq m p cv cu cp l co (n++[(e1.Rows.length:Int)]) cn (w (cl+v)) (w (cc+1)) cd (w (i+1))=some r))))))))else(0≤(w ((l.length:Int)-1))∧(∃(e13:Za),l[(w ((l.length:Int)-1)).toNat]?=some e13∧((Zfl e13=some (.tup [.agg [.t .nil,.t .nil],Bo false],[])∧(some (.tup [.agg [Bo true,I cl,I cc,.t .nil,.t .nil,.t .nil],Bo true],[])=some r))∨(∃(v5:List Int),Zfl e13=some (.tup [.agg [.own 0,.t .nil],Bo true],[.arr 3 1 true (v5.map ic)])∧(some (.tup [.agg [Bo true,I cl,I cc,.t .nil,.own 0,.t .nil],Bo true],[.arr 3 1 true (v5.map ic)])=some r))∨(∃(v6:List Int) (v7:List (List Int)),Zfl e13=some (.tup [.agg [.own 0,.own 1],Bo true],[.arr 3 1 true (v6.map ic),.arr 30 1 true (v7.map isc)])∧(some (.tup [.agg [Bo true,I cl,I cc,.t .nil,.own 0,.own 1],Bo true],[.arr 3 1 true (v6.map ic),.arr 30 1 true (v7.map isc)])=some r))))))):Zkq m p cv cu cp l co n cn cl cc cd i=some r:=by
 unfold Zkq;rw[Zf Zq5.eq_1];simp only[Zko,Zcl,Zkp,Zig,Zfl,Zk.c_def,Zm.c_def,Plan.c_def,Zb.c_def,Za.c_def,mpl,dfs]at h
 try simp only[itb]at h
 try simp only[itf,gS,kk]at h
 rcases h with⟨q1,q2,e1,⟨g3,q3⟩,q4,v,q5,(⟨q6,e3,⟨g7,q7⟩,(⟨q8,e4,⟨g9,q9⟩,q10,e5,⟨g11,q11⟩,v1,q12,e7,⟨g13,q13⟩,v2,q14,v3,q15,h⟩|⟨q8,h⟩)⟩|⟨q6,e10,⟨g16,q16⟩,(⟨q17,e11,⟨g18,q18⟩,v4,q19,h⟩|⟨q17,h⟩)⟩)⟩|⟨q1,q20,e13,⟨g21,q21⟩,(⟨q23,h⟩|⟨v5,q24,h⟩|⟨v6,v7,q25,h⟩)⟩
 all_goals ((try simp only[appI]at *);refine Yb ?_ h;clear h;simp +decide[*,-List.map_append,-List.length_append,appI,appO,kk,tI,tII,Z2u,Zih,Z2v,Zkq,Zq6])
theorem Zbgb{m:Zk}{p:Plan}{cv:Bool}{cu cp:Int}{l:List Za}{co:List Zb}{n:List Int}{cn:Bool}{cl cc:Int}{x:List Zg}{cd i:Int}{r:AV×List Blk}(h:(if i<(l.length:Int)then(0≤i∧(∃(e1:Za),l[i.toNat]?=some e1∧(n.length+1≤68719476736∧(∃(v:Int),Zko m p co (n++[(e1.Rows.length:Int)]) i=some (I v,[])∧(if(w (cd-cl))<v then(∃(e3:Zb),co[i.toNat]?=some e3∧(if 0≤e3.Right then(∃(e4:Ze),p.Steps[i.toNat]?=some e4∧(0≤e3.Left∧(∃(e5:Int),(n++[(e1.Rows.length:Int)])[e3.Left.toNat]?=some e5∧(∃(v1:Int),Zcl e5=some (I v1,[])∧(∃(e7:Int),(n++[(e1.Rows.length:Int)])[e3.Right.toNat]?=some e7∧(∃(v2:Int),Zcl e7=some (I v2,[])∧(∃(v3:Int),Zkp m e4.Kind v1 v2 (w (cd-cl))=some (I v3,[])∧(x.length+1≤68719476736∧(some (.tup [.agg [Bo cn,I cd,I cc,.own 0,.t .nil,.t .nil],Bo true],[.arr 211 3 true ((x++[(⟨e3.Mask,v3,false⟩:Zg)]).map Zg.c)])=some r)))))))))else(some (.tup [.agg [Bo cn,I cd,I cc,.own 0,.t .nil,.t .nil],Bo true],[.arr 211 3 true (x.map Zg.c)])=some r)))else(∃(e10:Zb),co[i.toNat]?=some e10∧(if 0≤e10.Right then(∃(e11:Int),(n++[(e1.Rows.length:Int)])[i.toNat]?=some e11∧(∃(v4:Int),Zig e11=some (I v4,[])∧(x.length+1≤68719476736∧(Zih m p cv cu cp l co (n++[(e1.Rows.length:Int)]) cn (w (cl+v)) (w (cc+1)) (x++[(⟨e10.Mask,v4,true⟩:Zg)]) cd (w (i+1))=some r))))else(Zih m p cv cu cp l co (n++[(e1.Rows.length:Int)]) cn (w (cl+v)) (w (cc+1)) x cd (w (i+1))=some r))))))))else(0≤(w ((l.length:Int)-1))∧(∃(e13:Za),l[(w ((l.length:Int)-1)).toNat]?=some e13∧((Zfl e13=some (.tup [.agg [.t .nil,.t .nil],Bo false],[])∧(some (.tup [.agg [Bo true,I cl,I cc,.own 0,.t .nil,.t .nil],Bo true],[.arr 211 3 true (x.map Zg.c)])=some r))∨(∃(v5:List Int),Zfl e13=some (.tup [.agg [.own 0,.t .nil],Bo true],[.arr 3 1 true (v5.map ic)])∧(some (.tup [.agg [Bo true,I cl,I cc,.own 0,.own 1,.t .nil],Bo true],[.arr 211 3 true (x.map Zg.c),.arr 3 1 true (v5.map ic)])=some r))∨(∃(v6:List Int) (v7:List (List Int)),Zfl e13=some (.tup [.agg [.own 0,.own 1],Bo true],[.arr 3 1 true (v6.map ic),.arr 30 1 true (v7.map isc)])∧(some (.tup [.agg [Bo true,I cl,I cc,.own 0,.own 1,.own 2],Bo true],[.arr 211 3 true (x.map Zg.c),.arr 3 1 true (v6.map ic),.arr 30 1 true (v7.map isc)])=some r))))))):Zih m p cv cu cp l co n cn cl cc x cd i=some r:=by
 unfold Zih;rw[Zf Zq5.eq_1];simp only[Zko,Zcl,Zkp,Zig,Zfl,Zk.c_def,Zm.c_def,Plan.c_def,Zb.c_def,Za.c_def,mpl,dfs]at h
 try simp only[itb]at h
 try simp only[itf,gS,kk]at h
 rcases h with⟨q1,q2,e1,⟨g3,q3⟩,q4,v,q5,(⟨q6,e3,⟨g7,q7⟩,(⟨q8,e4,⟨g9,q9⟩,q10,e5,⟨g11,q11⟩,v1,q12,e7,⟨g13,q13⟩,v2,q14,v3,q15,q16,h⟩|⟨q8,h⟩)⟩|⟨q6,e10,⟨g17,q17⟩,(⟨q18,e11,⟨g19,q19⟩,v4,q20,q21,h⟩|⟨q18,h⟩)⟩)⟩|⟨q1,q22,e13,⟨g23,q23⟩,(⟨q25,h⟩|⟨v5,q26,h⟩|⟨v6,v7,q27,h⟩)⟩
 all_goals ((try simp only[appI]at *);refine Yb ?_ h;clear h;simp +decide[*,-List.map_append,-List.length_append,appI,appO,kk,tI,tII,Z2u,Zih,Z2v,Zq6])
theorem Ze1:(∀⦃a a1 r⦄,Im (Zu7 a a1=some r) (∃(v:List Int) (v1:List Int),Zg7 a=some (.agg [.own 0,.own 1],[.arr 3 1 true (v.map ic),.arr 3 1 true (v1.map ic)])∧(∃v2,Zg8 a=some (Bo v2,[])∧(if v2=true then(∃v6,Zz a1.Mask 0 (w ((a.Low.length:Int)-1))=some (Bo v6,[])∧(if v6=true then(0≤a1.Mask∧(∃e4,v[a1.Mask.toNat]?=some e4∧(if a1.Exact=true then(∃e5,v1[a1.Mask.toNat]?=some e5∧(∃v16,Zg8 (⟨(v.set a1.Mask.toNat (if e4<a1.Class then a1.Class else e4)),(v1.set a1.Mask.toNat (if a1.Class<e5 then a1.Class else e5))⟩:Box)=some (Bo v16,[])∧(if v16=true then(some (.tup [.agg [.own 0,.own 1],Bo true],[.arr 3 1 true ((v.set a1.Mask.toNat (if e4<a1.Class then a1.Class else e4)).map ic),.arr 3 1 true ((v1.set a1.Mask.toNat (if a1.Class<e5 then a1.Class else e5)).map ic)])=some r)else(some (.tup [.agg [.own 0,.own 1],Bo false],[.arr 3 1 true (v.map ic),.arr 3 1 true (v1.map ic)])=some r))))else(∃v21,Zg8 (⟨(v.set a1.Mask.toNat (if e4<a1.Class then a1.Class else e4)),v1⟩:Box)=some (Bo v21,[])∧(if v21=true then(some (.tup [.agg [.own 0,.own 1],Bo true],[.arr 3 1 true ((v.set a1.Mask.toNat (if e4<a1.Class then a1.Class else e4)).map ic),.arr 3 1 true (v1.map ic)])=some r)else(some (.tup [.agg [.own 0,.own 1],Bo false],[.arr 3 1 true (v.map ic),.arr 3 1 true (v1.map ic)])=some r))))))else(some (.tup [.agg [.own 0,.own 1],Bo false],[.arr 3 1 true (v.map ic),.arr 3 1 true (v1.map ic)])=some r)))else(some (.tup [.agg [.own 0,.own 1],Bo false],[.arr 3 1 true (v.map ic),.arr 3 1 true (v1.map ic)])=some r))))) ∧
 (∀⦃x x1 n x2 x3 x4 r⦄,Im (Znl x x1 n x2 x3 x4=some r) (if x4<x3 then(0≤x4∧(∃e1,x2[x4.toNat]?=some e1∧(∃(v2:List Int),∃(v3:List Int),∃v4,Zu7 (⟨x,x1⟩:Box) e1=some (.tup [.agg [.own 0,.own 1],Bo v4],[.arr 3 1 true (v2.map ic),.arr 3 1 true (v3.map ic)])∧(if v4=true then(Znl v2 v3 (w (n+1)) x2 x3 (w (x4+1))=some r)else(Znl x x1 n x2 x3 (w (x4+1))=some r)))))else(some (.tup [.agg [.own 0,.own 1],I n],[.arr 3 1 true (x.map ic),.arr 3 1 true (x1.map ic)])=some r))) ∧
 (∀⦃a a1 r⦄,Im (Zrf a a1=some r) (∃(v:List Int) (v1:List Int),Zg7 a=some (.agg [.own 0,.own 1],[.arr 3 1 true (v.map ic),.arr 3 1 true (v1.map ic)])∧(Znl v v1 0 a1 (a1.length:Int) 0=some r))) ∧
 (∀⦃m db q p x x1 cc cd i r⦄,Im (Zg9 m db q p x x1 cc cd i=some r) (if i<4 then(∃v,Zrb q p (⟨x,x1⟩:Box)=some (I v,[])∧(if v=0 then(some (.tup [.agg [.own 0,.own 1],I cd,Bo true],[.arr 3 1 true (x.map ic),.arr 3 1 true (x1.map ic)])=some r)else((∃v2 v3 v4 v5,Zh8 m db q p v cc=some (.tup [.agg [Bo v2,I v3,I v4,.t .nil,.t .nil,.t .nil],Bo v5],[])∧(∃(v6:List Int),∃(v7:List Int),∃v8,Znk (⟨x,x1⟩:Box)=some (.tup [.agg [.own 0,.own 1],I v8],[.arr 3 1 true (v6.map ic),.arr 3 1 true (v7.map ic)])∧(if v2=true then(Zg9 m db q p v6 v7 cc (w (cd+v3)) (w (i+1))=some r)else(some (.tup [.agg [.own 0,.own 1],I (w (cd+v3)),Bo true],[.arr 3 1 true (v6.map ic),.arr 3 1 true (v7.map ic)])=some r))))∨(∃(v9:List Zg),∃v10,∃v11,∃v12,Zh8 m db q p v cc=some (.tup [.agg [Bo v10,I v11,I v12,.own 0,.t .nil,.t .nil],Bo true],[.arr 211 3 true (v9.map Zg.c)])∧(∃(v13:List Int),∃(v14:List Int),∃v15,Zrf (⟨x,x1⟩:Box) v9=some (.tup [.agg [.own 0,.own 1],I v15],[.arr 3 1 true (v13.map ic),.arr 3 1 true (v14.map ic)])∧(if v10=true then(Zg9 m db q p v13 v14 cc (w (cd+v11)) (w (i+1))=some r)else(some (.tup [.agg [.own 0,.own 1],I (w (cd+v11)),Bo true],[.arr 3 1 true (v13.map ic),.arr 3 1 true (v14.map ic)])=some r))))∨(∃(v16:List Int),∃(v17:List (List Int)),∃v18,∃v19,∃v20,Zh8 m db q p v cc=some (.tup [.agg [Bo v18,I v19,I v20,.t .nil,.own 0,.own 1],Bo true],[.arr 3 1 true (v16.map ic),.arr 30 1 true (v17.map isc)])∧(∃(v21:List Int),∃(v22:List Int),∃v23,Znk (⟨x,x1⟩:Box)=some (.tup [.agg [.own 0,.own 1],I v23],[.arr 3 1 true (v21.map ic),.arr 3 1 true (v22.map ic)])∧(if v18=true then(Zg9 m db q p v21 v22 cc (w (cd+v19)) (w (i+1))=some r)else(some (.tup [.agg [.own 0,.own 1],I (w (cd+v19)),Bo true],[.arr 3 1 true (v21.map ic),.arr 3 1 true (v22.map ic)])=some r))))∨(∃(v24:List Zg),∃(v25:List Int),∃(v26:List (List Int)),∃v27,∃v28,∃v29,Zh8 m db q p v cc=some (.tup [.agg [Bo v27,I v28,I v29,.own 0,.own 1,.own 2],Bo true],[.arr 211 3 true (v24.map Zg.c),.arr 3 1 true (v25.map ic),.arr 30 1 true (v26.map isc)])∧(∃(v30:List Int),∃(v31:List Int),∃v32,Zrf (⟨x,x1⟩:Box) v24=some (.tup [.agg [.own 0,.own 1],I v32],[.arr 3 1 true (v30.map ic),.arr 3 1 true (v31.map ic)])∧(if v27=true then(Zg9 m db q p v30 v31 cc (w (cd+v28)) (w (i+1))=some r)else(some (.tup [.agg [.own 0,.own 1],I (w (cd+v28)),Bo true],[.arr 3 1 true (v30.map ic),.arr 3 1 true (v31.map ic)])=some r)))))))else(some (.tup [.agg [.own 0,.own 1],I cd,Bo true],[.arr 3 1 true (x.map ic),.arr 3 1 true (x1.map ic)])=some r))) ∧
 (∀⦃a a1 a2 a3 a4 a5 r⦄,Im (Zu8 a a1 a2 a3 a4 a5=some r) (∃(v:List Int) (v1:List Int),Zg7 a4=some (.agg [.own 0,.own 1],[.arr 3 1 true (v.map ic),.arr 3 1 true (v1.map ic)])∧(∃v2,Zjx a=some (Bo v2,[])∧(if v2=true then(∃v6,Zhs a1 a2=some (Bo v6,[])∧(if v6=true then(∃v9,Zq7 a2 a3=some (Bo v9,[])∧(if v9=true then(∃v13,Znj a2 a4=some (Bo v13,[])∧(if v13=true then(∃v16,Zz a5 0 1000000000000=some (Bo v16,[])∧(if v16=true then(Zg9 a a1 a2 a3 v v1 a5 0 0=some r)else(some (.tup [.agg [.own 0,.own 1],I 0,Bo false],[.arr 3 1 true (v.map ic),.arr 3 1 true (v1.map ic)])=some r)))else(some (.tup [.agg [.own 0,.own 1],I 0,Bo false],[.arr 3 1 true (v.map ic),.arr 3 1 true (v1.map ic)])=some r)))else(some (.tup [.agg [.own 0,.own 1],I 0,Bo false],[.arr 3 1 true (v.map ic),.arr 3 1 true (v1.map ic)])=some r)))else(some (.tup [.agg [.own 0,.own 1],I 0,Bo false],[.arr 3 1 true (v.map ic),.arr 3 1 true (v1.map ic)])=some r)))else(some (.tup [.agg [.own 0,.own 1],I 0,Bo false],[.arr 3 1 true (v.map ic),.arr 3 1 true (v1.map ic)])=some r))))) ∧
 (∀⦃a a1 r⦄,Im (Zrg a a1=some r) (∃(v:List Zb),∃v1,Zd4 a a1=some (.tup [.own 0,Bo v1],[.arr 209 4 true (v.map Zb.c)])∧(some (Bo v1,[])=some r))) ∧
 (∀⦃l i r⦄,Im (Zri l i=some r) (if i<(l.length:Int)then(0≤i∧(∃e1,l[i.toNat]?=some e1∧(∃v2,Z9 e1 0 7=some (Bo v2,[])∧(if v2=true then(Zri l (w (i+1))=some r)else(some (Bo false,[])=some r)))))else(some (Bo (decide ((l.length:Int)≤16)),[])=some r))) ∧
 (∀⦃a r⦄,Im (Zrh a=some r) (Zri a 0=some r)) ∧
 (∀⦃a b i r⦄,Im (Zrj a b i=some r) (if i<(a.length:Int)then(0≤i∧(∃e1,a[i.toNat]?=some e1∧(∃e2,b[i.toNat]?=some e2∧(if e1<e2 then(some (Bo false,[])=some r)else(Zrj a b (w (i+1))=some r)))))else(some (Bo true,[])=some r))) ∧
 (∀⦃a a1 r⦄,Im (Zu9 a a1=some r) (if(a.length:Int)=(a1.length:Int)then(Zrj a a1 0=some r)else(some (Bo false,[])=some r))) ∧
 (∀⦃a r⦄,Im (Zf9 a=some r) (if 0<(a.Low.length:Int)then(∃v,Zrh a.Low=some (Bo v,[])∧(if v=true then(∃v2,Zrh a.High=some (Bo v2,[])∧(if v2=true then(∃v6,Zu9 a.High a.Low=some (Bo v6,[])∧(some (Bo v6,[])=some r))else(some (Bo false,[])=some r)))else(some (Bo false,[])=some r)))else(some (Bo false,[])=some r))) ∧
 (∀⦃a r⦄,Im (Zkr a=some r) (∃v,Zf4 a=some (Bo v,[])∧(if v=true then(¬(a.Atoms.length:Int)<0∧(some (I (w ((shlI 1 (a.Atoms.length:Int))-1)),[])=some r))else(some (I 0,[])=some r)))):=by
 and_intros
 all_goals intros
 all_goals unfold Im
 all_goals try simp only[Zu7,Znl,Zrf,Zg9,Zu8,Zrg,Zri,Zrh,Zrj,Zu9,Zf9,Zkr,Zg7,Zg8,Zz,Box.c_def,tI,Zg.c_def,Zrb,Zh8,Znk,Zl.c_def,Zk.c_def,Zm.c_def,Plan.c_def,Zd.c_def,Zjx,Zhs,Zq7,Znj,Zd4,Z9,Zf4,mpl,dfs]
 all_goals try simp only[itb]
 all_goals try simp only[itf,gS,kk]
 all_goals repeat' first|refine exI fun _=>?_|refine anJ fun _ _=>?_|refine anI fun _=>?_|refine orE2 ?_ ?_|exact False.elim
 all_goals (intro h;first|refine run Zbsy rfl ?_|rw[Zf Zrd.eq_1]|refine run Zbc5 rfl ?_|rw[Zf Z24.eq_1]|refine run Zbsz rfl ?_|refine run Zbs0 rfl ?_|rw[Zf Z26.eq_1]|refine run Zbs1 rfl ?_|rw[Zf Z28.eq_1]|refine run Zbs2 rfl ?_|refine run Zbs3 rfl ?_|refine run Zbs4 rfl ?_)
 all_goals (refine Yb ?_ h;clear h;simp +decide[*,kk,tI,tII,Zbco,Zbcn,Zbcm,Zre,Z22,Z25,Zbcp,Zbcq,Z27,Zbcr,Z29,Zbcs,Zbct,Zbcu])
abbrev Zbw6:=Ze1.1
abbrev Zbgc:=Ze1.2.1
abbrev Zbw7:=Ze1.2.2.1
abbrev Zbgd:=Ze1.2.2.2.1
abbrev Zbw8:=Ze1.2.2.2.2.1
abbrev Zbw9:=Ze1.2.2.2.2.2.1
abbrev Zbge:=Ze1.2.2.2.2.2.2.1
abbrev Zbxa:=Ze1.2.2.2.2.2.2.2.1
abbrev Zbgf:=Ze1.2.2.2.2.2.2.2.2.1
abbrev Zbxb:=Ze1.2.2.2.2.2.2.2.2.2.1
abbrev Zbxc:=Ze1.2.2.2.2.2.2.2.2.2.2.1
abbrev Zbxd:=Ze1.2.2.2.2.2.2.2.2.2.2.2
theorem Zil:(∀⦃a r⦄,Im (Zds a=some r) (a.Low.length≤68719476736∧(a.High.length≤68719476736∧(some (.agg [.own 0,.own 1],[.arr 3 1 true (a.Low.map ic),.arr 3 1 true (a.High.map ic)])=some r)))) ∧
 (∀⦃b cc i r⦄,Im (Znm b cc i=some r) (if i<(cc.length:Int)then(0≤i∧(∃e1,cc[i.toNat]?=some e1∧(if 0≤e1.Right then(0≤e1.Mask∧(∃e2,b.Low[e1.Mask.toNat]?=some e2∧(∃e3,b.High[e1.Mask.toNat]?=some e3∧(if e2<e3 then(some (I e1.Mask,[])=some r)else(Znm b cc (w (i+1))=some r)))))else(Znm b cc (w (i+1))=some r))))else(some (I 0,[])=some r))) ∧
 (∀⦃a a1 a2 r⦄,Im (Zrk a a1 a2=some r) (∃(v:List Zb),∃v1,Zd4 a a1=some (.tup [.own 0,Bo v1],[.arr 209 4 true (v.map Zb.c)])∧(if v1=true then(∃v2,Zf9 a2=some (Bo v2,[])∧(if v2=true then(∃v5,Zkr a=some (I v5,[])∧(if(a2.Low.length:Int)=(w (v5+1))then(Znm a2 v 0=some r)else(some (I 0,[])=some r)))else(some (I 0,[])=some r)))else(some (I 0,[])=some r)))) ∧
 (∀⦃x x1 n i r⦄,Im (Z3c x x1 n i=some r) (if i<0 then False else(some (.tup [.agg [.own 0,.own 1],I n],[.arr 3 1 true (x.map ic),.arr 3 1 true (x1.map ic)])=some r))) ∧
 (∀⦃a r⦄,Im (Zks a=some r) (∃(v:List Int) (v1:List Int),Zds a=some (.agg [.own 0,.own 1],[.arr 3 1 true (v.map ic),.arr 3 1 true (v1.map ic)])∧(Z3c v v1 0 0=some r))) ∧
 (∀⦃a a1 r⦄,Im (Zvc a a1=some r) (∃(v:List Int) (v1:List Int),Zds a=some (.agg [.own 0,.own 1],[.arr 3 1 true (v.map ic),.arr 3 1 true (v1.map ic)])∧(∃v2,Zf9 a=some (Bo v2,[])∧(if v2=true then(∃v5,Z9 a1.Mask 0 (w ((a.Low.length:Int)-1))=some (Bo v5,[])∧(if v5=true then(0≤a1.Mask∧(∃e4,v[a1.Mask.toNat]?=some e4∧(if a1.Exact=true then(∃e5,v1[a1.Mask.toNat]?=some e5∧(∃v6,Zf9 (⟨(v.set a1.Mask.toNat (if e4<a1.Class then a1.Class else e4)),(v1.set a1.Mask.toNat (if a1.Class<e5 then a1.Class else e5))⟩:Box)=some (Bo v6,[])∧(if v6=true then(some (.tup [.agg [.own 0,.own 1],Bo true],[.arr 3 1 true ((v.set a1.Mask.toNat (if e4<a1.Class then a1.Class else e4)).map ic),.arr 3 1 true ((v1.set a1.Mask.toNat (if a1.Class<e5 then a1.Class else e5)).map ic)])=some r)else(some (.tup [.agg [.own 0,.own 1],Bo false],[.arr 3 1 true (v.map ic),.arr 3 1 true (v1.map ic)])=some r))))else(∃v7,Zf9 (⟨(v.set a1.Mask.toNat (if e4<a1.Class then a1.Class else e4)),v1⟩:Box)=some (Bo v7,[])∧(if v7=true then(some (.tup [.agg [.own 0,.own 1],Bo true],[.arr 3 1 true ((v.set a1.Mask.toNat (if e4<a1.Class then a1.Class else e4)).map ic),.arr 3 1 true (v1.map ic)])=some r)else(some (.tup [.agg [.own 0,.own 1],Bo false],[.arr 3 1 true (v.map ic),.arr 3 1 true (v1.map ic)])=some r))))))else(some (.tup [.agg [.own 0,.own 1],Bo false],[.arr 3 1 true (v.map ic),.arr 3 1 true (v1.map ic)])=some r)))else(some (.tup [.agg [.own 0,.own 1],Bo false],[.arr 3 1 true (v.map ic),.arr 3 1 true (v1.map ic)])=some r))))) ∧
 (∀⦃x x1 l n i r⦄,Im (Znn x x1 l n i=some r) (if i<(l.length:Int)then(0≤i∧(∃e1,l[i.toNat]?=some e1∧(∃(v2:List Int),∃(v3:List Int),∃v4,Zvc (⟨x,x1⟩:Box) e1=some (.tup [.agg [.own 0,.own 1],Bo v4],[.arr 3 1 true (v2.map ic),.arr 3 1 true (v3.map ic)])∧(if v4=true then(Znn v2 v3 l (w (n+1)) (w (i+1))=some r)else(Znn v2 v3 l n (w (i+1))=some r)))))else(some (.tup [.agg [.own 0,.own 1],I n],[.arr 3 1 true (x.map ic),.arr 3 1 true (x1.map ic)])=some r))) ∧
 (∀⦃a a1 r⦄,Im (Zkt a a1=some r) (∃(v:List Int) (v1:List Int),Zds a=some (.agg [.own 0,.own 1],[.arr 3 1 true (v.map ic),.arr 3 1 true (v1.map ic)])∧(Znn v v1 a1 0 0=some r))):=by
 and_intros
 all_goals intros
 all_goals unfold Im
 all_goals try simp only[Zds,Znm,Zrk,Z3c,Zks,Zvc,Znn,Zkt,Zd4,Zf9,Zkr,Box.c_def,Plan.c_def,Zd.c_def,Z9,tI,Zg.c_def,mpl,dfs]
 all_goals try simp only[itb]
 all_goals try simp only[itf,gS,kk]
 all_goals repeat' first|refine exI fun _=>?_|refine anJ fun _ _=>?_|refine anI fun _=>?_|refine orE2 ?_ ?_|exact False.elim
 all_goals (intro h;first|refine run Zbs5 rfl ?_|rw[Zf Z3a.eq_1]|refine run Zbs6 rfl ?_|rw[Zf Zva.eq_1]|refine run Zbs7 rfl ?_|refine run Zbs8 rfl ?_)
 all_goals (refine Yb ?_ h;clear h;simp +decide[*,kk,tI,tII,Zbcv,Z3b,Zbcw,Zvb,Zbcy,Zbc0,Zbcz,Zbcx])
abbrev Zbxe:=Zil.1
abbrev Zbgg:=Zil.2.1
abbrev Zbxf:=Zil.2.2.1
abbrev Zbxg:=Zil.2.2.2.1
abbrev Zbxh:=Zil.2.2.2.2.1
abbrev Zbxi:=Zil.2.2.2.2.2.1
abbrev Zbgh:=Zil.2.2.2.2.2.2.1
abbrev Zbxj:=Zil.2.2.2.2.2.2.2
theorem Zbgi:(∀⦃m d q p x x1 cc cd n r⦄,Im (Zfm m d q p x x1 cc cd n=some r) (if n<4 then(∃v,Zrk q p (⟨x,x1⟩:Box)=some (I v,[])∧(if v=0 then(some (.tup [.agg [.own 0,.own 1],I cd,Bo true],[.arr 3 1 true (x.map ic),.arr 3 1 true (x1.map ic)])=some r)else((∃v1 v2 v3 v4,Zf8 m d q p v cc=some (.tup [.agg [Bo v1,I v2,I v3,.t .nil,.t .nil,.t .nil],Bo v4],[])∧(∃(v5:List Int),∃(v6:List Int),∃v7,Zks (⟨x,x1⟩:Box)=some (.tup [.agg [.own 0,.own 1],I v7],[.arr 3 1 true (v5.map ic),.arr 3 1 true (v6.map ic)])∧(if v1=true then(Zfm m d q p v5 v6 cc (w (cd+v2)) (w (n+1))=some r)else(some (.tup [.agg [.own 0,.own 1],I (w (cd+v2)),Bo true],[.arr 3 1 true (v5.map ic),.arr 3 1 true (v6.map ic)])=some r))))∨(∃(v8:List Zg),∃v9,∃v10,∃v11,Zf8 m d q p v cc=some (.tup [.agg [Bo v9,I v10,I v11,.own 0,.t .nil,.t .nil],Bo true],[.arr 211 3 true (v8.map Zg.c)])∧(∃(v12:List Int),∃(v13:List Int),∃v14,Zkt (⟨x,x1⟩:Box) v8=some (.tup [.agg [.own 0,.own 1],I v14],[.arr 3 1 true (v12.map ic),.arr 3 1 true (v13.map ic)])∧(if v9=true then(Zfm m d q p v12 v13 cc (w (cd+v10)) (w (n+1))=some r)else(some (.tup [.agg [.own 0,.own 1],I (w (cd+v10)),Bo true],[.arr 3 1 true (v12.map ic),.arr 3 1 true (v13.map ic)])=some r))))∨(∃(v15:List Int),∃v16,∃v17,∃v18,Zf8 m d q p v cc=some (.tup [.agg [Bo v16,I v17,I v18,.t .nil,.own 0,.t .nil],Bo true],[.arr 3 1 true (v15.map ic)])∧(∃(v19:List Int),∃(v20:List Int),∃v21,Zks (⟨x,x1⟩:Box)=some (.tup [.agg [.own 0,.own 1],I v21],[.arr 3 1 true (v19.map ic),.arr 3 1 true (v20.map ic)])∧(if v16=true then(Zfm m d q p v19 v20 cc (w (cd+v17)) (w (n+1))=some r)else(some (.tup [.agg [.own 0,.own 1],I (w (cd+v17)),Bo true],[.arr 3 1 true (v19.map ic),.arr 3 1 true (v20.map ic)])=some r))))∨(∃(v22:List Int),∃(v23:List (List Int)),∃v24,∃v25,∃v26,Zf8 m d q p v cc=some (.tup [.agg [Bo v24,I v25,I v26,.t .nil,.own 0,.own 1],Bo true],[.arr 3 1 true (v22.map ic),.arr 30 1 true (v23.map isc)])∧(∃(v27:List Int),∃(v28:List Int),∃v29,Zks (⟨x,x1⟩:Box)=some (.tup [.agg [.own 0,.own 1],I v29],[.arr 3 1 true (v27.map ic),.arr 3 1 true (v28.map ic)])∧(if v24=true then(Zfm m d q p v27 v28 cc (w (cd+v25)) (w (n+1))=some r)else(some (.tup [.agg [.own 0,.own 1],I (w (cd+v25)),Bo true],[.arr 3 1 true (v27.map ic),.arr 3 1 true (v28.map ic)])=some r))))∨(∃(v30:List Zg),∃(v31:List Int),∃v32,∃v33,∃v34,Zf8 m d q p v cc=some (.tup [.agg [Bo v32,I v33,I v34,.own 0,.own 1,.t .nil],Bo true],[.arr 211 3 true (v30.map Zg.c),.arr 3 1 true (v31.map ic)])∧(∃(v35:List Int),∃(v36:List Int),∃v37,Zkt (⟨x,x1⟩:Box) v30=some (.tup [.agg [.own 0,.own 1],I v37],[.arr 3 1 true (v35.map ic),.arr 3 1 true (v36.map ic)])∧(if v32=true then(Zfm m d q p v35 v36 cc (w (cd+v33)) (w (n+1))=some r)else(some (.tup [.agg [.own 0,.own 1],I (w (cd+v33)),Bo true],[.arr 3 1 true (v35.map ic),.arr 3 1 true (v36.map ic)])=some r))))∨(∃(v38:List Zg),∃(v39:List Int),∃(v40:List (List Int)),∃v41,∃v42,∃v43,Zf8 m d q p v cc=some (.tup [.agg [Bo v41,I v42,I v43,.own 0,.own 1,.own 2],Bo true],[.arr 211 3 true (v38.map Zg.c),.arr 3 1 true (v39.map ic),.arr 30 1 true (v40.map isc)])∧(∃(v44:List Int),∃(v45:List Int),∃v46,Zkt (⟨x,x1⟩:Box) v38=some (.tup [.agg [.own 0,.own 1],I v46],[.arr 3 1 true (v44.map ic),.arr 3 1 true (v45.map ic)])∧(if v41=true then(Zfm m d q p v44 v45 cc (w (cd+v42)) (w (n+1))=some r)else(some (.tup [.agg [.own 0,.own 1],I (w (cd+v42)),Bo true],[.arr 3 1 true (v44.map ic),.arr 3 1 true (v45.map ic)])=some r)))))))else(some (.tup [.agg [.own 0,.own 1],I cd,Bo true],[.arr 3 1 true (x.map ic),.arr 3 1 true (x1.map ic)])=some r))) ∧
 (∀⦃a a1 a2 a3 a4 a5 r⦄,Im (Zvd a a1 a2 a3 a4 a5=some r) (∃v,Zg4 a=some (Bo v,[])∧(if v=true then(∃v1,Zg1 a1 a2=some (Bo v1,[])∧(if v1=true then(∃v5,Zrg a2 a3=some (Bo v5,[])∧(if v5=true then(∃v8,Zf9 a4=some (Bo v8,[])∧(if v8=true then(∃v12,Zkr a2=some (I v12,[])∧(if(a4.Low.length:Int)=(w (v12+1))then(∃v15,Z9 a5 0 1000000000000=some (Bo v15,[])∧(if v15=true then(∃(v19:List Int) (v20:List Int),Zds a4=some (.agg [.own 0,.own 1],[.arr 3 1 true (v19.map ic),.arr 3 1 true (v20.map ic)])∧(Zfm a a1 a2 a3 v19 v20 a5 0 0=some r))else(∃(v22:List Int) (v23:List Int),Zds a4=some (.agg [.own 0,.own 1],[.arr 3 1 true (v22.map ic),.arr 3 1 true (v23.map ic)])∧(some (.tup [.agg [.own 0,.own 1],I 0,Bo false],[.arr 3 1 true (v22.map ic),.arr 3 1 true (v23.map ic)])=some r))))else(∃(v27:List Int) (v28:List Int),Zds a4=some (.agg [.own 0,.own 1],[.arr 3 1 true (v27.map ic),.arr 3 1 true (v28.map ic)])∧(some (.tup [.agg [.own 0,.own 1],I 0,Bo false],[.arr 3 1 true (v27.map ic),.arr 3 1 true (v28.map ic)])=some r))))else(∃(v30:List Int) (v31:List Int),Zds a4=some (.agg [.own 0,.own 1],[.arr 3 1 true (v30.map ic),.arr 3 1 true (v31.map ic)])∧(some (.tup [.agg [.own 0,.own 1],I 0,Bo false],[.arr 3 1 true (v30.map ic),.arr 3 1 true (v31.map ic)])=some r))))else(∃(v35:List Int) (v36:List Int),Zds a4=some (.agg [.own 0,.own 1],[.arr 3 1 true (v35.map ic),.arr 3 1 true (v36.map ic)])∧(some (.tup [.agg [.own 0,.own 1],I 0,Bo false],[.arr 3 1 true (v35.map ic),.arr 3 1 true (v36.map ic)])=some r))))else(∃(v38:List Int) (v39:List Int),Zds a4=some (.agg [.own 0,.own 1],[.arr 3 1 true (v38.map ic),.arr 3 1 true (v39.map ic)])∧(some (.tup [.agg [.own 0,.own 1],I 0,Bo false],[.arr 3 1 true (v38.map ic),.arr 3 1 true (v39.map ic)])=some r))))else(∃(v44:List Int) (v45:List Int),Zds a4=some (.agg [.own 0,.own 1],[.arr 3 1 true (v44.map ic),.arr 3 1 true (v45.map ic)])∧(some (.tup [.agg [.own 0,.own 1],I 0,Bo false],[.arr 3 1 true (v44.map ic),.arr 3 1 true (v45.map ic)])=some r))))):=by
 and_intros
 all_goals intros
 all_goals unfold Im
 all_goals try simp only[Zfm,Zvd,Zrk,Zf8,Zks,Zkt,Box.c_def,Zl.c_def,Zk.c_def,Zg.c_def,Zm.c_def,Plan.c_def,Zd.c_def,Zg4,Zg1,Zrg,Zf9,Zkr,Z9,Zds,mpl,dfs]
 all_goals try simp only[itb]
 all_goals try simp only[itf,gS,kk]
 all_goals repeat' first|refine exI fun _=>?_|refine anJ fun _ _=>?_|refine anI fun _=>?_|refine orE2 ?_ ?_|exact False.elim
 all_goals (intro h;first|rw[Zf Z3d.eq_1]|refine run Zbs9 rfl ?_)
 all_goals (refine Yb ?_ h;clear h;simp +decide[*,kk,tI,tII,Z3e,Zbc1])
abbrev Zbgj:=Zbgi.1
abbrev Zbxk:=Zbgi.2
@[simp] theorem Zcv(a b c:Int):Zz a b c=some (Bo (inR a b c),[]):=by
 refine Zbta ?_;by_cases h:b≤a<;>simp[inR,h]
@[simp] theorem Zc4(a b c:Int):Z9 a b c=some (Bo (inR a b c),[]):=by
 refine Zbu7 ?_;by_cases h:b≤a<;>simp[inR,h]
theorem lIndexI(xs:List Int)(v:Int)(hx:Le xs):∀i,i≤xs.length →
  Zpa xs v xs.length i=some (I (Zbk (fun x=>decide (v=x)) (xs.drop i) i),[]):=by
 refine down _ ?_ ?_
 ·refine Zbc6 ?_;simp[Zbk]
 ·intro i hi ih;refine Zbc6 ?_;have h4:=Zbf (i:=i) (by omega);rw[Zo6 _ hi];simp at ih;by_cases e:v=xs[i]<;>simp[hi,h4,e,ih]
@[simp] theorem xIndexI(xs:List Int)(v:Int)(hx:Le xs):Zc2 xs v=some (I (Zbk (fun x=>decide (v=x)) xs 0),[]):=by
 refine Zbtc ?_;have:=lIndexI xs v hx 0 (Ya _);simpa using this
@[simp] theorem Zrp(xs:List Int)(v:Int)(hx:Le xs):Zgs xs v=some (Bo (has xs v),[]):=by
 refine Zbtd ?_;unfold has;rcases tf (xs.any (fun x=>decide (v=x)))with e|e
 ·simp[hx,Zx9 _ _ _ e,e]
 ·have:=Z74 _ _ 0 e;simp[hx,this,e]
theorem lIndexB(xs:List Bool)(v:Bool)(hx:Le xs):∀i,i≤xs.length →
  Zpb xs v xs.length i=some (I (Zbk (fun x=>v == x) (xs.drop i) i),[]):=by
 refine down _ ?_ ?_
 ·refine Zbc7 ?_;simp[Zbk]
 ·intro i hi ih;refine Zbc7 ?_;have h4:=Zbf (i:=i) (by omega);rw[Zo6 _ hi];simp at ih;by_cases e:v=xs[i]<;>simp[hi,h4,e,ih]
@[simp] theorem Zbxl(xs:List Bool)(v:Bool)(hx:Le xs):Zth xs v=some (Bo (xs.any (fun x=>v == x)),[]):=by
 refine Zbtf ?_;have q:Ztg xs v=some (I (Zbk (fun x=>v == x) xs 0),[]):=by
  refine Zbte ?_;have:=lIndexB xs v hx 0 (Ya _);simpa using this
 rcases tf (xs.any (fun x=>v == x))with e|e
 ·rw[Zx9 _ _ _ e]at q;rw[e];simp[q]
 ·have:=Z74 _ _ 0 e;rw[e];simp[q,this]
theorem l_l7Has(xs:List Int)(v:Int)(hx:Le xs):∀i,i≤xs.length→Zp6 xs v i=some (Bo (has (xs.drop i) v),[]):=by
 unfold has;refine down _ ?_ ?_
 ·refine Zbeu ?_;simp
 ·intro i hi ih;refine Zbeu ?_;have h4:=Zbf (i:=i) (by omega);rw[Z70 _ hi];simp at ih;by_cases e:v=xs[i]
  ·simp[hi,h4,←e]
  ·have e':¬xs[i]=v:=fun hc=>e hc.symm
   simp[hi,h4,e,e',ih]
@[simp] theorem Z3x(xs:List Int)(v:Int)(hx:Le xs):Zj3 xs v=some (Bo (has xs v),[]):=by
 refine Zbu9 ?_;have:=l_l7Has xs v hx 0 (Ya _);simpa using this
theorem nm_aux(s:ByteArray)(P:Prop):(if(s.size:Int)=1 then(∃(b1:UInt8),s[0]?=some b1∧(if 97≤(b1.toNat:Int)then(some (Bo (decide ((b1.toNat:Int)≤122)),[])=some (Bo (nmOk s),([]:List Blk)))else(some (Bo false,[])=some (Bo (nmOk s),([]:List Blk)))))else(some (Bo false,[])=some (Bo (nmOk s),([]:List Blk)))):=by
 by_cases h:s.size=1
 ·obtain⟨b,hb⟩:=get0 h;rw[if_pos (by omega)];refine⟨b,hb,?_⟩;have e:nmOk s=(decide (97≤(b.toNat:Int)) && decide ((b.toNat:Int)≤122)):=by
   unfold nmOk;rw[hb];simp only[h,decide_true,Yw]
  by_cases h1:(97:Int)≤(b.toNat:Int)
  ·rw[if_pos h1,e,decide_eq_true h1,Yw]
  ·rw[if_neg h1,e,decide_eq_false h1,Yde]
 ·have h':¬(s.size:Int)=1:=by omega
  have:nmOk s=false:=by unfold nmOk;split<;>simp[h]
  simp[h',this]
@[simp] theorem x_nameOk(s:ByteArray):Zlt s=some (Bo (nmOk s),[]):=Zbtb (nm_aux s True)
@[simp] theorem x_l4Name(s:ByteArray):Zmh s=some (Bo (nmOk s),[]):=Zbu8 (nm_aux s True)
def LeQ(q:Zd):Prop:=Le q.Atoms∧∀a∈q.Atoms,Le a.Vars
def blB(p:Nat→Bool)(n:Nat):List Bool:=(List.range n).map p
theorem blB_set(p:Nat→Bool)(n:Nat){v:Int}(h:inR v 0 ((n:Int)-1)=true):(blB p n).set v.toNat true=blB (addV p [v]) n:=by
 simp[inR]at h;apply Ycp
 ·simp[blB]
 ·intro i h1 h2;simp only[blB,Ybl,Ybc,List.length_range]at h1;rw[List.getElem_set];simp only[blB,List.getElem_map,List.getElem_range];by_cases e:v.toNat=i
  ·have:(i:Int)=v:=by omega
   simp[e,addV,has,this]
  ·have:¬(i:Int)=v:=by omega
   simp[e,addV,has,this]
theorem Zbxm(q:Zd)(n:Nat)(hn:n≤4)(hq:q.Zi=n)(a:Atom)(qa:List Atom)(l j:Int)(hv:Le a.Vars)(r:AV×List Blk):∀k,k≤a.Vars.length→∀p,
  (if Zde n (a.Vars.take k) (a.Vars.drop k)=true then Zi5 q (blB (addV p (a.Vars.drop k)) n) qa l (w (j+1))=some r else some (Bo false,[])=some r) →
  Zpc q (blB p n) a qa l j a.Vars a.Vars.length k=some r:=by
 refine down _ ?_ ?_
 ·intro p h;refine Zbc9 ?_;simpa[Zde,Zx7]using h
 ·intro k hk ih p h;have h4:=Zbf (i:=k) (by omega);have hw:w (q.Zi-1)=(n:Int)-1:=by rw[hq];exact Zq (by omega) (by omega)
  have hl:=Zrp (a.Vars.take k) a.Vars[k] (by simp;omega);refine Zbc9 ?_;rw[Z75 _ hk]at h;rcases tf (inR a.Vars[k] 0 ((n:Int)-1))with e1|e1
  ·simp[e1]at h;simp[hk,h4,hw,e1,←h]
  ·rcases tf (has (a.Vars.take k) a.Vars[k])with e2|e2
   ·rw[Zx8 p hk]at h;simp only[e1,e2,Yw,Bool.not_false]at h;have ih:=ih _ h;have e0:=e1;simp[inR]at e0;have e5:(a.Vars[k]).toNat<(blB p n).length:=by simp[blB];omega
    have e6:=blB_set p n e1;have e7:k≤a.Vars.length:=by omega
    simp at ih;simp[hk,h4,hw,e1,e2,hl,e0,e5,e6,e7,ih]
   ·simp[e1,e2]at h;have e7:k≤a.Vars.length:=by omega
    simp[hk,h4,hw,e1,e2,hl,e7,←h]
theorem Zbxn(q:Zd)(n:Nat)(hn:n≤4)(hq:q.Zi=n)(qa:List Atom)(hl:Le qa)(hv:∀a∈qa,Le a.Vars):∀k,k≤qa.length→∀p,
  Zi5 q (blB p n) qa qa.length k=some (Bo ((qa.drop k).all (Zcb n) && (List.range n).all (addA p (qa.drop k))),[]):=by
 refine down _ ?_ ?_
 ·intro p;refine Zbc8 ?_;have e:addA p []=p:=by funext u;simp[addA]
  have q1:=Zbxl (blB p n) false (by simp[blB];omega);have q2:(blB p n).any (fun x=>false == x)=!(List.range n).all p:=bl_any p n;rw[q2]at q1;simp[q1,e]
 ·intro k hk ih p;refine Zbc8 ?_;have h4:=Zbf (i:=k) (by omega);rw[Zx6 _ hk];rcases tf (nmOk qa[k].Name)with e1|e1
  ·simp[hk,e1,Zcb]
  rcases tf (inR qa[k].Vars.length 1 3)with e2|e2
  ·simp[hk,e1,e2,Zcb]
  have b:=Zbxm q n hn hq qa[k] qa qa.length k (hv _ (Yd hk)) (Bo (Zcb n qa[k] && (qa.drop (k+1)).all (Zcb n) && (List.range n).all (addA p (qa.drop k))),[]) 0 (Ya _) p ?_
  ·simp at b;simp[hk,e1,e2,b]
  ·simp only[Ycb,Yk,Zcb,e1,e2,Yw];rcases tf (Zde n [] qa[k].Vars)with e3|e3
   ·simp[e3]
   ·have ih:=ih (addV p qa[k].Vars);simp only[e3,if_true,Yw,Z76 p hk];simp at ih;rw[show w ((k:Int)+1)=(k:Int)+1 from h4,ih]
@[simp] theorem Z3y(q:Zd)(h:LeQ q):Zgt q=some (Bo (Zv q.Zi q.Atoms),[]):=by
 refine Zbto ?_;unfold Zv;rcases tf (inR q.Zi 1 4)with e1|e1
 ·simp[e1]
 rcases tf (inR q.Atoms.length 1 4)with e2|e2
 ·simp[e1,e2]
 have e0:=e1;simp[inR]at e0;have hn:q.Zi=(q.Zi.toNat:Int):=by omega
 have b:=Zbxn q q.Zi.toNat (by omega) hn q.Atoms h.1 h.2 0 (Ya _) (fun _=>false);have r1:q.Zi.toNat≤room:=room2 (by omega);have r2:q.Zi≤room:=by
  have:(q.Zi.toNat:Int)≤room:=by exact_mod_cast r1
  omega
 have r3:q.Zi≤140737488355328:=by omega
 have ez:blB (fun _=>false) q.Zi.toNat=List.replicate q.Zi.toNat false:=by
  apply Ycp<;>simp[blB]
 rw[ez,←hn]at b;simp at b;simp[e1,e2,e0,r1,r2,r3,b];omega
theorem Zbxo(q:Zd)(n:Nat)(hn1:1≤n)(hn:n≤4)(hq:q.Zi=n)(a:Atom)(j:Int)(hv:Le a.Vars)(r:AV×List Blk):∀k,k≤a.Vars.length→∀p,
  (if Zde n (a.Vars.take k) (a.Vars.drop k)=true then Zmi q (Zbg (addV p (a.Vars.drop k))) (w (j+1))=some r else some (Bo false,[])=some r) →
  Zp7 q a (Zbg p) j k=some r:=by
 refine down _ ?_ ?_
 ·intro p h;refine Zbew ?_;simpa[Zde,Zx7]using h
 ·intro k hk ih p h;have h4:=Zbf (i:=k) (by omega);have hw:w (q.Zi-1)=(n:Int)-1:=by rw[hq];exact Zq (by omega) (by omega)
  have hl:=Z3x (a.Vars.take k) a.Vars[k] (by simp;omega);have e7:k≤a.Vars.length:=by omega
  refine Zbew ?_;rw[Z75 _ hk]at h;rcases tf (inR a.Vars[k] 0 ((n:Int)-1))with e1|e1
  ·simp[e1]at h;simp[hk,h4,hw,e1,←h]
  ·rcases tf (has (a.Vars.take k) a.Vars[k])with e2|e2
   ·rw[Zx8 p hk]at h;simp only[e1,e2,Yw,Bool.not_false]at h;have ih:=ih _ h;have e0:=e1;simp[inR]at e0;have e6:=or_bit p (v:=a.Vars[k]) (by simp[inR];omega);have e8:¬a.Vars[k]<0:=by omega
    simp at ih;simp[hk,h4,hw,e1,e2,hl,e0,e6,e7,e8,ih]
   ·simp[e1,e2]at h;simp[hk,h4,hw,e1,e2,hl,e7,←h]
def Zrq(n:Int)(p:Nat→Bool):Bool:=decide (Zbg p=w (shlI 1 n-1))
theorem Zbxp(q:Zd)(n:Nat)(hn1:1≤n)(hn:n≤4)(hq:q.Zi=n)(hl:Le q.Atoms)(hv:∀a∈q.Atoms,Le a.Vars):∀k,k≤q.Atoms.length→∀p,
  Zmi q (Zbg p) k=some (Bo ((q.Atoms.drop k).all (Zcb n) && Zrq n (addA p (q.Atoms.drop k))),[]):=by
 refine down _ ?_ ?_
 ·intro p;refine Zbev ?_;have e:addA p []=p:=by funext u;simp[addA]
  have h0:¬(n:Int)<0:=by omega
  simp[e,hq,h0,Zrq]
 ·intro k hk ih p;refine Zbev ?_;have h4:=Zbf (i:=k) (by omega);rw[Zx6 _ hk];rcases tf (nmOk q.Atoms[k].Name)with e1|e1
  ·simp[hk,e1,Zcb]
  rcases tf (inR q.Atoms[k].Vars.length 1 3)with e2|e2
  ·simp[hk,e1,e2,Zcb]
  have b:=Zbxo q n hn1 hn hq q.Atoms[k] k (hv _ (Yd hk)) (Bo (Zcb n q.Atoms[k] && (q.Atoms.drop (k+1)).all (Zcb n) && Zrq n (addA p (q.Atoms.drop k))),[]) 0 (Ya _) p ?_
  ·simp at b;simp[hk,e1,e2,b]
  ·simp only[Ycb,Yk,Zcb,e1,e2,Yw];rcases tf (Zde n [] q.Atoms[k].Vars)with e3|e3
   ·simp[e3]
   ·have ih:=ih (addV p q.Atoms[k].Vars);simp only[e3,if_true,Yw,Z76 p hk];simp at ih;rw[show w ((k:Int)+1)=(k:Int)+1 from h4,ih]
@[simp] theorem Zvj(q:Zd)(h:LeQ q):Zf4 q=some (Bo (Zv q.Zi q.Atoms),[]):=by
 refine Zbva ?_;unfold Zv;rcases tf (inR q.Zi 1 4)with e1|e1
 ·simp[e1]
 rcases tf (inR q.Atoms.length 1 4)with e2|e2
 ·simp[e1,e2]
 have e0:=e1;simp[inR]at e0;obtain⟨k,hk⟩:∃k:Nat,q.Zi=k:=⟨q.Zi.toNat,by omega⟩;have b:=Zbxp q k (by omega) (by omega) hk h.1 h.2 0 (Ya _) (fun _=>false);have ez:Zbg (fun _=>false)=0:=rfl;rw[ez]at b;simp only[Yk,Int.ofNat_zero]at b;have e3:(q.Atoms.all (Zcb k) && Zrq k (addA (fun _=>false) q.Atoms))=(q.Atoms.all (Zcb k) && (List.range k).all (addA (fun _=>false) q.Atoms)):=by
  rcases tf (q.Atoms.all (Zcb k))with e3|e3
  ·simp[e3]
  ·have hk':k=1∨k=2∨k=3∨k=4:=by omega
   have hz:=all_in e3;have hz':∀u:Nat,k≤u→addA (fun _=>false) q.Atoms u=false:=fun u hu=>by simp only[addA,Ycx];exact hz u (by omega)
   rw[e3,Yw,Yw,Yb8,Zrq,decide_eq_true_eq,Zbg];rcases hk' with rfl|rfl|rfl|rfl
   ·simp[shlI,Zq,Zs7,hz' 1 (by omega),hz' 2 (by omega),hz' 3 (by omega),Yca]
   ·simp[shlI,Zq,Zs7,hz' 2 (by omega),hz' 3 (by omega),Yca]
   ·simp[shlI,Zq,Zs7,hz' 3 (by omega),Yca,and_assoc]
   ·simp[shlI,Zq,Zs7,Yca,and_assoc]
 rw[e3]at b;rw[hk]at e1;simp only[Zc4,Ybk,Ybz,AV.t.injEq,T.bool.injEq,and_true,exists_eq_left',e1,e2,if_true,b,hk,Yh];simp
@[simp] theorem Zbxq(q:Zd)(h:LeQ q):Zu6 q=some (I (Zfa q.Zi q.Atoms),[]):=by
 refine Zbw1 ?_;have q1:=Z3y q h;unfold Zfa;rcases tf (Zv q.Zi q.Atoms)with e|e
 ·simp[q1,e]
 ·have:=(Zs8 e).2.2.1;have h0:¬((q.Atoms.length:Int)<0):=by omega
  simp[q1,e,this,h0]
@[simp] theorem Zbgk(q:Zd)(h:LeQ q):Zkr q=some (I (Zfa q.Zi q.Atoms),[]):=by
 refine Zbxd ?_;have q1:=Zvj q h;unfold Zfa;rcases tf (Zv q.Zi q.Atoms)with e|e
 ·simp[q1,e]
 ·have:=(Zs8 e).2.2.1;have h0:¬((q.Atoms.length:Int)<0):=by omega
  simp[q1,e,this,h0]
theorem Zbxr(xs:List Int)(hx:Le xs):∀i,i≤xs.length→Zri xs i=some (Bo (Zi0 (xs.drop i) && decide ((xs.length:Int)≤16)),[]):=by
 refine down _ ?_ ?_
 ·refine Zbge ?_;simp[Zi0]
 ·intro i hi ih;refine Zbge ?_;have h4:=Zbf (i:=i) (by omega);rw[Z71 hi];simp at ih;rcases tf (inR xs[i] 0 7)with h|h<;>simp[hi,h4,h,ih]
@[simp] theorem Zbgl(xs:List Int)(hx:Le xs):Zrh xs=some (Bo (Zf0 xs),[]):=by
 refine Zbxa ?_;have:=Zbxr xs hx 0 (Ya _);simpa[Zf0]using this
theorem Zbxs(xs:List Int)(hx:Le xs):∀i,i≤xs.length→Zq9 xs xs xs.length i=some (Bo (Zi0 (xs.drop i) && decide ((xs.length:Int)≤16)),[]):=by
 refine down _ ?_ ?_
 ·refine Zbf7 ?_;simp[Zi0]
 ·intro i hi ih;refine Zbf7 ?_;have h4:=Zbf (i:=i) (by omega);rw[Z71 hi];simp at ih;rcases tf (inR xs[i] 0 7)with h|h<;>simp[hi,h4,h,ih]
@[simp] theorem Zbgm(xs:List Int)(hx:Le xs):Zq8 xs=some (Bo (Zf0 xs),[]):=by
 refine Zbwy ?_;have:=Zbxs xs hx 0 (Ya _);simpa[Zf0]using this
theorem Zbxt(xs ys:List Int)(hx:Le xs)(hl:ys.length=xs.length):∀i,i≤xs.length→Zrj xs ys i=some (Bo (Zgq (xs.drop i) (ys.drop i)),[]):=by
 refine down _ ?_ ?_
 ·refine Zbgf ?_;simp[Zgq]
 ·intro i hi ih;refine Zbgf ?_;have hi2:i<ys.length:=by omega
  have h4:=Zbf (i:=i) (by omega);rw[Z72 hi hi2];simp at ih;by_cases h:xs[i]<ys[i]
  ·simp[hi,hi2,h4,h,show ¬ys[i]≤xs[i] by omega]
  ·simp[hi,hi2,h4,h,show ys[i]≤xs[i] by omega,ih]
@[simp] theorem Zbxu(xs ys:List Int)(hx:Le xs):Zu9 xs ys=some (Bo (dom xs ys),[]):=by
 refine Zbxb ?_;by_cases hl:ys.length=xs.length
 ·have:=Zbxt xs ys hx hl 0 (Ya _);simp at this;simp[hl,this,dom]
 ·have h2:¬((xs.length:Int)=ys.length):=by omega
  have h1:¬(xs.length=ys.length):=by omega
  simp[h1,h2,dom]
theorem Zbxv(xs ys:List Int)(hx:Le xs)(hl:ys.length=xs.length):∀i,i≤xs.length→Zra xs ys xs.length i=some (Bo (Zgq (xs.drop i) (ys.drop i)),[]):=by
 refine down _ ?_ ?_
 ·refine Zbf8 ?_;simp[Zgq]
 ·intro i hi ih;refine Zbf8 ?_;have hi2:i<ys.length:=by omega
  have h4:=Zbf (i:=i) (by omega);rw[Z72 hi hi2];simp at ih;by_cases h:xs[i]<ys[i]
  ·simp[hi,hi2,h4,h,show ¬ys[i]≤xs[i] by omega]
  ·simp[hi,hi2,h4,h,show ys[i]≤xs[i] by omega,ih]
@[simp] theorem Zbxw(xs ys:List Int)(hx:Le xs):Zu5 xs ys=some (Bo (dom xs ys),[]):=by
 refine Zbwz ?_;by_cases hl:ys.length=xs.length
 ·have:=Zbxv xs ys hx hl 0 (Ya _);simp at this;simp[hl,this,dom]
 ·have h2:¬((xs.length:Int)=ys.length):=by omega
  have h1:¬(xs.length=ys.length):=by omega
  simp[h1,h2,dom]
def LeX(b:Box):Prop:=Le b.Low∧Le b.High
@[simp] theorem Zvk(b:Box)(h:LeX b):Zg8 b=some (Bo (Zcr b.Low b.High),[]):=by
 refine Zbw0 ?_;have q1:=Zbgm b.Low h.1;have q2:=Zbgm b.High h.2;have q3:=Zbxw b.High b.Low h.2;unfold Zcr;rcases tf (Zf0 b.Low)with e1|e1<;>rcases tf (Zf0 b.High)with e2|e2<;>by_cases e3:0<b.Low.length<;>simp[q1,q2,q3,e1,e2,e3]
@[simp] theorem Zrr(b:Box)(h:LeX b):Zf9 b=some (Bo (Zcr b.Low b.High),[]):=by
 refine Zbxc ?_;have q1:=Zbgl b.Low h.1;have q2:=Zbgl b.High h.2;have q3:=Zbxu b.High b.Low h.2;unfold Zcr;rcases tf (Zf0 b.Low)with e1|e1<;>rcases tf (Zf0 b.High)with e2|e2<;>by_cases e3:0<b.Low.length<;>simp[q1,q2,q3,e1,e2,e3]
theorem l_vars0(q:Zd)(m:Int)(hl:Le q.Atoms)(hv:∀a∈q.Atoms,Le a.Vars)(v:Nat)(hv4:v<8)(out:List Int)(ho:out.length≤8)(r:AV×List Blk):∀i,i≤q.Atoms.length →
  Zhp q (out++if hasV m (q.Atoms.drop i) i v=true then[(v:Int)]else[]) m (w ((v:Int)+1))=some r →
  Zlv q out m v q.Atoms q.Atoms.length i=some r:=by
 refine down _ ?_ ?_
 ·intro h;refine Zbdb ?_;simpa[hasV]using h
 ·intro i hi ih h;refine Zbdb ?_;have h4:=Zbf (i:=i) (by omega);have c1:=Zrp q.Atoms[i].Vars v (hv _ (Yd hi));have h0:¬(i:Int)<0:=by omega
  rw[Z77 _ hi]at h;by_cases e1:andI (shrI m i) 1=1
  ·have e2:Zb8 m i=true:=by simp[Zb8,e1]
   rcases tf (has q.Atoms[i].Vars v)with e3|e3
   ·simp[e2,e3]at h;have ih:=ih (by simpa using h);simp at ih;simp[hi,h4,h0,e1,c1,e3,ih]
   ·simp[e2,e3]at h;have e4:out.length+1≤68719476736:=by omega
    simp[hi,h4,h0,e1,c1,e3,e4,h]
  ·have e2:Zb8 m i=false:=by simp[Zb8,e1]
   simp[e2]at h;have ih:=ih (by simpa using h);simp at ih;simp[hi,h4,h0,e1,ih]
theorem l_vars1(q:Zd)(m:Int)(hl:Le q.Atoms)(hv:∀a∈q.Atoms,Le a.Vars)(n:Nat)(hq:q.Zi=n)(hn:n≤4):∀k,k≤n →
  Zhp q (varL m q.Atoms k) m k=some (.own 0,[.arr Zb4 1 true ((varL m q.Atoms n).map ic)]):=by
 refine down _ ?_ ?_
 ·refine Zbda ?_;simp[hq]
 ·intro k hk ih;refine Zbda ?_;have h4:=Zbf (i:=k) (by omega)
  have b:=l_vars0 q m hl hv k (by omega) (varL m q.Atoms k) (by have:=Zlq m q.Atoms k;omega) _ 0 (Ya _) (by
   rw[Yk,←Zbnh,show w ((k:Int)+1)=(k:Int)+1 from h4];simpa using ih)
  simp at b;simp[hq,hk,b]
@[simp] theorem Z3z(q:Zd)(m:Int)(h:LeQ q)(hv:Zv q.Zi q.Atoms=true):Zlu q m=some (.own 0,[.arr Zb4 1 true ((varL m q.Atoms q.Zi.toNat).map ic)]):=by
 refine Zbtg ?_;have hn:=Zi1 hv;have b:=l_vars1 q m h.1 h.2 q.Zi.toNat (by omega) (by omega) 0 (Ya _);simpa[varL]using b
theorem l_both(b xs:List Int)(hb:Le b)(hx:xs.length≤1000000):∀i,i≤xs.length →
  Zlw ((xs.take i).filter (has b)) b xs xs.length i=some (.own 0,[.arr Zb4 1 true ((xs.filter (has b)).map ic)]):=by
 refine down _ ?_ ?_
 ·refine Zbdc ?_;simp
 ·intro i hi ih;refine Zbdc ?_;have h4:=Zbf (i:=i) (by omega);have c1:=Zrp b xs[i] hb;have e4:((xs.take i).filter (has b)).length+1≤68719476736:=by
   have:=Yc6 (has b) (xs.take i);simp at this;omega
  rw[Zbni _ hi]at ih;rcases tf (has b xs[i])with e|e
  ·simp[e]at ih;simp[hi,h4,c1,e,ih]
  ·simp[e]at ih;simp[hi,h4,c1,e,e4,ih]
@[simp] theorem x_both(xs b:List Int)(hb:Le b)(hx:xs.length≤1000000):Ztn xs b=some (.own 0,[.arr Zb4 1 true ((xs.filter (has b)).map ic)]):=by
 refine Zbth ?_;have:=l_both b xs hb hx 0 (Ya _);simpa using this
theorem l_bits0(q:Zd)(m:Int)(hv:∀a∈q.Atoms,Le a.Vars)(h4v:Var4 q.Atoms)(i:Nat)(hi:i<q.Atoms.length)(hm:Zb8 m i=true)(r:AV×List Blk):∀k,k≤q.Atoms[i].Vars.length→∀p,
  Zj4 q m (Zbg (addV p (q.Atoms[i].Vars.drop k))) (w ((i:Int)+1))=some r→Zmj q m (Zbg p) i k=some r:=by
 have e1:andI (shrI m i) 1=1:=by simpa[Zb8]using hm
 have h0:¬(i:Int)<0:=by omega
 have ha:=Yd hi;refine down _ ?_ ?_
 ·intro p h;refine Z3o ?_;rw[Ym,Zx7]at h;simp[hi,h]
 ·intro k hk ih p h;refine Z3o ?_;have h4:=Zbf (i:=k) (by have:=hv _ ha;omega);have e6:=or_bit p (v:=q.Atoms[i].Vars[k]) (h4v _ ha _ (Yd hk));have e7:=h4v _ ha _ (Yd hk);simp[inR]at e7;have e8:¬q.Atoms[i].Vars[k]<0:=by omega
  rw[Zx8 p hk]at h;have ih:=ih _ h;simp at ih;simp[hi,hk,h0,e1,h4,e6,e7,e8,ih]
theorem l_bits1(q:Zd)(m:Int)(hl:Le q.Atoms)(hv:∀a∈q.Atoms,Le a.Vars)(h4v:Var4 q.Atoms):∀i,i≤q.Atoms.length→∀p,
  Zj4 q m (Zbg p) i=some (I (Zbg (addM m p q.Atoms i)),[]):=by
 refine down _ ?_ ?_
 ·intro p;refine Zbex ?_;have e:addM m p q.Atoms q.Atoms.length=p:=by funext u;simp[addM,hasV]
  simp[e]
 ·intro i hi ih p;refine Zbex ?_;have h4:=Zbf (i:=i) (by omega);have h0:¬(i:Int)<0:=by omega
  rw[Zbng m p hi];rcases tf (Zb8 m i)with e|e
  ·have e1:¬andI (shrI m i) 1=1:=by simpa[Zb8]using e
   have ih:=ih p;simp at ih;have b:Zmj q m (Zbg p) i 0=some (I (Zbg (addM m p q.Atoms (i+1))),[]):=by
    refine Z3o ?_;simp[hi,h0,e1,h4,ih]
   simp[hi,e,b]
  ·have ih:=ih (addV p q.Atoms[i].Vars);have b:=l_bits0 q m hv h4v i hi e _ 0 (Ya _) p (by rw[Yk,show w ((i:Int)+1)=(i:Int)+1 from h4];simpa using ih);simp at b;simp[hi,e,b]
@[simp] theorem Zvl(q:Zd)(m:Int)(h:LeQ q)(h4v:Var4 q.Atoms):Zd3 q m=some (I (Zbg (pV m q.Atoms)),[]):=by
 refine Zbvb ?_;have b:=l_bits1 q m h.1 h.2 h4v 0 (Ya _) (fun _=>false);have ez:Zbg (fun _=>false)=0:=rfl;have e:addM m (fun _=>false) q.Atoms 0=pV m q.Atoms:=by funext u;simp[addM,pV]
 rw[ez,e]at b;simpa using b
theorem Zbxx(q:Zd)(hq:LeQ q)(h:Zv q.Zi q.Atoms=true)(x:Ze)(info:List Zb)(st:List Int)(hs:StOk info st)(hil:info.length≤100)(hst:st.length≤100) :
  match Zc1 q.Atoms x info st with
  |some y=>Zlx q x info st=some (.tup [.agg (y.c.map .t),Bo true],[])
  |none=>∃y:Zb,Zlx q x info st=some (.tup [.agg (y.c.map .t),Bo false],[]):=by
 have hl:=Zf1 h;have wl:w ((q.Atoms.length:Int)-1)=(q.Atoms.length:Int)-1:=Zq (by omega) (by omega);unfold Zc1;by_cases k1:x.Kind=1
 ·rw[if_pos k1];by_cases c1:inR x.Atom 0 (q.Atoms.length-1)=true∧x.Order=0
  ·rw[if_pos c1];have c2:=c1.1;simp[inR]at c2;have hlt:x.Atom.toNat<q.Atoms.length:=by omega
   have hv:=Zo7 h _ (Yd hlt);have h0:¬x.Atom<0:=by omega
   simp only;refine Zii ?_;have e:q.Atoms[x.Atom.toNat].Vars.headD 0=q.Atoms[x.Atom.toNat].Vars[0]'(by omega):=by
    rw[Yds,hd0 (by omega)]
   rw[Yds]at e;simp[k1,wl,c1,h0,hlt,c2,e,show 0<q.Atoms[x.Atom.toNat].Vars.length by omega]
  ·rw[if_neg c1];refine⟨⟨0,-1,-1,-1⟩,Zii ?_⟩;rcases tf (inR x.Atom 0 (q.Atoms.length-1))with e|e
   ·simp[k1,wl,e]
   ·have e2:¬x.Order=0:=fun hc=>c1 ⟨e,hc⟩
    simp[k1,wl,e,e2]
 rw[if_neg k1];by_cases k0:x.Atom=0
 rotate_left
 ·rw[if_pos k0];exact⟨⟨0,-1,-1,-1⟩,Zii (by simp[k1,k0])⟩
 rw[if_neg (by simpa using k0)];have w1:w ((st.length:Int)-1)=(st.length:Int)-1:=Zq (by omega) (by omega);have w2:w ((st.length:Int)-2)=(st.length:Int)-2:=Zq (by omega) (by omega);by_cases k2:x.Kind=2
 ·rw[if_pos k2];by_cases n1:st.length<1
  ·have:Zdf st info 1=none:=by unfold Zdf;rw[if_neg (by omega)]
   rw[this];have n1':(st.length:Int)<1:=by omega
   exact⟨⟨0,-1,-1,-1⟩,Zii (by simp[k1,k2,k0,n1'])⟩
  ·have n1':¬(st.length:Int)<1:=by omega
   obtain⟨s,y,t1,t2,t3,t4⟩:=Zi2 hs (by omega:1≤1) (by omega:1≤st.length);have z1:(0:Int)≤(st.length:Int)-1:=by omega
   have z5:(1:Int)≤(st.length:Int):=by omega
   have z2:((st.length:Int)-1).toNat=st.length-1:=by omega
   have q1:=Z3z q y.Mask hq h;have q2:=Zrp (varL y.Mask q.Atoms q.Zi.toNat) x.Order (by have:=Zlq y.Mask q.Atoms q.Zi.toNat;have:=Zi1 h;omega);rw[Zlr h]at q2;rw[t1];simp only;by_cases c1:vin q.Atoms y.Mask x.Order=true∧y.Order≠x.Order
   ·rw[if_pos c1];refine Zii ?_;simp[k1,k2,k0,n1',w1,z1,z2,z5,t2,t3,t4,q1,q2,c1]
   ·rw[if_neg c1];refine⟨⟨0,-1,-1,-1⟩,Zii ?_⟩;rcases tf (vin q.Atoms y.Mask x.Order)with e|e
    ·simp[k1,k2,k0,n1',w1,z1,z2,z5,t2,t3,t4,q1,q2,e]
    ·have e2:y.Order=x.Order:=Decidable.byContradiction fun hc=>c1 ⟨e,hc⟩
     simp[k1,k2,k0,n1',w1,z1,z2,z5,t2,t3,t4,q1,q2,e,e2]
 rw[if_neg k2];by_cases n2:st.length<2
 ·have:Zdf st info 2=none:=by unfold Zdf;rw[if_neg (by omega)]
  rw[this];have n2':(st.length:Int)<2:=by omega
  exact⟨⟨0,-1,-1,-1⟩,Zii (by simp[k1,k2,k0,n2'])⟩
 have n2':¬(st.length:Int)<2:=by omega
 obtain⟨s,y,t1,t2,t3,t4⟩:=Zi2 hs (by omega:1≤2) (by omega:2≤st.length);obtain⟨t,z,u1,u2,u3,u4⟩:=Zi2 hs (by omega:1≤1) (by omega:1≤st.length);have z1:(0:Int)≤(st.length:Int)-1:=by omega
 have z2:((st.length:Int)-1).toNat=st.length-1:=by omega
 have z3:(0:Int)≤(st.length:Int)-2:=by omega
 have z4:((st.length:Int)-2).toNat=st.length-2:=by omega
 have hn:=Zi1 h;have q1:=Z3z q y.Mask hq h;have q2:=Z3z q z.Mask hq h;have l1:=Zlq y.Mask q.Atoms q.Zi.toNat;have l2:=Zlq z.Mask q.Atoms q.Zi.toNat;have q3:=x_both (varL y.Mask q.Atoms q.Zi.toNat) (varL z.Mask q.Atoms q.Zi.toNat) (by omega) (by omega)
 have q4:=Zrp ((varL y.Mask q.Atoms q.Zi.toNat).filter (has (varL z.Mask q.Atoms q.Zi.toNat))) x.Order (by
  have:=Yc6 (has (varL z.Mask q.Atoms q.Zi.toNat)) (varL y.Mask q.Atoms q.Zi.toNat);omega)
 rw[Zbnk h]at q4;have q5:=Zbnj h y.Mask z.Mask;generalize hS:(varL y.Mask q.Atoms q.Zi.toNat).filter (has (varL z.Mask q.Atoms q.Zi.toNat))=S at q3 q4 q5;rw[t1,u1];simp only
 have base:∀(r:AV×List Blk),(if andI y.Mask z.Mask=0 then
    if((S.length:Int)=0)then some (.tup [.agg [I (orI y.Mask z.Mask),I (-1),I s,I t],Bo false],[])=some r
    else if x.Kind=3 then some (.tup [.agg [I (orI y.Mask z.Mask),I (-1),I s,I t],Bo (decide (x.Order=0))],[])=some r
    else if x.Kind=5 then some (.tup [.agg [I (orI y.Mask z.Mask),I y.Order,I s,I t],Bo (decide (x.Order=0))],[])=some r
    else if x.Kind=4 then
     if(vin q.Atoms y.Mask x.Order && vin q.Atoms z.Mask x.Order)=true then
      if y.Order=x.Order then some (.tup [.agg [I (orI y.Mask z.Mask),I x.Order,I s,I t],Bo (decide (z.Order=x.Order))],[])=some r
      else some (.tup [.agg [I (orI y.Mask z.Mask),I x.Order,I s,I t],Bo false],[])=some r
     else some (.tup [.agg [I (orI y.Mask z.Mask),I x.Order,I s,I t],Bo false],[])=some r
    else some (.tup [.agg [I (orI y.Mask z.Mask),I (-1),I s,I t],Bo false],[])=some r
   else some (.tup [.agg [I (orI y.Mask z.Mask),I (-1),I s,I t],Bo false],[])=some r)→Zlx q x info st=some r:=by
  intro r hr;refine Zii ?_;simp only[k1,k0,k2,if_false,if_true,n2',w1,w2,z1,z2,z3,z4,t2,t3,t4,u2,u3,u4,q1,q2,true_and,Ybk,exists_eq_left'];refine⟨_,rfl,_,rfl,S,?_,?_⟩
  ·simpa using q3
  ·simp only[q4,Ybk,Ybz,AV.t.injEq,T.bool.injEq,and_true,exists_eq_left'];simpa using hr
 by_cases c1:andI y.Mask z.Mask=0∧shr q.Atoms y.Mask z.Mask=true
 rotate_left
 ·rw[if_neg c1];refine⟨⟨orI y.Mask z.Mask,-1,s,t⟩,base _ ?_⟩;by_cases c2:andI y.Mask z.Mask=0
  ·have c3:S.length=0:=q5.2 (by rcases tf (shr q.Atoms y.Mask z.Mask)with e|e;exact e;exact absurd ⟨c2,e⟩ c1);have c4:(S.length:Int)=0:=by omega
   rw[if_pos c2,if_pos c4];simp
  ·rw[if_neg c2];simp
 rw[if_pos c1];have c4:¬(S.length:Int)=0:=fun hc=>by
  have:=q5.1 (by omega);rw[c1.2]at this;cases this
 have c5:¬S=[]:=fun hc=>c4 (by simp[hc])
 unfold Zd0;by_cases j1:x.Kind=3∧x.Order=0
 ·rw[if_pos j1];exact base _ (by simp[c1.1,c4,c5,j1])
 rw[if_neg j1];by_cases j2:x.Kind=5∧x.Order=0
 ·rw[if_pos j2];exact base _ (by simp[c1.1,c4,c5,j2])
 rw[if_neg j2];by_cases j3:x.Kind=4∧vin q.Atoms y.Mask x.Order=true∧vin q.Atoms z.Mask x.Order=true∧y.Order=x.Order∧z.Order=x.Order
 ·rw[if_pos j3];exact base _ (by simp[c1.1,c4,c5,j3])
 rw[if_neg j3];simp only[Option.map_none];by_cases k3:x.Kind=3
 ·have e:¬x.Order=0:=fun hc=>j1 ⟨k3,hc⟩
  exact⟨⟨orI y.Mask z.Mask,-1,s,t⟩,base _ (by simp[c1.1,c4,c5,k3,e])⟩
 by_cases k5:x.Kind=5
 ·have e:¬x.Order=0:=fun hc=>j2 ⟨k5,hc⟩
  exact⟨⟨orI y.Mask z.Mask,y.Order,s,t⟩,base _ (by simp[c1.1,c4,c5,k5,e])⟩
 by_cases k4:x.Kind=4
 ·refine⟨⟨orI y.Mask z.Mask,x.Order,s,t⟩,base _ ?_⟩;rcases tf (vin q.Atoms y.Mask x.Order)with e1|e1<;>rcases tf (vin q.Atoms z.Mask x.Order)with e2|e2<;>by_cases e3:y.Order=x.Order<;>simp[c1.1,c4,c5,k4,e1,e2,e3];exact fun e4=>j3 ⟨k4,e1,e2,e3,e4⟩
 ·exact⟨⟨orI y.Mask z.Mask,-1,s,t⟩,base _ (by simp[c1.1,c4,c5,k3,k4,k5])⟩
@[simp] theorem Zvm(b v:Int):Zj5 b v=some (Bo (inR v 0 3 && decide (andI (shrI b v) 1=1)),[]):=by
 refine Zbvc ?_;rcases tf (inR v 0 3)with e|e
 ·simp[e]
 ·have e0:=e;simp[inR]at e0;have:¬v<0:=by omega
  simp[e,this]
def Zbl(x:Ze):Option Zb→AV×List Blk
 |some y=>(.tup [.agg (y.c.map .t),I (popsI x)],[])
 |none=>(.tup [.agg [I 0,I 0,I 0,I 0],I (-1)],[])
theorem Zbxy(q:Zd)(hq:LeQ q)(h:Zv q.Zi q.Atoms=true)(x:Ze)(info:List Zb)(st:List Int)(hs:StOk info st)(hil:info.length≤100)(hst:st.length≤100) :
  Zj6 q x info st=some (Zbl x (Zc1 q.Atoms x info st)):=by
 have hl:=Zf1 h;have wl:w ((q.Atoms.length:Int)-1)=(q.Atoms.length:Int)-1:=Zq (by omega) (by omega);unfold Zc1;by_cases k1:x.Kind=1
 ·rw[if_pos k1];by_cases c1:inR x.Atom 0 (q.Atoms.length-1)=true∧x.Order=0
  ·rw[if_pos c1];have c2:=c1.1;simp[inR]at c2;have hlt:x.Atom.toNat<q.Atoms.length:=by omega
   have hv:=Zo7 h _ (Yd hlt);have h0:¬x.Atom<0:=by omega
   refine Zga ?_;have e:q.Atoms[x.Atom.toNat].Vars.headD 0=q.Atoms[x.Atom.toNat].Vars[0]'(by omega):=by
    rw[Yds,hd0 (by omega)]
   rw[Yds]at e;simp[k1,wl,c1,h0,hlt,c2,e,Zbl,popsI,show 0<q.Atoms[x.Atom.toNat].Vars.length by omega]
  ·rw[if_neg c1];refine Zga ?_;rcases tf (inR x.Atom 0 (q.Atoms.length-1))with e|e
   ·simp[k1,wl,e,Zbl]
   ·have e2:¬x.Order=0:=fun hc=>c1 ⟨e,hc⟩
    simp[k1,wl,e,e2,Zbl]
 rw[if_neg k1];have w1:w ((st.length:Int)-1)=(st.length:Int)-1:=Zq (by omega) (by omega);have w2:w ((st.length:Int)-2)=(st.length:Int)-2:=Zq (by omega) (by omega);by_cases k0:x.Atom=0
 rotate_left
 ·rw[if_pos k0];refine Zga ?_;have j:∀b,Zj7 q x ⟨0,0,0,0⟩ info st st.length x.Kind b=some (Zbl x none):=by
   intro b;refine Zrn ?_;cases b<;>simp[k0,Zbl]
  by_cases k2:x.Kind=2
  ·simp[k1,k2,k0,Zbl]
  ·by_cases k3:x.Kind=3<;>by_cases k4:x.Kind=4<;>simp[k1,k2,k0,k3,k4,j]<;>first|(simp only[k3]at j;simp[j,Zbl])|(simp only[k4]at j;simp[j,Zbl])|simp[Zbl]
 rw[if_neg (by simpa using k0)];by_cases k2:x.Kind=2
 ·rw[if_pos k2];refine Zga ?_;by_cases n1:st.length<1
  ·have:Zdf st info 1=none:=by unfold Zdf;rw[if_neg (by omega)]
   rw[this];have n1':(st.length:Int)<1:=by omega
   simp[k1,k2,k0,n1',Zbl]
  ·have n1':¬(st.length:Int)<1:=by omega
   obtain⟨s,y,t1,t2,t3,t4⟩:=Zi2 hs (by omega:1≤1) (by omega:1≤st.length);have z1:(0:Int)≤(st.length:Int)-1:=by omega
   have z5:(1:Int)≤(st.length:Int):=by omega
   have z2:((st.length:Int)-1).toNat=st.length-1:=by omega
   have q1:=Zvl q y.Mask hq (Zo8 h);have q2:(inR x.Order 0 3 && decide (andI (shrI (Zbg (pV y.Mask q.Atoms)) x.Order) 1=1))=vin q.Atoms y.Mask x.Order:=by
    unfold vin;rcases tf (inR x.Order 0 3)with e|e
    ·simp[e]
    ·rw[e,Yw,Yw,Yb8,decide_eq_true_eq];exact at_bit _ e
   rw[t1];simp only;by_cases e2:y.Order=x.Order
   ·simp[k1,k2,k0,n1',w1,z1,z2,z5,t2,t3,t4,e2,Zbl]
   ·rcases tf (vin q.Atoms y.Mask x.Order)with e|e
    ·simp only[k1,k2,k0,n1',w1,z1,z2,t2,t3,t4,q1,Zvm,q2,e,e2,if_false,if_true,true_and,Ybk,exists_eq_left',Ybz,AV.t.injEq,T.int.injEq,T.bool.injEq,and_true];simp[Zbl]
    ·simp only[k1,k2,k0,n1',w1,z1,z2,t2,t3,t4,q1,Zvm,q2,e,e2,if_false,if_true,true_and,Ybk,exists_eq_left',Ybz,AV.t.injEq,T.int.injEq,T.bool.injEq,and_true];simp[Zbl,popsI,k1,k2,e2]
 rw[if_neg k2]
 -- a join
 have q0:∀(b:Zb) (c:Zb) (y:Zb) (f:Bool),x.Kind=4→∀m1 m2,Zh9 q x ⟨0,0,0,0⟩ b c y (andI (Zbg (pV m1 q.Atoms)) (Zbg (pV m2 q.Atoms))) f =
   if vin q.Atoms m1 x.Order=true∧vin q.Atoms m2 x.Order=true∧b.Order=x.Order∧c.Order=x.Order then some (.tup [.agg [I y.Mask,I x.Order,I y.Left,I y.Right],I 2],[])else some (Zbl x none):=by
  intro b c y f k4 m1 m2;have e:(inR x.Order 0 3 && decide (andI (shrI (andI (Zbg (pV m1 q.Atoms)) (Zbg (pV m2 q.Atoms))) x.Order) 1=1))=(vin q.Atoms m1 x.Order && vin q.Atoms m2 x.Order):=by
   unfold vin;rcases tf (inR x.Order 0 3)with e|e
   ·simp[e]
   ·rw[e,Yw,Yw,Yw,Yb8,decide_eq_true_eq,Z73];simpa using at_bit (fun u=>pV m1 q.Atoms u && pV m2 q.Atoms u) e
  split
  ·rename_i hc;refine Z3p ?_;simp only[Zvm,e,hc];simp[k4]
  ·rename_i hc;refine Z3p ?_;simp only[Zvm,e];rcases tf (vin q.Atoms m1 x.Order)with e1|e1<;>rcases tf (vin q.Atoms m2 x.Order)with e2|e2<;>by_cases e3:b.Order=x.Order<;>by_cases e4:c.Order=x.Order<;>simp[k4,e1,e2,e3,e4,Zbl];exact hc ⟨e1,e2,e3,e4⟩
 have q3:∀(b:Zb) (c:Zb) (y:Zb) (v:Int) (f:Bool),x.Kind≠4→Zh9 q x ⟨0,0,0,0⟩ b c y v f=some (.tup [.agg (y.c.map .t),I 2],[]):=by
  intro b c y v f k4;exact Z3p (by simp[k4])
 have q5:∀(b:Zb) (c:Zb) (y:Zb) (v:Int),x.Kind≠4→Zj8 q x ⟨0,0,0,0⟩ b c y v=some (.tup [.agg (y.c.map .t),I 2],[]):=by
  intro b c y v k4;exact Zbvd (by simp[k4])
 by_cases kk:x.Kind=3∨x.Kind=4∨x.Kind=5
 rotate_left
 ·have k3:¬x.Kind=3:=fun hc=>kk (.inl hc)
  have k4:¬x.Kind=4:=fun hc=>kk (.inr (.inl hc))
  have k5:¬x.Kind=5:=fun hc=>kk (.inr (.inr hc))
  have hj:∀y z,Zd0 q.Atoms x y z=none:=by intro y z;simp[Zd0,k3,k4,k5]
  refine Yb (b:=some (Zbl x none)) (Zga (by simp[k1,k2,k3,k4,k5,Zbl])) ?_;simp only[hj,Option.map_none,ite_self];split<;>rfl
 have k5':x.Kind≠3→x.Kind≠4→x.Kind=5:=fun a b=>by rcases kk with h|h|h;exact absurd h a;exact absurd h b;exact h
 have red:∀r,Zj7 q x ⟨0,0,0,0⟩ info st st.length x.Kind true=some r→(x.Kind=5→Zj6 q x info st=some r)→Zj6 q x info st=some r:=by
  intro r hr h5;by_cases k5:x.Kind=5
  ·exact h5 k5
  ·refine Zga ?_;by_cases k3:x.Kind=3
   ·rw[if_neg k1,if_neg k2,if_pos k3];exact hr
   ·by_cases k4:x.Kind=4
    ·rw[if_neg k1,if_neg k2,if_neg k3,if_pos k4];exact hr
    ·exact absurd (k5' k3 k4) k5
 by_cases n2:st.length<2
 ·have:Zdf st info 2=none:=by unfold Zdf;rw[if_neg (by omega)]
  rw[this];have n2':(st.length:Int)<2:=by omega
  refine red _ ?_ ?_
  ·exact Zrn (by simp[k0,n2',Zbl])
  ·intro k5;exact Zga (by simp[k5,k0,n2',Zbl])
 have n2':¬(st.length:Int)<2:=by omega
 obtain⟨s,y,t1,t2,t3,t4⟩:=Zi2 hs (by omega:1≤2) (by omega:2≤st.length);obtain⟨t,z,u1,u2,u3,u4⟩:=Zi2 hs (by omega:1≤1) (by omega:1≤st.length);have z1:(0:Int)≤(st.length:Int)-1:=by omega
 have z2:((st.length:Int)-1).toNat=st.length-1:=by omega
 have z3:(0:Int)≤(st.length:Int)-2:=by omega
 have z4:((st.length:Int)-2).toNat=st.length-2:=by omega
 have b1:=Zvl q y.Mask hq (Zo8 h);have b2:=Zvl q z.Mask hq (Zo8 h);have b3:=shr_bits q.Atoms y.Mask z.Mask;rw[t1,u1];simp only;by_cases c1:andI y.Mask z.Mask=0
 rotate_left
 ·rw[if_neg (fun hc=>c1 hc.1)];refine red _ ?_ ?_
  ·refine Zrn ?_;simp only[k0,n2',w1,w2,z1,z2,z3,z4,t2,t3,t4,u2,u3,u4,b1,b2,c1,if_true,if_false,true_and,Ybk,exists_eq_left',Ybz,AV.t.injEq,T.int.injEq,and_true];simp[Zbl]
  ·intro k5;refine Zga ?_;simp only[k5,k0,n2',w1,w2,z1,z2,z3,z4,t2,t3,t4,u2,u3,u4,b1,b2,c1,if_true,if_false,true_and,Ybk,exists_eq_left',Ybz,AV.t.injEq,T.int.injEq,and_true];simp[Zbl]
 rcases tf (shr q.Atoms y.Mask z.Mask)with c2|c2
 ·rw[if_neg (fun hc=>by rw[hc.2]at c2;cases c2)];have c3:=b3.2 c2;refine red _ ?_ ?_
  ·refine Zrn ?_;simp only[k0,n2',w1,w2,z1,z2,z3,z4,t2,t3,t4,u2,u3,u4,b1,b2,c1,c3,if_true,if_false,true_and,Ybk,exists_eq_left',Ybz,AV.t.injEq,T.int.injEq,and_true];simp[Zbl]
  ·intro k5;refine Zga ?_;simp only[k5,k0,n2',w1,w2,z1,z2,z3,z4,t2,t3,t4,u2,u3,u4,b1,b2,c1,c3,if_true,if_false,true_and,Ybk,exists_eq_left',Ybz,AV.t.injEq,T.int.injEq,and_true];simp[Zbl]
 rw[if_pos ⟨c1,c2⟩];have c3:¬andI (Zbg (pV y.Mask q.Atoms)) (Zbg (pV z.Mask q.Atoms))=0:=fun hc=>by rw[b3.1 hc]at c2;cases c2
 have p2:popsI x=2:=by unfold popsI;rw[if_neg k1,if_neg k2]
 refine red _ ?_ ?_
 ·refine Zrn ?_;simp only[k0,n2',w1,w2,z1,z2,z3,z4,t2,t3,t4,u2,u3,u4,b1,b2,c1,c3,if_true,if_false,true_and,Ybk,exists_eq_left',Ybz,AV.t.injEq,T.int.injEq,and_true];by_cases k4:x.Kind=4
  ·have k3:¬x.Kind=3:=by omega
   have k5:¬x.Kind=5:=by omega
   rw[if_pos k4,q0 _ _ _ _ k4];simp only[Zd0,k3,k4,k5,false_and,true_and,if_false];split
   ·rename_i hc;simp[Zbl,p2]
   ·rfl
  ·by_cases e:x.Order=0
   ·by_cases k5:x.Kind=5
    ·rw[if_neg k4,if_pos e,if_pos k5,q5 _ _ _ _ k4];simp[Zd0,k5,e,Zbl,p2]
    ·have k3:x.Kind=3:=by omega
     rw[if_neg k4,if_pos e,if_neg k5,q3 _ _ _ _ _ k4];simp[Zd0,k3,e,Zbl,p2]
   ·rw[if_neg k4,if_neg e];simp[Zd0,k4,e,Zbl]
 ·intro k5;refine Zga ?_;have k4:x.Kind≠4:=by omega
  simp only[k5,k0,n2',w1,w2,z1,z2,z3,z4,t2,t3,t4,u2,u3,u4,b1,b2,c1,c3,if_true,if_false,true_and,Ybk,exists_eq_left',Ybz,AV.t.injEq,T.int.injEq,and_true];by_cases e:x.Order=0
  ·simp[e,q5 _ _ _ _ k4,Zd0,k5,Zbl,p2]
  ·simp[e,Zd0,k5,Zbl]
theorem Zbxz(q:Zd)(hq:LeQ q)(h:Zv q.Zi q.Atoms=true)(p:Plan)(hl:p.Steps.length≤14):∀i,i≤p.Steps.length→∀info st,StOk info st→info.length=i→st.length≤i →
  Zp9 q p info st i=some (match Zb3 q.Atoms (p.Steps.drop i) i info st with
   |some (info',st')=>if st'.length=1 then(.tup [.own 0,Bo true],[.arr Zi4 4 true (info'.map Zb.c)])else(.tup [.own 0,Bo false],[.arr Zi4 4 true []])
   |none=>(.tup [.own 0,Bo false],[.arr Zi4 4 true []])):=by
 refine down _ ?_ ?_
 ·intro info st _ _ _;rw[Ym,Zb3];refine Zbey ?_;by_cases c:st.length=1
  ·simp[c]
  ·have c':¬(st.length:Int)=1:=by omega
   simp[c,c']
 ·intro i hi ih info st hs hil hst;have h5:=Zbf (i:=i) (by omega);have s1:=Zbxy q hq h p.Steps[i] info st hs (by omega) (by omega);rw[Z79 q.Atoms hi];refine Zbey ?_
  cases he:Zc1 q.Atoms p.Steps[i] info st with
  |none =>
   rw[he,Zbl]at s1;have e0:Zj6 q p.Steps[i] info st=some (.tup [.agg ((⟨0,0,0,0⟩:Zb).c.map .t),I (-1)],[]):=s1;rw[if_pos (by omega)];refine⟨by omega,_,Yf hi,_,_,e0,?_⟩
   simp
  |some y =>
   rw[he,Zbl]at s1;obtain⟨f1,f2,f3⟩:=Zyb hs he;rw[f1]at s1;have hn:=Zo9 hs y (st.length-pops y);rw[hil]at hn;have ih:=ih (info++[y]) (st.take (st.length-pops y)++[(i:Int)]) hn (by simp[hil]) (st_len hst _);have w2:w ((st.length:Int)-(pops y:Int))=(st.length:Int)-(pops y:Int):=Zq (by omega) (by omega);have z2:((st.length:Int)-(pops y:Int)).toNat=st.length-pops y:=by omega
   rw[if_pos (by omega)];refine⟨by omega,_,Yf hi,_,_,s1,?_⟩;rw[if_neg (by omega),w2,z2];refine⟨by omega,by omega,by omega,by omega,by omega,?_⟩;rw[show w ((i:Int)+1)=(i:Int)+1 from h5];simpa using ih
@[simp] theorem Znw(q:Zd)(p:Plan)(hq:LeQ q):Zd4 q p=some (match Z8 q.Zi q.Atoms p.Steps with
  |some info=>(.tup [.own 0,Bo true],[.arr Zi4 4 true (info.map Zb.c)])
  |none=>(.tup [.own 0,Bo false],[.arr Zi4 4 true []])):=by
 refine Zbve ?_;have q1:=Zvj q hq;unfold Z8;rcases tf (Zv q.Zi q.Atoms)with e|e
 ·simp[q1,e]
 rcases tf (inR p.Steps.length 1 14)with e2|e2
 ·simp[q1,e,e2]
 ·have e3:=e2;simp[inR]at e3;have b:=Zbxz q hq e p (by omega) 0 (Ya _) [] [] (fun s hs=>by cases hs) rfl (Yc _);simp only[Yk]at b;simp only[q1,e,e2,Zc4,Ybk,Ybz,AV.t.injEq,T.bool.injEq,and_true,exists_eq_left',if_true,and_self];refine Yb b ?_
  cases Zb3 q.Atoms p.Steps 0 [] []with
  |none=>rfl
  |some r=>obtain⟨a,b⟩:=r;simp only;split<;>rfl
theorem Zbx0(q:Zd)(hq:LeQ q)(h:Zv q.Zi q.Atoms=true)(steps:List Ze)(hl:steps.length≤14):∀i,i≤steps.length→∀info st,StOk info st→info.length=i→st.length≤i →
  Zi6 q info st steps steps.length i=some (match Zb3 q.Atoms (steps.drop i) i info st with
   |some (info',st')=>if st'.length=1 then(.tup [.own 0,Bo true],[.arr Zi4 4 true (info'.map Zb.c)])else(.tup [.t .nil,Bo false],[])
   |none=>(.tup [.t .nil,Bo false],[])):=by
 refine down _ ?_ ?_
 ·intro info st _ _ _;rw[Ym,Zb3];refine Zbdd ?_;by_cases c:st.length=1
  ·simp[c]
  ·have c':¬(st.length:Int)=1:=by omega
   simp[c,c']
 ·intro i hi ih info st hs hil hst;have h5:=Zbf (i:=i) (by omega);have s1:=Zbxx q hq h steps[i] info st hs (by omega) (by omega);rw[Z79 q.Atoms hi];refine Zbdd ?_
  cases he:Zc1 q.Atoms steps[i] info st with
  |none =>
   rw[he]at s1;obtain⟨y,s1⟩:=s1;rw[if_pos (by omega)];refine⟨by omega,_,Yf hi,_,_,s1,?_⟩
   simp
  |some y =>
   rw[he]at s1;obtain⟨f1,f2,f3⟩:=Zyb hs he;have hn:=Zo9 hs y (st.length-pops y);rw[hil]at hn;have ih:=ih (info++[y]) (st.take (st.length-pops y)++[(i:Int)]) hn (by simp[hil]) (st_len hst _);rw[if_pos (by omega)];refine⟨by omega,_,Yf hi,_,_,s1,?_⟩;rw[if_pos rfl];refine⟨by omega,?_⟩;simp only;unfold pops at ih f2⊢;rw[show w ((i:Int)+1)=(i:Int)+1 from h5];by_cases r:0≤y.Right
   ·simp only[if_pos r]at ih f2⊢;have w2:w ((st.length:Int)-2)=(st.length:Int)-2:=Zq (by omega) (by omega);have z2:((st.length:Int)-2).toNat=st.length-2:=by omega
    rw[w2,z2];refine⟨by omega,by omega,by omega,by simpa using ih⟩
   ·simp only[if_neg r]at ih f2⊢;by_cases l:0≤y.Left
    ·simp only[if_pos l]at ih f2⊢;have w2:w ((st.length:Int)-1)=(st.length:Int)-1:=Zq (by omega) (by omega);have z2:((st.length:Int)-1).toNat=st.length-1:=by omega
     rw[w2,z2];refine⟨by omega,by omega,by omega,by simpa using ih⟩
    ·simp only[if_neg l]at ih f2⊢;exact⟨by omega,by simpa using ih⟩
@[simp] theorem Znx(q:Zd)(p:Plan)(hq:LeQ q):Zct q p=some (match Z8 q.Zi q.Atoms p.Steps with
  |some info=>(.tup [.own 0,Bo true],[.arr Zi4 4 true (info.map Zb.c)])
  |none=>(.tup [.t .nil,Bo false],[])):=by
 refine Zbti ?_;have q1:=Z3y q hq;unfold Z8;rcases tf (Zv q.Zi q.Atoms)with e|e
 ·simp[q1,e]
 rcases tf (inR p.Steps.length 1 14)with e2|e2
 ·simp[q1,e,e2]
 ·have e3:=e2;simp[inR]at e3;have b:=Zbx0 q hq e p.Steps (by omega) 0 (Ya _) [] [] (fun s hs=>by cases hs) rfl (Yc _);simp only[Yk]at b;simp only[q1,e,e2,Zcv,Ybk,Ybz,AV.t.injEq,T.bool.injEq,and_true,exists_eq_left',if_true,and_self];refine Yb b ?_
  cases Zb3 q.Atoms p.Steps 0 [] []with
  |none=>rfl
  |some r=>obtain⟨a,b⟩:=r;simp only;split<;>rfl
theorem Zbx1(xs:List Int)(v:Int)(hx:Le xs):∀i,i≤xs.length→Zqq xs v i=some (I (Zbk (fun x=>decide (v=x)) (xs.drop i) i),[]):=by
 refine down _ ?_ ?_
 ·refine Zbfb ?_;simp[Zbk]
 ·intro i hi ih;refine Zbfb ?_;have h4:=Zbf (i:=i) (by omega);rw[Zo6 _ hi];simp at ih;by_cases e:v=xs[i]
  ·simp[hi,h4,←e]
  ·have e':¬xs[i]=v:=fun hc=>e hc.symm
   simp[hi,h4,e,e',ih]
@[simp] theorem Zbx2(xs:List Int)(v:Int)(hx:Le xs):Zdr xs v=some (I (Zbk (fun x=>decide (v=x)) xs 0),[]):=by
 refine Zbvz ?_;have:=Zbx1 xs v hx 0 (Ya _);simpa using this
def Zgc:Int→List Zh→Bool
 |_,[]=>true
 |p,s::r=>inR s.From 1 8192 && inR s.Add (-99) 99 && decide (p<s.From) && Zgc s.From r
def Zc5(l:List Zh):Nat→Int
 |0=>0
 |i+1=>match l[i]? with|some s=>s.From|none=>0
def Zdt(n:Int):Bool:=inR n (-99) 99
def Zbp(o:Zm):Bool:=Zdt o.Fixed && Zdt o.Z0 && Zdt o.Z1 && Zdt o.Z2 && Zdt o.Z3 && decide (o.Steps.length≤4) && Zgc 0 o.Steps
theorem Zbgn(p:Int){l:List Zh}{i:Nat}(h:i<l.length):Zgc p (l.drop i)=(inR l[i].From 1 8192 && inR l[i].Add (-99) 99 && decide (p<l[i].From) && Zgc l[i].From (l.drop (i+1))):=by
 rw[Yg h,Zgc]
@[simp] theorem Zbx3(n:Int):Zf6 n=some (Bo (Zdt n),[]):=by
 refine Zbwc ?_;simp[Zdt]
theorem Zbx4(o:Zm)(hl:Le o.Steps):∀i,i≤o.Steps.length→Zkl o i=some (Bo (Zgc (Zc5 o.Steps i) (o.Steps.drop i)),[]):=by
 refine down _ ?_ ?_
 ·refine Zbfv ?_;simp[Zgc]
 ·intro i hi ih;refine Zbfv ?_;have h4:=Zbf (i:=i) (by omega);rw[Zbgn _ hi];have pn:Zc5 o.Steps (i+1)=o.Steps[i].From:=by simp[Zc5,Yf hi]
  rw[pn]at ih;simp only[Y8,Y9]at ih;rw[if_pos (by omega)];refine⟨by omega,o.Steps[i],by rw[Yh];exact Yf hi,_,Zc4 _ _ _,?_⟩;rcases tf (inR o.Steps[i].From 1 8192)with e1|e1
  ·rw[e1];simp
  rw[e1,if_pos rfl];refine⟨_,Zbx3 _,?_⟩;unfold Zdt;rcases tf (inR o.Steps[i].Add (-99) 99)with e2|e2
  ·rw[e2];simp
  rw[e2,if_pos rfl,show w ((i:Int)+1)=(i:Int)+1 from h4]
  cases i with
  |zero =>
   rw[if_neg (by omega),ih];have:Zc5 o.Steps 0<o.Steps[0].From:=by simp[inR]at e1;simp[Zc5];omega
   simp[this]
  |succ j =>
   have hj:j<o.Steps.length:=by omega
   have w2:w (((j+1:Nat):Int)-1)=j:=by rw[show((j+1:Nat):Int)-1=j by omega];exact Zq (by omega) (by omega)
   have pj:Zc5 o.Steps (j+1)=o.Steps[j].From:=by simp[Zc5,Yf hj]
   rw[if_pos (by omega),w2,pj];refine⟨by omega,o.Steps[j],by rw[Yh];exact Yf hj,?_⟩;by_cases e3:o.Steps[j+1].From≤o.Steps[j].From
   ·rw[if_pos e3,decide_eq_false (by omega)];simp
   ·rw[if_neg e3,decide_eq_true (by omega),ih];simp
@[simp] theorem Zrs(o:Zm)(hl:Le o.Steps):Zif o=some (Bo (Zbp o),[]):=by
 refine Zbwd ?_;have b:=Zbx4 o hl 0 (Ya _);simp only[Zc5,Yk,Int.ofNat_zero]at b;have b:Zkl o 0=_:=b;unfold Zbp;rcases tf (Zdt o.Fixed)with e1|e1
 ·simp[e1]
 rcases tf (Zdt o.Z0)with e2|e2
 ·simp[e1,e2]
 rcases tf (Zdt o.Z1)with e3|e3
 ·simp[e1,e2,e3]
 rcases tf (Zdt o.Z2)with e4|e4
 ·simp[e1,e2,e3,e4]
 rcases tf (Zdt o.Z3)with e5|e5
 ·simp[e1,e2,e3,e4,e5]
 by_cases e6:o.Steps.length≤4
 ·have e7:¬(4:Int)<o.Steps.length:=by omega
  simp[e1,e2,e3,e4,e5,e6,e7,b]
 ·have e7:(4:Int)<o.Steps.length:=by omega
  simp[e1,e2,e3,e4,e5,e6,e7]
theorem Zbx5(o:Zm)(hl:Le o.Steps):∀i,i≤o.Steps.length→Zhx o o.Steps o.Steps.length i=some (Bo (Zgc (Zc5 o.Steps i) (o.Steps.drop i) && decide (o.Steps.length≤4)),[]):=by
 refine down _ ?_ ?_
 ·refine Zbef ?_;rw[if_neg (by omega)];by_cases e:o.Steps.length≤4
  ·simp[Zgc,e];omega
  ·simp[Zgc,e];omega
 ·intro i hi ih;refine Zbef ?_;have h4:=Zbf (i:=i) (by omega);rw[Zbgn _ hi];have pn:Zc5 o.Steps (i+1)=o.Steps[i].From:=by simp[Zc5,Yf hi]
  rw[pn]at ih;simp only[Y8,Y9]at ih;rw[if_pos (by omega)];refine⟨by omega,o.Steps[i],by rw[Yh];exact Yf hi,_,Zcv _ _ _,?_⟩;rcases tf (inR o.Steps[i].Add (-99) 99)with e2|e2
  ·rw[e2];simp
  rw[e2,if_pos rfl];refine⟨_,Zcv _ _ _,?_⟩;rcases tf (inR o.Steps[i].From 1 8192)with e1|e1
  ·rw[e1];simp
  rw[e1,if_pos rfl,show w ((i:Int)+1)=(i:Int)+1 from h4]
  cases i with
  |zero =>
   rw[if_neg (by omega),ih];have:Zc5 o.Steps 0<o.Steps[0].From:=by simp[inR]at e1;simp[Zc5];omega
   simp[this]
  |succ j =>
   have hj:j<o.Steps.length:=by omega
   have w2:w (((j+1:Nat):Int)-1)=j:=by rw[show((j+1:Nat):Int)-1=j by omega];exact Zq (by omega) (by omega)
   have pj:Zc5 o.Steps (j+1)=o.Steps[j].From:=by simp[Zc5,Yf hj]
   rw[if_pos (by omega),w2,pj];refine⟨by omega,o.Steps[j],by rw[Yh];exact Yf hj,?_⟩;by_cases e3:o.Steps[j+1].From≤o.Steps[j].From
   ·rw[if_pos e3,decide_eq_false (by omega)];simp
   ·rw[if_neg e3,decide_eq_true (by omega),ih];simp
@[simp] theorem Zc6(o:Zm)(hl:Le o.Steps):Zb9 o=some (Bo (Zbp o),[]):=by
 refine Zbuq ?_;have hc:Zuc o=some (.bsl 1 5,[.box (o.c.map .t),.box [.ptr 0 0,.ptr 0 1,.ptr 0 2,.ptr 0 3,.ptr 0 4]]):=Zbup rfl;refine⟨hc,?_⟩;have b:=Zbx5 o hl 0 (Ya _);simp only[Zc5,Yk]at b;have b:Zhx o o.Steps o.Steps.length 0=_:=b;have w1:w (0+1)=1:=by decide
 have w2:w (1+1)=2:=by decide
 have w3:w (2+1)=3:=by decide
 have w4:w (3+1)=4:=by decide
 have w5:w (4+1)=5:=by decide
 unfold Zbp Zdt;refine Zns ?_;rw[if_pos (by omega),if_pos rfl];refine⟨_,Zcv _ _ _,?_⟩;rcases tf (inR o.Fixed (-99) 99)with e1|e1
 ·rw[e1];simp
 rw[e1,if_pos rfl,w1];refine Zns ?_;rw[if_pos (by omega),if_neg (by omega),if_pos rfl];refine⟨_,Zcv _ _ _,?_⟩;rcases tf (inR o.Z0 (-99) 99)with e2|e2
 ·rw[e2];simp
 rw[e2,if_pos rfl,w2];refine Zns ?_;rw[if_pos (by omega),if_neg (by omega),if_neg (by omega),if_pos rfl];refine⟨_,Zcv _ _ _,?_⟩;rcases tf (inR o.Z1 (-99) 99)with e3|e3
 ·rw[e3];simp
 rw[e3,if_pos rfl,w3];refine Zns ?_;rw[if_pos (by omega),if_neg (by omega),if_neg (by omega),if_neg (by omega),if_pos rfl];refine⟨_,Zcv _ _ _,?_⟩;rcases tf (inR o.Z2 (-99) 99)with e4|e4
 ·rw[e4];simp
 rw[e4,if_pos rfl,w4];refine Zns ?_;rw[if_pos (by omega),if_neg (by omega),if_neg (by omega),if_neg (by omega),if_neg (by omega),if_pos rfl];refine⟨_,Zcv _ _ _,?_⟩;rcases tf (inR o.Z3 (-99) 99)with e5|e5
 ·rw[e5];simp
 rw[e5,if_pos rfl,w5];refine Zns ?_;rw[if_neg (by omega),b];simp[Bool.and_comm]
def Zny(o:Zm)(l r n:Int):Int:=w (w (w (w (o.Fixed+w (o.Z0*l))+w (o.Z1*r))+w (o.Z2*n))+w (w (o.Z3*l)*r))
def Zku(l r n:Int)(s:Zh):Int:=if s.From≤w (l+r)then w (n+s.Add)else n
def Znz(o:Zm)(l r n:Int):Int:=o.Steps.foldl (Zku l r) (Zny o l r n)
def Zd6(o:Zm)(l r n:Int):Int:=if(Zbp o && inR l 0 4096 && inR r 0 4096 && inR n 0 4096)=true then Znz o l r n else 0
theorem Zbx6(l r:Int)(st:List Zh)(hl:Le st):∀i,i≤st.length→∀n,Zju l r n st st.length i=some (I ((st.drop i).foldl (Zku l r) n),[]):=by
 refine down _ ?_ ?_
 ·intro n;refine Zbej ?_;simp
 ·intro i hi ih n;refine Zbej ?_;have h4:=Zbf (i:=i) (by omega);rw[Yg hi,List.foldl_cons];simp only[Y8,Y9]at ih;by_cases e:st[i].From≤w (l+r)
  ·simp[hi,h4,e,ih,Zku]
  ·simp[hi,h4,e,ih,Zku]
@[simp] theorem Zbx7(o:Zm)(hl:Le o.Steps)(l r n:Int):Zhy o l r n=some (I (Znz o l r n),[]):=by
 refine Zbut ?_;have b:=Zbx6 l r o.Steps hl 0 (Ya _) (Zny o l r n);simpa[Znz,Zny]using b
@[simp] theorem Zrt(o:Zm)(hl:Le o.Steps)(l r n:Int):Zd1 o l r n=some (I (Zd6 o l r n),[]):=by
 refine Zbu1 ?_;unfold Zd6;rcases tf (Zbp o)with e1|e1<;>rcases tf (inR l 0 4096)with e2|e2<;>rcases tf (inR r 0 4096)with e3|e3<;>rcases tf (inR n 0 4096)with e4|e4<;>simp[hl,e1,e2,e3,e4]
theorem Zbx8(o:Zm)(l r:Int)(hl:Le o.Steps):∀i,i≤o.Steps.length→∀n,Zkm o l r n i=some (I ((o.Steps.drop i).foldl (Zku l r) n),[]):=by
 refine down _ ?_ ?_
 ·intro n;refine Zbfw ?_;simp
 ·intro i hi ih n;refine Zbfw ?_;have h4:=Zbf (i:=i) (by omega);rw[Yg hi,List.foldl_cons];simp only[Y8,Y9]at ih;by_cases e:o.Steps[i].From≤w (l+r)
  ·simp[hi,h4,e,ih,Zku]
  ·simp[hi,h4,e,ih,Zku]
@[simp] theorem Zvn(o:Zm)(hl:Le o.Steps)(l r n:Int):Zg2 o l r n=some (I (Zd6 o l r n),[]):=by
 refine Zbwg ?_;have b:=Zbx8 o l r hl 0 (Ya _) (Zny o l r n);simp only[Yk,Zny]at b;have b:Zkm o l r _ 0=_:=b;unfold Zd6;rcases tf (Zbp o)with e1|e1<;>rcases tf (inR l 0 4096)with e2|e2<;>rcases tf (inR r 0 4096)with e3|e3<;>rcases tf (inR n 0 4096)with e4|e4<;>simp[hl,e1,e2,e3,e4,b,Znz,Zny]
end Go.Proofs.YtgnfoghkbpkgjaaGreat
