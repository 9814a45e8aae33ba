/-
  Parts of the proofs for this seat: G4 G5 G6 G7 G8 G9 G10 G11 G12 G13 G14 SN2.
-/
import Derived.Test.YtgnfoghkbpkgjaaGreatP7
import Derived.Test.YtgnfoghkbpkgjaaGreatP9
set_option linter.unusedSimpArgs false
set_option linter.unusedVariables false
set_option maxRecDepth 100000
set_option maxHeartbeats 4000000
namespace Go.Proofs.YtgnfoghkbpkgjaaGreat
open Go.AM
theorem Zcu:(∀ fr data x a i j r,Im (Zh6 fr data x a i j=some r) (if i<j then (0≤(w (shrI (IntKind.wrap .u64 (w (i+j))) 1))∧(∃ e1,data[(w (shrI (IntKind.wrap .u64 (w (i+j))) 1)).toNat]?=some e1∧(0≤a∧(∃ e2,data[a.toNat]?=some e2∧(∃ v6 v7,Zeu x e1 e2=some (I v7,[.box [I v6]])∧(if v7<0 then (Zh6 fr data v6 a (w ((w (shrI (IntKind.wrap .u64 (w (i+j))) 1))+1)) j=some r) else (Zh6 fr data v6 a i (w (shrI (IntKind.wrap .u64 (w (i+j))) 1))=some r))))))) else (Zk9 fr data x i a=some r))) ∧
 (∀ fr data x m i j r,Im (Zh7 fr data x m i j=some r) (if i<j then (0≤m∧(∃ e1,data[m.toNat]?=some e1∧(0≤(w (shrI (IntKind.wrap .u64 (w (i+j))) 1))∧(∃ e2,data[(w (shrI (IntKind.wrap .u64 (w (i+j))) 1)).toNat]?=some e2∧(∃ v6 v7,Zeu x e1 e2=some (I v7,[.box [I v6]])∧(if v7<0 then (Zh7 fr data v6 m i (w (shrI (IntKind.wrap .u64 (w (i+j))) 1))=some r) else (Zh7 fr data v6 m (w ((w (shrI (IntKind.wrap .u64 (w (i+j))) 1))+1)) j=some r))))))) else (Zla fr data x i m=some r))) ∧
 (∀ fr data x a m b mid n start r_1 p r,Im (Zf5 fr data x a m b mid n start r_1 p=some r) (if start<r_1 then (0≤(w (p - (w (shrI (IntKind.wrap .u64 (w (start+r_1))) 1))))∧(∃ e1,data[(w (p - (w (shrI (IntKind.wrap .u64 (w (start+r_1))) 1)))).toNat]?=some e1∧(0≤(w (shrI (IntKind.wrap .u64 (w (start+r_1))) 1))∧(∃ e2,data[(w (shrI (IntKind.wrap .u64 (w (start+r_1))) 1)).toNat]?=some e2∧(∃ v6 v7,Zeu x e1 e2=some (I v7,[.box [I v6]])∧(if v7<0 then (Zf5 fr data v6 a m b mid n start (w (shrI (IntKind.wrap .u64 (w (start+r_1))) 1)) p=some r) else (Zf5 fr data v6 a m b mid n (w ((w (shrI (IntKind.wrap .u64 (w (start+r_1))) 1))+1)) r_1 p=some r))))))) else (if start<m then (if m<(w (n - start)) then (∃ v8,∃ (v9:List (List Int)),∃ v10,Zk8 fr data x start m (w (n - start))=some (.tup [],[.arr 30 1 v8 (v9.map isc),.box [I v10]])∧(if a<start then (if start<mid then (∃ v11,∃ (v12:List (List Int)),∃ v13,Zde v8 v9 v10 a start mid=some (.tup [],[.arr 30 1 v11 (v12.map isc),.box [I v13]])∧(Zf6 v11 v12 v13 b mid (w (n - start))=some r)) else (Zef v8 v9 v10 a b mid start (w (n - start)) false=some r)) else (Zef v8 v9 v10 a b mid start (w (n - start)) false=some r))) else (Zlb fr data x a m b mid start (w (n - start)) false=some r)) else (Zlb fr data x a m b mid start (w (n - start)) false=some r)))) ∧
 (∀ fr data x i k r,Im (Zk9 fr data x i k=some r) (if k<(w (i - 1)) then (0≤(w (k+1))∧(∃ e1,data[(w (k+1)).toNat]?=some e1∧(0≤k∧(∃ e2,data[k.toNat]?=some e2∧(∃ e3,(data.set k.toNat e1)[(w (k+1)).toNat]?=some e3∧(Zk9 false ((data.set k.toNat e1).set ((w (k+1)).toNat) e2) x i (w (k+1))=some r)))))) else (some (.tup [],[.arr 30 1 fr (data.map isc),.box [I x]])=some r))) ∧
 (∀ fr data x i k r,Im (Zla fr data x i k=some r) (if i<k then (0≤(w (k - 1))∧(∃ e1,data[(w (k - 1)).toNat]?=some e1∧(0≤k∧(∃ e2,data[k.toNat]?=some e2∧(∃ e3,(data.set k.toNat e1)[(w (k - 1)).toNat]?=some e3∧(Zla false ((data.set k.toNat e1).set ((w (k - 1)).toNat) e2) x i (w (k - 1))=some r)))))) else (some (.tup [],[.arr 30 1 fr (data.map isc),.box [I x]])=some r))) ∧
 (∀ fr data x b mid x1 r,Im (Zf6 fr data x b mid x1=some r) (if mid<x1 then (if x1<b then (∃ v,∃ (v1:List (List Int)),∃ v2,Zde fr data x mid x1 b=some (.tup [],[.arr 30 1 v (v1.map isc),.box [I v2]])∧(some (.tup [],[.arr 30 1 v (v1.map isc),.box [I v2]])=some r)) else (some (.tup [],[.arr 30 1 fr (data.map isc),.box [I x]])=some r)) else (some (.tup [],[.arr 30 1 fr (data.map isc),.box [I x]])=some r))) ∧
 (∀ fr data x a b mid start x1 x2 r,Im (Zef fr data x a b mid start x1 x2=some r) (if mid<x1 then (if x1<b then (∃ v,∃ (v1:List (List Int)),∃ v2,Zde fr data x mid x1 b=some (.tup [],[.arr 30 1 v (v1.map isc),.box [I v2]])∧(some (.tup [],[.arr 30 1 v (v1.map isc),.box [I v2]])=some r)) else (some (.tup [],[.arr 30 1 fr (data.map isc),.box [I x]])=some r)) else (some (.tup [],[.arr 30 1 fr (data.map isc),.box [I x]])=some r))) ∧
 (∀ fr data x a m b mid start x1 x2 r,Im (Zlb fr data x a m b mid start x1 x2=some r) (if a<start then (if start<mid then (∃ v,∃ (v1:List (List Int)),∃ v2,Zde fr data x a start mid=some (.tup [],[.arr 30 1 v (v1.map isc),.box [I v2]])∧(Zf6 v v1 v2 b mid x1=some r)) else (Zef fr data x a b mid start x1 false=some r)) else (Zef fr data x a b mid start x1 false=some r))) ∧
 (∀ fr x x1 a a1 a2 r,Im (Zde fr x x1 a a1 a2=some r) (if (w (a1 - a))=1 then (Zh6 fr x x1 a a1 a2=some r) else (if (w (a2 - a1))=1 then (Zh7 fr x x1 a1 a a1=some r) else (if (w (shrI (IntKind.wrap .u64 (w (a+a2))) 1))<a1 then (Zf5 fr x x1 a a1 a2 (w (shrI (IntKind.wrap .u64 (w (a+a2))) 1)) (w ((w (shrI (IntKind.wrap .u64 (w (a+a2))) 1))+a1)) (w ((w ((w (shrI (IntKind.wrap .u64 (w (a+a2))) 1))+a1)) - a2)) (w (shrI (IntKind.wrap .u64 (w (a+a2))) 1)) (w ((w ((w (shrI (IntKind.wrap .u64 (w (a+a2))) 1))+a1)) - 1))=some r) else (Zf5 fr x x1 a a1 a2 (w (shrI (IntKind.wrap .u64 (w (a+a2))) 1)) (w ((w (shrI (IntKind.wrap .u64 (w (a+a2))) 1))+a1)) a a1 (w ((w ((w (shrI (IntKind.wrap .u64 (w (a+a2))) 1))+a1)) - 1))=some r))))) ∧
 (∀ fr data x n blockSize a b r,Im (Zh8 fr data x n blockSize a b=some r) (if b≤n then (∃ v,∃ (v1:List (List Int)),∃ v2,Zh4 fr data x a b=some (.tup [],[.arr 30 1 v (v1.map isc),.box [I v2]])∧(Zh8 v v1 v2 n blockSize b (w (b+blockSize))=some r)) else (∃ v3,∃ (v4:List (List Int)),∃ v5,Zh4 fr data x a n=some (.tup [],[.arr 30 1 v3 (v4.map isc),.box [I v5]])∧(Zf7 v3 v4 v5 n blockSize=some r)))) ∧
 (∀ fr data x n blockSize r,Im (Zf7 fr data x n blockSize=some r) (if blockSize<n then (Zlc fr data x n blockSize 0 (w (2*blockSize))=some r) else (some (.tup [],[.arr 30 1 fr (data.map isc),.box [I x]])=some r))) ∧
 (∀ fr data x n blockSize a b r,Im (Zlc fr data x n blockSize a b=some r) (if b≤n then (∃ v,∃ (v1:List (List Int)),∃ v2,Zde fr data x a (w (a+blockSize)) b=some (.tup [],[.arr 30 1 v (v1.map isc),.box [I v2]])∧(Zlc v v1 v2 n blockSize b (w (b+(w (2*blockSize))))=some r)) else (if (w (a+blockSize))<n then (∃ v3,∃ (v4:List (List Int)),∃ v5,Zde fr data x a (w (a+blockSize)) n=some (.tup [],[.arr 30 1 v3 (v4.map isc),.box [I v5]])∧(Zf7 v3 v4 v5 n (w (blockSize*2))=some r)) else (Zf7 fr data x n (w (blockSize*2))=some r)))):=by
 and_intros
 all_goals intros
 all_goals unfold Im
 all_goals try simp only [Zh6,Zh7,Zf5,Zk9,Zla,Zde,Zh8,Zf7,Zlc,Zeu,Zk8,Zh4,Zf6,Zef,Zlb,mpl,dfs]
 all_goals try simp only [itb]
 all_goals try simp only [itf,gS,kk]
 all_goals repeat' first | refine exI fun _=>?_ | refine anJ fun _ _=>?_ | refine anI fun _=>?_ | refine orE2 ?_ ?_ | exact False.elim
 all_goals (intro h;first | rw [EvL_eq Zta.eq_1] | rw [EvL_eq Zte.eq_1] | rw [EvL_eq Zti.eq_1] | rw [EvL_eq Ztb.eq_1] | rw [EvL_eq Ztf.eq_1] | rw [Ev_eq Zom.eq_1] | rw [Ev_eq Zon.eq_1] | refine runM Zbe7 rfl ?_ | rw [EvL_eq Ztk.eq_1] | rw [EvL_eq Zoq.eq_1] | rw [EvL_eq Ztl.eq_1])
 all_goals (refine Eq.trans ?_ h;clear h;simp +decide [*,kk,tI,tII,-List.map_set,setI,Zpy,Ztd,Zth,Zon,Ztj,Ztc,Ztg,Z0r,Zop,Z0q,Zoo,Ztn,Z0s,Ztm])
abbrev Zwp:=Zcu.1
abbrev Zwq:=Zcu.2.1
abbrev Zmz:=Zcu.2.2.1
abbrev Z4k:=Zcu.2.2.2.1
abbrev Z4l:=Zcu.2.2.2.2.1
abbrev Z4m:=Zcu.2.2.2.2.2.1
abbrev Z4n:=Zcu.2.2.2.2.2.2.1
abbrev Z4o:=Zcu.2.2.2.2.2.2.2.1
abbrev Zp0:=Zcu.2.2.2.2.2.2.2.2.1
abbrev Z4p:=Zcu.2.2.2.2.2.2.2.2.2.1
abbrev Z4q:=Zcu.2.2.2.2.2.2.2.2.2.2.1
abbrev Zwr:=Zcu.2.2.2.2.2.2.2.2.2.2.2
theorem Zhd:(∀ x x1 a r,Im (Zto x x1 a=some r) (Zh8 true x x1 a 20 0 20=some r)) ∧
 (∀ x x1 r,Im (Zor x x1=some r) (∃ v,∃ (v1:List (List Int)),∃ v2,Zto x x1 (x.length:Int)=some (.tup [],[.arr 30 1 v (v1.map isc),.box [I v2]])∧(some (.tup [],[.arr 30 1 v (v1.map isc),.box [I v2]])=some r))) ∧
 (∀ a a1 r,Im (Zh9 a a1=some r) (∃ v,Zbr a.Vars a1=some (I v,[])∧(if v<0 then (some (.tup [.agg [.t .nil,.t .nil],Bo false],[])=some r) else (∃ v3,Zb3 a=some (Bo v3,[])∧(if v3=true then (∃ (v4:List Int),Zb2 a.Vars=some (.own 0,[.arr 3 1 true (v4.map ic)])∧(∃ (v5:List (List Int)),Zes a.Rows=some (.own 0,[.arr 30 1 true (v5.map isc)])∧(∃ v6,∃ (v7:List (List Int)),∃ v8,Zor v5 v=some (.tup [],[.arr 30 1 v6 (v7.map isc),.box [I v8]])∧(some (.tup [.agg [.own 0,.own 1],Bo true],[.arr 3 1 true (v4.map ic),.arr 30 1 v6 (v7.map isc)])=some r)))) else (some (.tup [.agg [.t .nil,.t .nil],Bo false],[])=some r)))))) ∧
 (∀ a a1 r,Im (Zf8 a a1=some r) (∃ (v:List Int),Zb2 a.Vars=some (.own 0,[.arr 3 1 true (v.map ic)])∧(v.length+a1.Vars.length≤68719476736∧(∃ (v3:List Int),Zfy (v++a1.Vars)=some (.tup [],[.arr 3 1 true (v3.map ic)])∧(∃ (v4:List Int),Zos v3=some (.own 1,[.dead,.arr 3 1 true (v4.map ic)])∧(some (.ptr 0 0,[.box [L 1 (a.Vars.map ic),L 1 (a.Rows.map isc),L 1 (a1.Vars.map ic),L 1 (a1.Rows.map isc),.own 1,.t .nil],.arr 3 1 true (v4.map ic)])=some r)))))) ∧
 (∀ a b x row x1 y x2 x3 r,Im (Zf9 a b x row x1 y x2 x3=some r) (if x3<x2 then (0≤x3∧(∃ e1,x[x3.toNat]?=some e1∧(∃ v3,Zbr a.Vars e1=some (I v3,[])∧(∃ v4,Zbr b.Vars e1=some (I v4,[])∧(if v3<0 then (0≤v4∧(∃ e4,y[v4.toNat]?=some e4∧(row.length+1≤68719476736∧(Zf9 a b x (row++[e4]) x1 y x2 (w (x3+1))=some r)))) else (if 0≤v4 then (0≤v3∧(∃ e5,x1[v3.toNat]?=some e5∧(∃ e6,y[v4.toNat]?=some e6∧(if e5=e6 then (row.length+1≤68719476736∧(Zf9 a b x (row++[e5]) x1 y x2 (w (x3+1))=some r)) else (some (.tup [],[.box [L 1 (a.Vars.map ic),L 1 (a.Rows.map isc),L 1 (b.Vars.map ic),L 1 (b.Rows.map isc),.own 1,.t .nil],.arr 3 1 true (x.map ic)])=some r))))) else (0≤v3∧(∃ e7,x1[v3.toNat]?=some e7∧(row.length+1≤68719476736∧(Zf9 a b x (row++[e7]) x1 y x2 (w (x3+1))=some r)))))))))) else (some (.tup [],[.box [L 1 (a.Vars.map ic),L 1 (a.Rows.map isc),L 1 (b.Vars.map ic),L 1 (b.Rows.map isc),.own 1,.own 2],.arr 3 1 true (x.map ic),.arr 30 1 true (([row]).map isc)])=some r))) ∧
 (∀ a b x a1 a2 r,Im (Zeg a b x a1 a2=some r) (Zf9 a b x ([]:List Int) a1 a2 (x.length:Int) 0=some r)) ∧
 (∀ a b x r,Im (Zia a b x=some r) (some (.tup [.agg [.own 1,.t .nil],Bo true],[.box [L 1 (a.Vars.map ic),L 1 (a.Rows.map isc),L 1 (b.Vars.map ic),L 1 (b.Rows.map isc),.own 1,.t .nil],.arr 3 1 true (x.map ic)])=some r)):=by
 and_intros
 all_goals intros
 all_goals unfold Im
 all_goals try simp only [Zto,Zor,Zh9,Zf8,Zf9,Zeg,Zia,Zbr,Zb3,Zb2,Zes,Za.c_def,Zfy,Zos,Zh8,mpl,dfs]
 all_goals try simp only [itb]
 all_goals try simp only [itf,gS,kk]
 all_goals repeat' first | refine exI fun _=>?_ | refine anJ fun _ _=>?_ | refine anI fun _=>?_ | refine orE2 ?_ ?_ | exact False.elim
 all_goals (intro h;first | refine runM Zbe8 rfl ?_ | refine runM Zbe9 rfl ?_ | refine run Zbfa rfl ?_ | refine run Zbfb rfl ?_ | rw [EvL_eq Zld.eq_1] | refine runM Z3s rfl ?_ | refine runM Z3t rfl ?_)
 all_goals (refine Eq.trans ?_ h;clear h;simp +decide [*,kk,tI,tII,-List.map_set,setI,Zpy,Z0t,Z0u,Z0v,Z0w,Ztp,Zle,Ztq,Ztr])
abbrev Zbiw:=Zhd.1
abbrev Zbix:=Zhd.2.1
abbrev Zbiy:=Zhd.2.2.1
abbrev Zbiz:=Zhd.2.2.2.1
abbrev Z4r:=Zhd.2.2.2.2.1
abbrev Zbi0:=Zhd.2.2.2.2.2.1
abbrev Z4s:=Zhd.2.2.2.2.2.2
theorem Zcv:(∀ a b x x1 row x2 y x3 x4 r,Im (Zga a b x x1 row x2 y x3 x4=some r) (if x4<x3 then (0≤x4∧(∃ e1,x[x4.toNat]?=some e1∧(∃ v1,Zbr a.Vars e1=some (I v1,[])∧(∃ v5,Zbr b.Vars e1=some (I v5,[])∧(if v1<0 then (0≤v5∧(∃ e4,y[v5.toNat]?=some e4∧(row.length+1≤68719476736∧(Zga a b x x1 (row++[e4]) x2 y x3 (w (x4+1))=some r)))) else (if 0≤v5 then (0≤v1∧(∃ e5,x2[v1.toNat]?=some e5∧(∃ e6,y[v5.toNat]?=some e6∧(if e5=e6 then (row.length+1≤68719476736∧(Zga a b x x1 (row++[e5]) x2 y x3 (w (x4+1))=some r)) else (some (.tup [],[.box [L 1 (a.Vars.map ic),L 1 (a.Rows.map isc),L 1 (b.Vars.map ic),L 1 (b.Rows.map isc),.own 1,.own 2],.arr 3 1 true (x.map ic),.arr 30 1 true (x1.map isc)])=some r))))) else (0≤v1∧(∃ e7,x2[v1.toNat]?=some e7∧(row.length+1≤68719476736∧(Zga a b x x1 (row++[e7]) x2 y x3 (w (x4+1))=some r)))))))))) else (x1.length+1≤68719476736∧(some (.tup [],[.box [L 1 (a.Vars.map ic),L 1 (a.Rows.map isc),L 1 (b.Vars.map ic),L 1 (b.Rows.map isc),.own 1,.own 3],.arr 3 1 true (x.map ic),.dead,.arr 30 1 true ((x1++[row]).map isc)])=some r)))) ∧
 (∀ a b x x1 a1 a2 r,Im (Zev a b x x1 a1 a2=some r) (Zga a b x x1 ([]:List Int) a1 a2 (x.length:Int) 0=some r)) ∧
 (∀ a b x x1 r,Im (Zdf a b x x1=some r) (if 4096<(x1.length:Int) then (some (.tup [.agg [.t .nil,.t .nil],Bo false],[.box [L 1 (a.Vars.map ic),L 1 (a.Rows.map isc),L 1 (b.Vars.map ic),L 1 (b.Rows.map isc),.own 1,.own 2],.arr 3 1 true (x.map ic),.arr 30 1 true (x1.map isc)])=some r) else (some (.tup [.agg [.own 1,.own 2],Bo true],[.box [L 1 (a.Vars.map ic),L 1 (a.Rows.map isc),L 1 (b.Vars.map ic),L 1 (b.Rows.map isc),.own 1,.own 2],.arr 3 1 true (x.map ic),.arr 30 1 true (x1.map isc)])=some r))) ∧
 (∀ a a1 b x x1 x2 x3 r,Im (Zlf a a1 b x x1 x2 x3=some r) (if x3<x2 then (0≤x3∧(∃ e1,x1[x3.toNat]?=some e1∧(Zlg a a1 b x e1 x1 x2 x3 a.Rows (a.Rows.length:Int) 0=some r))) else (Zia a1 b x=some (.tup [.agg [.own 1,.t .nil],Bo true],[.box [L 1 (a1.Vars.map ic),L 1 (a1.Rows.map isc),L 1 (b.Vars.map ic),L 1 (b.Rows.map isc),.own 1,.t .nil],.arr 3 1 true (x.map ic)])∧(some (.tup [.agg [.own 0,.t .nil],Bo true],[.arr 3 1 true (x.map ic)])=some r)))) ∧
 (∀ a a1 b x y x1 x2 x3 x4 x5 x6 r,Im (Zlg a a1 b x y x1 x2 x3 x4 x5 x6=some r) (if x6<x5 then (0≤x6∧(∃ e1,x4[x6.toNat]?=some e1∧((∃ (v1:Za) (v2:Za) (v3:List Int),Zeg a1 b x e1 y=some (.tup [],[.box [L 1 (v1.Vars.map ic),L 1 (v1.Rows.map isc),L 1 (v2.Vars.map ic),L 1 (v2.Rows.map isc),.own 1,.t .nil],.arr 3 1 true (v3.map ic)])∧(Zlg a v1 v2 v3 y x1 x2 x3 x4 x5 (w (x6+1))=some r))∨(∃ (v5:Za) (v6:Za) (v7:List Int) (v8:List (List Int)),Zeg a1 b x e1 y=some (.tup [],[.box [L 1 (v5.Vars.map ic),L 1 (v5.Rows.map isc),L 1 (v6.Vars.map ic),L 1 (v6.Rows.map isc),.own 1,.own 2],.arr 3 1 true (v7.map ic),.arr 30 1 true (v8.map isc)])∧(Zgc a v5 v6 v7 v8 y x1 x2 x3 x4 x5 (w (x6+1))=some r))))) else (Zlf a a1 b x x1 x2 (w (x3+1))=some r))) ∧
 (∀ a a1 b x x1 y x2 x3 x4 x5 x6 x7 r,Im (Zgc a a1 b x x1 y x2 x3 x4 x5 x6 x7=some r) (if x7<x6 then (0≤x7∧(∃ e1,x5[x7.toNat]?=some e1∧((∃ (v1:Za) (v2:Za) (v3:List Int) (v4:List (List Int)),Zev a1 b x x1 e1 y=some (.tup [],[.box [L 1 (v1.Vars.map ic),L 1 (v1.Rows.map isc),L 1 (v2.Vars.map ic),L 1 (v2.Rows.map isc),.own 1,.own 2],.arr 3 1 true (v3.map ic),.arr 30 1 true (v4.map isc)])∧(Zgc a v1 v2 v3 v4 y x2 x3 x4 x5 x6 (w (x7+1))=some r))∨(∃ (v5:Za) (v6:Za) (v7:List Int) (v8:List (List Int)),Zev a1 b x x1 e1 y=some (.tup [],[.box [L 1 (v5.Vars.map ic),L 1 (v5.Rows.map isc),L 1 (v6.Vars.map ic),L 1 (v6.Rows.map isc),.own 1,.own 3],.arr 3 1 true (v7.map ic),.dead,.arr 30 1 true (v8.map isc)])∧(Zgc a v5 v6 v7 v8 y x2 x3 x4 x5 x6 (w (x7+1))=some r))))) else (if 4096<(x1.length:Int) then ((Zdf a1 b x x1=some (.tup [.agg [.t .nil,.t .nil],Bo false],[.box [L 1 (a1.Vars.map ic),L 1 (a1.Rows.map isc),L 1 (b.Vars.map ic),L 1 (b.Rows.map isc),.own 1,.own 2],.arr 3 1 true (x.map ic),.arr 30 1 true (x1.map isc)])∧(some (.tup [.agg [.t .nil,.t .nil],Bo false],[])=some r))∨(Zdf a1 b x x1=some (.tup [.agg [.own 1,.own 2],Bo true],[.box [L 1 (a1.Vars.map ic),L 1 (a1.Rows.map isc),L 1 (b.Vars.map ic),L 1 (b.Rows.map isc),.own 1,.own 2],.arr 3 1 true (x.map ic),.arr 30 1 true (x1.map isc)])∧(some (.tup [.agg [.own 0,.own 1],Bo true],[.arr 3 1 true (x.map ic),.arr 30 1 true (x1.map isc)])=some r))) else (Zlh a a1 b x x1 x2 x3 (w (x4+1))=some r)))) ∧
 (∀ a a1 b x x1 x2 x3 x4 r,Im (Zlh a a1 b x x1 x2 x3 x4=some r) (if x4<x3 then (0≤x4∧(∃ e1,x2[x4.toNat]?=some e1∧(Zgc a a1 b x x1 e1 x2 x3 x4 a.Rows (a.Rows.length:Int) 0=some r))) else ((Zdf a1 b x x1=some (.tup [.agg [.t .nil,.t .nil],Bo false],[.box [L 1 (a1.Vars.map ic),L 1 (a1.Rows.map isc),L 1 (b.Vars.map ic),L 1 (b.Rows.map isc),.own 1,.own 2],.arr 3 1 true (x.map ic),.arr 30 1 true (x1.map isc)])∧(some (.tup [.agg [.t .nil,.t .nil],Bo false],[])=some r))∨(Zdf a1 b x x1=some (.tup [.agg [.own 1,.own 2],Bo true],[.box [L 1 (a1.Vars.map ic),L 1 (a1.Rows.map isc),L 1 (b.Vars.map ic),L 1 (b.Rows.map isc),.own 1,.own 2],.arr 3 1 true (x.map ic),.arr 30 1 true (x1.map isc)])∧(some (.tup [.agg [.own 0,.own 1],Bo true],[.arr 3 1 true (x.map ic),.arr 30 1 true (x1.map isc)])=some r))))) ∧
 (∀ a a1 r,Im (Zgb a a1=some r) (∃ v,Zb3 a=some (Bo v,[])∧(if v=true then (∃ v1,Zb3 a1=some (Bo v1,[])∧(if v1=true then (∃ (v5:Za) (v6:Za) (v7:List Int),Zf8 a a1=some (.ptr 0 0,[.box [L 1 (v5.Vars.map ic),L 1 (v5.Rows.map isc),L 1 (v6.Vars.map ic),L 1 (v6.Rows.map isc),.own 1,.t .nil],.arr 3 1 true (v7.map ic)])∧(Zlf a v5 v6 v7 a1.Rows (a1.Rows.length:Int) 0=some r)) else (some (.tup [.agg [.t .nil,.t .nil],Bo false],[])=some r))) else (some (.tup [.agg [.t .nil,.t .nil],Bo false],[])=some r)))) ∧
 (∀ a a1 a2 r,Im (Zts a a1 a2=some r) (0≤a2∧(∃ e1,a[a2.toNat]?=some e1∧(∃ e2,a1[a2.toNat]?=some e2∧(some (I (w (e1 - e2)),[])=some r))))) ∧
 (∀ x cmp i r,Im (Zli x cmp i=some r) (if 0<i then (0≤i∧(∃ e1,x[i.toNat]?=some e1∧(0≤(w (i - 1))∧(∃ e2,x[(w (i - 1)).toNat]?=some e2∧(∃ v5,Zts e1 e2 cmp=some (I v5,[])∧(if v5<0 then (some (Bo false,[])=some r) else (Zli x cmp (w (i - 1))=some r))))))) else (some (Bo true,[])=some r))) ∧
 (∀ a a1 r,Im (Ztv a a1=some r) (Zli a a1 (w ((a.length:Int) - 1))=some r)) ∧
 (∀ a a1 r,Im (Zid a a1=some r) (∃ v,Zbr a.Vars a1=some (I v,[])∧(if v<0 then (some (Bo false,[])=some r) else (∃ v1,Zb3 a=some (Bo v1,[])∧(if v1=true then (∃ v5,Ztv a.Rows v=some (Bo v5,[])∧(some (Bo v5,[])=some r)) else (some (Bo false,[])=some r)))))):=by
 and_intros
 all_goals intros
 all_goals unfold Im
 all_goals try simp only [Zga,Zev,Zdf,Zlf,Zlg,Zgc,Zlh,Zgb,Zts,Zli,Ztv,Zid,Zbr,Zia,Za.c_def,Zeg,Zb3,Zf8,mpl,dfs]
 all_goals try simp only [itb]
 all_goals try simp only [itf,gS,kk]
 all_goals repeat' first | refine exI fun _=>?_ | refine anJ fun _ _=>?_ | refine anI fun _=>?_ | refine orE2 ?_ ?_ | exact False.elim
 all_goals (intro h;first | rw [EvL_eq Zld.eq_1] | refine runM Z3s rfl ?_ | refine runM Z3t rfl ?_ | rw [EvL_eq Zib.eq_1] | rw [EvL_eq Zot.eq_1] | refine run Zbfc rfl ?_ | refine run Zbfd rfl ?_ | rw [EvL_eq Ztt.eq_1] | refine run Zbfe rfl ?_ | refine run Zbff rfl ?_)
 all_goals (refine Eq.trans ?_ h;clear h;simp +decide [*,kk,tI,tII,Ztp,Zle,Ztq,Ztr,Zic,Zov,Zou,Z0x,Z0y,Ztu,Z0z,Z00])
abbrev Z4t:=Zcv.1
abbrev Zbi1:=Zcv.2.1
abbrev Z4u:=Zcv.2.2.1
abbrev Z4v:=Zcv.2.2.2.1
abbrev Z4w:=Zcv.2.2.2.2.1
abbrev Z4x:=Zcv.2.2.2.2.2.1
abbrev Z4y:=Zcv.2.2.2.2.2.2.1
abbrev Zbi2:=Zcv.2.2.2.2.2.2.2.1
abbrev Zbi3:=Zcv.2.2.2.2.2.2.2.2.1
abbrev Zws:=Zcv.2.2.2.2.2.2.2.2.2.1
abbrev Zbi4:=Zcv.2.2.2.2.2.2.2.2.2.2.1
abbrev Zbi5:=Zcv.2.2.2.2.2.2.2.2.2.2.2
theorem Zjq:(∀ b a b1 x x1 x2 x3 r,Im (Zlj b a b1 x x1 x2 x3=some r) (if x3<x2 then (0≤x3∧(∃ e1,x1[x3.toNat]?=some e1∧(Zlk b a b1 x e1 x1 x2 x3 b.Rows (b.Rows.length:Int) 0=some r))) else (Zia a b1 x=some (.tup [.agg [.own 1,.t .nil],Bo true],[.box [L 1 (a.Vars.map ic),L 1 (a.Rows.map isc),L 1 (b1.Vars.map ic),L 1 (b1.Rows.map isc),.own 1,.t .nil],.arr 3 1 true (x.map ic)])∧(some (.tup [.agg [.own 0,.t .nil],Bo true],[.arr 3 1 true (x.map ic)])=some r)))) ∧
 (∀ b a b1 x x1 x2 x3 x4 x5 x6 x7 r,Im (Zlk b a b1 x x1 x2 x3 x4 x5 x6 x7=some r) (if x7<x6 then (0≤x7∧(∃ e1,x5[x7.toNat]?=some e1∧((∃ (v1:Za) (v2:Za) (v3:List Int),Zeg a b1 x x1 e1=some (.tup [],[.box [L 1 (v1.Vars.map ic),L 1 (v1.Rows.map isc),L 1 (v2.Vars.map ic),L 1 (v2.Rows.map isc),.own 1,.t .nil],.arr 3 1 true (v3.map ic)])∧(Zlk b v1 v2 v3 x1 x2 x3 x4 x5 x6 (w (x7+1))=some r))∨(∃ (v5:Za) (v6:Za) (v7:List Int) (v8:List (List Int)),Zeg a b1 x x1 e1=some (.tup [],[.box [L 1 (v5.Vars.map ic),L 1 (v5.Rows.map isc),L 1 (v6.Vars.map ic),L 1 (v6.Rows.map isc),.own 1,.own 2],.arr 3 1 true (v7.map ic),.arr 30 1 true (v8.map isc)])∧(Zgd b v5 v6 v7 v8 x1 x2 x3 x4 x5 x6 (w (x7+1))=some r))))) else (Zlj b a b1 x x2 x3 (w (x4+1))=some r))) ∧
 (∀ b a b1 x x1 x2 x3 x4 x5 x6 x7 x8 r,Im (Zgd b a b1 x x1 x2 x3 x4 x5 x6 x7 x8=some r) (if x8<x7 then (0≤x8∧(∃ e1,x6[x8.toNat]?=some e1∧((∃ (v1:Za) (v2:Za) (v3:List Int) (v4:List (List Int)),Zev a b1 x x1 x2 e1=some (.tup [],[.box [L 1 (v1.Vars.map ic),L 1 (v1.Rows.map isc),L 1 (v2.Vars.map ic),L 1 (v2.Rows.map isc),.own 1,.own 2],.arr 3 1 true (v3.map ic),.arr 30 1 true (v4.map isc)])∧(Zgd b v1 v2 v3 v4 x2 x3 x4 x5 x6 x7 (w (x8+1))=some r))∨(∃ (v5:Za) (v6:Za) (v7:List Int) (v8:List (List Int)),Zev a b1 x x1 x2 e1=some (.tup [],[.box [L 1 (v5.Vars.map ic),L 1 (v5.Rows.map isc),L 1 (v6.Vars.map ic),L 1 (v6.Rows.map isc),.own 1,.own 3],.arr 3 1 true (v7.map ic),.dead,.arr 30 1 true (v8.map isc)])∧(Zgd b v5 v6 v7 v8 x2 x3 x4 x5 x6 x7 (w (x8+1))=some r))))) else (if 4096<(x1.length:Int) then ((Zdf a b1 x x1=some (.tup [.agg [.t .nil,.t .nil],Bo false],[.box [L 1 (a.Vars.map ic),L 1 (a.Rows.map isc),L 1 (b1.Vars.map ic),L 1 (b1.Rows.map isc),.own 1,.own 2],.arr 3 1 true (x.map ic),.arr 30 1 true (x1.map isc)])∧(some (.tup [.agg [.t .nil,.t .nil],Bo false],[])=some r))∨(Zdf a b1 x x1=some (.tup [.agg [.own 1,.own 2],Bo true],[.box [L 1 (a.Vars.map ic),L 1 (a.Rows.map isc),L 1 (b1.Vars.map ic),L 1 (b1.Rows.map isc),.own 1,.own 2],.arr 3 1 true (x.map ic),.arr 30 1 true (x1.map isc)])∧(some (.tup [.agg [.own 0,.own 1],Bo true],[.arr 3 1 true (x.map ic),.arr 30 1 true (x1.map isc)])=some r))) else (Zll b a b1 x x1 x3 x4 (w (x5+1))=some r)))) ∧
 (∀ b a b1 x x1 x2 x3 x4 r,Im (Zll b a b1 x x1 x2 x3 x4=some r) (if x4<x3 then (0≤x4∧(∃ e1,x2[x4.toNat]?=some e1∧(Zgd b a b1 x x1 e1 x2 x3 x4 b.Rows (b.Rows.length:Int) 0=some r))) else ((Zdf a b1 x x1=some (.tup [.agg [.t .nil,.t .nil],Bo false],[.box [L 1 (a.Vars.map ic),L 1 (a.Rows.map isc),L 1 (b1.Vars.map ic),L 1 (b1.Rows.map isc),.own 1,.own 2],.arr 3 1 true (x.map ic),.arr 30 1 true (x1.map isc)])∧(some (.tup [.agg [.t .nil,.t .nil],Bo false],[])=some r))∨(Zdf a b1 x x1=some (.tup [.agg [.own 1,.own 2],Bo true],[.box [L 1 (a.Vars.map ic),L 1 (a.Rows.map isc),L 1 (b1.Vars.map ic),L 1 (b1.Rows.map isc),.own 1,.own 2],.arr 3 1 true (x.map ic),.arr 30 1 true (x1.map isc)])∧(some (.tup [.agg [.own 0,.own 1],Bo true],[.arr 3 1 true (x.map ic),.arr 30 1 true (x1.map isc)])=some r))))) ∧
 (∀ a a1 r,Im (Zdu a a1=some r) (∃ v,Zb3 a=some (Bo v,[])∧(if v=true then (∃ v1,Zb3 a1=some (Bo v1,[])∧(if v1=true then (∃ (v5:Za) (v6:Za) (v7:List Int),Zf8 a a1=some (.ptr 0 0,[.box [L 1 (v5.Vars.map ic),L 1 (v5.Rows.map isc),L 1 (v6.Vars.map ic),L 1 (v6.Rows.map isc),.own 1,.t .nil],.arr 3 1 true (v7.map ic)])∧(Zlj a1 v5 v6 v7 a.Rows (a.Rows.length:Int) 0=some r)) else (some (.tup [.agg [.t .nil,.t .nil],Bo false],[])=some r))) else (some (.tup [.agg [.t .nil,.t .nil],Bo false],[])=some r)))) ∧
 (∀ a a1 a2 r,Im (Zge a a1 a2=some r) (∃ v,Zid a a2=some (Bo v,[])∧(if v=true then (∃ v1,Zid a1 a2=some (Bo v1,[])∧(if v1=true then ((Zdu a a1=some (.tup [.agg [.t .nil,.t .nil],Bo false],[])∧(some (.tup [.agg [.t .nil,.t .nil],Bo false],[])=some r))∨(∃ (v9:List Int),Zdu a a1=some (.tup [.agg [.own 0,.t .nil],Bo true],[.arr 3 1 true (v9.map ic)])∧(some (.tup [.agg [.own 0,.t .nil],Bo true],[.arr 3 1 true (v9.map ic)])=some r))∨(∃ (v10:List Int) (v11:List (List Int)),Zdu a a1=some (.tup [.agg [.own 0,.own 1],Bo true],[.arr 3 1 true (v10.map ic),.arr 30 1 true (v11.map isc)])∧(some (.tup [.agg [.own 0,.own 1],Bo true],[.arr 3 1 true (v10.map ic),.arr 30 1 true (v11.map isc)])=some r))) else (some (.tup [.agg [.t .nil,.t .nil],Bo false],[])=some r))) else (some (.tup [.agg [.t .nil,.t .nil],Bo false],[])=some r)))):=by
 and_intros
 all_goals intros
 all_goals unfold Im
 all_goals try simp only [Zlj,Zlk,Zgd,Zll,Zdu,Zge,Zia,Za.c_def,Zeg,Zev,Zdf,Zb3,Zf8,Zid,mpl,dfs]
 all_goals try simp only [itb]
 all_goals try simp only [itf,gS,kk]
 all_goals repeat' first | refine exI fun _=>?_ | refine anJ fun _ _=>?_ | refine anI fun _=>?_ | refine orE2 ?_ ?_ | exact False.elim
 all_goals (intro h;first | rw [EvL_eq Zie.eq_1] | rw [EvL_eq Zow.eq_1] | refine run Zbfg rfl ?_ | refine run Zbfh rfl ?_)
 all_goals (refine Eq.trans ?_ h;clear h;simp +decide [*,kk,tI,tII,Zif,Zoy,Zox,Z01,Z02])
abbrev Z4z:=Zjq.1
abbrev Z40:=Zjq.2.1
abbrev Z41:=Zjq.2.2.1
abbrev Z42:=Zjq.2.2.2.1
abbrev Zbi6:=Zjq.2.2.2.2.1
abbrev Zbi7:=Zjq.2.2.2.2.2
theorem Zcw:(∀ db q info fr out x x1 x2 r,Im (Zb4 db q info fr out x x1 x2=some r) (if x2<x1 then (0≤x2∧(∃ e1,x[x2.toNat]?=some e1∧(if e1.Kind=1 then ((Zf1 db q e1.Atom=some (.tup [.agg [.t .nil,.t .nil],Bo false],[])∧(some (.tup [.t .nil,.t .nil,Bo false],[])=some r))∨(∃ (v2:List Int),Zf1 db q e1.Atom=some (.tup [.agg [.own 0,.t .nil],Bo true],[.arr 3 1 true (v2.map ic)])∧(out.length+1≤68719476736∧(Zb4 db q info fr (out++[(⟨v2,[]⟩:Za)]) x x1 (w (x2+1))=some r)))∨(∃ (v3:List Int) (v4:List (List Int)),Zf1 db q e1.Atom=some (.tup [.agg [.own 0,.own 1],Bo true],[.arr 3 1 true (v3.map ic),.arr 30 1 true (v4.map isc)])∧(out.length+1≤68719476736∧(Zb4 db q info fr (out++[(⟨v3,v4⟩:Za)]) x x1 (w (x2+1))=some r)))) else (if e1.Kind=2 then (∃ e5,info[x2.toNat]?=some e5∧(0≤e5.Left∧(∃ e6,out[e5.Left.toNat]?=some e6∧((Zh9 e6 e1.Order=some (.tup [.agg [.t .nil,.t .nil],Bo false],[])∧(some (.tup [.t .nil,.t .nil,Bo false],[])=some r))∨(∃ (v5:List Int),∃ v6,∃ (v7:List (List Int)),Zh9 e6 e1.Order=some (.tup [.agg [.own 0,.own 1],Bo true],[.arr 3 1 true (v5.map ic),.arr 30 1 v6 (v7.map isc)])∧(out.length+1≤68719476736∧(Zb4 db q info (fr && v6) (out++[(⟨v5,v7⟩:Za)]) x x1 (w (x2+1))=some r))))))) else (if e1.Kind=3 then (∃ e9,info[x2.toNat]?=some e9∧(0≤e9.Left∧(∃ e10,out[e9.Left.toNat]?=some e10∧(0≤e9.Right∧(∃ e11,out[e9.Right.toNat]?=some e11∧((Zgb e10 e11=some (.tup [.agg [.t .nil,.t .nil],Bo false],[])∧(some (.tup [.t .nil,.t .nil,Bo false],[])=some r))∨(∃ (v8:List Int),Zgb e10 e11=some (.tup [.agg [.own 0,.t .nil],Bo true],[.arr 3 1 true (v8.map ic)])∧(out.length+1≤68719476736∧(Zb4 db q info fr (out++[(⟨v8,[]⟩:Za)]) x x1 (w (x2+1))=some r)))∨(∃ (v9:List Int) (v10:List (List Int)),Zgb e10 e11=some (.tup [.agg [.own 0,.own 1],Bo true],[.arr 3 1 true (v9.map ic),.arr 30 1 true (v10.map isc)])∧(out.length+1≤68719476736∧(Zb4 db q info fr (out++[(⟨v9,v10⟩:Za)]) x x1 (w (x2+1))=some r))))))))) else (if e1.Kind=4 then (∃ e15,info[x2.toNat]?=some e15∧(0≤e15.Left∧(∃ e16,out[e15.Left.toNat]?=some e16∧(0≤e15.Right∧(∃ e17,out[e15.Right.toNat]?=some e17∧((Zge e16 e17 e1.Order=some (.tup [.agg [.t .nil,.t .nil],Bo false],[])∧(some (.tup [.t .nil,.t .nil,Bo false],[])=some r))∨(∃ (v11:List Int),Zge e16 e17 e1.Order=some (.tup [.agg [.own 0,.t .nil],Bo true],[.arr 3 1 true (v11.map ic)])∧(out.length+1≤68719476736∧(Zb4 db q info fr (out++[(⟨v11,[]⟩:Za)]) x x1 (w (x2+1))=some r)))∨(∃ (v12:List Int) (v13:List (List Int)),Zge e16 e17 e1.Order=some (.tup [.agg [.own 0,.own 1],Bo true],[.arr 3 1 true (v12.map ic),.arr 30 1 true (v13.map isc)])∧(out.length+1≤68719476736∧(Zb4 db q info fr (out++[(⟨v12,v13⟩:Za)]) x x1 (w (x2+1))=some r))))))))) else (∃ e21,info[x2.toNat]?=some e21∧(0≤e21.Left∧(∃ e22,out[e21.Left.toNat]?=some e22∧(0≤e21.Right∧(∃ e23,out[e21.Right.toNat]?=some e23∧((Zdu e22 e23=some (.tup [.agg [.t .nil,.t .nil],Bo false],[])∧(some (.tup [.t .nil,.t .nil,Bo false],[])=some r))∨(∃ (v14:List Int),Zdu e22 e23=some (.tup [.agg [.own 0,.t .nil],Bo true],[.arr 3 1 true (v14.map ic)])∧(out.length+1≤68719476736∧(Zb4 db q info fr (out++[(⟨v14,[]⟩:Za)]) x x1 (w (x2+1))=some r)))∨(∃ (v15:List Int) (v16:List (List Int)),Zdu e22 e23=some (.tup [.agg [.own 0,.own 1],Bo true],[.arr 3 1 true (v15.map ic),.arr 30 1 true (v16.map isc)])∧(out.length+1≤68719476736∧(Zb4 db q info fr (out++[(⟨v15,v16⟩:Za)]) x x1 (w (x2+1))=some r))))))))))))))) else (some (.tup [.own 0,.own 1,Bo true],[.arr 209 4 true (info.map Zb.c),.arr 199 2 fr (out.map Za.c)])=some r))) ∧
 (∀ a a1 a2 r,Im (Zgf a a1 a2=some r) ((Zdd a1 a2=some (.tup [.t .nil,Bo false],[])∧(some (.tup [.t .nil,.t .nil,Bo false],[])=some r))∨(∃ (v1:List Zb),Zdd a1 a2=some (.tup [.own 0,Bo true],[.arr 209 4 true (v1.map Zb.c)])∧(∃ v2,Zh1 a a1=some (Bo v2,[])∧(if v2=true then (Zb4 a a1 v1 true ([]:List Za) a2.Steps (a2.Steps.length:Int) 0=some r) else (some (.tup [.t .nil,.t .nil,Bo false],[])=some r)))))) ∧
 (∀ x r,Im (Zcl x=some r) (some (.bsl 1 5,[.box (x.c.map .t),.box [.ptr 0 0,.ptr 0 6,.ptr 0 12,.ptr 0 18,.ptr 0 24]])=some r)) ∧
 (∀ x r,Im (Zoz x=some r) (some (.bsl 1 5,[.box (x.c.map .t),.box [.ptr 0 0,.ptr 0 1,.ptr 0 2,.ptr 0 3,.ptr 0 4]])=some r)) ∧
 (∀ o x x1 x2 r,Im (Zew o x x1 x2=some r) (if x2<x1 then (0≤x2∧(∃ e1,x[x2.toNat]?=some e1∧(∃ v1,Zt e1.Add (-99) 99=some (Bo v1,[])∧(if v1=true then (∃ v2,Zt e1.From 1 8192=some (Bo v2,[])∧(if v2=true then (if 0<x2 then (0≤(w (x2 - 1))∧(∃ e4,o.Steps[(w (x2 - 1)).toNat]?=some e4∧(if e1.From≤e4.From then (some (Bo false,[])=some r) else (Zew o x x1 (w (x2+1))=some r)))) else (Zew o x x1 (w (x2+1))=some r)) else (some (Bo false,[])=some r))) else (some (Bo false,[])=some r))))) else (some (Bo (decide ((o.Steps.length:Int)≤4)),[])=some r))) ∧
 (∀ a r,Im (Zbe a=some r) (Zoz a=some (.bsl 1 5,[.box (a.c.map .t),.box [.ptr 0 0,.ptr 0 1,.ptr 0 2,.ptr 0 3,.ptr 0 4]])∧(Zb5 a 5 0=some r))) ∧
 (∀ out a r,Im (Zig out a=some r) (if a≤7 then (Zgg out a 0=some r) else (some (.own 0,[.arr 30 1 true (out.map isc)])=some r))) ∧
 (∀ out a b r,Im (Zgg out a b=some r) (if b≤7 then (Zih out a b 0=some r) else (Zig out (w (a+1))=some r))) ∧
 (∀ out a b c r,Im (Zih out a b c=some r) (if c≤7 then (out.length+1≤68719476736∧(Zih (out++[[a,b,c]]) a b (w (c+1))=some r)) else (Zgg out a (w (b+1))=some r))) ∧
 (∀ r,Im (Zbx=some r) (Zig ([]:List (List Int)) 0=some r)) ∧
 (∀ a r,Im (Zcm a=some r) (∃ v,Zt a 0 7=some (Bo v,[])∧(if v=true then (if a=0 then (some (I 0,[])=some r) else (¬ (w (2*(w (a - 1))))<0∧(some (I (shlI 1 (w (2*(w (a - 1))))),[])=some r))) else (some (I (-1),[])=some r)))) ∧
 (∀ left right n x x1 x2 r,Im (Zgh left right n x x1 x2=some r) (if x2<x1 then (0≤x2∧(∃ e1,x[x2.toNat]?=some e1∧(if e1.From≤(w (left+right)) then (Zgh left right (w (n+e1.Add)) x x1 (w (x2+1))=some r) else (Zgh left right n x x1 (w (x2+1))=some r)))) else (some (I n,[])=some r))):=by
 and_intros
 all_goals intros
 all_goals unfold Im
 all_goals try simp only [Zb4,Zgf,Zcl,Zoz,Zew,Zbe,Zig,Zgg,Zih,Zbx,Zcm,Zgh,Zf1,Zh9,Zgb,Zge,Zdu,Zk.c_def,Zd.c_def,Za.c_def,Zdd,Zh1,Plan.c_def,Zt,Zi.c_def,Zb5,mpl,dfs]
 all_goals try simp only [itb]
 all_goals try simp only [itf,gS,kk]
 all_goals repeat' first | refine exI fun _=>?_ | refine anJ fun _ _=>?_ | refine anI fun _=>?_ | refine orE2 ?_ ?_ | exact False.elim
 all_goals (intro h;first | rw [EvL_eq Ztw.eq_1] | refine run Zbfi rfl ?_ | refine runM Zbfj rfl ?_ | refine runM Zbfk rfl ?_ | rw [EvL_eq Ztz.eq_1] | refine run Zbfl rfl ?_ | rw [EvL_eq Zlm.eq_1] | rw [EvL_eq Zo0.eq_1] | rw [EvL_eq Zt2.eq_1] | refine run Zbfm rfl ?_ | refine run Zbfn rfl ?_ | rw [EvL_eq Zt4.eq_1])
 all_goals (refine Eq.trans ?_ h;clear h;simp +decide [*,kk,tI,tII,Z03,Ztx,Z04,Z05,Z06,Zt0,Z07,Zln,Zo1,Zt3,Z08,Z09,Z1a,Zt5])
abbrev Zp1:=Zcw.1
abbrev Zwt:=Zcw.2.1
abbrev Z43:=Zcw.2.2.1
abbrev Zbi8:=Zcw.2.2.2.1
abbrev Z44:=Zcw.2.2.2.2.1
abbrev Zbi9:=Zcw.2.2.2.2.2.1
abbrev Z45:=Zcw.2.2.2.2.2.2.1
abbrev Z46:=Zcw.2.2.2.2.2.2.2.1
abbrev Z47:=Zcw.2.2.2.2.2.2.2.2.1
abbrev Zbja:=Zcw.2.2.2.2.2.2.2.2.2.1
abbrev Zbjb:=Zcw.2.2.2.2.2.2.2.2.2.2.1
abbrev Z48:=Zcw.2.2.2.2.2.2.2.2.2.2.2
theorem Zm0:(∀ a a1 a2 a3 r,Im (Zex a a1 a2 a3=some r) (Zgh a1 a2 (w ((w ((w ((w (a.Fixed+(w (a.Zp*a1))))+(w (a.Zq*a2))))+(w (a.Zr*a3))))+(w ((w (a.Zs*a1))*a2)))) a.Steps (a.Steps.length:Int) 0=some r)) ∧
 (∀ a a1 r,Im (Zdg a a1=some r) (∃ e1,a1[0]?=some e1∧(∃ v1,Zcm e1=some (I v1,[])∧(∃ e3,a1[1]?=some e3∧(∃ v2,Zcm e3=some (I v2,[])∧(∃ e5,a1[2]?=some e5∧(∃ v4,Zcm e5=some (I v4,[])∧(∃ v5,Zex a v1 v2 v4=some (I v5,[])∧(some (I v5,[])=some r))))))))) ∧
 (∀ o x x1 x2 r,Im (Zey o x x1 x2=some r) (if x2<x1 then (0≤x2∧(∃ e1,x[x2.toNat]?=some e1∧(Zcn o x e1 x1 x2 (e1.length:Int) 0=some r))) else (some (.tup [.t .nil,.t .nil,Bo false],[])=some r))) ∧
 (∀ o x t x1 x2 x3 x4 r,Im (Zcn o x t x1 x2 x3 x4=some r) (if x4<x3 then (0≤x4∧(∃ e1,t[x4.toNat]?=some e1∧(if e1=7 then (Zcn o x t x1 x2 x3 (w (x4+1))=some r) else (∃ (v1:List Int),Zb2 t=some (.own 0,[.arr 3 1 true (v1.map ic)])∧(∃ e3,v1[x4.toNat]?=some e3∧(∃ v2,Zdg o (v1.set x4.toNat (w (e3+1)))=some (I v2,[])∧(∃ v3,Zdg o t=some (I v3,[])∧(if v2<v3 then (some (.tup [L 1 (t.map ic),.own 0,Bo true],[.arr 3 1 true ((v1.set x4.toNat (w (e3+1))).map ic)])=some r) else (Zcn o x t x1 x2 x3 (w (x4+1))=some r))))))))) else (Zey o x x1 (w (x2+1))=some r))) ∧
 (∀ a r,Im (Zba a=some r) (∃ v,Zbe a=some (Bo v,[])∧(if v=true then (∃ (v1:List (List Int)),Zbx=some (.own 0,[.arr 30 1 true (v1.map isc)])∧(Zey a v1 (v1.length:Int) 0=some r)) else (some (.tup [.t .nil,.t .nil,Bo false],[])=some r)))):=by
 and_intros
 all_goals intros
 all_goals unfold Im
 all_goals try simp only [Zex,Zdg,Zey,Zcn,Zba,Zcm,Zi.c_def,Zb2,Zbe,Zbx,Zgh,mpl,dfs]
 all_goals try simp only [itb]
 all_goals try simp only [itf,gS,kk]
 all_goals repeat' first | refine exI fun _=>?_ | refine anJ fun _ _=>?_ | refine anI fun _=>?_ | refine orE2 ?_ ?_ | exact False.elim
 all_goals (intro h;first | refine run Zbfo rfl ?_ | refine run Zbfp rfl ?_ | rw [EvL_eq Zo2.eq_1] | rw [EvL_eq Zt6.eq_1] | refine run Zbfq rfl ?_)
 all_goals (refine Eq.trans ?_ h;clear h;simp +decide [*,kk,tI,tII,Z1b,Z1c,Zo3,Z1d,Zt7,Z1e])
abbrev Zbjc:=Zm0.1
abbrev Zbjd:=Zm0.2.1
abbrev Z49:=Zm0.2.2.1
abbrev Zwu:=Zm0.2.2.2.1
abbrev Zbje:=Zm0.2.2.2.2
theorem Zjr (o:Zi) (x x1:Int) (r:AV×List Blk) (h:(if x1<x then (if x1=0 then (∃ (v:Bool),Zt o.Fixed (-99) 99=some (Bo v,[])∧(if v=true then (Zb5 o x (w (x1+1))=some r) else (some (Bo false,[])=some r))) else (if x1=1 then (∃ (v1:Bool),Zt o.Zp (-99) 99=some (Bo v1,[])∧(if v1=true then (Zb5 o x (w (x1+1))=some r) else (some (Bo false,[])=some r))) else (if x1=2 then (∃ (v2:Bool),Zt o.Zq (-99) 99=some (Bo v2,[])∧(if v2=true then (Zb5 o x (w (x1+1))=some r) else (some (Bo false,[])=some r))) else (if x1=3 then (∃ (v3:Bool),Zt o.Zr (-99) 99=some (Bo v3,[])∧(if v3=true then (Zb5 o x (w (x1+1))=some r) else (some (Bo false,[])=some r))) else (if x1=4 then (∃ (v4:Bool),Zt o.Zs (-99) 99=some (Bo v4,[])∧(if v4=true then (Zb5 o x (w (x1+1))=some r) else (some (Bo false,[])=some r))) else False))))) else (Zew o o.Steps (o.Steps.length:Int) 0=some r))):Zb5 o x x1=some r:=by
 unfold Zb5;rw [EvL_eq Zty.eq_1];by_cases q1:x1<x
 ·rw [if_pos q1] at h;by_cases q2:x1=0
  ·rw [if_pos q2] at h;subst q2;obtain ⟨v,q3,h⟩:=h;unfold Zt at q3
   try simp at q3
   by_cases q4:v=true
   ·rw [if_pos q4] at h;refine Eq.trans ?_ h;clear h;simp +decide [*,tI,tII,Zb5]
   ·rw [if_neg q4] at h;refine Eq.trans ?_ h;clear h;simp +decide [*,tI,tII]
  ·rw [if_neg q2] at h;replace q2:=eq_false q2;by_cases q5:x1=1
   ·rw [if_pos q5] at h;subst q5;obtain ⟨v1,q6,h⟩:=h;unfold Zt at q6
    try simp at q6
    by_cases q7:v1=true
    ·rw [if_pos q7] at h;refine Eq.trans ?_ h;clear h;simp +decide [*,tI,tII,Zb5]
    ·rw [if_neg q7] at h;refine Eq.trans ?_ h;clear h;simp +decide [*,tI,tII]
   ·rw [if_neg q5] at h;replace q5:=eq_false q5;by_cases q8:x1=2
    ·rw [if_pos q8] at h;subst q8;obtain ⟨v2,q9,h⟩:=h;unfold Zt at q9
     try simp at q9
     by_cases q10:v2=true
     ·rw [if_pos q10] at h;refine Eq.trans ?_ h;clear h;simp +decide [*,tI,tII,Zb5]
     ·rw [if_neg q10] at h;refine Eq.trans ?_ h;clear h;simp +decide [*,tI,tII]
    ·rw [if_neg q8] at h;replace q8:=eq_false q8;by_cases q11:x1=3
     ·rw [if_pos q11] at h;subst q11;obtain ⟨v3,q12,h⟩:=h;unfold Zt at q12
      try simp at q12
      by_cases q13:v3=true
      ·rw [if_pos q13] at h;refine Eq.trans ?_ h;clear h;simp +decide [*,tI,tII,Zb5]
      ·rw [if_neg q13] at h;refine Eq.trans ?_ h;clear h;simp +decide [*,tI,tII]
     ·rw [if_neg q11] at h;replace q11:=eq_false q11;by_cases q14:x1=4
      ·rw [if_pos q14] at h;subst q14;obtain ⟨v4,q15,h⟩:=h;unfold Zt at q15
       try simp at q15
       by_cases q16:v4=true
       ·rw [if_pos q16] at h;refine Eq.trans ?_ h;clear h;simp +decide [*,tI,tII,Zb5]
       ·rw [if_neg q16] at h;refine Eq.trans ?_ h;clear h;simp +decide [*,tI,tII]
      ·rw [if_neg q14] at h;replace q14:=eq_false q14;cases h
 ·rw [if_neg q1] at h;refine Eq.trans ?_ h;clear h;simp +decide [*,tI,tII,Zew,Zt1]
theorem Zjs (x:Zj) (x1 x2:Int) (r:AV×List Blk) (h:(if x2<x1 then (if x2=0 then (∃ (v:Bool),Zbe x.Scan=some (Bo v,[])∧(if v=true then ((Zba x.Scan=some (.tup [.t .nil,.t .nil,Bo false],[])∧(∃ (v1:List (List Int)),Zbx=some (.own 0,[.arr 30 1 true (v1.map isc)])∧(Ze1 x v1 (w (1+x2)) x1 x2 (v1.length:Int) 0=some r)))∨(∃ (v2:List Int) (v3:List Int),Zba x.Scan=some (.tup [L 1 (v3.map ic),.own 0,Bo true],[.arr 3 1 true (v2.map ic)])∧(some (.tup [I (w (1+x2)),L 1 (v3.map ic),.own 0],[.arr 3 1 true (v2.map ic)])=some r))) else (some (.tup [I (w (1+x2)),.t .nil,.t .nil],[])=some r))) else (if x2=1 then (∃ (v4:Bool),Zbe x.Sort_=some (Bo v4,[])∧(if v4=true then ((Zba x.Sort_=some (.tup [.t .nil,.t .nil,Bo false],[])∧(∃ (v5:List (List Int)),Zbx=some (.own 0,[.arr 30 1 true (v5.map isc)])∧(Ze2 x v5 (w (1+x2)) x1 x2 (v5.length:Int) 0=some r)))∨(∃ (v6:List Int) (v7:List Int),Zba x.Sort_=some (.tup [L 1 (v7.map ic),.own 0,Bo true],[.arr 3 1 true (v6.map ic)])∧(some (.tup [I (w (1+x2)),L 1 (v7.map ic),.own 0],[.arr 3 1 true (v6.map ic)])=some r))) else (some (.tup [I (w (1+x2)),.t .nil,.t .nil],[])=some r))) else (if x2=2 then (∃ (v8:Bool),Zbe x.Hash=some (Bo v8,[])∧(if v8=true then ((Zba x.Hash=some (.tup [.t .nil,.t .nil,Bo false],[])∧(∃ (v9:List (List Int)),Zbx=some (.own 0,[.arr 30 1 true (v9.map isc)])∧(Ze3 x v9 (w (1+x2)) x1 x2 (v9.length:Int) 0=some r)))∨(∃ (v10:List Int) (v11:List Int),Zba x.Hash=some (.tup [L 1 (v11.map ic),.own 0,Bo true],[.arr 3 1 true (v10.map ic)])∧(some (.tup [I (w (1+x2)),L 1 (v11.map ic),.own 0],[.arr 3 1 true (v10.map ic)])=some r))) else (some (.tup [I (w (1+x2)),.t .nil,.t .nil],[])=some r))) else (if x2=3 then (∃ (v12:Bool),Zbe x.Merge=some (Bo v12,[])∧(if v12=true then ((Zba x.Merge=some (.tup [.t .nil,.t .nil,Bo false],[])∧(∃ (v13:List (List Int)),Zbx=some (.own 0,[.arr 30 1 true (v13.map isc)])∧(Ze4 x v13 (w (1+x2)) x1 x2 (v13.length:Int) 0=some r)))∨(∃ (v14:List Int) (v15:List Int),Zba x.Merge=some (.tup [L 1 (v15.map ic),.own 0,Bo true],[.arr 3 1 true (v14.map ic)])∧(some (.tup [I (w (1+x2)),L 1 (v15.map ic),.own 0],[.arr 3 1 true (v14.map ic)])=some r))) else (some (.tup [I (w (1+x2)),.t .nil,.t .nil],[])=some r))) else (if x2=4 then (∃ (v16:Bool),Zbe x.Nested=some (Bo v16,[])∧(if v16=true then ((Zba x.Nested=some (.tup [.t .nil,.t .nil,Bo false],[])∧(∃ (v17:List (List Int)),Zbx=some (.own 0,[.arr 30 1 true (v17.map isc)])∧(Ze5 x v17 (w (1+x2)) x1 x2 (v17.length:Int) 0=some r)))∨(∃ (v18:List Int) (v19:List Int),Zba x.Nested=some (.tup [L 1 (v19.map ic),.own 0,Bo true],[.arr 3 1 true (v18.map ic)])∧(some (.tup [I (w (1+x2)),L 1 (v19.map ic),.own 0],[.arr 3 1 true (v18.map ic)])=some r))) else (some (.tup [I (w (1+x2)),.t .nil,.t .nil],[])=some r))) else False))))) else (some (.tup [I 0,.t .nil,.t .nil],[])=some r))):Z4 x x1 x2=some r:=by
 unfold Z4;rw [EvL_eq Zez.eq_1];by_cases q1:x2<x1
 ·rw [if_pos q1] at h;by_cases q2:x2=0
  ·rw [if_pos q2] at h;subst q2;obtain ⟨v,q3,h⟩:=h;unfold Zbe at q3
   try simp at q3
   by_cases q4:v=true
   ·rw [if_pos q4] at h;rcases h with h | h
    ·obtain ⟨q5,h⟩:=h;unfold Zba at q5
     try simp at q5
     obtain ⟨v1,q6,h⟩:=h;unfold Zbx at q6
     try simp at q6
     refine Eq.trans ?_ h;clear h;simp +decide [*,tI,tII,Ze1]
    ·obtain ⟨v2,v3,q7,h⟩:=h;unfold Zba at q7
     try simp at q7
     refine Eq.trans ?_ h;clear h;simp +decide [*,tI,tII]
   ·rw [if_neg q4] at h;refine Eq.trans ?_ h;clear h;simp +decide [*,tI,tII]
  ·rw [if_neg q2] at h;replace q2:=eq_false q2;by_cases q8:x2=1
   ·rw [if_pos q8] at h;subst q8;obtain ⟨v4,q9,h⟩:=h;unfold Zbe at q9
    try simp at q9
    by_cases q10:v4=true
    ·rw [if_pos q10] at h;rcases h with h | h
     ·obtain ⟨q11,h⟩:=h;unfold Zba at q11
      try simp at q11
      obtain ⟨v5,q12,h⟩:=h;unfold Zbx at q12
      try simp at q12
      refine Eq.trans ?_ h;clear h;simp +decide [*,tI,tII,Ze2]
     ·obtain ⟨v6,v7,q13,h⟩:=h;unfold Zba at q13
      try simp at q13
      refine Eq.trans ?_ h;clear h;simp +decide [*,tI,tII]
    ·rw [if_neg q10] at h;refine Eq.trans ?_ h;clear h;simp +decide [*,tI,tII]
   ·rw [if_neg q8] at h;replace q8:=eq_false q8;by_cases q14:x2=2
    ·rw [if_pos q14] at h;subst q14;obtain ⟨v8,q15,h⟩:=h;unfold Zbe at q15
     try simp at q15
     by_cases q16:v8=true
     ·rw [if_pos q16] at h;rcases h with h | h
      ·obtain ⟨q17,h⟩:=h;unfold Zba at q17
       try simp at q17
       obtain ⟨v9,q18,h⟩:=h;unfold Zbx at q18
       try simp at q18
       refine Eq.trans ?_ h;clear h;simp +decide [*,tI,tII,Ze3]
      ·obtain ⟨v10,v11,q19,h⟩:=h;unfold Zba at q19
       try simp at q19
       refine Eq.trans ?_ h;clear h;simp +decide [*,tI,tII]
     ·rw [if_neg q16] at h;refine Eq.trans ?_ h;clear h;simp +decide [*,tI,tII]
    ·rw [if_neg q14] at h;replace q14:=eq_false q14;by_cases q20:x2=3
     ·rw [if_pos q20] at h;subst q20;obtain ⟨v12,q21,h⟩:=h;unfold Zbe at q21
      try simp at q21
      by_cases q22:v12=true
      ·rw [if_pos q22] at h;rcases h with h | h
       ·obtain ⟨q23,h⟩:=h;unfold Zba at q23
        try simp at q23
        obtain ⟨v13,q24,h⟩:=h;unfold Zbx at q24
        try simp at q24
        refine Eq.trans ?_ h;clear h;simp +decide [*,tI,tII,Ze4]
       ·obtain ⟨v14,v15,q25,h⟩:=h;unfold Zba at q25
        try simp at q25
        refine Eq.trans ?_ h;clear h;simp +decide [*,tI,tII]
      ·rw [if_neg q22] at h;refine Eq.trans ?_ h;clear h;simp +decide [*,tI,tII]
     ·rw [if_neg q20] at h;replace q20:=eq_false q20;by_cases q26:x2=4
      ·rw [if_pos q26] at h;subst q26;obtain ⟨v16,q27,h⟩:=h;unfold Zbe at q27
       try simp at q27
       by_cases q28:v16=true
       ·rw [if_pos q28] at h;rcases h with h | h
        ·obtain ⟨q29,h⟩:=h;unfold Zba at q29
         try simp at q29
         obtain ⟨v17,q30,h⟩:=h;unfold Zbx at q30
         try simp at q30
         refine Eq.trans ?_ h;clear h;simp +decide [*,tI,tII,Ze5]
        ·obtain ⟨v18,v19,q31,h⟩:=h;unfold Zba at q31
         try simp at q31
         refine Eq.trans ?_ h;clear h;simp +decide [*,tI,tII]
       ·rw [if_neg q28] at h;refine Eq.trans ?_ h;clear h;simp +decide [*,tI,tII]
      ·rw [if_neg q26] at h;replace q26:=eq_false q26;cases h
 ·rw [if_neg q1] at h;refine Eq.trans ?_ h;clear h;simp +decide [*,tI,tII,Ze0]
theorem Zcx:(∀ o x kind x1 x2 x3 x4 r,Im (Ze1 o x kind x1 x2 x3 x4=some r) (if x4<x3 then (0≤x4∧(∃ e1,x[x4.toNat]?=some e1∧(∃ v3,Zdg o.Scan e1=some (I v3,[])∧(if v3<1 then (some (.tup [I kind,L 1 (e1.map ic),.t .nil],[])=some r) else (Ze1 o x kind x1 x2 x3 (w (x4+1))=some r))))) else (Z4 o x1 (w (x2+1))=some r))) ∧
 (∀ o x kind x1 x2 x3 x4 r,Im (Ze2 o x kind x1 x2 x3 x4=some r) (if x4<x3 then (0≤x4∧(∃ e1,x[x4.toNat]?=some e1∧(∃ v3,Zdg o.Sort_ e1=some (I v3,[])∧(if v3<1 then (some (.tup [I kind,L 1 (e1.map ic),.t .nil],[])=some r) else (Ze2 o x kind x1 x2 x3 (w (x4+1))=some r))))) else (Z4 o x1 (w (x2+1))=some r))) ∧
 (∀ o x kind x1 x2 x3 x4 r,Im (Ze3 o x kind x1 x2 x3 x4=some r) (if x4<x3 then (0≤x4∧(∃ e1,x[x4.toNat]?=some e1∧(∃ v3,Zdg o.Hash e1=some (I v3,[])∧(if v3<1 then (some (.tup [I kind,L 1 (e1.map ic),.t .nil],[])=some r) else (Ze3 o x kind x1 x2 x3 (w (x4+1))=some r))))) else (Z4 o x1 (w (x2+1))=some r))) ∧
 (∀ o x kind x1 x2 x3 x4 r,Im (Ze4 o x kind x1 x2 x3 x4=some r) (if x4<x3 then (0≤x4∧(∃ e1,x[x4.toNat]?=some e1∧(∃ v3,Zdg o.Merge e1=some (I v3,[])∧(if v3<1 then (some (.tup [I kind,L 1 (e1.map ic),.t .nil],[])=some r) else (Ze4 o x kind x1 x2 x3 (w (x4+1))=some r))))) else (Z4 o x1 (w (x2+1))=some r))) ∧
 (∀ o x kind x1 x2 x3 x4 r,Im (Ze5 o x kind x1 x2 x3 x4=some r) (if x4<x3 then (0≤x4∧(∃ e1,x[x4.toNat]?=some e1∧(∃ v3,Zdg o.Nested e1=some (I v3,[])∧(if v3<1 then (some (.tup [I kind,L 1 (e1.map ic),.t .nil],[])=some r) else (Ze5 o x kind x1 x2 x3 (w (x4+1))=some r))))) else (Z4 o x1 (w (x2+1))=some r))) ∧
 (∀ a r,Im (Zii a=some r) (Zcl a=some (.bsl 1 5,[.box (a.c.map .t),.box [.ptr 0 0,.ptr 0 6,.ptr 0 12,.ptr 0 18,.ptr 0 24]])∧(Z4 a 5 0=some r))) ∧
 (∀ a r,Im (Zlo a=some r) ((∃ (v:List Int),∃ v1,∃ (v2:List Int),Zii a=some (.tup [I v1,L 1 (v2.map ic),.own 0],[.arr 3 1 true (v.map ic)])∧(some (Bo (decide (v1=0)),[])=some r))∨(∃ v3,Zii a=some (.tup [I v3,.t .nil,.t .nil],[])∧(some (Bo (decide (v3=0)),[])=some r))∨(∃ v4,∃ (v5:List Int),Zii a=some (.tup [I v4,L 1 (v5.map ic),.t .nil],[])∧(some (Bo (decide (v4=0)),[])=some r)))) ∧
 (∀ n c r,Im (Zlp n c=some r) (∃ v,Zcm c=some (I v,[])∧(if n≤v then (some (I c,[])=some r) else (Zlp n (w (c+1))=some r)))) ∧
 (∀ a r,Im (Ze6 a=some r) (∃ v,Zt a 0 4096=some (Bo v,[])∧(if v=true then (Zlp a 0=some r) else (some (I (-1),[])=some r)))) ∧
 (∀ a r,Im (Zgk a=some r) (∃ v,Ze6 a=some (I v,[])∧(∃ v3,Zcm v=some (I v3,[])∧(some (I v3,[])=some r)))) ∧
 (∀ a a1 a2 r,Im (Zeh a a1 a2=some r) (0≤a2∧(∃ e1,a1[a2.toNat]?=some e1∧(∃ v3,Zgk (e1.Rows.length:Int)=some (I v3,[])∧(∃ e3,a[a2.toNat]?=some e3∧(if 0≤e3.Left then (∃ e4,a1[e3.Left.toNat]?=some e4∧(∃ v7,Zgk (e4.Rows.length:Int)=some (I v7,[])∧(if 0≤e3.Right then (∃ e6,a1[e3.Right.toNat]?=some e6∧(∃ v8,Zgk (e6.Rows.length:Int)=some (I v8,[])∧(some (.tup [I v7,I v8,I v3],[])=some r))) else (some (.tup [I v7,I 0,I v3],[])=some r)))) else (if 0≤e3.Right then (∃ e8,a1[e3.Right.toNat]?=some e8∧(∃ v9,Zgk (e8.Rows.length:Int)=some (I v9,[])∧(some (.tup [I v3,I v9,I v3],[])=some r))) else (some (.tup [I v3,I 0,I v3],[])=some r)))))))) ∧
 (∀ a a1 a2 a3 r,Im (Zce a a1 a2 a3=some r) (∃ v,Zbe a=some (Bo v,[])∧(if v=true then (∃ v3,Zt a1 0 4096=some (Bo v3,[])∧(if v3=true then (∃ v4,Zt a2 0 4096=some (Bo v4,[])∧(if v4=true then (∃ v6,Zt a3 0 4096=some (Bo v6,[])∧(if v6=true then (∃ v7,Zex a a1 a2 a3=some (I v7,[])∧(some (I v7,[])=some r)) else (some (I 0,[])=some r))) else (some (I 0,[])=some r))) else (some (I 0,[])=some r))) else (some (I 0,[])=some r)))):=by
 and_intros
 all_goals intros
 all_goals unfold Im
 all_goals try simp only [Ze1,Ze2,Ze3,Ze4,Ze5,Zii,Zlo,Zlp,Ze6,Zgk,Zeh,Zce,Zdg,Zi.c_def,Zcl,Zj.c_def,Zcm,Zt,Zbe,Zex,Z4,mpl,dfs]
 all_goals try simp only [itb]
 all_goals try simp only [itf,gS,kk]
 all_goals repeat' first | refine exI fun _=>?_ | refine anJ fun _ _=>?_ | refine anI fun _=>?_ | refine orE2 ?_ ?_ | exact False.elim
 all_goals (intro h;first | rw [EvL_eq Zgi.eq_1] | refine run Zbfr rfl ?_ | refine run Zbfs rfl ?_ | rw [EvL_eq Zt8.eq_1] | refine run Zbft rfl ?_ | refine run Zbfu rfl ?_ | refine run Zbfv rfl ?_ | refine run Zbfw rfl ?_)
 all_goals (refine Eq.trans ?_ h;clear h;simp +decide [*,kk,tI,tII,Zgj,Z1f,Z1g,Z1h,Z1i,Z1l,Z1j,Z1k,Z1m])
abbrev Z5a:=Zcx.1
abbrev Z5b:=Zcx.2.1
abbrev Z5c:=Zcx.2.2.1
abbrev Z5d:=Zcx.2.2.2.1
abbrev Z5e:=Zcx.2.2.2.2.1
abbrev Zbjf:=Zcx.2.2.2.2.2.1
abbrev Zbjg:=Zcx.2.2.2.2.2.2.1
abbrev Zff:=Zcx.2.2.2.2.2.2.2.1
abbrev Zbjh:=Zcx.2.2.2.2.2.2.2.2.1
abbrev Zbji:=Zcx.2.2.2.2.2.2.2.2.2.1
abbrev Zbjj:=Zcx.2.2.2.2.2.2.2.2.2.2.1
abbrev Zbjk:=Zcx.2.2.2.2.2.2.2.2.2.2.2
theorem Z5f:(∀ o left right budget k r,Im (Zlq o left right budget k=some r) (if k≤7 then (∃ v,Zcm k=some (I v,[])∧(∃ v1,Zex o left right v=some (I v1,[])∧(if v1≤budget then (Zlq o left right budget (w (k+1))=some r) else (some (I k,[])=some r)))) else (some (I k,[])=some r))) ∧
 (∀ a a1 a2 a3 r,Im (Z9 a a1 a2 a3=some r) (Zlq a a1 a2 a3 0=some r)):=by
 and_intros
 all_goals intros
 all_goals unfold Im
 all_goals try simp only [Zlq,Z9,Zcm,Zex,Zi.c_def,mpl,dfs]
 all_goals try simp only [itb]
 all_goals try simp only [itf,gS,kk]
 all_goals repeat' first | refine exI fun _=>?_ | refine anJ fun _ _=>?_ | refine anI fun _=>?_ | refine orE2 ?_ ?_ | exact False.elim
 all_goals (intro h;first | rw [EvL_eq Zt9.eq_1] | refine run Zbfy rfl ?_)
 all_goals (refine Eq.trans ?_ h;clear h;simp +decide [*,kk,tI,tII,Zua,Z1n])
abbrev Z5g:=Z5f.1
abbrev Zbjl:=Z5f.2
theorem Zbjm (a:Zj) (a1:Plan) (a2:List Zb) (a3:List Za) (a4:Int) (r:AV×List Blk) (h:(∃ (v:Int) (v1:Int) (v2:Int),Zeh a2 a3 a4=some (.tup [I v,I v1,I v2],[])∧(Zcl a=some (.bsl 1 5,[.box (a.c.map .t),.box [.ptr 0 0,.ptr 0 6,.ptr 0 12,.ptr 0 18,.ptr 0 24]])∧(0≤a4∧(∃ (e3:Ze),a1.Steps[a4.toNat]?=some e3∧(if (w (e3.Kind - 1))=0 then (∃ (v3:Int),Zce a.Scan v v1 v2=some (I v3,[])∧(some (I v3,[])=some r)) else (if (w (e3.Kind - 1))=1 then (∃ (v4:Int),Zce a.Sort_ v v1 v2=some (I v4,[])∧(some (I v4,[])=some r)) else (if (w (e3.Kind - 1))=2 then (∃ (v5:Int),Zce a.Hash v v1 v2=some (I v5,[])∧(some (I v5,[])=some r)) else (if (w (e3.Kind - 1))=3 then (∃ (v6:Int),Zce a.Merge v v1 v2=some (I v6,[])∧(some (I v6,[])=some r)) else (if (w (e3.Kind - 1))=4 then (∃ (v7:Int),Zce a.Nested v v1 v2=some (I v7,[])∧(some (I v7,[])=some r)) else False)))))))))):Zgl a a1 a2 a3 a4=some r:=by
 unfold Zgl;refine run Zbfx rfl ?_;obtain ⟨v,v1,v2,q1,h⟩:=h;unfold Zeh at q1
 try simp at q1
 obtain ⟨q2,h⟩:=h;unfold Zcl at q2
 try simp at q2
 obtain ⟨q3,h⟩:=h;obtain ⟨e3,q4,h⟩:=h;have gq4:=ltOfGet q4;have kq4:=getOf q4;by_cases q5:(w (e3.Kind - 1))=0
 ·rw [if_pos q5] at h;obtain ⟨v3,q6,h⟩:=h;unfold Zce at q6
  try simp at q6
  refine Eq.trans ?_ h;clear h;simp +decide [*,Zij,tI,tII]
 ·rw [if_neg q5] at h;replace q5:=eq_false q5;by_cases q7:(w (e3.Kind - 1))=1
  ·rw [if_pos q7] at h;obtain ⟨v4,q8,h⟩:=h;unfold Zce at q8
   try simp at q8
   refine Eq.trans ?_ h;clear h;simp +decide [*,Zij,tI,tII]
  ·rw [if_neg q7] at h;replace q7:=eq_false q7;by_cases q9:(w (e3.Kind - 1))=2
   ·rw [if_pos q9] at h;obtain ⟨v5,q10,h⟩:=h;unfold Zce at q10
    try simp at q10
    refine Eq.trans ?_ h;clear h;simp +decide [*,Zij,tI,tII]
   ·rw [if_neg q9] at h;replace q9:=eq_false q9;by_cases q11:(w (e3.Kind - 1))=3
    ·rw [if_pos q11] at h;obtain ⟨v6,q12,h⟩:=h;unfold Zce at q12
     try simp at q12
     refine Eq.trans ?_ h;clear h;simp +decide [*,Zij,tI,tII]
    ·rw [if_neg q11] at h;replace q11:=eq_false q11;by_cases q13:(w (e3.Kind - 1))=4
     ·rw [if_pos q13] at h;obtain ⟨v7,q14,h⟩:=h;unfold Zce at q14
      try simp at q14
      refine Eq.trans ?_ h;clear h;simp +decide [*,Zij,tI,tII]
     ·rw [if_neg q13] at h;replace q13:=eq_false q13;cases h
theorem Zp2:(∀ a r,Im (Zo4 a=some r) (∃ (v:List (List Int)),Zes a=some (.own 0,[.arr 30 1 true (v.map isc)])∧(∃ (v1:List (List Int)),Zub v=some (.tup [],[.arr 30 1 true (v1.map isc)])∧(∃ (v4:List (List Int)),Zuc v1=some (.own 1,[.dead,.arr 30 1 true (v4.map isc)])∧(some (.own 0,[.arr 30 1 true (v4.map isc)])=some r))))) ∧
 (∀ a r,Im (Zdh a=some r) (∃ v,Zb3 a=some (Bo v,[])∧(if v=true then (∃ (v1:List Int),Zb2 a.Vars=some (.own 0,[.arr 3 1 true (v1.map ic)])∧(∃ (v4:List (List Int)),Zo4 a.Rows=some (.own 0,[.arr 30 1 true (v4.map isc)])∧(some (.tup [.agg [.own 0,.own 1],Bo true],[.arr 3 1 true (v1.map ic),.arr 30 1 true (v4.map isc)])=some r))) else (some (.tup [.agg [.t .nil,.t .nil],Bo false],[])=some r)))) ∧
 (∀ a a1 a2 a3 a4 r,Im (Zgn a a1 a2 a3 a4=some r) ((Zgf a1 a2 a3=some (.tup [.t .nil,.t .nil,Bo false],[])∧(some (.tup [.agg [Bo false,I 0,I 0,.t .nil,.t .nil,.t .nil],Bo false],[])=some r))∨(∃ (v1:List Zb),∃ v2,∃ (v3:List Za),Zgf a1 a2 a3=some (.tup [.own 0,.own 1,Bo true],[.arr 209 4 true (v1.map Zb.c),.arr 199 2 v2 (v3.map Za.c)])∧(∃ v4,Zlo a=some (Bo v4,[])∧(if v4=true then (∃ v8,Zt a4 0 1000000000000=some (Bo v8,[])∧(if v8=true then (Zgo a a3 false 0 0 v1 v2 v3 false 0 0 a4 a3.Steps (a3.Steps.length:Int) 0=some r) else (some (.tup [.agg [Bo false,I 0,I 0,.t .nil,.t .nil,.t .nil],Bo false],[])=some r))) else (some (.tup [.agg [Bo false,I 0,I 0,.t .nil,.t .nil,.t .nil],Bo false],[])=some r)))))) ∧
 (∀ a a1 a2 a3 a4 a5 r,Im (Zo5 a a1 a2 a3 a4 a5=some r) ((Zhz a2 a3 a4=some (.tup [.agg [.t .nil],Bo false],[])∧(some (.tup [.agg [Bo false,I 0,I 0,.t .nil,.t .nil,.t .nil],Bo false],[])=some r))∨(∃ (v1:List Ze),Zhz a2 a3 a4=some (.tup [.agg [.own 0],Bo true],[.arr 194 3 true (v1.map Ze.c)])∧((∃ v4 v5 v6 v7,Zgn a a1 a2 (⟨v1⟩:Plan) a5=some (.tup [.agg [Bo v4,I v5,I v6,.t .nil,.t .nil,.t .nil],Bo v7],[])∧(some (.tup [.agg [Bo v4,I v5,I v6,.t .nil,.t .nil,.t .nil],Bo v7],[])=some r))∨(∃ (v8:List Zf),∃ v9,∃ v10,∃ v11,Zgn a a1 a2 (⟨v1⟩:Plan) a5=some (.tup [.agg [Bo v9,I v10,I v11,.own 0,.t .nil,.t .nil],Bo true],[.arr 211 3 true (v8.map Zf.c)])∧(some (.tup [.agg [Bo v9,I v10,I v11,.own 0,.t .nil,.t .nil],Bo true],[.arr 211 3 true (v8.map Zf.c)])=some r))∨(∃ (v12:List Int),∃ (v13:List (List Int)),∃ v14,∃ v15,∃ v16,Zgn a a1 a2 (⟨v1⟩:Plan) a5=some (.tup [.agg [Bo v14,I v15,I v16,.t .nil,.own 0,.own 1],Bo true],[.arr 3 1 true (v12.map ic),.arr 30 1 true (v13.map isc)])∧(some (.tup [.agg [Bo v14,I v15,I v16,.t .nil,.own 0,.own 1],Bo true],[.arr 3 1 true (v12.map ic),.arr 30 1 true (v13.map isc)])=some r))∨(∃ (v17:List Zf),∃ (v18:List Int),∃ (v19:List (List Int)),∃ v20,∃ v21,∃ v22,Zgn a a1 a2 (⟨v1⟩:Plan) a5=some (.tup [.agg [Bo v20,I v21,I v22,.own 0,.own 1,.own 2],Bo true],[.arr 211 3 true (v17.map Zf.c),.arr 3 1 true (v18.map ic),.arr 30 1 true (v19.map isc)])∧(some (.tup [.agg [Bo v20,I v21,I v22,.own 0,.own 1,.own 2],Bo true],[.arr 211 3 true (v17.map Zf.c),.arr 3 1 true (v18.map ic),.arr 30 1 true (v19.map isc)])=some r)))))):=by
 and_intros
 all_goals intros
 all_goals unfold Im
 all_goals try simp only [Zo4,Zdh,Zgn,Zo5,Zes,Zub,Zuc,Zb3,Zb2,Za.c_def,Zgf,Zlo,Zt,Zk.c_def,Zj.c_def,Zi.c_def,Plan.c_def,Zd.c_def,Zhz,Zgo,mpl,dfs]
 all_goals try simp only [itb]
 all_goals try simp only [itf,gS,kk]
 all_goals repeat' first | refine exI fun _=>?_ | refine anJ fun _ _=>?_ | refine anI fun _=>?_ | refine orE2 ?_ ?_ | exact False.elim
 all_goals (intro h;first | refine run Zbfz rfl ?_ | refine run Zbf0 rfl ?_ | refine run Zbf1 rfl ?_ | refine run Zbf2 rfl ?_)
 all_goals (refine Eq.trans ?_ h;clear h;simp +decide [*,kk,tI,tII,Z1o,Z1p,Z1q,Z1r])
abbrev Zbjn:=Zp2.1
abbrev Zbjo:=Zp2.2.1
abbrev Zwv:=Zp2.2.2.1
abbrev Zbjp:=Zp2.2.2.2
theorem Z5h (m:Zj) (p:Plan) (Done:Bool) (Cost Steps:Int) (info:List Zb) (fr:Bool) (l:List Za) (Done1:Bool) (Cost1 Steps1 budget:Int) (x:List Ze) (x1 x2:Int) (r:AV×List Blk) (h:(if x2<x1 then (0≤x2∧(∃ (e1:Ze),x[x2.toNat]?=some e1∧(∃ (v:Int) (v1:Int) (v2:Int),Zeh info l x2=some (.tup [I v,I v1,I v2],[])∧(∃ (v3:Int),Zgl m p info l x2=some (I v3,[])∧(if (w (budget - Cost1))<v3 then (if 3≤e1.Kind then (Zcl m=some (.bsl 1 5,[.box (m.c.map .t),.box [.ptr 0 0,.ptr 0 6,.ptr 0 12,.ptr 0 18,.ptr 0 24]])∧(if (w (e1.Kind - 1))=0 then (∃ (v4:Int),Z9 m.Scan v v1 (w (budget - Cost1))=some (I v4,[])∧(∃ (e6:Zb),info[x2.toNat]?=some e6∧(some (.tup [.agg [Bo Done1,I budget,I Steps1,.own 0,.t .nil,.t .nil],Bo true],[.arr 211 3 true (([(⟨e6.Mask,v4,false⟩:Zf)]).map Zf.c)])=some r))) else (if (w (e1.Kind - 1))=1 then (∃ (v5:Int),Z9 m.Sort_ v v1 (w (budget - Cost1))=some (I v5,[])∧(∃ (e8:Zb),info[x2.toNat]?=some e8∧(some (.tup [.agg [Bo Done1,I budget,I Steps1,.own 0,.t .nil,.t .nil],Bo true],[.arr 211 3 true (([(⟨e8.Mask,v5,false⟩:Zf)]).map Zf.c)])=some r))) else (if (w (e1.Kind - 1))=2 then (∃ (v6:Int),Z9 m.Hash v v1 (w (budget - Cost1))=some (I v6,[])∧(∃ (e10:Zb),info[x2.toNat]?=some e10∧(some (.tup [.agg [Bo Done1,I budget,I Steps1,.own 0,.t .nil,.t .nil],Bo true],[.arr 211 3 true (([(⟨e10.Mask,v6,false⟩:Zf)]).map Zf.c)])=some r))) else (if (w (e1.Kind - 1))=3 then (∃ (v7:Int),Z9 m.Merge v v1 (w (budget - Cost1))=some (I v7,[])∧(∃ (e12:Zb),info[x2.toNat]?=some e12∧(some (.tup [.agg [Bo Done1,I budget,I Steps1,.own 0,.t .nil,.t .nil],Bo true],[.arr 211 3 true (([(⟨e12.Mask,v7,false⟩:Zf)]).map Zf.c)])=some r))) else (if (w (e1.Kind - 1))=4 then (∃ (v8:Int),Z9 m.Nested v v1 (w (budget - Cost1))=some (I v8,[])∧(∃ (e14:Zb),info[x2.toNat]?=some e14∧(some (.tup [.agg [Bo Done1,I budget,I Steps1,.own 0,.t .nil,.t .nil],Bo true],[.arr 211 3 true (([(⟨e14.Mask,v8,false⟩:Zf)]).map Zf.c)])=some r))) else False)))))) else (some (.tup [.agg [Bo Done1,I budget,I Steps1,.t .nil,.t .nil,.t .nil],Bo true],[])=some r)) else (if 3≤e1.Kind then (∃ (e15:Zb),info[x2.toNat]?=some e15∧(∃ (e16:Za),l[x2.toNat]?=some e16∧(∃ (v9:Int),Ze6 (e16.Rows.length:Int)=some (I v9,[])∧(Zei m p Done Cost Steps info fr l Done1 (w (Cost1+v3)) (w (Steps1+1)) ([(⟨e15.Mask,v9,true⟩:Zf)]) budget x x1 (w (x2+1))=some r)))) else (Zgo m p Done Cost Steps info fr l Done1 (w (Cost1+v3)) (w (Steps1+1)) budget x x1 (w (x2+1))=some r))))))) else (0≤(w ((l.length:Int) - 1))∧(∃ (e18:Za),l[(w ((l.length:Int) - 1)).toNat]?=some e18∧((∃ (v10:List Int) (v11:List (List Int)),Zdh e18=some (.tup [.agg [.own 0,.own 1],Bo true],[.arr 3 1 true (v10.map ic),.arr 30 1 true (v11.map isc)])∧(some (.tup [.agg [Bo true,I Cost1,I Steps1,.t .nil,.own 0,.own 1],Bo true],[.arr 3 1 true (v10.map ic),.arr 30 1 true (v11.map isc)])=some r))∨(Zdh e18=some (.tup [.agg [.t .nil,.t .nil],Bo false],[])∧(some (.tup [.agg [Bo true,I Cost1,I Steps1,.t .nil,.t .nil,.t .nil],Bo true],[])=some r))))))):Zgo m p Done Cost Steps info fr l Done1 Cost1 Steps1 budget x x1 x2=some r:=by
 unfold Zgo;rw [EvL_eq Zls.eq_1];by_cases q1:x2<x1
 ·rw [if_pos q1] at h;obtain ⟨q2,h⟩:=h;obtain ⟨e1,q3,h⟩:=h;have gq3:=ltOfGet q3;have kq3:=getOf q3;obtain ⟨v,v1,v2,q4,h⟩:=h;unfold Zeh at q4
  try simp at q4
  obtain ⟨v3,q5,h⟩:=h;unfold Zgl at q5
  try simp at q5
  by_cases q6:(w (budget - Cost1))<v3
  ·rw [if_pos q6] at h;by_cases q7:3≤e1.Kind
   ·rw [if_pos q7] at h;obtain ⟨q8,h⟩:=h;unfold Zcl at q8
    try simp at q8
    by_cases q9:(w (e1.Kind - 1))=0
    ·rw [if_pos q9] at h;obtain ⟨v4,q10,h⟩:=h;unfold Z9 at q10
     try simp at q10
     obtain ⟨e6,q11,h⟩:=h;have gq11:=ltOfGet q11;have kq11:=getOf q11;refine Eq.trans ?_ h;clear h;simp +decide [*,tI,tII,Zcf]
    ·rw [if_neg q9] at h;replace q9:=eq_false q9;by_cases q12:(w (e1.Kind - 1))=1
     ·rw [if_pos q12] at h;obtain ⟨v5,q13,h⟩:=h;unfold Z9 at q13
      try simp at q13
      obtain ⟨e8,q14,h⟩:=h;have gq14:=ltOfGet q14;have kq14:=getOf q14;refine Eq.trans ?_ h;clear h;simp +decide [*,tI,tII,Zcf]
     ·rw [if_neg q12] at h;replace q12:=eq_false q12;by_cases q15:(w (e1.Kind - 1))=2
      ·rw [if_pos q15] at h;obtain ⟨v6,q16,h⟩:=h;unfold Z9 at q16
       try simp at q16
       obtain ⟨e10,q17,h⟩:=h;have gq17:=ltOfGet q17;have kq17:=getOf q17;refine Eq.trans ?_ h;clear h;simp +decide [*,tI,tII,Zcf]
      ·rw [if_neg q15] at h;replace q15:=eq_false q15;by_cases q18:(w (e1.Kind - 1))=3
       ·rw [if_pos q18] at h;obtain ⟨v7,q19,h⟩:=h;unfold Z9 at q19
        try simp at q19
        obtain ⟨e12,q20,h⟩:=h;have gq20:=ltOfGet q20;have kq20:=getOf q20;refine Eq.trans ?_ h;clear h;simp +decide [*,tI,tII,Zcf]
       ·rw [if_neg q18] at h;replace q18:=eq_false q18;by_cases q21:(w (e1.Kind - 1))=4
        ·rw [if_pos q21] at h;obtain ⟨v8,q22,h⟩:=h;unfold Z9 at q22
         try simp at q22
         obtain ⟨e14,q23,h⟩:=h;have gq23:=ltOfGet q23;have kq23:=getOf q23;refine Eq.trans ?_ h;clear h;simp +decide [*,tI,tII,Zcf]
        ·rw [if_neg q21] at h;replace q21:=eq_false q21;cases h
   ·rw [if_neg q7] at h;refine Eq.trans ?_ h;clear h;simp +decide [*,tI,tII,Zcf]
  ·rw [if_neg q6] at h;by_cases q24:3≤e1.Kind
   ·rw [if_pos q24] at h;obtain ⟨e15,q25,h⟩:=h;have gq25:=ltOfGet q25;have kq25:=getOf q25;obtain ⟨e16,q26,h⟩:=h;have gq26:=ltOfGet q26;have kq26:=getOf q26;obtain ⟨v9,q27,h⟩:=h;unfold Ze6 at q27
    try simp at q27
    refine Eq.trans ?_ h;clear h;simp +decide [*,tI,tII,Zei,Zlr]
   ·rw [if_neg q24] at h;refine Eq.trans ?_ h;clear h;simp +decide [*,tI,tII,Zgo,Zlr]
 ·rw [if_neg q1] at h;obtain ⟨q28,h⟩:=h;have zq28:=q28;try simp at zq28
  obtain ⟨e18,q29,h⟩:=h;have gq29:=ltOfGet q29;have kq29:=getOf q29;rcases h with h | h
  ·obtain ⟨v10,v11,q30,h⟩:=h;unfold Zdh at q30
   try simp at q30
   refine Eq.trans ?_ h;clear h;simp +decide [*,tI,tII,Zgm]
  ·obtain ⟨q31,h⟩:=h;unfold Zdh at q31
   try simp at q31
   refine Eq.trans ?_ h;clear h;simp +decide [*,tI,tII,Zgm]
theorem Z5i (m:Zj) (p:Plan) (Done:Bool) (Cost Steps:Int) (info:List Zb) (fr:Bool) (l:List Za) (Done1:Bool) (Cost1 Steps1:Int) (x:List Zf) (budget:Int) (x1:List Ze) (x2 x3:Int) (r:AV×List Blk) (h:(if x3<x2 then (0≤x3∧(∃ (e1:Ze),x1[x3.toNat]?=some e1∧(∃ (v:Int) (v1:Int) (v2:Int),Zeh info l x3=some (.tup [I v,I v1,I v2],[])∧(∃ (v3:Int),Zgl m p info l x3=some (I v3,[])∧(if (w (budget - Cost1))<v3 then (if 3≤e1.Kind then (Zcl m=some (.bsl 1 5,[.box (m.c.map .t),.box [.ptr 0 0,.ptr 0 6,.ptr 0 12,.ptr 0 18,.ptr 0 24]])∧(if (w (e1.Kind - 1))=0 then (∃ (v4:Int),Z9 m.Scan v v1 (w (budget - Cost1))=some (I v4,[])∧(∃ (e6:Zb),info[x3.toNat]?=some e6∧(x.length+1≤68719476736∧(some (.tup [.agg [Bo Done1,I budget,I Steps1,.own 0,.t .nil,.t .nil],Bo true],[.arr 211 3 true ((x++[(⟨e6.Mask,v4,false⟩:Zf)]).map Zf.c)])=some r)))) else (if (w (e1.Kind - 1))=1 then (∃ (v5:Int),Z9 m.Sort_ v v1 (w (budget - Cost1))=some (I v5,[])∧(∃ (e8:Zb),info[x3.toNat]?=some e8∧(x.length+1≤68719476736∧(some (.tup [.agg [Bo Done1,I budget,I Steps1,.own 0,.t .nil,.t .nil],Bo true],[.arr 211 3 true ((x++[(⟨e8.Mask,v5,false⟩:Zf)]).map Zf.c)])=some r)))) else (if (w (e1.Kind - 1))=2 then (∃ (v6:Int),Z9 m.Hash v v1 (w (budget - Cost1))=some (I v6,[])∧(∃ (e10:Zb),info[x3.toNat]?=some e10∧(x.length+1≤68719476736∧(some (.tup [.agg [Bo Done1,I budget,I Steps1,.own 0,.t .nil,.t .nil],Bo true],[.arr 211 3 true ((x++[(⟨e10.Mask,v6,false⟩:Zf)]).map Zf.c)])=some r)))) else (if (w (e1.Kind - 1))=3 then (∃ (v7:Int),Z9 m.Merge v v1 (w (budget - Cost1))=some (I v7,[])∧(∃ (e12:Zb),info[x3.toNat]?=some e12∧(x.length+1≤68719476736∧(some (.tup [.agg [Bo Done1,I budget,I Steps1,.own 0,.t .nil,.t .nil],Bo true],[.arr 211 3 true ((x++[(⟨e12.Mask,v7,false⟩:Zf)]).map Zf.c)])=some r)))) else (if (w (e1.Kind - 1))=4 then (∃ (v8:Int),Z9 m.Nested v v1 (w (budget - Cost1))=some (I v8,[])∧(∃ (e14:Zb),info[x3.toNat]?=some e14∧(x.length+1≤68719476736∧(some (.tup [.agg [Bo Done1,I budget,I Steps1,.own 0,.t .nil,.t .nil],Bo true],[.arr 211 3 true ((x++[(⟨e14.Mask,v8,false⟩:Zf)]).map Zf.c)])=some r)))) else False)))))) else (some (.tup [.agg [Bo Done1,I budget,I Steps1,.own 0,.t .nil,.t .nil],Bo true],[.arr 211 3 true (x.map Zf.c)])=some r)) else (if 3≤e1.Kind then (∃ (e15:Zb),info[x3.toNat]?=some e15∧(∃ (e16:Za),l[x3.toNat]?=some e16∧(∃ (v9:Int),Ze6 (e16.Rows.length:Int)=some (I v9,[])∧(x.length+1≤68719476736∧(Zei m p Done Cost Steps info fr l Done1 (w (Cost1+v3)) (w (Steps1+1)) (x++[(⟨e15.Mask,v9,true⟩:Zf)]) budget x1 x2 (w (x3+1))=some r))))) else (Zei m p Done Cost Steps info fr l Done1 (w (Cost1+v3)) (w (Steps1+1)) x budget x1 x2 (w (x3+1))=some r))))))) else (0≤(w ((l.length:Int) - 1))∧(∃ (e18:Za),l[(w ((l.length:Int) - 1)).toNat]?=some e18∧((∃ (v10:List Int) (v11:List (List Int)),Zdh e18=some (.tup [.agg [.own 0,.own 1],Bo true],[.arr 3 1 true (v10.map ic),.arr 30 1 true (v11.map isc)])∧(some (.tup [.agg [Bo true,I Cost1,I Steps1,.own 0,.own 1,.own 2],Bo true],[.arr 211 3 true (x.map Zf.c),.arr 3 1 true (v10.map ic),.arr 30 1 true (v11.map isc)])=some r))∨(Zdh e18=some (.tup [.agg [.t .nil,.t .nil],Bo false],[])∧(some (.tup [.agg [Bo true,I Cost1,I Steps1,.own 0,.t .nil,.t .nil],Bo true],[.arr 211 3 true (x.map Zf.c)])=some r))))))):Zei m p Done Cost Steps info fr l Done1 Cost1 Steps1 x budget x1 x2 x3=some r:=by
 unfold Zei;rw [EvL_eq Zls.eq_1];by_cases q1:x3<x2
 ·rw [if_pos q1] at h;obtain ⟨q2,h⟩:=h;obtain ⟨e1,q3,h⟩:=h;have gq3:=ltOfGet q3;have kq3:=getOf q3;obtain ⟨v,v1,v2,q4,h⟩:=h;unfold Zeh at q4
  try simp at q4
  obtain ⟨v3,q5,h⟩:=h;unfold Zgl at q5
  try simp at q5
  by_cases q6:(w (budget - Cost1))<v3
  ·rw [if_pos q6] at h;by_cases q7:3≤e1.Kind
   ·rw [if_pos q7] at h;obtain ⟨q8,h⟩:=h;unfold Zcl at q8
    try simp at q8
    by_cases q9:(w (e1.Kind - 1))=0
    ·rw [if_pos q9] at h;obtain ⟨v4,q10,h⟩:=h;unfold Z9 at q10
     try simp at q10
     obtain ⟨e6,q11,h⟩:=h;have gq11:=ltOfGet q11;have kq11:=getOf q11;obtain ⟨q12,h⟩:=h;have rq12:=roomA (b:=24) q12 (by omega);have sq12:=roomB q12
     try simp [*] at rq12
     try simp [*] at sq12
     refine Eq.trans ?_ h;clear h;simp +decide [*,tI,tII,Zcf]
    ·rw [if_neg q9] at h;replace q9:=eq_false q9;by_cases q13:(w (e1.Kind - 1))=1
     ·rw [if_pos q13] at h;obtain ⟨v5,q14,h⟩:=h;unfold Z9 at q14
      try simp at q14
      obtain ⟨e8,q15,h⟩:=h;have gq15:=ltOfGet q15;have kq15:=getOf q15;obtain ⟨q16,h⟩:=h;have rq16:=roomA (b:=24) q16 (by omega);have sq16:=roomB q16
      try simp [*] at rq16
      try simp [*] at sq16
      refine Eq.trans ?_ h;clear h;simp +decide [*,tI,tII,Zcf]
     ·rw [if_neg q13] at h;replace q13:=eq_false q13;by_cases q17:(w (e1.Kind - 1))=2
      ·rw [if_pos q17] at h;obtain ⟨v6,q18,h⟩:=h;unfold Z9 at q18
       try simp at q18
       obtain ⟨e10,q19,h⟩:=h;have gq19:=ltOfGet q19;have kq19:=getOf q19;obtain ⟨q20,h⟩:=h;have rq20:=roomA (b:=24) q20 (by omega);have sq20:=roomB q20
       try simp [*] at rq20
       try simp [*] at sq20
       refine Eq.trans ?_ h;clear h;simp +decide [*,tI,tII,Zcf]
      ·rw [if_neg q17] at h;replace q17:=eq_false q17;by_cases q21:(w (e1.Kind - 1))=3
       ·rw [if_pos q21] at h;obtain ⟨v7,q22,h⟩:=h;unfold Z9 at q22
        try simp at q22
        obtain ⟨e12,q23,h⟩:=h;have gq23:=ltOfGet q23;have kq23:=getOf q23;obtain ⟨q24,h⟩:=h;have rq24:=roomA (b:=24) q24 (by omega);have sq24:=roomB q24
        try simp [*] at rq24
        try simp [*] at sq24
        refine Eq.trans ?_ h;clear h;simp +decide [*,tI,tII,Zcf]
       ·rw [if_neg q21] at h;replace q21:=eq_false q21;by_cases q25:(w (e1.Kind - 1))=4
        ·rw [if_pos q25] at h;obtain ⟨v8,q26,h⟩:=h;unfold Z9 at q26
         try simp at q26
         obtain ⟨e14,q27,h⟩:=h;have gq27:=ltOfGet q27;have kq27:=getOf q27;obtain ⟨q28,h⟩:=h;have rq28:=roomA (b:=24) q28 (by omega);have sq28:=roomB q28
         try simp [*] at rq28
         try simp [*] at sq28
         refine Eq.trans ?_ h;clear h;simp +decide [*,tI,tII,Zcf]
        ·rw [if_neg q25] at h;replace q25:=eq_false q25;cases h
   ·rw [if_neg q7] at h;refine Eq.trans ?_ h;clear h;simp +decide [*,tI,tII,Zcf]
  ·rw [if_neg q6] at h;by_cases q29:3≤e1.Kind
   ·rw [if_pos q29] at h;obtain ⟨e15,q30,h⟩:=h;have gq30:=ltOfGet q30;have kq30:=getOf q30;obtain ⟨e16,q31,h⟩:=h;have gq31:=ltOfGet q31;have kq31:=getOf q31;obtain ⟨v9,q32,h⟩:=h;unfold Ze6 at q32
    try simp at q32
    obtain ⟨q33,h⟩:=h;have rq33:=roomA (b:=24) q33 (by omega);have sq33:=roomB q33
    try simp [*] at rq33
    try simp [*] at sq33
    refine Eq.trans ?_ h;clear h;simp +decide [*,tI,tII,Zei,Zlr]
   ·rw [if_neg q29] at h;refine Eq.trans ?_ h;clear h;simp +decide [*,tI,tII,Zei,Zlr]
 ·rw [if_neg q1] at h;obtain ⟨q34,h⟩:=h;have zq34:=q34;try simp at zq34
  obtain ⟨e18,q35,h⟩:=h;have gq35:=ltOfGet q35;have kq35:=getOf q35;rcases h with h | h
  ·obtain ⟨v10,v11,q36,h⟩:=h;unfold Zdh at q36
   try simp at q36
   refine Eq.trans ?_ h;clear h;simp +decide [*,tI,tII,Zgm]
  ·obtain ⟨q37,h⟩:=h;unfold Zdh at q37
   try simp at q37
   refine Eq.trans ?_ h;clear h;simp +decide [*,tI,tII,Zgm]
theorem Zcy:(∀ a a1 a2 r,Im (Zx a a1 a2=some r) (if a1≤a then (some (Bo (decide (a≤a2)),[])=some r) else (some (Bo false,[])=some r))) ∧
 (∀ a r,Im (Zik a=some r) (if (a.size:Int)=1 then (∃ b1,a[0]?=some b1∧(if 97≤(b1.toNat:Int) then (some (Bo (decide ((b1.toNat:Int)≤122)),[])=some r) else (some (Bo false,[])=some r))) else (some (Bo false,[])=some r))) ∧
 (∀ l x i r,Im (Zlt l x i=some r) (if i<(l.length:Int) then (0≤i∧(∃ e1,l[i.toNat]?=some e1∧(if e1=x then (some (Bo true,[])=some r) else (Zlt l x (w (i+1))=some r)))) else (some (Bo false,[])=some r))) ∧
 (∀ a a1 r,Im (Zgp a a1=some r) (Zlt a a1 0=some r)) ∧
 (∀ q seen i r,Im (Zil q seen i=some r) (if i<(q.Atoms.length:Int) then (0≤i∧(∃ e1,q.Atoms[i.toNat]?=some e1∧(∃ v2,Zik e1.Name=some (Bo v2,[])∧(if v2=true then (∃ v3,Zx (e1.Vars.length:Int) 1 3=some (Bo v3,[])∧(if v3=true then (Zlu q e1 seen i 0=some r) else (some (Bo false,[])=some r))) else (some (Bo false,[])=some r))))) else (¬ q.Zl<0∧(some (Bo (decide (seen=(w ((shlI 1 q.Zl) - 1)))),[])=some r)))) ∧
 (∀ q a seen i k r,Im (Zlu q a seen i k=some r) (if k<(a.Vars.length:Int) then (0≤k∧(∃ e1,a.Vars[k.toNat]?=some e1∧(∃ v2,Zx e1 0 (w (q.Zl - 1))=some (Bo v2,[])∧(if v2=true then (k.toNat≤a.Vars.length∧(∃ v3,Zgp (a.Vars.take k.toNat) e1=some (Bo v3,[])∧(if v3=true then (some (Bo false,[])=some r) else (¬ e1<0∧(Zlu q a (orI seen (shlI 1 e1)) i (w (k+1))=some r))))) else (some (Bo false,[])=some r))))) else (Zil q seen (w (i+1))=some r))) ∧
 (∀ a r,Im (Zdv a=some r) (∃ v1,Zx a.Zl 1 4=some (Bo v1,[])∧(if v1=true then (∃ v2,Zx (a.Atoms.length:Int) 1 4=some (Bo v2,[])∧(if v2=true then (Zil a 0 0=some r) else (some (Bo false,[])=some r))) else (some (Bo false,[])=some r)))) ∧
 (∀ q mask x i r,Im (Zgq q mask x i=some r) (if i<(q.Atoms.length:Int) then (Zim q mask x i 0=some r) else (some (I x,[])=some r))) ∧
 (∀ q mask x i k r,Im (Zim q mask x i k=some r) (0≤i∧(∃ e1,q.Atoms[i.toNat]?=some e1∧(if k<(e1.Vars.length:Int) then (¬ i<0∧(if (andI (shrI mask i) 1)=1 then (0≤k∧(∃ e2,e1.Vars[k.toNat]?=some e2∧(¬ e2<0∧(Zim q mask (orI x (shlI 1 e2)) i (w (k+1))=some r)))) else (Zgq q mask x (w (i+1))=some r))) else (Zgq q mask x (w (i+1))=some r))))) ∧
 (∀ a a1 r,Im (Zcg a a1=some r) (Zgq a a1 0 0=some r)) ∧
 (∀ a a1 r,Im (Zgr a a1=some r) (∃ v1,Zx a1 0 3=some (Bo v1,[])∧(if v1=true then (¬ a1<0∧(some (Bo (decide ((andI (shrI a a1) 1)=1)),[])=some r)) else (some (Bo false,[])=some r)))) ∧
 (∀ x x1 x2 a b y v r,Im (Zgu x x1 x2 a b y v=some r) (if x1.Kind=4 then (∃ v1,Zgr v x1.Order=some (Bo v1,[])∧(if v1=true then (if a.Order=x1.Order then (if b.Order=x1.Order then (some (.tup [.agg [I y.Mask,I x1.Order,I y.Left,I y.Right],I 2],[])=some r) else (some (.tup [.agg [I 0,I 0,I 0,I 0],I (-1)],[])=some r)) else (some (.tup [.agg [I 0,I 0,I 0,I 0],I (-1)],[])=some r)) else (some (.tup [.agg [I 0,I 0,I 0,I 0],I (-1)],[])=some r))) else (some (.tup [.agg (y.c.map .t),I 2],[])=some r))):=by
 and_intros
 all_goals intros
 all_goals unfold Im
 all_goals try simp only [Zx,Zik,Zlt,Zgp,Zil,Zlu,Zdv,Zgq,Zim,Zcg,Zgr,Zgu,mpl,dfs]
 all_goals try simp only [itb]
 all_goals try simp only [itf,gS,kk]
 all_goals repeat' first | refine exI fun _=>?_ | refine anJ fun _ _=>?_ | refine anI fun _=>?_ | refine orE2 ?_ ?_ | exact False.elim
 all_goals (intro h;first | refine run Zbf3 rfl ?_ | refine run Zbf4 rfl ?_ | rw [EvL_eq Zud.eq_1] | refine run Zbf5 rfl ?_ | rw [EvL_eq Zo6.eq_1] | rw [EvL_eq Zuf.eq_1] | refine run Zbf6 rfl ?_ | rw [EvL_eq Zo8.eq_1] | rw [EvL_eq Zuh.eq_1] | refine run Zbf7 rfl ?_ | refine run Zbf8 rfl ?_ | rw [Ev_eq Zlv.eq_1])
 all_goals (refine Eq.trans ?_ h;clear h;simp +decide [*,kk,tI,tII,Z1s,Z1t,Zue,Z1u,Zo7,Zug,Z1v,Zo9,Zui,Z1w,Z1x,Zuj])
abbrev Zbjq:=Zcy.1
abbrev Zbjr:=Zcy.2.1
abbrev Z5j:=Zcy.2.2.1
abbrev Zbjs:=Zcy.2.2.2.1
abbrev Z5k:=Zcy.2.2.2.2.1
abbrev Z5l:=Zcy.2.2.2.2.2.1
abbrev Zbjt:=Zcy.2.2.2.2.2.2.1
abbrev Z5m:=Zcy.2.2.2.2.2.2.2.1
abbrev Zww:=Zcy.2.2.2.2.2.2.2.2.1
abbrev Zbju:=Zcy.2.2.2.2.2.2.2.2.2.1
abbrev Zbjv:=Zcy.2.2.2.2.2.2.2.2.2.2.1
abbrev Zbjw:=Zcy.2.2.2.2.2.2.2.2.2.2.2
theorem Zjt:(∀ x x1 x2 a b y v x3 r,Im (Ze7 x x1 x2 a b y v x3=some r) (if x1.Kind=4 then (∃ v1,Zgr v x1.Order=some (Bo v1,[])∧(if v1=true then (if a.Order=x1.Order then (if b.Order=x1.Order then (some (.tup [.agg [I y.Mask,I x1.Order,I y.Left,I y.Right],I 2],[])=some r) else (some (.tup [.agg [I 0,I 0,I 0,I 0],I (-1)],[])=some r)) else (some (.tup [.agg [I 0,I 0,I 0,I 0],I (-1)],[])=some r)) else (some (.tup [.agg [I 0,I 0,I 0,I 0],I (-1)],[])=some r))) else (some (.tup [.agg (y.c.map .t),I 2],[])=some r))) ∧
 (∀ a a1 a2 a3 r,Im (Zgs a a1 a2 a3=some r) (if a1.Kind=1 then (∃ v1,Zx a1.Atom 0 (w ((a.Atoms.length:Int) - 1))=some (Bo v1,[])∧(if v1=true then (if a1.Order=0 then (¬ a1.Atom<0∧(0≤a1.Atom∧(∃ e2,a.Atoms[a1.Atom.toNat]?=some e2∧(∃ e3,e2.Vars[0]?=some e3∧(some (.tup [.agg [I (shlI 1 a1.Atom),I e3,I (-1),I (-1)],I 0],[])=some r))))) else (some (.tup [.agg [I 0,I 0,I 0,I 0],I (-1)],[])=some r)) else (some (.tup [.agg [I 0,I 0,I 0,I 0],I (-1)],[])=some r))) else (if a1.Kind=2 then (if a1.Atom=0 then (if (a3.length:Int)<1 then (some (.tup [.agg [I 0,I 0,I 0,I 0],I (-1)],[])=some r) else (0≤(w ((a3.length:Int) - 1))∧(∃ e4,a3[(w ((a3.length:Int) - 1)).toNat]?=some e4∧(0≤e4∧(∃ e5,a2[e4.toNat]?=some e5∧(if e5.Order=a1.Order then (some (.tup [.agg [I 0,I 0,I 0,I 0],I (-1)],[])=some r) else (∃ v4,Zcg a e5.Mask=some (I v4,[])∧(∃ v5,Zgr v4 a1.Order=some (Bo v5,[])∧(if v5=true then (some (.tup [.agg [I e5.Mask,I a1.Order,I e4,I (-1)],I 1],[])=some r) else (some (.tup [.agg [I 0,I 0,I 0,I 0],I (-1)],[])=some r)))))))))) else (some (.tup [.agg [I 0,I 0,I 0,I 0],I (-1)],[])=some r)) else (if a1.Kind=3 then (Zgt a a1 (⟨0,0,0,0⟩:Zb) a2 a3 (a3.length:Int) a1.Kind true=some r) else (if a1.Kind=4 then (Zgt a a1 (⟨0,0,0,0⟩:Zb) a2 a3 (a3.length:Int) a1.Kind true=some r) else (if a1.Kind=5 then (if a1.Atom=0 then (if (a3.length:Int)<2 then (some (.tup [.agg [I 0,I 0,I 0,I 0],I (-1)],[])=some r) else (0≤(w ((a3.length:Int) - 2))∧(∃ e8,a3[(w ((a3.length:Int) - 2)).toNat]?=some e8∧(0≤e8∧(∃ e9,a2[e8.toNat]?=some e9∧(0≤(w ((a3.length:Int) - 1))∧(∃ e10,a3[(w ((a3.length:Int) - 1)).toNat]?=some e10∧(0≤e10∧(∃ e11,a2[e10.toNat]?=some e11∧(∃ v6,Zcg a e9.Mask=some (I v6,[])∧(∃ v7,Zcg a e11.Mask=some (I v7,[])∧(if (andI e9.Mask e11.Mask)=0 then (if (andI v6 v7)=0 then (some (.tup [.agg [I 0,I 0,I 0,I 0],I (-1)],[])=some r) else (if a1.Order=0 then (Zgu a a1 (⟨0,0,0,0⟩:Zb) e9 e11 (⟨(orI e9.Mask e11.Mask),e9.Order,e8,e10⟩:Zb) (andI v6 v7)=some r) else (some (.tup [.agg [I 0,I 0,I 0,I 0],I (-1)],[])=some r))) else (some (.tup [.agg [I 0,I 0,I 0,I 0],I (-1)],[])=some r))))))))))))) else (some (.tup [.agg [I 0,I 0,I 0,I 0],I (-1)],[])=some r)) else (some (.tup [.agg [I 0,I 0,I 0,I 0],I (-1)],[])=some r))))))) ∧
 (∀ q p info stack i r,Im (Zlw q p info stack i=some r) (if i<(p.Steps.length:Int) then (0≤i∧(∃ e1,p.Steps[i.toNat]?=some e1∧(∃ (v2:Zb),∃ v3,Zgs q e1 info stack=some (.tup [.agg (v2.c.map .t),I v3],[])∧(if v3<0 then (some (.tup [.own 0,Bo false],[.arr 209 4 true (([]:List Zb).map Zb.c)])=some r) else (info.length+1≤68719476736∧(0≤(w ((stack.length:Int) - v3))∧((w ((stack.length:Int) - v3)).toNat≤stack.length∧((w ((stack.length:Int) - v3)).toNat≤68719476736∧((w ((stack.length:Int) - v3)).toNat+1≤68719476736∧(Zlw q p (info++[v2]) ((stack.take ((w ((stack.length:Int) - v3)).toNat))++[i]) (w (i+1))=some r)))))))))) else (if (stack.length:Int)=1 then (some (.tup [.own 0,Bo true],[.arr 209 4 true (info.map Zb.c)])=some r) else (some (.tup [.own 0,Bo false],[.arr 209 4 true (([]:List Zb).map Zb.c)])=some r)))) ∧
 (∀ a a1 r,Im (Zej a a1=some r) (∃ v1,Zdv a=some (Bo v1,[])∧(if v1=true then (∃ v2,Zx (a1.Steps.length:Int) 1 14=some (Bo v2,[])∧(if v2=true then (Zlw a a1 ([]:List Zb) ([]:List Int) 0=some r) else (some (.tup [.own 0,Bo false],[.arr 209 4 true (([]:List Zb).map Zb.c)])=some r))) else (some (.tup [.own 0,Bo false],[.arr 209 4 true (([]:List Zb).map Zb.c)])=some r)))) ∧
 (∀ info i r,Im (Zly info i=some r) (0≤i∧(∃ e1,info[i.toNat]?=some e1∧(if 0≤e1.Left then (Zly info e1.Left=some r) else (some (I i,[])=some r))))) ∧
 (∀ a a1 r,Im (Zlx a a1=some r) (Zly a a1=some r)):=by
 and_intros
 all_goals intros
 all_goals unfold Im
 all_goals try simp only [Zgs,Zlw,Zej,Zly,Zlx,Zgr,Zx,Zcg,Zd.c_def,Ze.c_def,Zb.c_def,Zdv,Zgt,Zgu,Ze7,mpl,dfs]
 all_goals try simp only [itb]
 all_goals try simp only [itf,gS,kk]
 all_goals repeat' first | refine exI fun _=>?_ | refine anJ fun _ _=>?_ | refine anI fun _=>?_ | refine orE2 ?_ ?_ | exact False.elim
 all_goals (intro h;first | rw [Ev_eq Zlv.eq_1] | refine run Zbf9 rfl ?_ | rw [EvL_eq Zuk.eq_1] | refine run Zbga rfl ?_ | rw [EvL_eq Zum.eq_1] | refine run Zbgb rfl ?_)
 all_goals (refine Eq.trans ?_ h;clear h;simp +decide [*,kk,tI,tII,Zuj,Z1y,Zpa,Zul,Z1z,Zun,Z10])
abbrev Zwx:=Zjt.1
abbrev Zdz:=Zjt.2.1
abbrev Z5n:=Zjt.2.2.1
abbrev Zbjx:=Zjt.2.2.2.1
abbrev Zbjy:=Zjt.2.2.2.2.1
abbrev Zbjz:=Zjt.2.2.2.2.2
theorem Zm1 (q:Zd) (x:Ze) (x1:Zb) (info:List Zb) (stack:List Int) (n x2:Int) (x3:Bool) (r:AV×List Blk) (h:(if x3=true then (if x.Atom=0 then (if n<2 then (some (.tup [.agg [I 0,I 0,I 0,I 0],I (-1)],[])=some r) else (0≤(w (n - 2))∧(∃ (e1:Int),stack[(w (n - 2)).toNat]?=some e1∧(0≤e1∧(∃ (e2:Zb),info[e1.toNat]?=some e2∧(0≤(w (n - 1))∧(∃ (e3:Int),stack[(w (n - 1)).toNat]?=some e3∧(0≤e3∧(∃ (e4:Zb),info[e3.toNat]?=some e4∧(∃ (v:Int),Zcg q e2.Mask=some (I v,[])∧(∃ (v1:Int),Zcg q e4.Mask=some (I v1,[])∧(if (andI e2.Mask e4.Mask)=0 then (if (andI v v1)=0 then (some (.tup [.agg [I 0,I 0,I 0,I 0],I (-1)],[])=some r) else (if x.Kind=4 then (Ze7 q x x1 e2 e4 (⟨(orI e2.Mask e4.Mask),(-1),e1,e3⟩:Zb) (andI v v1) false=some r) else (if x.Order=0 then (if x.Kind=5 then (Zgu q x x1 e2 e4 (⟨(orI e2.Mask e4.Mask),e2.Order,e1,e3⟩:Zb) (andI v v1)=some r) else (Ze7 q x x1 e2 e4 (⟨(orI e2.Mask e4.Mask),(-1),e1,e3⟩:Zb) (andI v v1) false=some r)) else (some (.tup [.agg [I 0,I 0,I 0,I 0],I (-1)],[])=some r)))) else (some (.tup [.agg [I 0,I 0,I 0,I 0],I (-1)],[])=some r))))))))))))) else (some (.tup [.agg [I 0,I 0,I 0,I 0],I (-1)],[])=some r)) else (some (.tup [.agg [I 0,I 0,I 0,I 0],I (-1)],[])=some r))):Zgt q x x1 info stack n x2 x3=some r:=by
 unfold Zgt;rw [Ev_eq Zpa.eq_1];by_cases q1:x3=true
 ·rw [if_pos q1] at h;by_cases q2:x.Atom=0
  ·rw [if_pos q2] at h;replace q2:=eq_true q2;by_cases q3:n<2
   ·rw [if_pos q3] at h;refine Eq.trans ?_ h;clear h;simp +decide [*,tI,tII]
   ·rw [if_neg q3] at h;obtain ⟨q4,h⟩:=h;obtain ⟨e1,q5,h⟩:=h;have gq5:=ltOfGet q5;have kq5:=getOf q5;obtain ⟨q6,h⟩:=h;obtain ⟨e2,q7,h⟩:=h;have gq7:=ltOfGet q7;have kq7:=getOf q7;obtain ⟨q8,h⟩:=h;obtain ⟨e3,q9,h⟩:=h;have gq9:=ltOfGet q9;have kq9:=getOf q9;obtain ⟨q10,h⟩:=h;obtain ⟨e4,q11,h⟩:=h;have gq11:=ltOfGet q11;have kq11:=getOf q11;obtain ⟨v,q12,h⟩:=h;unfold Zcg at q12
    try simp at q12
    obtain ⟨v1,q13,h⟩:=h;unfold Zcg at q13
    try simp at q13
    by_cases q14:(andI e2.Mask e4.Mask)=0
    ·rw [if_pos q14] at h;replace q14:=eq_true q14;by_cases q15:(andI v v1)=0
     ·rw [if_pos q15] at h;replace q15:=eq_true q15;refine Eq.trans ?_ h;clear h;simp +decide [*,tI,tII]
     ·rw [if_neg q15] at h;replace q15:=eq_false q15;by_cases q16:x.Kind=4
      ·rw [if_pos q16] at h;replace q16:=eq_true q16;have q17:(x.Kind=5)=False:=eq_false (by intro hh;simp_all);refine Eq.trans ?_ h;clear h;simp +decide [*,tI,tII,Ze7]
      ·rw [if_neg q16] at h;replace q16:=eq_false q16;by_cases q18:x.Order=0
       ·rw [if_pos q18] at h;replace q18:=eq_true q18;by_cases q19:x.Kind=5
        ·rw [if_pos q19] at h;replace q19:=eq_true q19;refine Eq.trans ?_ h;clear h;simp +decide [*,tI,tII,Zgu]
        ·rw [if_neg q19] at h;replace q19:=eq_false q19;refine Eq.trans ?_ h;clear h;simp +decide [*,tI,tII,Ze7]
       ·rw [if_neg q18] at h;replace q18:=eq_false q18;refine Eq.trans ?_ h;clear h;simp +decide [*,tI,tII]
    ·rw [if_neg q14] at h;replace q14:=eq_false q14;refine Eq.trans ?_ h;clear h;simp +decide [*,tI,tII]
  ·rw [if_neg q2] at h;replace q2:=eq_false q2;refine Eq.trans ?_ h;clear h;simp +decide [*,tI,tII]
 ·rw [if_neg q1] at h;refine Eq.trans ?_ h;clear h;simp +decide [*,tI,tII]
theorem Zbj0 (a:Zd) (a1:Plan) (a2:Int) (r:AV×List Blk) (h:(∃ (v:List Zb) (v1:Bool),Zej a a1=some (.tup [.own 0,Bo v1],[.arr 209 4 true (v.map Zb.c)])∧(if v1=true then (∃ (v2:Bool),Zx a2 0 (w ((v.length:Int) - 1))=some (Bo v2,[])∧(if v2=true then (∃ (v3:Int),Zlx v a2=some (I v3,[])∧(0≤v3∧(0≤(w (a2+1))∧(v3.toNat≤(w (a2+1)).toNat∧((w (a2+1)).toNat≤a1.Steps.length∧(((a1.Steps.take ((w (a2+1)).toNat)).drop v3.toNat).length≤68719476736∧(some (.tup [.agg [.own 0],Bo true],[.arr 194 3 true (((a1.Steps.take ((w (a2+1)).toNat)).drop v3.toNat).map Ze.c)])=some r))))))) else (some (.tup [.agg [.t .nil],Bo false],[])=some r))) else (some (.tup [.agg [.t .nil],Bo false],[])=some r)))):Zin a a1 a2=some r:=by
 unfold Zin;refine run Zbgc rfl ?_;obtain ⟨v,v1,q1,h⟩:=h;unfold Zej at q1
 try simp at q1
 by_cases q2:v1=true
 ·rw [if_pos q2] at h;obtain ⟨v2,q3,h⟩:=h;unfold Zx at q3
  try simp at q3
  by_cases q4:v2=true
  ·rw [if_pos q4] at h;obtain ⟨v3,q5,h⟩:=h;unfold Zlx at q5
   try simp at q5
   obtain ⟨q6,h⟩:=h;obtain ⟨q7,h⟩:=h;obtain ⟨q8,h⟩:=h;have zq8:=q8;try simp at zq8
   obtain ⟨q9,h⟩:=h;have zq9:=q9;try simp at zq9
   obtain ⟨q10,h⟩:=h;have rq10:=roomA (b:=24) q10 (by omega);have sq10:=roomB q10
   try simp [*] at rq10
   try simp [*] at sq10
   refine Eq.trans ?_ h;clear h;simp +decide [*,Zpb,tI,tII]
  ·rw [if_neg q4] at h;refine Eq.trans ?_ h;clear h;simp +decide [*,Zpb,tI,tII]
 ·rw [if_neg q2] at h;refine Eq.trans ?_ h;clear h;simp +decide [*,Zpb,tI,tII]
theorem Zcz:(∀ q p info mask is i r,Im (Zip q p info mask is i=some r) (if i<(info.length:Int) then (if is=true then (0≤i∧(∃ e1,info[i.toNat]?=some e1∧(if 0≤e1.Right then (if e1.Mask=mask then ((∃ (v2:List Ze),Zin q p i=some (.tup [.agg [.own 0],Bo true],[.arr 194 3 true (v2.map Ze.c)])∧(some (.tup [.agg [.own 0],Bo true],[.arr 194 3 true (v2.map Ze.c)])=some r))∨(Zin q p i=some (.tup [.agg [.t .nil],Bo false],[])∧(some (.tup [.agg [.t .nil],Bo false],[])=some r))) else (Zip q p info mask true (w (i+1))=some r)) else (Zip q p info mask true (w (i+1))=some r)))) else (some (.tup [.agg [.t .nil],Bo false],[])=some r)) else (some (.tup [.agg [.t .nil],Bo false],[])=some r))) ∧
 (∀ a a1 a2 r,Im (Zio a a1 a2=some r) (∃ (v:List Zb),∃ v1,Zej a a1=some (.tup [.own 0,Bo v1],[.arr 209 4 true (v.map Zb.c)])∧(Zip a a1 v a2 v1 0=some r))) ∧
 (∀ row n i r,Im (Zlz row n i=some r) (if i<(row.length:Int) then (0≤i∧(∃ e1,row[i.toNat]?=some e1∧(∃ v2,Zx e1 0 9=some (Bo v2,[])∧(if v2=true then (Zlz row n (w (i+1))=some r) else (some (Bo false,[])=some r))))) else (some (Bo (decide ((row.length:Int)=n)),[])=some r))) ∧
 (∀ a a1 r,Im (Ziq a a1=some r) (Zlz a a1 0=some r)) ∧
 (∀ a b i r,Im (Zl0 a b i=some r) (if i<(a.length:Int) then (if i<(b.length:Int) then (0≤i∧(∃ e1,a[i.toNat]?=some e1∧(∃ e2,b[i.toNat]?=some e2∧(if e1<e2 then (some (I (-1),[])=some r) else (if e2<e1 then (some (I 1,[])=some r) else (Zl0 a b (w (i+1))=some r)))))) else (Zl1 a b i false=some r)) else (Zl1 a b i false=some r))) ∧
 (∀ a b i x r,Im (Zl1 a b i x=some r) (if (a.length:Int)<(b.length:Int) then (some (I (-1),[])=some r) else (if (b.length:Int)<(a.length:Int) then (some (I 1,[])=some r) else (some (I 0,[])=some r)))) ∧
 (∀ a a1 r,Im (Zir a a1=some r) (Zl0 a a1 0=some r)) ∧
 (∀ t i r,Im (Zis t i=some r) (if i<(t.Rows.length:Int) then (0≤i∧(∃ e1,t.Rows[i.toNat]?=some e1∧(∃ v2,Ziq e1 t.Arity=some (Bo v2,[])∧(if v2=true then (if 0<i then (0≤(w (i - 1))∧(∃ e3,t.Rows[(w (i - 1)).toNat]?=some e3∧(∃ v3,Zir e3 e1=some (I v3,[])∧(if 0≤v3 then (some (Bo false,[])=some r) else (Zis t (w (i+1))=some r))))) else (Zis t (w (i+1))=some r)) else (some (Bo false,[])=some r))))) else (some (Bo true,[])=some r))) ∧
 (∀ a r,Im (Zpd a=some r) (∃ v,Zik a.Name=some (Bo v,[])∧(if v=true then (∃ v2,Zx a.Arity 1 3=some (Bo v2,[])∧(if v2=true then (if 8<(a.Rows.length:Int) then (some (Bo false,[])=some r) else (Zis a 0=some r)) else (some (Bo false,[])=some r))) else (some (Bo false,[])=some r)))) ∧
 (∀ d i r,Im (Zit d i=some r) (if i<(d.Tables.length:Int) then (0≤i∧(∃ e1,d.Tables[i.toNat]?=some e1∧(∃ v2,Zpd e1=some (Bo v2,[])∧(if v2=true then (if 0<i then (0≤(w (i - 1))∧(∃ e3,d.Tables[(w (i - 1)).toNat]?=some e3∧(if (Op.bytesLess e3.Name.toList e1.Name.toList)=true then (Zit d (w (i+1))=some r) else (some (Bo false,[])=some r)))) else (Zit d (w (i+1))=some r)) else (some (Bo false,[])=some r))))) else (some (Bo (decide ((d.Tables.length:Int)≤6)),[])=some r))) ∧
 (∀ a r,Im (Zl2 a=some r) (Zit a 0=some r)) ∧
 (∀ t Name Arity Name1 Arity1 i r,Im (Zpe t Name Arity Name1 Arity1 i=some r) (if i<(t.Rows.length:Int) then (0≤i∧(∃ e1,t.Rows[i.toNat]?=some e1∧(e1.length≤68719476736∧(Ziu t Name Arity Name1 Arity1 ([e1]) (w (i+1))=some r)))) else (some (.agg [.t (.str Name1),I Arity1,.t .nil],[])=some r))):=by
 and_intros
 all_goals intros
 all_goals unfold Im
 all_goals try simp only [Zip,Zio,Zlz,Ziq,Zl0,Zir,Zis,Zpd,Zit,Zl2,Zpe,Zin,Plan.c_def,Zd.c_def,Zej,Zx,Zik,Zh.c_def,Zl1,Ziu,mpl,dfs]
 all_goals try simp only [itb]
 all_goals try simp only [itf,gS,kk]
 all_goals repeat' first | refine exI fun _=>?_ | refine anJ fun _ _=>?_ | refine anI fun _=>?_ | refine orE2 ?_ ?_ | exact False.elim
 all_goals (intro h;first | rw [EvL_eq Zuo.eq_1] | refine run Zbgd rfl ?_ | rw [EvL_eq Zuq.eq_1] | refine run Zbge rfl ?_ | rw [EvL_eq Zus.eq_1] | rw [Ev_eq Zpc.eq_1] | refine run Zbgf rfl ?_ | rw [EvL_eq Zut.eq_1] | refine run Zbgg rfl ?_ | rw [EvL_eq Zuv.eq_1] | refine run Zbgh rfl ?_ | rw [EvL_eq Zl3.eq_1])
 all_goals (refine Eq.trans ?_ h;clear h;simp +decide [*,kk,tI,tII,Zup,Z11,Zur,Z12,Z13,Zuu,Z14,Zuw,Z15,Zl4])
abbrev Zwy:=Zcz.1
abbrev Zbj1:=Zcz.2.1
abbrev Z5o:=Zcz.2.2.1
abbrev Zbj2:=Zcz.2.2.2.1
abbrev Z5p:=Zcz.2.2.2.2.1
abbrev Zbj3:=Zcz.2.2.2.2.2.1
abbrev Zbj4:=Zcz.2.2.2.2.2.2.1
abbrev Z5q:=Zcz.2.2.2.2.2.2.2.1
abbrev Zbj5:=Zcz.2.2.2.2.2.2.2.2.1
abbrev Z5r:=Zcz.2.2.2.2.2.2.2.2.2.1
abbrev Zbj6:=Zcz.2.2.2.2.2.2.2.2.2.2.1
abbrev Zbj7:=Zcz.2.2.2.2.2.2.2.2.2.2.2
theorem Zc0:(∀ t Name Arity Name1 Arity1 x i r,Im (Ziu t Name Arity Name1 Arity1 x i=some r) (if i<(t.Rows.length:Int) then (0≤i∧(∃ e1,t.Rows[i.toNat]?=some e1∧(e1.length≤68719476736∧(x.length+1≤68719476736∧(Ziu t Name Arity Name1 Arity1 (x++[e1]) (w (i+1))=some r))))) else (some (.agg [.t (.str Name1),I Arity1,.own 0],[.arr 30 1 true (x.map isc)])=some r))) ∧
 (∀ a r,Im (Zl5 a=some r) (Zpe a ⟨#[]⟩ 0 a.Name a.Arity 0=some r)) ∧
 (∀ d Name Arity name i r,Im (Zl6 d Name Arity name i=some r) (if i<(d.Tables.length:Int) then (∃ v1,Zl2 d=some (Bo v1,[])∧(if v1=true then (0≤i∧(∃ e2,d.Tables[i.toNat]?=some e2∧(if e2.Name=name then ((∃ v5 v6,Zl5 e2=some (.agg [.t (.str v5),I v6,.t .nil],[])∧(some (.tup [.agg [.t (.str v5),I v6,.t .nil],Bo true],[])=some r))∨(∃ (v8:List (List Int)),∃ v9,∃ v10,Zl5 e2=some (.agg [.t (.str v9),I v10,.own 0],[.arr 30 1 true (v8.map isc)])∧(some (.tup [.agg [.t (.str v9),I v10,.own 0],Bo true],[.arr 30 1 true (v8.map isc)])=some r))) else (Zl6 d Name Arity name (w (i+1))=some r)))) else (some (.tup [.agg [.t (.str ⟨#[]⟩),I 0,.t .nil],Bo false],[])=some r))) else (some (.tup [.agg [.t (.str ⟨#[]⟩),I 0,.t .nil],Bo false],[])=some r))) ∧
 (∀ a a1 r,Im (Ze8 a a1=some r) (Zl6 a ⟨#[]⟩ 0 a1 0=some r)) ∧
 (∀ d q i r,Im (Ziv d q i=some r) (if i<(q.Atoms.length:Int) then (0≤i∧(∃ e1,q.Atoms[i.toNat]?=some e1∧((∃ v2 v3 v4,Ze8 d e1.Name=some (.tup [.agg [.t (.str v2),I v3,.t .nil],Bo v4],[])∧(if v4=true then (if v3=(e1.Vars.length:Int) then (Ziv d q (w (i+1))=some r) else (some (Bo false,[])=some r)) else (some (Bo false,[])=some r)))∨(∃ (v5:List (List Int)),∃ v6,∃ v7,Ze8 d e1.Name=some (.tup [.agg [.t (.str v6),I v7,.own 0],Bo true],[.arr 30 1 true (v5.map isc)])∧(if v7=(e1.Vars.length:Int) then (Ziv d q (w (i+1))=some r) else (some (Bo false,[])=some r)))))) else (some (Bo true,[])=some r))) ∧
 (∀ a a1 r,Im (Zgv a a1=some r) (∃ v1,Zdv a1=some (Bo v1,[])∧(if v1=true then (Ziv a a1 0=some r) else (some (Bo false,[])=some r)))) ∧
 (∀ a a1 r,Im (Zu1 a a1=some r) (∃ v1,Zdv a=some (Bo v1,[])∧(if v1=true then (¬ (a.Atoms.length:Int)<0∧(∃ v2,Zx a1 0 (w ((shlI 1 (a.Atoms.length:Int)) - 1))=some (Bo v2,[])∧(some (Bo v2,[])=some r))) else (some (Bo false,[])=some r)))) ∧
 (∀ out bits v r,Im (Ziw out bits v=some r) (if v<4 then (¬ v<0∧(if (andI (shrI bits v) 1)=1 then (out.length+1≤68719476736∧(Ziw (out++[v]) bits (w (v+1))=some r)) else (Ziw out bits (w (v+1))=some r))) else (some (.own 0,[.arr 3 1 true (out.map ic)])=some r))) ∧
 (∀ a r,Im (Zu4 a=some r) (Ziw ([]:List Int) a 0=some r)) ∧
 (∀ a a1 r,Im (Zix a a1=some r) (∃ v1,Zu1 a a1=some (Bo v1,[])∧(if v1=true then (∃ v2,Zcg a a1=some (I v2,[])∧(∃ (v5:List Int),Zu4 v2=some (.own 0,[.arr 3 1 true (v5.map ic)])∧(some (.own 0,[.arr 3 1 true (v5.map ic)])=some r))) else (some (.own 0,[.arr 3 1 true (([]:List Int).map ic)])=some r)))) ∧
 (∀ a v k r,Im (Zl7 a v k=some r) (if k<(a.Vars.length:Int) then (0≤k∧(∃ e1,a.Vars[k.toNat]?=some e1∧(if e1=v then (some (I k,[])=some r) else (Zl7 a v (w (k+1))=some r)))) else (some (I (-1),[])=some r))) ∧
 (∀ a a1 r,Im (Ziy a a1=some r) (Zl7 a a1 0=some r)):=by
 and_intros
 all_goals intros
 all_goals unfold Im
 all_goals try simp only [Ziu,Zl5,Zl6,Ze8,Ziv,Zgv,Zu1,Ziw,Zu4,Zix,Zl7,Ziy,Zl2,Zk.c_def,Zh.c_def,Zdv,Zd.c_def,Zx,Zcg,Zpe,mpl,dfs]
 all_goals try simp only [itb]
 all_goals try simp only [itf,gS,kk]
 all_goals repeat' first | refine exI fun _=>?_ | refine anJ fun _ _=>?_ | refine anI fun _=>?_ | refine orE2 ?_ ?_ | exact False.elim
 all_goals (intro h;first | rw [EvL_eq Zl3.eq_1] | refine run Zbgi rfl ?_ | rw [EvL_eq Zux.eq_1] | refine run Zbgj rfl ?_ | rw [EvL_eq Zuz.eq_1] | refine run Zbgk rfl ?_ | refine run Zbgl rfl ?_ | rw [EvL_eq Zu2.eq_1] | refine run Zbgm rfl ?_ | refine run Zbgn rfl ?_ | rw [EvL_eq Zu5.eq_1] | refine run Zbgo rfl ?_)
 all_goals (refine Eq.trans ?_ h;clear h;simp +decide [*,kk,tI,tII,Zl4,Z16,Zuy,Z17,Zu0,Z18,Z19,Z2a,Zu3,Z2b,Z2c,Zu6,Z2d])
abbrev Z5s:=Zc0.1
abbrev Zbj8:=Zc0.2.1
abbrev Z5t:=Zc0.2.2.1
abbrev Zbj9:=Zc0.2.2.2.1
abbrev Z5u:=Zc0.2.2.2.2.1
abbrev Zbka:=Zc0.2.2.2.2.2.1
abbrev Zbkb:=Zc0.2.2.2.2.2.2.1
abbrev Z5v:=Zc0.2.2.2.2.2.2.2.1
abbrev Zbkc:=Zc0.2.2.2.2.2.2.2.2.1
abbrev Zbkd:=Zc0.2.2.2.2.2.2.2.2.2.1
abbrev Z5w:=Zc0.2.2.2.2.2.2.2.2.2.2.1
abbrev Zbke:=Zc0.2.2.2.2.2.2.2.2.2.2.2
theorem Zc1:(∀ q Name Arity x i k r,Im (Zu7 q Name Arity x i k=some r) (if k<0 then (Z2f q Name Arity x ([]:List Int) i k 0=some r) else (some (.tup [.agg [.own 0,.t .nil],Bo true],[.arr 3 1 true (x.map ic)])=some r))) ∧
 (∀ q Name Arity x x1 i k r,Im (Zu8 q Name Arity x x1 i k=some r) (if k<(x.length:Int) then (Zmb q Name Arity x x1 ([]:List Int) i k 0=some r) else (some (.tup [.agg [.own 0,.t .nil],Bo true],[.arr 3 1 true (x1.map ic)])=some r))) ∧
 (∀ q Name Arity x x1 row i k j r,Im (Zmb q Name Arity x x1 row i k j=some r) (if j<(x1.length:Int) then (0≤k∧(∃ e1,x[k.toNat]?=some e1∧(0≤i∧(∃ e2,q.Atoms[i.toNat]?=some e2∧(0≤j∧(∃ e3,x1[j.toNat]?=some e3∧(∃ v3,Ziy e2 e3=some (I v3,[])∧(0≤v3∧(∃ e5,e1[v3.toNat]?=some e5∧(row.length+1≤68719476736∧(Zmb q Name Arity x x1 (row++[e5]) i k (w (j+1))=some r))))))))))) else (Zgx q Name Arity x x1 ([row]) i (w (k+1))=some r))) ∧
 (∀ q Name Arity x x1 x2 i k r,Im (Zgx q Name Arity x x1 x2 i k=some r) (if k<(x.length:Int) then (Zmc q Name Arity x x1 x2 ([]:List Int) i k 0=some r) else (some (.tup [.agg [.own 0,.own 1],Bo true],[.arr 3 1 true (x1.map ic),.arr 30 1 true (x2.map isc)])=some r))) ∧
 (∀ q Name Arity x x1 x2 row i k j r,Im (Zmc q Name Arity x x1 x2 row i k j=some r) (if j<(x1.length:Int) then (0≤k∧(∃ e1,x[k.toNat]?=some e1∧(0≤i∧(∃ e2,q.Atoms[i.toNat]?=some e2∧(0≤j∧(∃ e3,x1[j.toNat]?=some e3∧(∃ v3,Ziy e2 e3=some (I v3,[])∧(0≤v3∧(∃ e5,e1[v3.toNat]?=some e5∧(row.length+1≤68719476736∧(Zmc q Name Arity x x1 x2 (row++[e5]) i k (w (j+1))=some r))))))))))) else (x2.length+1≤68719476736∧(Zgx q Name Arity x x1 (x2++[row]) i (w (k+1))=some r)))) ∧
 (∀ a a1 a2 r,Im (Zgw a a1 a2=some r) (∃ v1,Zgv a a1=some (Bo v1,[])∧(if v1=true then (∃ v2,Zx a2 0 (w ((a1.Atoms.length:Int) - 1))=some (Bo v2,[])∧(if v2=true then (0≤a2∧(∃ e3,a1.Atoms[a2.toNat]?=some e3∧((∃ v3 v4 v5,Ze8 a e3.Name=some (.tup [.agg [.t (.str v3),I v4,.t .nil],Bo v5],[])∧(¬ a2<0∧(∃ (v6:List Int),Zix a1 (shlI 1 a2)=some (.own 0,[.arr 3 1 true (v6.map ic)])∧(Zu7 a1 v3 v4 v6 a2 0=some r))))∨(∃ (v7:List (List Int)),∃ v8,∃ v9,Ze8 a e3.Name=some (.tup [.agg [.t (.str v8),I v9,.own 0],Bo true],[.arr 30 1 true (v7.map isc)])∧(¬ a2<0∧(∃ (v10:List Int),Zix a1 (shlI 1 a2)=some (.own 0,[.arr 3 1 true (v10.map ic)])∧(Zu8 a1 v8 v9 v7 v10 a2 0=some r))))))) else (some (.tup [.agg [.t .nil,.t .nil],Bo false],[])=some r))) else (some (.tup [.agg [.t .nil,.t .nil],Bo false],[])=some r)))) ∧
 (∀ l v i r,Im (Zmd l v i=some r) (if i<(l.length:Int) then (0≤i∧(∃ e1,l[i.toNat]?=some e1∧(if e1=v then (some (I i,[])=some r) else (Zmd l v (w (i+1))=some r)))) else (some (I (-1),[])=some r))) ∧
 (∀ a a1 r,Im (Zb6 a a1=some r) (Zmd a a1 0=some r)) ∧
 (∀ s i r,Im (Ziz s i=some r) (if i<(s.Vars.length:Int) then (0≤i∧(∃ e1,s.Vars[i.toNat]?=some e1∧(∃ v2,Zx e1 0 3=some (Bo v2,[])∧(if v2=true then (if 0<i then (0≤(w (i - 1))∧(∃ e3,s.Vars[(w (i - 1)).toNat]?=some e3∧(if e1≤e3 then (some (Bo false,[])=some r) else (Ziz s (w (i+1))=some r)))) else (Ziz s (w (i+1))=some r)) else (some (Bo false,[])=some r))))) else (Zme s 0=some r))) ∧
 (∀ s i r,Im (Zme s i=some r) (if i<(s.Rows.length:Int) then (0≤i∧(∃ e1,s.Rows[i.toNat]?=some e1∧(∃ v2,Ziq e1 (s.Vars.length:Int)=some (Bo v2,[])∧(if v2=true then (Zme s (w (i+1))=some r) else (some (Bo false,[])=some r))))) else (some (Bo (decide ((s.Rows.length:Int)≤4096)),[])=some r))) ∧
 (∀ a r,Im (Zch a=some r) (Ziz a 0=some r)) ∧
 (∀ s x x1 val r,Im (Zi0 s x x1 val=some r) (if val≤9 then (Zi1 s x x1 val 0=some r) else (some (.tup [.agg [.own 0,.t .nil],Bo true],[.arr 3 1 true (x.map ic)])=some r))):=by
 and_intros
 all_goals intros
 all_goals unfold Im
 all_goals try simp only [Zu7,Zu8,Zmb,Zgx,Zmc,Zgw,Zmd,Zb6,Ziz,Zme,Zch,Zi0,Ziy,Atom.c_def,Zgv,Zx,Ze8,Zix,Zk.c_def,Zd.c_def,Ziq,Z2f,Zi1,mpl,dfs]
 all_goals try simp only [itb]
 all_goals try simp only [itf,gS,kk]
 all_goals repeat' first | refine exI fun _=>?_ | refine anJ fun _ _=>?_ | refine anI fun _=>?_ | refine orE2 ?_ ?_ | exact False.elim
 all_goals (intro h;first | rw [EvL_eq Ze9.eq_1] | rw [EvL_eq Zl8.eq_1] | refine run Zbgp rfl ?_ | rw [EvL_eq Zu9.eq_1] | refine run Zbgq rfl ?_ | rw [EvL_eq Zvb.eq_1] | rw [EvL_eq Zvc.eq_1] | refine run Zbgr rfl ?_ | rw [EvL_eq Zgy.eq_1])
 all_goals (refine Eq.trans ?_ h;clear h;simp +decide [*,kk,tI,tII,Zfa,Zma,Zl9,Z2e,Zva,Z2g,Zve,Zvd,Z2h,Zgz])
abbrev Zbkf:=Zc1.1
abbrev Zbkg:=Zc1.2.1
abbrev Z5x:=Zc1.2.2.1
abbrev Z5y:=Zc1.2.2.2.1
abbrev Z5z:=Zc1.2.2.2.2.1
abbrev Zbkh:=Zc1.2.2.2.2.2.1
abbrev Z50:=Zc1.2.2.2.2.2.2.1
abbrev Zbki:=Zc1.2.2.2.2.2.2.2.1
abbrev Z51:=Zc1.2.2.2.2.2.2.2.2.1
abbrev Z52:=Zc1.2.2.2.2.2.2.2.2.2.1
abbrev Zbkj:=Zc1.2.2.2.2.2.2.2.2.2.2.1
abbrev Z53:=Zc1.2.2.2.2.2.2.2.2.2.2.2
theorem Zd0:(∀ s x x1 val i r,Im (Zi1 s x x1 val i=some r) (if i<(s.Rows.length:Int) then (0≤i∧(∃ e1,s.Rows[i.toNat]?=some e1∧(0≤x1∧(∃ e2,e1[x1.toNat]?=some e2∧(if e2=val then (e1.length≤68719476736∧(Zfb s x ([e1]) x1 val (w (i+1))=some r)) else (Zi1 s x x1 val (w (i+1))=some r)))))) else (Zi0 s x x1 (w (val+1))=some r))) ∧
 (∀ s x x1 x2 val i r,Im (Zfb s x x1 x2 val i=some r) (if i<(s.Rows.length:Int) then (0≤i∧(∃ e1,s.Rows[i.toNat]?=some e1∧(0≤x2∧(∃ e2,e1[x2.toNat]?=some e2∧(if e2=val then (e1.length≤68719476736∧(x1.length+1≤68719476736∧(Zfb s x (x1++[e1]) x2 val (w (i+1))=some r))) else (Zfb s x x1 x2 val (w (i+1))=some r)))))) else (Zph s x x1 x2 (w (val+1))=some r))) ∧
 (∀ s x x1 x2 val r,Im (Zph s x x1 x2 val=some r) (if val≤9 then (Zfb s x x1 x2 val 0=some r) else (some (.tup [.agg [.own 0,.own 1],Bo true],[.arr 3 1 true (x.map ic),.arr 30 1 true (x1.map isc)])=some r))) ∧
 (∀ a a1 r,Im (Zg0 a a1=some r) (∃ v1,Zb6 a.Vars a1=some (I v1,[])∧(∃ v2,Zch a=some (Bo v2,[])∧(if v2=true then (if v1<0 then (some (.tup [.agg [.t .nil,.t .nil],Bo false],[])=some r) else (a.Vars.length≤68719476736∧(Zi0 a a.Vars v1 0=some r))) else (some (.tup [.agg [.t .nil,.t .nil],Bo false],[])=some r))))) ∧
 (∀ out a b v r,Im (Zg1 out a b v=some r) (if v<4 then (∃ v1,Zgp a v=some (Bo v1,[])∧(if v1=true then (out.length+1≤68719476736∧(Zg1 (out++[v]) a b (w (v+1))=some r)) else (∃ v2,Zgp b v=some (Bo v2,[])∧(if v2=true then (out.length+1≤68719476736∧(Zg1 (out++[v]) a b (w (v+1))=some r)) else (Zg1 out a b (w (v+1))=some r))))) else (some (.own 0,[.arr 3 1 true (out.map ic)])=some r))) ∧
 (∀ a a1 r,Im (Zfc a a1=some r) (Zg1 ([]:List Int) a a1 0=some r)) ∧
 (∀ a x b y i r,Im (Zi2 a x b y i=some r) (if i<(a.length:Int) then (0≤i∧(∃ e1,a[i.toNat]?=some e1∧(∃ v2,Zb6 b e1=some (I v2,[])∧(if 0≤v2 then (∃ e3,x[i.toNat]?=some e3∧(∃ e4,y[v2.toNat]?=some e4∧(if e3=e4 then (Zi2 a x b y (w (i+1))=some r) else (some (Bo false,[])=some r)))) else (Zi2 a x b y (w (i+1))=some r))))) else (some (Bo true,[])=some r))) ∧
 (∀ a a1 a2 a3 r,Im (Z6 a a1 a2 a3=some r) (Zi2 a a1 a2 a3 0=some r)) ∧
 (∀ row vars a x b y i r,Im (Zi3 row vars a x b y i=some r) (if i<(vars.length:Int) then (0≤i∧(∃ e1,vars[i.toNat]?=some e1∧(∃ v2,Zb6 a e1=some (I v2,[])∧(if 0≤v2 then (∃ e3,x[v2.toNat]?=some e3∧(row.length+1≤68719476736∧(Zi3 (row++[e3]) vars a x b y (w (i+1))=some r))) else (∃ v3,Zb6 b e1=some (I v3,[])∧(0≤v3∧(∃ e5,y[v3.toNat]?=some e5∧(row.length+1≤68719476736∧(Zi3 (row++[e5]) vars a x b y (w (i+1))=some r))))))))) else (some (.own 0,[.arr 3 1 true (row.map ic)])=some r))) ∧
 (∀ a a1 a2 a3 a4 r,Im (Z7 a a1 a2 a3 a4=some r) (Zi3 ([]:List Int) a a1 a2 a3 a4 0=some r)):=by
 and_intros
 all_goals intros
 all_goals unfold Im
 all_goals try simp only [Zi1,Zfb,Zph,Zg0,Zg1,Zfc,Zi2,Z6,Zi3,Z7,Zb6,Zch,Za.c_def,Zgp,Zi0,mpl,dfs]
 all_goals try simp only [itb]
 all_goals try simp only [itf,gS,kk]
 all_goals repeat' first | refine exI fun _=>?_ | refine anJ fun _ _=>?_ | refine anI fun _=>?_ | refine orE2 ?_ ?_ | exact False.elim
 all_goals (intro h;first | rw [EvL_eq Zpf.eq_1] | rw [EvL_eq Zgy.eq_1] | refine run Zbgs rfl ?_ | rw [EvL_eq Zvf.eq_1] | refine run Zbgt rfl ?_ | rw [EvL_eq Zvh.eq_1] | refine run Zbgu rfl ?_ | rw [EvL_eq Zvj.eq_1] | refine run Zbgv rfl ?_)
 all_goals (refine Eq.trans ?_ h;clear h;simp +decide [*,kk,tI,tII,Z2i,Zpg,Zgz,Z2j,Z2k,Zvg,Z2l,Zvi,Z2m,Z2n,Zvk,Z2o])
abbrev Z54:=Zd0.1
abbrev Zp3:=Zd0.2.1
abbrev Z55:=Zd0.2.2.1
abbrev Zbkk:=Zd0.2.2.2.1
abbrev Z56:=Zd0.2.2.2.2.1
abbrev Zbkl:=Zd0.2.2.2.2.2.1
abbrev Z57:=Zd0.2.2.2.2.2.2.1
abbrev Zbkm:=Zd0.2.2.2.2.2.2.2.1
abbrev Z58:=Zd0.2.2.2.2.2.2.2.2.1
abbrev Zbkn:=Zd0.2.2.2.2.2.2.2.2.2
theorem Zdm:(∀ a b x flip only x1 outer inner i r,Im (Zi4 a b x flip only x1 outer inner i=some r) (if i<outer then (Zdk a b x flip only x1 outer inner i 0=some r) else (some (.agg [.own 0,.t .nil],[.arr 3 1 true (x.map ic)])=some r))) ∧
 (∀ a b x flip only x1 outer inner i k r,Im (Zdk a b x flip only x1 outer inner i k=some r) (if k<inner then (0≤(if (w ((a.Rows.length:Int) - 1))<i then (w ((a.Rows.length:Int) - 1)) else i)∧(∃ e1,a.Rows[(if (w ((a.Rows.length:Int) - 1))<i then (w ((a.Rows.length:Int) - 1)) else i).toNat]?=some e1∧(0≤(if (w ((b.Rows.length:Int) - 1))<k then (w ((b.Rows.length:Int) - 1)) else k)∧(∃ e2,b.Rows[(if (w ((b.Rows.length:Int) - 1))<k then (w ((b.Rows.length:Int) - 1)) else k).toNat]?=some e2∧(if flip=true then (0≤k∧(∃ e3,a.Rows[k.toNat]?=some e3∧(0≤i∧(∃ e4,b.Rows[i.toNat]?=some e4∧(if only<0 then (∃ v4,Z6 a.Vars e3 b.Vars e4=some (Bo v4,[])∧(if v4=true then (∃ (v5:List Int),Z7 x a.Vars e3 b.Vars e4=some (.own 0,[.arr 3 1 true (v5.map ic)])∧(Zbh a b x ([v5]) true only x1 outer inner i (w (k+1))=some r)) else (Zdk a b x true only x1 outer inner i (w (k+1))=some r))) else (0≤x1∧(∃ e7,e3[x1.toNat]?=some e7∧(if e7=only then (∃ v9,Z6 a.Vars e3 b.Vars e4=some (Bo v9,[])∧(if v9=true then (∃ (v11:List Int),Z7 x a.Vars e3 b.Vars e4=some (.own 0,[.arr 3 1 true (v11.map ic)])∧(Zbh a b x ([v11]) true only x1 outer inner i (w (k+1))=some r)) else (Zdk a b x true only x1 outer inner i (w (k+1))=some r))) else (Zdk a b x true only x1 outer inner i (w (k+1))=some r))))))))) else (if only<0 then (∃ v12,Z6 a.Vars e1 b.Vars e2=some (Bo v12,[])∧(if v12=true then (∃ (v13:List Int),Z7 x a.Vars e1 b.Vars e2=some (.own 0,[.arr 3 1 true (v13.map ic)])∧(Zbh a b x ([v13]) false only x1 outer inner i (w (k+1))=some r)) else (Zdk a b x false only x1 outer inner i (w (k+1))=some r))) else (0≤x1∧(∃ e12,e1[x1.toNat]?=some e12∧(if e12=only then (∃ v14,Z6 a.Vars e1 b.Vars e2=some (Bo v14,[])∧(if v14=true then (∃ (v15:List Int),Z7 x a.Vars e1 b.Vars e2=some (.own 0,[.arr 3 1 true (v15.map ic)])∧(Zbh a b x ([v15]) false only x1 outer inner i (w (k+1))=some r)) else (Zdk a b x false only x1 outer inner i (w (k+1))=some r))) else (Zdk a b x false only x1 outer inner i (w (k+1))=some r)))))))))) else (Zi4 a b x flip only x1 outer inner (w (i+1))=some r))) ∧
 (∀ a b x x1 flip only x2 outer inner i k r,Im (Zbh a b x x1 flip only x2 outer inner i k=some r) (if k<inner then (if (x1.length:Int)≤4096 then (0≤(if (w ((a.Rows.length:Int) - 1))<i then (w ((a.Rows.length:Int) - 1)) else i)∧(∃ e1,a.Rows[(if (w ((a.Rows.length:Int) - 1))<i then (w ((a.Rows.length:Int) - 1)) else i).toNat]?=some e1∧(0≤(if (w ((b.Rows.length:Int) - 1))<k then (w ((b.Rows.length:Int) - 1)) else k)∧(∃ e2,b.Rows[(if (w ((b.Rows.length:Int) - 1))<k then (w ((b.Rows.length:Int) - 1)) else k).toNat]?=some e2∧(if flip=true then (0≤k∧(∃ e3,a.Rows[k.toNat]?=some e3∧(0≤i∧(∃ e4,b.Rows[i.toNat]?=some e4∧(if only<0 then (∃ v4,Z6 a.Vars e3 b.Vars e4=some (Bo v4,[])∧(if v4=true then (∃ (v5:List Int),Z7 x a.Vars e3 b.Vars e4=some (.own 0,[.arr 3 1 true (v5.map ic)])∧(x1.length+1≤68719476736∧(Zbh a b x (x1++[v5]) true only x2 outer inner i (w (k+1))=some r))) else (Zbh a b x x1 true only x2 outer inner i (w (k+1))=some r))) else (0≤x2∧(∃ e7,e3[x2.toNat]?=some e7∧(if e7=only then (∃ v9,Z6 a.Vars e3 b.Vars e4=some (Bo v9,[])∧(if v9=true then (∃ (v11:List Int),Z7 x a.Vars e3 b.Vars e4=some (.own 0,[.arr 3 1 true (v11.map ic)])∧(x1.length+1≤68719476736∧(Zbh a b x (x1++[v11]) true only x2 outer inner i (w (k+1))=some r))) else (Zbh a b x x1 true only x2 outer inner i (w (k+1))=some r))) else (Zbh a b x x1 true only x2 outer inner i (w (k+1))=some r))))))))) else (if only<0 then (∃ v12,Z6 a.Vars e1 b.Vars e2=some (Bo v12,[])∧(if v12=true then (∃ (v13:List Int),Z7 x a.Vars e1 b.Vars e2=some (.own 0,[.arr 3 1 true (v13.map ic)])∧(x1.length+1≤68719476736∧(Zbh a b x (x1++[v13]) false only x2 outer inner i (w (k+1))=some r))) else (Zbh a b x x1 false only x2 outer inner i (w (k+1))=some r))) else (0≤x2∧(∃ e12,e1[x2.toNat]?=some e12∧(if e12=only then (∃ v14,Z6 a.Vars e1 b.Vars e2=some (Bo v14,[])∧(if v14=true then (∃ (v15:List Int),Z7 x a.Vars e1 b.Vars e2=some (.own 0,[.arr 3 1 true (v15.map ic)])∧(x1.length+1≤68719476736∧(Zbh a b x (x1++[v15]) false only x2 outer inner i (w (k+1))=some r))) else (Zbh a b x x1 false only x2 outer inner i (w (k+1))=some r))) else (Zbh a b x x1 false only x2 outer inner i (w (k+1))=some r)))))))))) else (Zi5 a b x x1 flip only x2 outer inner (w (i+1))=some r)) else (Zi5 a b x x1 flip only x2 outer inner (w (i+1))=some r))) ∧
 (∀ a b x x1 flip only x2 outer inner i r,Im (Zi5 a b x x1 flip only x2 outer inner i=some r) (if i<outer then (Zbh a b x x1 flip only x2 outer inner i 0=some r) else (some (.agg [.own 0,.own 1],[.arr 3 1 true (x.map ic),.arr 30 1 true (x1.map isc)])=some r))) ∧
 (∀ x a a1 a2 a3 a4 r,Im (Zco x a a1 a2 a3 a4=some r) (∃ v,Zb6 a.Vars a3=some (I v,[])∧(if a2=true then (Zi4 a a1 x true a4 v (a1.Rows.length:Int) (a.Rows.length:Int) 0=some r) else (Zi4 a a1 x false a4 v (a.Rows.length:Int) (a1.Rows.length:Int) 0=some r)))) ∧
 (∀ x r,Im (Zi6 x=some r) (some (.tup [.agg [.own 0,.t .nil],Bo true],[.arr 3 1 true (x.map ic)])=some r)) ∧
 (∀ x x1 r,Im (Zdw x x1=some r) (if 4096<(x1.length:Int) then (some (.tup [.agg [.t .nil,.t .nil],Bo false],[.arr 3 1 true (x.map ic),.arr 30 1 true (x1.map isc)])=some r) else (some (.tup [.agg [.own 0,.own 1],Bo true],[.arr 3 1 true (x.map ic),.arr 30 1 true (x1.map isc)])=some r))) ∧
 (∀ a a1 r,Im (Zg4 a a1=some r) (∃ v,Zch a=some (Bo v,[])∧(if v=true then (∃ v1,Zch a1=some (Bo v1,[])∧(if v1=true then (∃ (v2:List Int),Zfc a.Vars a1.Vars=some (.own 0,[.arr 3 1 true (v2.map ic)])∧((∃ (v3:List Int),Zco v2 a a1 true 0 (-1)=some (.agg [.own 0,.t .nil],[.arr 3 1 true (v3.map ic)])∧(∃ (v4:List Int),Zi6 v3=some (.tup [.agg [.own 0,.t .nil],Bo true],[.arr 3 1 true (v4.map ic)])∧(some (.tup [.agg [.own 0,.t .nil],Bo true],[.arr 3 1 true (v4.map ic)])=some r)))∨(∃ (v5:List Int) (v6:List (List Int)),Zco v2 a a1 true 0 (-1)=some (.agg [.own 0,.own 1],[.arr 3 1 true (v5.map ic),.arr 30 1 true (v6.map isc)])∧((∃ (v7:List Int) (v8:List (List Int)),Zdw v5 v6=some (.tup [.agg [.t .nil,.t .nil],Bo false],[.arr 3 1 true (v7.map ic),.arr 30 1 true (v8.map isc)])∧(some (.tup [.agg [.t .nil,.t .nil],Bo false],[])=some r))∨(∃ (v9:List Int) (v10:List (List Int)),Zdw v5 v6=some (.tup [.agg [.own 0,.own 1],Bo true],[.arr 3 1 true (v9.map ic),.arr 30 1 true (v10.map isc)])∧(some (.tup [.agg [.own 0,.own 1],Bo true],[.arr 3 1 true (v9.map ic),.arr 30 1 true (v10.map isc)])=some r)))))) else (some (.tup [.agg [.t .nil,.t .nil],Bo false],[])=some r))) else (some (.tup [.agg [.t .nil,.t .nil],Bo false],[])=some r)))) ∧
 (∀ a a1 r,Im (Zg5 a a1=some r) (∃ v,Zch a=some (Bo v,[])∧(if v=true then (∃ v1,Zch a1=some (Bo v1,[])∧(if v1=true then (∃ (v2:List Int),Zfc a.Vars a1.Vars=some (.own 0,[.arr 3 1 true (v2.map ic)])∧((∃ (v3:List Int),Zco v2 a a1 false 0 (-1)=some (.agg [.own 0,.t .nil],[.arr 3 1 true (v3.map ic)])∧(∃ (v4:List Int),Zi6 v3=some (.tup [.agg [.own 0,.t .nil],Bo true],[.arr 3 1 true (v4.map ic)])∧(some (.tup [.agg [.own 0,.t .nil],Bo true],[.arr 3 1 true (v4.map ic)])=some r)))∨(∃ (v5:List Int) (v6:List (List Int)),Zco v2 a a1 false 0 (-1)=some (.agg [.own 0,.own 1],[.arr 3 1 true (v5.map ic),.arr 30 1 true (v6.map isc)])∧((∃ (v7:List Int) (v8:List (List Int)),Zdw v5 v6=some (.tup [.agg [.t .nil,.t .nil],Bo false],[.arr 3 1 true (v7.map ic),.arr 30 1 true (v8.map isc)])∧(some (.tup [.agg [.t .nil,.t .nil],Bo false],[])=some r))∨(∃ (v9:List Int) (v10:List (List Int)),Zdw v5 v6=some (.tup [.agg [.own 0,.own 1],Bo true],[.arr 3 1 true (v9.map ic),.arr 30 1 true (v10.map isc)])∧(some (.tup [.agg [.own 0,.own 1],Bo true],[.arr 3 1 true (v9.map ic),.arr 30 1 true (v10.map isc)])=some r)))))) else (some (.tup [.agg [.t .nil,.t .nil],Bo false],[])=some r))) else (some (.tup [.agg [.t .nil,.t .nil],Bo false],[])=some r)))) ∧
 (∀ s x i r,Im (Zmf s x i=some r) (if i<(s.Rows.length:Int) then (0≤(w (i - 1))∧(∃ e1,s.Rows[(w (i - 1)).toNat]?=some e1∧(0≤x∧(∃ e2,e1[x.toNat]?=some e2∧(0≤i∧(∃ e3,s.Rows[i.toNat]?=some e3∧(∃ e4,e3[x.toNat]?=some e4∧(if e4<e2 then (some (Bo false,[])=some r) else (Zmf s x (w (i+1))=some r))))))))) else (some (Bo true,[])=some r))) ∧
 (∀ a a1 r,Im (Zi7 a a1=some r) (∃ v,Zb6 a.Vars a1=some (I v,[])∧(∃ v1,Zch a=some (Bo v1,[])∧(if v1=true then (if v<0 then (some (Bo false,[])=some r) else (Zmf a v 1=some r)) else (some (Bo false,[])=some r))))):=by
 and_intros
 all_goals intros
 all_goals unfold Im
 all_goals try simp only [Zi4,Zdk,Zbh,Zi5,Zco,Zi6,Zdw,Zg4,Zg5,Zmf,Zi7,Z6,Z7,Zb6,Zch,Zfc,Za.c_def,mpl,dfs]
 all_goals try simp only [itb]
 all_goals try simp only [itf,gS,kk]
 all_goals repeat' first | refine exI fun _=>?_ | refine anJ fun _ _=>?_ | refine anI fun _=>?_ | refine orE2 ?_ ?_ | exact False.elim
 all_goals (intro h;first | rw [EvL_eq Zdi.eq_1] | rw [EvL_eq Zg2.eq_1] | refine runM Z3u rfl ?_ | refine runM Zbgw rfl ?_ | refine run Zbgx rfl ?_ | refine run Zbgy rfl ?_ | rw [EvL_eq Zvo.eq_1] | refine run Zbgz rfl ?_)
 all_goals (refine Eq.trans ?_ h;clear h;simp +decide [*,kk,tI,tII,Zdj,Zvl,Zg3,Zvn,Zvm,Z2p,Z2q,Z2r,Zvp,Z2s])
abbrev Z59:=Zdm.1
abbrev Z6a:=Zdm.2.1
abbrev Z6b:=Zdm.2.2.1
abbrev Z6c:=Zdm.2.2.2.1
abbrev Zwz:=Zdm.2.2.2.2.1
abbrev Zw0:=Zdm.2.2.2.2.2.1
abbrev Zbko:=Zdm.2.2.2.2.2.2.1
abbrev Zbkp:=Zdm.2.2.2.2.2.2.2.1
abbrev Zbkq:=Zdm.2.2.2.2.2.2.2.2.1
abbrev Zw1:=Zdm.2.2.2.2.2.2.2.2.2.1
abbrev Zbkr:=Zdm.2.2.2.2.2.2.2.2.2.2
theorem Zc2:(∀ a b x x1 flip only x2 outer inner i r,Im (Zg6 a b x x1 flip only x2 outer inner i=some r) (if i<outer then (Zdl a b x x1 flip only x2 outer inner i 0=some r) else (some (.agg [.own 0,.own 1],[.arr 3 1 true (x.map ic),.arr 30 1 true (x1.map isc)])=some r))) ∧
 (∀ a b x x1 flip only x2 outer inner i k r,Im (Zdl a b x x1 flip only x2 outer inner i k=some r) (if k<inner then (if (x1.length:Int)≤4096 then (0≤(if (w ((a.Rows.length:Int) - 1))<i then (w ((a.Rows.length:Int) - 1)) else i)∧(∃ e1,a.Rows[(if (w ((a.Rows.length:Int) - 1))<i then (w ((a.Rows.length:Int) - 1)) else i).toNat]?=some e1∧(0≤(if (w ((b.Rows.length:Int) - 1))<k then (w ((b.Rows.length:Int) - 1)) else k)∧(∃ e2,b.Rows[(if (w ((b.Rows.length:Int) - 1))<k then (w ((b.Rows.length:Int) - 1)) else k).toNat]?=some e2∧(if flip=true then (0≤k∧(∃ e3,a.Rows[k.toNat]?=some e3∧(0≤i∧(∃ e4,b.Rows[i.toNat]?=some e4∧(if only<0 then (∃ v9,Z6 a.Vars e3 b.Vars e4=some (Bo v9,[])∧(if v9=true then (∃ (v10:List Int),Z7 x a.Vars e3 b.Vars e4=some (.own 0,[.arr 3 1 true (v10.map ic)])∧(x1.length+1≤68719476736∧(Zbi a b x (x1++[v10]) true only x2 outer inner i (w (k+1))=some r))) else (Zdl a b x x1 true only x2 outer inner i (w (k+1))=some r))) else (0≤x2∧(∃ e7,e3[x2.toNat]?=some e7∧(if e7=only then (∃ v11,Z6 a.Vars e3 b.Vars e4=some (Bo v11,[])∧(if v11=true then (∃ (v12:List Int),Z7 x a.Vars e3 b.Vars e4=some (.own 0,[.arr 3 1 true (v12.map ic)])∧(x1.length+1≤68719476736∧(Zbi a b x (x1++[v12]) true only x2 outer inner i (w (k+1))=some r))) else (Zdl a b x x1 true only x2 outer inner i (w (k+1))=some r))) else (Zdl a b x x1 true only x2 outer inner i (w (k+1))=some r))))))))) else (if only<0 then (∃ v14,Z6 a.Vars e1 b.Vars e2=some (Bo v14,[])∧(if v14=true then (∃ (v15:List Int),Z7 x a.Vars e1 b.Vars e2=some (.own 0,[.arr 3 1 true (v15.map ic)])∧(x1.length+1≤68719476736∧(Zbi a b x (x1++[v15]) false only x2 outer inner i (w (k+1))=some r))) else (Zdl a b x x1 false only x2 outer inner i (w (k+1))=some r))) else (0≤x2∧(∃ e12,e1[x2.toNat]?=some e12∧(if e12=only then (∃ v16,Z6 a.Vars e1 b.Vars e2=some (Bo v16,[])∧(if v16=true then (∃ (v17:List Int),Z7 x a.Vars e1 b.Vars e2=some (.own 0,[.arr 3 1 true (v17.map ic)])∧(x1.length+1≤68719476736∧(Zbi a b x (x1++[v17]) false only x2 outer inner i (w (k+1))=some r))) else (Zdl a b x x1 false only x2 outer inner i (w (k+1))=some r))) else (Zdl a b x x1 false only x2 outer inner i (w (k+1))=some r)))))))))) else (Zg6 a b x x1 flip only x2 outer inner (w (i+1))=some r)) else (Zg6 a b x x1 flip only x2 outer inner (w (i+1))=some r))) ∧
 (∀ a b x x1 flip only x2 outer inner i k r,Im (Zbi a b x x1 flip only x2 outer inner i k=some r) (if k<inner then (if (x1.length:Int)≤4096 then (0≤(if (w ((a.Rows.length:Int) - 1))<i then (w ((a.Rows.length:Int) - 1)) else i)∧(∃ e1,a.Rows[(if (w ((a.Rows.length:Int) - 1))<i then (w ((a.Rows.length:Int) - 1)) else i).toNat]?=some e1∧(0≤(if (w ((b.Rows.length:Int) - 1))<k then (w ((b.Rows.length:Int) - 1)) else k)∧(∃ e2,b.Rows[(if (w ((b.Rows.length:Int) - 1))<k then (w ((b.Rows.length:Int) - 1)) else k).toNat]?=some e2∧(if flip=true then (0≤k∧(∃ e3,a.Rows[k.toNat]?=some e3∧(0≤i∧(∃ e4,b.Rows[i.toNat]?=some e4∧(if only<0 then (∃ v9,Z6 a.Vars e3 b.Vars e4=some (Bo v9,[])∧(if v9=true then (∃ (v10:List Int),Z7 x a.Vars e3 b.Vars e4=some (.own 0,[.arr 3 1 true (v10.map ic)])∧(x1.length+1≤68719476736∧(Zbi a b x (x1++[v10]) true only x2 outer inner i (w (k+1))=some r))) else (Zbi a b x x1 true only x2 outer inner i (w (k+1))=some r))) else (0≤x2∧(∃ e7,e3[x2.toNat]?=some e7∧(if e7=only then (∃ v11,Z6 a.Vars e3 b.Vars e4=some (Bo v11,[])∧(if v11=true then (∃ (v12:List Int),Z7 x a.Vars e3 b.Vars e4=some (.own 0,[.arr 3 1 true (v12.map ic)])∧(x1.length+1≤68719476736∧(Zbi a b x (x1++[v12]) true only x2 outer inner i (w (k+1))=some r))) else (Zbi a b x x1 true only x2 outer inner i (w (k+1))=some r))) else (Zbi a b x x1 true only x2 outer inner i (w (k+1))=some r))))))))) else (if only<0 then (∃ v14,Z6 a.Vars e1 b.Vars e2=some (Bo v14,[])∧(if v14=true then (∃ (v15:List Int),Z7 x a.Vars e1 b.Vars e2=some (.own 0,[.arr 3 1 true (v15.map ic)])∧(x1.length+1≤68719476736∧(Zbi a b x (x1++[v15]) false only x2 outer inner i (w (k+1))=some r))) else (Zbi a b x x1 false only x2 outer inner i (w (k+1))=some r))) else (0≤x2∧(∃ e12,e1[x2.toNat]?=some e12∧(if e12=only then (∃ v16,Z6 a.Vars e1 b.Vars e2=some (Bo v16,[])∧(if v16=true then (∃ (v17:List Int),Z7 x a.Vars e1 b.Vars e2=some (.own 0,[.arr 3 1 true (v17.map ic)])∧(x1.length+1≤68719476736∧(Zbi a b x (x1++[v17]) false only x2 outer inner i (w (k+1))=some r))) else (Zbi a b x x1 false only x2 outer inner i (w (k+1))=some r))) else (Zbi a b x x1 false only x2 outer inner i (w (k+1))=some r)))))))))) else (Zi8 a b x x1 flip only x2 outer inner (w (i+1))=some r)) else (Zi8 a b x x1 flip only x2 outer inner (w (i+1))=some r))) ∧
 (∀ a b x x1 flip only x2 outer inner i r,Im (Zi8 a b x x1 flip only x2 outer inner i=some r) (if i<outer then (Zbi a b x x1 flip only x2 outer inner i 0=some r) else (some (.agg [.own 0,.own 2],[.arr 3 1 true (x.map ic),.dead,.arr 30 1 true (x1.map isc)])=some r))) ∧
 (∀ x x1 a a1 a2 a3 a4 r,Im (Zmg x x1 a a1 a2 a3 a4=some r) (∃ v1,Zb6 a.Vars a3=some (I v1,[])∧(if a2=true then (Zg6 a a1 x x1 true a4 v1 (a1.Rows.length:Int) (a.Rows.length:Int) 0=some r) else (Zg6 a a1 x x1 false a4 v1 (a.Rows.length:Int) (a1.Rows.length:Int) 0=some r)))) ∧
 (∀ a b x v val r,Im (Zmh a b x v val=some r) (if val≤9 then ((∃ (v1:List Int),Zco x a b false v val=some (.agg [.own 0,.t .nil],[.arr 3 1 true (v1.map ic)])∧(Zmh a b v1 v (w (val+1))=some r))∨(∃ (v3:List Int) (v4:List (List Int)),Zco x a b false v val=some (.agg [.own 0,.own 1],[.arr 3 1 true (v3.map ic),.arr 30 1 true (v4.map isc)])∧(Zja a b v3 v4 v (w (val+1))=some r))) else (∃ (v5:List Int),Zi6 x=some (.tup [.agg [.own 0,.t .nil],Bo true],[.arr 3 1 true (v5.map ic)])∧(some (.tup [.agg [.own 0,.t .nil],Bo true],[.arr 3 1 true (v5.map ic)])=some r)))) ∧
 (∀ a b x x1 v val r,Im (Zja a b x x1 v val=some r) (if val≤9 then ((∃ (v1:List Int) (v2:List (List Int)),Zmg x x1 a b false v val=some (.agg [.own 0,.own 1],[.arr 3 1 true (v1.map ic),.arr 30 1 true (v2.map isc)])∧(Zja a b v1 v2 v (w (val+1))=some r))∨(∃ (v3:List Int) (v4:List (List Int)),Zmg x x1 a b false v val=some (.agg [.own 0,.own 2],[.arr 3 1 true (v3.map ic),.dead,.arr 30 1 true (v4.map isc)])∧(Zja a b v3 v4 v (w (val+1))=some r))) else ((∃ (v5:List Int) (v6:List (List Int)),Zdw x x1=some (.tup [.agg [.t .nil,.t .nil],Bo false],[.arr 3 1 true (v5.map ic),.arr 30 1 true (v6.map isc)])∧(some (.tup [.agg [.t .nil,.t .nil],Bo false],[])=some r))∨(∃ (v7:List Int) (v8:List (List Int)),Zdw x x1=some (.tup [.agg [.own 0,.own 1],Bo true],[.arr 3 1 true (v7.map ic),.arr 30 1 true (v8.map isc)])∧(some (.tup [.agg [.own 0,.own 1],Bo true],[.arr 3 1 true (v7.map ic),.arr 30 1 true (v8.map isc)])=some r))))) ∧
 (∀ a a1 a2 r,Im (Zi9 a a1 a2=some r) (∃ v1,Zi7 a a2=some (Bo v1,[])∧(if v1=true then (∃ v3,Zi7 a1 a2=some (Bo v3,[])∧(if v3=true then (∃ (v5:List Int),Zfc a.Vars a1.Vars=some (.own 0,[.arr 3 1 true (v5.map ic)])∧(Zmh a a1 v5 a2 0=some r)) else (some (.tup [.agg [.t .nil,.t .nil],Bo false],[])=some r))) else (some (.tup [.agg [.t .nil,.t .nil],Bo false],[])=some r)))) ∧
 (∀ d q p info out i r,Im (Zbj d q p info out i=some r) (if i<(info.length:Int) then (0≤i∧(∃ e1,p.Steps[i.toNat]?=some e1∧(if e1.Kind=1 then ((Zgw d q e1.Atom=some (.tup [.agg [.t .nil,.t .nil],Bo false],[])∧(out.length+1≤68719476736∧(Zbj d q p info (out++[(⟨[],[]⟩:Za)]) (w (i+1))=some r)))∨(∃ (v5:List Int),Zgw d q e1.Atom=some (.tup [.agg [.own 0,.t .nil],Bo true],[.arr 3 1 true (v5.map ic)])∧(out.length+1≤68719476736∧(Zbj d q p info (out++[(⟨v5,[]⟩:Za)]) (w (i+1))=some r)))∨(∃ (v7:List Int) (v8:List (List Int)),Zgw d q e1.Atom=some (.tup [.agg [.own 0,.own 1],Bo true],[.arr 3 1 true (v7.map ic),.arr 30 1 true (v8.map isc)])∧(out.length+1≤68719476736∧(Zbj d q p info (out++[(⟨v7,v8⟩:Za)]) (w (i+1))=some r)))) else (if e1.Kind=2 then (∃ e5,info[i.toNat]?=some e5∧(0≤e5.Left∧(∃ e6,out[e5.Left.toNat]?=some e6∧((Zg0 e6 e1.Order=some (.tup [.agg [.t .nil,.t .nil],Bo false],[])∧(out.length+1≤68719476736∧(Zbj d q p info (out++[(⟨[],[]⟩:Za)]) (w (i+1))=some r)))∨(∃ (v11:List Int),Zg0 e6 e1.Order=some (.tup [.agg [.own 0,.t .nil],Bo true],[.arr 3 1 true (v11.map ic)])∧(out.length+1≤68719476736∧(Zbj d q p info (out++[(⟨v11,[]⟩:Za)]) (w (i+1))=some r)))∨(∃ (v12:List Int) (v13:List (List Int)),Zg0 e6 e1.Order=some (.tup [.agg [.own 0,.own 1],Bo true],[.arr 3 1 true (v12.map ic),.arr 30 1 true (v13.map isc)])∧(out.length+1≤68719476736∧(Zbj d q p info (out++[(⟨v12,v13⟩:Za)]) (w (i+1))=some r))))))) else (if e1.Kind=3 then (∃ e10,info[i.toNat]?=some e10∧(0≤e10.Left∧(∃ e11,out[e10.Left.toNat]?=some e11∧(0≤e10.Right∧(∃ e12,out[e10.Right.toNat]?=some e12∧((∃ (v16:List Int),Zg4 e11 e12=some (.tup [.agg [.own 0,.t .nil],Bo true],[.arr 3 1 true (v16.map ic)])∧(out.length+1≤68719476736∧(Zbj d q p info (out++[(⟨v16,[]⟩:Za)]) (w (i+1))=some r)))∨(Zg4 e11 e12=some (.tup [.agg [.t .nil,.t .nil],Bo false],[])∧(out.length+1≤68719476736∧(Zbj d q p info (out++[(⟨[],[]⟩:Za)]) (w (i+1))=some r)))∨(∃ (v18:List Int) (v19:List (List Int)),Zg4 e11 e12=some (.tup [.agg [.own 0,.own 1],Bo true],[.arr 3 1 true (v18.map ic),.arr 30 1 true (v19.map isc)])∧(out.length+1≤68719476736∧(Zbj d q p info (out++[(⟨v18,v19⟩:Za)]) (w (i+1))=some r))))))))) else (if e1.Kind=5 then (∃ e16,info[i.toNat]?=some e16∧(0≤e16.Left∧(∃ e17,out[e16.Left.toNat]?=some e17∧(0≤e16.Right∧(∃ e18,out[e16.Right.toNat]?=some e18∧((∃ (v20:List Int),Zg5 e17 e18=some (.tup [.agg [.own 0,.t .nil],Bo true],[.arr 3 1 true (v20.map ic)])∧(out.length+1≤68719476736∧(Zbj d q p info (out++[(⟨v20,[]⟩:Za)]) (w (i+1))=some r)))∨(Zg5 e17 e18=some (.tup [.agg [.t .nil,.t .nil],Bo false],[])∧(out.length+1≤68719476736∧(Zbj d q p info (out++[(⟨[],[]⟩:Za)]) (w (i+1))=some r)))∨(∃ (v21:List Int) (v22:List (List Int)),Zg5 e17 e18=some (.tup [.agg [.own 0,.own 1],Bo true],[.arr 3 1 true (v21.map ic),.arr 30 1 true (v22.map isc)])∧(out.length+1≤68719476736∧(Zbj d q p info (out++[(⟨v21,v22⟩:Za)]) (w (i+1))=some r))))))))) else (∃ e22,info[i.toNat]?=some e22∧(0≤e22.Left∧(∃ e23,out[e22.Left.toNat]?=some e23∧(0≤e22.Right∧(∃ e24,out[e22.Right.toNat]?=some e24∧((Zi9 e23 e24 e1.Order=some (.tup [.agg [.t .nil,.t .nil],Bo false],[])∧(out.length+1≤68719476736∧(Zbj d q p info (out++[(⟨[],[]⟩:Za)]) (w (i+1))=some r)))∨(∃ (v23:List Int),Zi9 e23 e24 e1.Order=some (.tup [.agg [.own 0,.t .nil],Bo true],[.arr 3 1 true (v23.map ic)])∧(out.length+1≤68719476736∧(Zbj d q p info (out++[(⟨v23,[]⟩:Za)]) (w (i+1))=some r)))∨(∃ (v24:List Int) (v25:List (List Int)),Zi9 e23 e24 e1.Order=some (.tup [.agg [.own 0,.own 1],Bo true],[.arr 3 1 true (v24.map ic),.arr 30 1 true (v25.map isc)])∧(out.length+1≤68719476736∧(Zbj d q p info (out++[(⟨v24,v25⟩:Za)]) (w (i+1))=some r))))))))))))))) else (some (.tup [.own 0,.own 1,Bo true],[.arr 199 2 true (out.map Za.c),.arr 209 4 true (info.map Zb.c)])=some r))) ∧
 (∀ a a1 a2 r,Im (Zjb a a1 a2=some r) (∃ (v1:List Zb),∃ v2,Zej a1 a2=some (.tup [.own 0,Bo v2],[.arr 209 4 true (v1.map Zb.c)])∧(if v2=true then (∃ v3,Zgv a a1=some (Bo v3,[])∧(if v3=true then (Zbj a a1 a2 v1 ([]:List Za) 0=some r) else (some (.tup [.own 0,.own 1,Bo false],[.arr 199 2 true (([]:List Za).map Za.c),.arr 209 4 true (v1.map Zb.c)])=some r))) else (some (.tup [.own 0,.own 1,Bo false],[.arr 199 2 true (([]:List Za).map Za.c),.arr 209 4 true (v1.map Zb.c)])=some r)))) ∧
 (∀ a a1 r,Im (Zg7 a a1=some r) (if a1=1 then (some (.agg (a.Scan.c.map .t),[])=some r) else (if a1=2 then (some (.agg (a.Sort_.c.map .t),[])=some r) else (if a1=3 then (some (.agg (a.Hash.c.map .t),[])=some r) else (if a1=4 then (some (.agg (a.Merge.c.map .t),[])=some r) else (some (.agg (a.Nested.c.map .t),[])=some r)))))) ∧
 (∀ a r,Im (Zdx a=some r) (∃ v1,Zx a (-99) 99=some (Bo v1,[])∧(some (Bo v1,[])=some r))):=by
 and_intros
 all_goals intros
 all_goals unfold Im
 all_goals try simp only [Zg6,Zdl,Zbi,Zi8,Zmg,Zmh,Zja,Zi9,Zbj,Zjb,Zg7,Zdx,Z6,Z7,Zb6,Zco,Zi6,Za.c_def,Zdw,Zi7,Zfc,Zgw,Zg0,Zg4,Zg5,Zk.c_def,Zd.c_def,Zej,Zgv,Plan.c_def,Zx,mpl,dfs]
 all_goals try simp only [itb]
 all_goals try simp only [itf,gS,kk]
 all_goals repeat' first | refine exI fun _=>?_ | refine anJ fun _ _=>?_ | refine anI fun _=>?_ | refine orE2 ?_ ?_ | exact False.elim
 all_goals (intro h;first | rw [EvL_eq Zdi.eq_1] | rw [EvL_eq Zg2.eq_1] | refine runM Z3u rfl ?_ | rw [EvL_eq Zpi.eq_1] | refine run Zbg0 rfl ?_ | rw [EvL_eq Zvq.eq_1] | refine run Zbg1 rfl ?_ | refine run Zbg2 rfl ?_ | refine run Zbg3 rfl ?_)
 all_goals (refine Eq.trans ?_ h;clear h;simp +decide [*,kk,tI,tII,Zdj,Zvl,Zg3,Zvn,Zvm,Zpj,Z2t,Z2u,Zvr,Z2v,Z2w,Z2x])
abbrev Z6d:=Zc2.1
abbrev Z6e:=Zc2.2.1
abbrev Z6f:=Zc2.2.2.1
abbrev Z6g:=Zc2.2.2.2.1
abbrev Zbks:=Zc2.2.2.2.2.1
abbrev Z6h:=Zc2.2.2.2.2.2.1
abbrev Z6i:=Zc2.2.2.2.2.2.2.1
abbrev Zbkt:=Zc2.2.2.2.2.2.2.2.1
abbrev Z6j:=Zc2.2.2.2.2.2.2.2.2.1
abbrev Zw2:=Zc2.2.2.2.2.2.2.2.2.2.1
abbrev Zbku:=Zc2.2.2.2.2.2.2.2.2.2.2.1
abbrev Zbkv:=Zc2.2.2.2.2.2.2.2.2.2.2.2
theorem Zc3:(∀ o i r,Im (Zg8 o i=some r) (if i<(o.Steps.length:Int) then (0≤i∧(∃ e1,o.Steps[i.toNat]?=some e1∧(∃ v1,Zx e1.From 1 8192=some (Bo v1,[])∧(if v1=true then (∃ v2,Zdx e1.Add=some (Bo v2,[])∧(if v2=true then (if 0<i then (0≤(w (i - 1))∧(∃ e4,o.Steps[(w (i - 1)).toNat]?=some e4∧(if e1.From≤e4.From then (some (Bo false,[])=some r) else (Zg8 o (w (i+1))=some r)))) else (Zg8 o (w (i+1))=some r)) else (some (Bo false,[])=some r))) else (some (Bo false,[])=some r))))) else (some (Bo true,[])=some r))) ∧
 (∀ a r,Im (Zfd a=some r) (∃ v,Zdx a.Fixed=some (Bo v,[])∧(if v=true then (∃ v1,Zdx a.Zp=some (Bo v1,[])∧(if v1=true then (∃ v2,Zdx a.Zq=some (Bo v2,[])∧(if v2=true then (∃ v3,Zdx a.Zr=some (Bo v3,[])∧(if v3=true then (∃ v4,Zdx a.Zs=some (Bo v4,[])∧(if v4=true then (if 4<(a.Steps.length:Int) then (some (Bo false,[])=some r) else (Zg8 a 0=some r)) else (some (Bo false,[])=some r))) else (some (Bo false,[])=some r))) else (some (Bo false,[])=some r))) else (some (Bo false,[])=some r))) else (some (Bo false,[])=some r)))) ∧
 (∀ k n i r,Im (Zjc k n i=some r) (if i<k then (Zjc k (if 1<(w (n*4)) then (w (n*4)) else 1) (w (i+1))=some r) else (some (I n,[])=some r))) ∧
 (∀ a r,Im (Zdy a=some r) (∃ v,Zx a 0 7=some (Bo v,[])∧(if v=true then (Zjc a 0 0=some r) else (some (I (-1),[])=some r)))) ∧
 (∀ o l r_1 n i r,Im (Zg9 o l r_1 n i=some r) (if i<(o.Steps.length:Int) then (0≤i∧(∃ e1,o.Steps[i.toNat]?=some e1∧(if e1.From≤(w (l+r_1)) then (Zg9 o l r_1 (w (n+e1.Add)) (w (i+1))=some r) else (Zg9 o l r_1 n (w (i+1))=some r)))) else (some (I n,[])=some r))) ∧
 (∀ a a1 a2 a3 r,Im (Zek a a1 a2 a3=some r) (∃ v,Zfd a=some (Bo v,[])∧(if v=true then (∃ v1,Zx a1 0 4096=some (Bo v1,[])∧(if v1=true then (∃ v2,Zx a2 0 4096=some (Bo v2,[])∧(if v2=true then (∃ v3,Zx a3 0 4096=some (Bo v3,[])∧(if v3=true then (Zg9 a a1 a2 (w ((w ((w ((w (a.Fixed+(w (a.Zp*a1))))+(w (a.Zq*a2))))+(w (a.Zr*a3))))+(w ((w (a.Zs*a1))*a2)))) 0=some r) else (some (I 0,[])=some r))) else (some (I 0,[])=some r))) else (some (I 0,[])=some r))) else (some (I 0,[])=some r)))) ∧
 (∀ a a1 r,Im (Zha a a1=some r) (∃ e1,a1[0]?=some e1∧(∃ v1,Zdy e1=some (I v1,[])∧(∃ e3,a1[1]?=some e3∧(∃ v3,Zdy e3=some (I v3,[])∧(∃ e5,a1[2]?=some e5∧(∃ v5,Zdy e5=some (I v5,[])∧(∃ v6,Zek a v1 v3 v5=some (I v6,[])∧(some (I v6,[])=some r))))))))) ∧
 (∀ o a r,Im (Zjf o a=some r) (if a≤7 then (Zjg o a 0=some r) else (some (.tup [.own 0,.own 1,Bo false],[.arr 3 1 true (([]:List Int).map ic),.arr 3 1 true (([]:List Int).map ic)])=some r))) ∧
 (∀ o a b r,Im (Zjg o a b=some r) (if b≤7 then (Zjh o a b 0=some r) else (Zjf o (w (a+1))=some r))) ∧
 (∀ o a b e r,Im (Zjh o a b e=some r) (if e≤7 then (Zel o ([a,b,e]) a b e 0=some r) else (Zjg o a (w (b+1))=some r))) ∧
 (∀ o x a b e k r,Im (Zel o x a b e k=some r) (if k<3 then (x.length≤68719476736∧(0≤k∧(∃ e1,x[k.toNat]?=some e1∧(if (w (e1+1))≤7 then (∃ v1,Zha o (x.set k.toNat (w (e1+1)))=some (I v1,[])∧(∃ v2,Zha o x=some (I v2,[])∧(if v1<v2 then (some (.tup [.own 0,.own 1,Bo true],[.arr 3 1 true (x.map ic),.arr 3 1 true ((x.set k.toNat (w (e1+1))).map ic)])=some r) else (Zel o x a b e (w (k+1))=some r)))) else (Zel o x a b e (w (k+1))=some r))))) else (Zjh o a b (w (e+1))=some r))) ∧
 (∀ a r,Im (Zmk a=some r) (∃ v,Zfd a=some (Bo v,[])∧(if v=true then (Zjf a 0=some r) else (some (.tup [.own 0,.own 1,Bo false],[.arr 3 1 true (([]:List Int).map ic),.arr 3 1 true (([]:List Int).map ic)])=some r)))):=by
 and_intros
 all_goals intros
 all_goals unfold Im
 all_goals try simp only [Zg8,Zfd,Zjc,Zdy,Zg9,Zek,Zha,Zjf,Zjg,Zjh,Zel,Zmk,Zx,Zdx,Zi.c_def,mpl,dfs]
 all_goals try simp only [itb]
 all_goals try simp only [itf,gS,kk]
 all_goals repeat' first | refine exI fun _=>?_ | refine anJ fun _ _=>?_ | refine anI fun _=>?_ | refine orE2 ?_ ?_ | exact False.elim
 all_goals (intro h;first | rw [EvL_eq Zvs.eq_1] | refine run Zbg4 rfl ?_ | rw [EvL_eq Zvu.eq_1] | refine run Zbg5 rfl ?_ | rw [EvL_eq Zvw.eq_1] | refine run Zbg6 rfl ?_ | refine run Zbg7 rfl ?_ | rw [EvL_eq Zjd.eq_1] | rw [EvL_eq Zmi.eq_1] | rw [EvL_eq Zpk.eq_1] | rw [EvL_eq Zvy.eq_1] | refine run Zbg8 rfl ?_)
 all_goals (refine Eq.trans ?_ h;clear h;simp +decide [*,kk,tI,tII,Zvt,Z2y,Zvv,Z2z,Z20,Zvx,Z21,Z22,Zje,Zmj,Zpl,Zvz,Z23])
abbrev Z6k:=Zc3.1
abbrev Zbkw:=Zc3.2.1
abbrev Zbkx:=Zc3.2.2.1
abbrev Zbky:=Zc3.2.2.2.1
abbrev Z6l:=Zc3.2.2.2.2.1
abbrev Zbkz:=Zc3.2.2.2.2.2.1
abbrev Zbk0:=Zc3.2.2.2.2.2.2.1
abbrev Z6m:=Zc3.2.2.2.2.2.2.2.1
abbrev Z6n:=Zc3.2.2.2.2.2.2.2.2.1
abbrev Z6o:=Zc3.2.2.2.2.2.2.2.2.2.1
abbrev Z6p:=Zc3.2.2.2.2.2.2.2.2.2.2.1
abbrev Zbk1:=Zc3.2.2.2.2.2.2.2.2.2.2.2
theorem Zc4:(∀ o a r,Im (Zji o a=some r) (if a≤7 then (Zjj o a 0=some r) else (some (.own 0,[.arr 3 1 true (([]:List Int).map ic)])=some r))) ∧
 (∀ o a b r,Im (Zjj o a b=some r) (if b≤7 then (Zmn o a b 0=some r) else (Zji o (w (a+1))=some r))) ∧
 (∀ o a b e r,Im (Zmn o a b e=some r) (if e≤7 then (∃ v,Zha o ([a,b,e])=some (I v,[])∧(if v<1 then (some (.own 0,[.arr 3 1 true (([a,b,e]).map ic)])=some r) else (Zmn o a b (w (e+1))=some r))) else (Zjj o a (w (b+1))=some r))) ∧
 (∀ a r,Im (Zpo a=some r) (Zji a 0=some r)) ∧
 (∀ m k r,Im (Zjk m k=some r) (if k≤5 then (∃ (v:Zi),Zg7 m k=some (.agg (v.c.map .t),[])∧(∃ v3,Zfd v=some (Bo v3,[])∧(if v3=true then (∃ (v4:List Int),∃ (v5:List Int),∃ v6,Zmk v=some (.tup [.own 0,.own 1,Bo v6],[.arr 3 1 true (v4.map ic),.arr 3 1 true (v5.map ic)])∧(if v6=true then (some (.tup [I k,.own 0,.own 1],[.arr 3 1 true (v4.map ic),.arr 3 1 true (v5.map ic)])=some r) else (∃ (v7:List Int),Zpo v=some (.own 0,[.arr 3 1 true (v7.map ic)])∧(if 0<(v7.length:Int) then (some (.tup [I k,.own 0,.own 1],[.arr 3 1 true (v7.map ic),.arr 3 1 true (([]:List Int).map ic)])=some r) else (Zjk m (w (k+1))=some r))))) else (some (.tup [I k,.own 0,.own 1],[.arr 3 1 true (([]:List Int).map ic),.arr 3 1 true (([]:List Int).map ic)])=some r)))) else (some (.tup [I 0,.own 0,.own 1],[.arr 3 1 true (([]:List Int).map ic),.arr 3 1 true (([]:List Int).map ic)])=some r))) ∧
 (∀ a r,Im (Zv4 a=some r) (Zjk a 1=some r)) ∧
 (∀ a r,Im (Zhb a=some r) (∃ (v:List Int),∃ (v1:List Int),∃ v2,Zv4 a=some (.tup [I v2,.own 0,.own 1],[.arr 3 1 true (v.map ic),.arr 3 1 true (v1.map ic)])∧(some (Bo (decide (v2=0)),[])=some r))) ∧
 (∀ n k r,Im (Zmo n k=some r) (if k≤7 then (∃ v,Zdy k=some (I v,[])∧(if n≤v then (some (I k,[])=some r) else (Zmo n (w (k+1))=some r))) else (some (I (-1),[])=some r))) ∧
 (∀ a r,Im (Zhc a=some r) (if a<0 then (some (I (-1),[])=some r) else (Zmo a 0=some r))) ∧
 (∀ a r,Im (Zbm a=some r) (∃ v,Zhc a=some (I v,[])∧(∃ v3,Zdy v=some (I v3,[])∧(some (I v3,[])=some r)))) ∧
 (∀ a a1 a2 a3 a4 r,Im (Zjl a a1 a2 a3 a4=some r) (0≤a4∧(∃ e1,a1.Steps[a4.toNat]?=some e1∧(∃ (v3:Zi),Zg7 a e1.Kind=some (.agg (v3.c.map .t),[])∧(∃ e3,a2[a4.toNat]?=some e3∧(if e3.Left<0 then (∃ e4,a3[a4.toNat]?=some e4∧(∃ v8,Zbm e4=some (I v8,[])∧(∃ v9,Zek v3 v8 0 v8=some (I v9,[])∧(some (I v9,[])=some r)))) else (if e3.Right<0 then (0≤e3.Left∧(∃ e7,a3[e3.Left.toNat]?=some e7∧(∃ v10,Zbm e7=some (I v10,[])∧(∃ e9,a3[a4.toNat]?=some e9∧(∃ v11,Zbm e9=some (I v11,[])∧(∃ v12,Zek v3 v10 0 v11=some (I v12,[])∧(some (I v12,[])=some r))))))) else (0≤e3.Left∧(∃ e12,a3[e3.Left.toNat]?=some e12∧(∃ v13,Zbm e12=some (I v13,[])∧(0≤e3.Right∧(∃ e14,a3[e3.Right.toNat]?=some e14∧(∃ v14,Zbm e14=some (I v14,[])∧(∃ e16,a3[a4.toNat]?=some e16∧(∃ v15,Zbm e16=some (I v15,[])∧(∃ v16,Zek v3 v13 v14 v15=some (I v16,[])∧(some (I v16,[])=some r))))))))))))))))) ∧
 (∀ m kind l r_1 budget n r,Im (Zjn m kind l r_1 budget n=some r) (if n≤7 then (∃ (v:Zi),Zg7 m kind=some (.agg (v.c.map .t),[])∧(∃ v3,Zdy n=some (I v3,[])∧(∃ v4,Zek v l r_1 v3=some (I v4,[])∧(if v4≤budget then (Zjn m kind l r_1 budget (w (n+1))=some r) else (some (I n,[])=some r))))) else (some (I n,[])=some r))):=by
 and_intros
 all_goals intros
 all_goals unfold Im
 all_goals try simp only [Zji,Zjj,Zmn,Zpo,Zjk,Zv4,Zhb,Zmo,Zhc,Zbm,Zjl,Zjn,Zha,Zi.c_def,Zg7,Zfd,Zmk,Zj.c_def,Zdy,Zek,mpl,dfs]
 all_goals try simp only [itb]
 all_goals try simp only [itf,gS,kk]
 all_goals repeat' first | refine exI fun _=>?_ | refine anJ fun _ _=>?_ | refine anI fun _=>?_ | refine orE2 ?_ ?_ | exact False.elim
 all_goals (intro h;first | rw [EvL_eq Zml.eq_1] | rw [EvL_eq Zpm.eq_1] | rw [EvL_eq Zv0.eq_1] | refine run Zbg9 rfl ?_ | rw [EvL_eq Zv2.eq_1] | refine run Zbha rfl ?_ | refine run Zbhb rfl ?_ | rw [EvL_eq Zv5.eq_1] | refine run Zbhc rfl ?_ | refine run Zbhd rfl ?_ | refine run Zbhe rfl ?_ | rw [EvL_eq Zv7.eq_1])
 all_goals (refine Eq.trans ?_ h;clear h;simp +decide [*,kk,tI,tII,Zmm,Zpn,Zv1,Z24,Zv3,Z25,Z26,Zv6,Z27,Z28,Z29,Zv8])
abbrev Z6q:=Zc4.1
abbrev Z6r:=Zc4.2.1
abbrev Zw3:=Zc4.2.2.1
abbrev Zbk2:=Zc4.2.2.2.1
abbrev Z6s:=Zc4.2.2.2.2.1
abbrev Zbk3:=Zc4.2.2.2.2.2.1
abbrev Zbk4:=Zc4.2.2.2.2.2.2.1
abbrev Zfg:=Zc4.2.2.2.2.2.2.2.1
abbrev Zbk5:=Zc4.2.2.2.2.2.2.2.2.1
abbrev Zbk6:=Zc4.2.2.2.2.2.2.2.2.2.1
abbrev Zbk7:=Zc4.2.2.2.2.2.2.2.2.2.2.1
abbrev Z6t:=Zc4.2.2.2.2.2.2.2.2.2.2.2
theorem Zm2:(∀ a a1 a2 a3 a4 r,Im (Zjm a a1 a2 a3 a4=some r) (∃ v,Zhb a=some (Bo v,[])∧(if v=true then (∃ v1,Zx a1 1 5=some (Bo v1,[])∧(if v1=true then (∃ v2,Zx a2 0 4096=some (Bo v2,[])∧(if v2=true then (∃ v3,Zx a3 0 4096=some (Bo v3,[])∧(if v3=true then (Zjn a a1 a2 a3 a4 0=some r) else (some (I 0,[])=some r))) else (some (I 0,[])=some r))) else (some (I 0,[])=some r))) else (some (I 0,[])=some r)))) ∧
 (∀ out row put i r,Im (Zv9 out row put i=some r) (if i<0 then False else (if put=true then (some (.own 0,[.arr 30 1 true (out.map isc)])=some r) else (row.length≤68719476736∧(out.length+1≤68719476736∧(some (.own 0,[.arr 30 1 true ((out++[row]).map isc)])=some r)))))) ∧
 (∀ a r,Im (Zmp a=some r) (Zv9 ([]:List (List Int)) a false 0=some r)) ∧
 (∀ out rows row put i r,Im (Zem out rows row put i=some r) (if i<(rows.length:Int) then (0≤i∧(∃ e1,rows[i.toNat]?=some e1∧(∃ v1,Zir e1 row=some (I v1,[])∧(if v1=0 then (if 0<v1 then (e1.length≤68719476736∧(out.length+1≤68719476736∧(Zem (out++[e1]) rows row true (w (i+1))=some r))) else (e1.length≤68719476736∧(out.length+1≤68719476736∧(Zem (out++[e1]) rows row true (w (i+1))=some r)))) else (if 0<v1 then (if put=true then (e1.length≤68719476736∧(out.length+1≤68719476736∧(Zem (out++[e1]) rows row true (w (i+1))=some r))) else (row.length≤68719476736∧(out.length+1≤68719476736∧(e1.length≤68719476736∧(out.length+1+1≤68719476736∧(Zem ((out++[row])++[e1]) rows row true (w (i+1))=some r)))))) else (e1.length≤68719476736∧(out.length+1≤68719476736∧(Zem (out++[e1]) rows row put (w (i+1))=some r)))))))) else (if put=true then (some (.own 0,[.arr 30 1 true (out.map isc)])=some r) else (row.length≤68719476736∧(out.length+1≤68719476736∧(some (.own 0,[.arr 30 1 true ((out++[row]).map isc)])=some r)))))) ∧
 (∀ a a1 r,Im (Zmq a a1=some r) (Zem ([]:List (List Int)) a a1 false 0=some r)):=by
 and_intros
 all_goals intros
 all_goals unfold Im
 all_goals try simp only [Zjm,Zv9,Zmp,Zem,Zmq,Zhb,Zx,Zj.c_def,Zi.c_def,Zir,Zjn,mpl,dfs]
 all_goals try simp only [itb]
 all_goals try simp only [itf,gS,kk]
 all_goals repeat' first | refine exI fun _=>?_ | refine anJ fun _ _=>?_ | refine anI fun _=>?_ | refine orE2 ?_ ?_ | exact False.elim
 all_goals (intro h;first | refine run Zbhf rfl ?_ | rw [EvL_eq Zpp.eq_1] | refine run Zbhg rfl ?_)
 all_goals (refine Eq.trans ?_ h;clear h;simp +decide [*,kk,tI,tII,Z3a,Z3d,Zpq,Z3e,Z3b,Z3c])
abbrev Zbk8:=Zm2.1
abbrev Zbk9:=Zm2.2.1
abbrev Zbla:=Zm2.2.2.1
abbrev Z6u:=Zm2.2.2.2.1
abbrev Zblb:=Zm2.2.2.2.2
theorem appO (l:List Zf) (a b:Int) (c:Bool):l.map Zf.c++[[.int .i64 a,.int .i64 b,.bool c]]=(l++[(⟨a,b,c⟩:Zf)]).map Zf.c:=by simp
end Go.Proofs.YtgnfoghkbpkgjaaGreat
