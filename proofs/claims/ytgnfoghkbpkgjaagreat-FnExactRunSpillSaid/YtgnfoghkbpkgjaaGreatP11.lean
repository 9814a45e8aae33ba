/-
  Parts of the proofs for this seat: G15 G16 G17 G18 G19 G20 V1 V2 V3 V4 V5 V6 OP AD DB EV.
-/
import Derived.Test.YtgnfoghkbpkgjaaGreatP7
import Derived.Test.YtgnfoghkbpkgjaaGreatP9
import Derived.Test.YtgnfoghkbpkgjaaGreatP10
set_option linter.unusedSimpArgs false
set_option linter.unusedVariables false
set_option maxRecDepth 100000
set_option maxHeartbeats 4000000
namespace Go.Proofs.YtgnfoghkbpkgjaaGreat
open Go.AM
theorem Zc5:(∀ s x i r,Im (Zwa s x i=some r) (if i<(s.Rows.length:Int) then (0≤i∧(∃ e1,s.Rows[i.toNat]?=some e1∧(∃ (v3:List (List Int)),Zmp e1=some (.own 0,[.arr 30 1 true (v3.map isc)])∧(Zmr s x v3 (w (i+1))=some r)))) else (some (.tup [.agg [.own 0,.t .nil],Bo true],[.arr 3 1 true (x.map ic)])=some r))) ∧
 (∀ s x x1 i r,Im (Zmr s x x1 i=some r) (if i<(s.Rows.length:Int) then (0≤i∧(∃ e1,s.Rows[i.toNat]?=some e1∧(∃ (v3:List (List Int)),Zmq x1 e1=some (.own 0,[.arr 30 1 true (v3.map isc)])∧(Zmr s x v3 (w (i+1))=some r)))) else (some (.tup [.agg [.own 0,.own 1],Bo true],[.arr 3 1 true (x.map ic),.arr 30 1 true (x1.map isc)])=some r))) ∧
 (∀ a r,Im (Zen a=some r) (∃ v,Zch a=some (Bo v,[])∧(if v=true then (a.Vars.length≤68719476736∧(Zwa a a.Vars 0=some r)) else (some (.tup [.agg [.t .nil,.t .nil],Bo false],[])=some r)))) ∧
 (∀ m p Done Cost Steps l info n Done1 Cost1 Steps1 budget i r,Im (Zms m p Done Cost Steps l info n Done1 Cost1 Steps1 budget i=some r) (if i<(l.length:Int) then (0≤i∧(∃ e1,l[i.toNat]?=some e1∧(n.length+1≤68719476736∧(∃ v3,Zjl m p info (n++[(e1.Rows.length:Int)]) i=some (I v3,[])∧(if (w (budget - Cost1))<v3 then (∃ e3,info[i.toNat]?=some e3∧(if 0≤e3.Right then (∃ e4,p.Steps[i.toNat]?=some e4∧(0≤e3.Left∧(∃ e5,(n++[(e1.Rows.length:Int)])[e3.Left.toNat]?=some e5∧(∃ v20,Zbm e5=some (I v20,[])∧(∃ e7,(n++[(e1.Rows.length:Int)])[e3.Right.toNat]?=some e7∧(∃ v31,Zbm e7=some (I v31,[])∧(∃ v32,Zjm m e4.Kind v20 v31 (w (budget - Cost1))=some (I v32,[])∧(some (.tup [.agg [Bo Done1,I budget,I Steps1,.own 0,.t .nil,.t .nil],Bo true],[.arr 211 3 true (([(⟨e3.Mask,v32,false⟩:Zf)]).map Zf.c)])=some r)))))))) else (some (.tup [.agg [Bo Done1,I budget,I Steps1,.t .nil,.t .nil,.t .nil],Bo true],[])=some r))) else (∃ e10,info[i.toNat]?=some e10∧(if 0≤e10.Right then (∃ e11,(n++[(e1.Rows.length:Int)])[i.toNat]?=some e11∧(∃ v33,Zhc e11=some (I v33,[])∧(Zjo m p Done Cost Steps l info (n++[(e1.Rows.length:Int)]) Done1 (w (Cost1+v3)) (w (Steps1+1)) ([(⟨e10.Mask,v33,true⟩:Zf)]) budget (w (i+1))=some r))) else (Zms m p Done Cost Steps l info (n++[(e1.Rows.length:Int)]) Done1 (w (Cost1+v3)) (w (Steps1+1)) budget (w (i+1))=some r)))))))) else (0≤(w ((l.length:Int) - 1))∧(∃ e13,l[(w ((l.length:Int) - 1)).toNat]?=some e13∧((Zen e13=some (.tup [.agg [.t .nil,.t .nil],Bo false],[])∧(some (.tup [.agg [Bo true,I Cost1,I Steps1,.t .nil,.t .nil,.t .nil],Bo true],[])=some r))∨(∃ (v34:List Int),Zen e13=some (.tup [.agg [.own 0,.t .nil],Bo true],[.arr 3 1 true (v34.map ic)])∧(some (.tup [.agg [Bo true,I Cost1,I Steps1,.t .nil,.own 0,.t .nil],Bo true],[.arr 3 1 true (v34.map ic)])=some r))∨(∃ (v35:List Int) (v36:List (List Int)),Zen e13=some (.tup [.agg [.own 0,.own 1],Bo true],[.arr 3 1 true (v35.map ic),.arr 30 1 true (v36.map isc)])∧(some (.tup [.agg [Bo true,I Cost1,I Steps1,.t .nil,.own 0,.own 1],Bo true],[.arr 3 1 true (v35.map ic),.arr 30 1 true (v36.map isc)])=some r))))))) ∧
 (∀ m p Done Cost Steps l info n Done1 Cost1 Steps1 x budget i r,Im (Zjo m p Done Cost Steps l info n Done1 Cost1 Steps1 x budget i=some r) (if i<(l.length:Int) then (0≤i∧(∃ e1,l[i.toNat]?=some e1∧(n.length+1≤68719476736∧(∃ v3,Zjl m p info (n++[(e1.Rows.length:Int)]) i=some (I v3,[])∧(if (w (budget - Cost1))<v3 then (∃ e3,info[i.toNat]?=some e3∧(if 0≤e3.Right then (∃ e4,p.Steps[i.toNat]?=some e4∧(0≤e3.Left∧(∃ e5,(n++[(e1.Rows.length:Int)])[e3.Left.toNat]?=some e5∧(∃ v20,Zbm e5=some (I v20,[])∧(∃ e7,(n++[(e1.Rows.length:Int)])[e3.Right.toNat]?=some e7∧(∃ v31,Zbm e7=some (I v31,[])∧(∃ v32,Zjm m e4.Kind v20 v31 (w (budget - Cost1))=some (I v32,[])∧(x.length+1≤68719476736∧(some (.tup [.agg [Bo Done1,I budget,I Steps1,.own 0,.t .nil,.t .nil],Bo true],[.arr 211 3 true ((x++[(⟨e3.Mask,v32,false⟩:Zf)]).map Zf.c)])=some r))))))))) else (some (.tup [.agg [Bo Done1,I budget,I Steps1,.own 0,.t .nil,.t .nil],Bo true],[.arr 211 3 true (x.map Zf.c)])=some r))) else (∃ e10,info[i.toNat]?=some e10∧(if 0≤e10.Right then (∃ e11,(n++[(e1.Rows.length:Int)])[i.toNat]?=some e11∧(∃ v33,Zhc e11=some (I v33,[])∧(x.length+1≤68719476736∧(Zjo m p Done Cost Steps l info (n++[(e1.Rows.length:Int)]) Done1 (w (Cost1+v3)) (w (Steps1+1)) (x++[(⟨e10.Mask,v33,true⟩:Zf)]) budget (w (i+1))=some r)))) else (Zjo m p Done Cost Steps l info (n++[(e1.Rows.length:Int)]) Done1 (w (Cost1+v3)) (w (Steps1+1)) x budget (w (i+1))=some r)))))))) else (0≤(w ((l.length:Int) - 1))∧(∃ e13,l[(w ((l.length:Int) - 1)).toNat]?=some e13∧((Zen e13=some (.tup [.agg [.t .nil,.t .nil],Bo false],[])∧(some (.tup [.agg [Bo true,I Cost1,I Steps1,.own 0,.t .nil,.t .nil],Bo true],[.arr 211 3 true (x.map Zf.c)])=some r))∨(∃ (v34:List Int),Zen e13=some (.tup [.agg [.own 0,.t .nil],Bo true],[.arr 3 1 true (v34.map ic)])∧(some (.tup [.agg [Bo true,I Cost1,I Steps1,.own 0,.own 1,.t .nil],Bo true],[.arr 211 3 true (x.map Zf.c),.arr 3 1 true (v34.map ic)])=some r))∨(∃ (v35:List Int) (v36:List (List Int)),Zen e13=some (.tup [.agg [.own 0,.own 1],Bo true],[.arr 3 1 true (v35.map ic),.arr 30 1 true (v36.map isc)])∧(some (.tup [.agg [Bo true,I Cost1,I Steps1,.own 0,.own 1,.own 2],Bo true],[.arr 211 3 true (x.map Zf.c),.arr 3 1 true (v35.map ic),.arr 30 1 true (v36.map isc)])=some r))))))) ∧
 (∀ a a1 a2 a3 a4 r,Im (Zeo a a1 a2 a3 a4=some r) (∃ (v:List Za),∃ (v1:List Zb),∃ v2,Zjb a1 a2 a3=some (.tup [.own 0,.own 1,Bo v2],[.arr 199 2 true (v.map Za.c),.arr 209 4 true (v1.map Zb.c)])∧(if v2=true then (∃ v3,Zhb a=some (Bo v3,[])∧(if v3=true then (∃ v7,Zx a4 0 1000000000000=some (Bo v7,[])∧(if v7=true then (Zms a a3 false 0 0 v v1 ([]:List Int) false 0 0 a4 0=some r) else (some (.tup [.agg [Bo false,I 0,I 0,.t .nil,.t .nil,.t .nil],Bo false],[])=some r))) else (some (.tup [.agg [Bo false,I 0,I 0,.t .nil,.t .nil,.t .nil],Bo false],[])=some r))) else (some (.tup [.agg [Bo false,I 0,I 0,.t .nil,.t .nil,.t .nil],Bo false],[])=some r)))) ∧
 (∀ a a1 a2 a3 a4 a5 r,Im (Zpv a a1 a2 a3 a4 a5=some r) ((∃ (v:List Ze),Zio a2 a3 a4=some (.tup [.agg [.own 0],Bo true],[.arr 194 3 true (v.map Ze.c)])∧((∃ v3 v4 v5 v6,Zeo a a1 a2 (⟨v⟩:Plan) a5=some (.tup [.agg [Bo v3,I v4,I v5,.t .nil,.t .nil,.t .nil],Bo v6],[])∧(some (.tup [.agg [Bo v3,I v4,I v5,.t .nil,.t .nil,.t .nil],Bo v6],[])=some r))∨(∃ (v7:List Zf),∃ v8,∃ v9,∃ v10,Zeo a a1 a2 (⟨v⟩:Plan) a5=some (.tup [.agg [Bo v8,I v9,I v10,.own 0,.t .nil,.t .nil],Bo true],[.arr 211 3 true (v7.map Zf.c)])∧(some (.tup [.agg [Bo v8,I v9,I v10,.own 0,.t .nil,.t .nil],Bo true],[.arr 211 3 true (v7.map Zf.c)])=some r))∨(∃ (v11:List Int),∃ v12,∃ v13,∃ v14,Zeo a a1 a2 (⟨v⟩:Plan) a5=some (.tup [.agg [Bo v12,I v13,I v14,.t .nil,.own 0,.t .nil],Bo true],[.arr 3 1 true (v11.map ic)])∧(some (.tup [.agg [Bo v12,I v13,I v14,.t .nil,.own 0,.t .nil],Bo true],[.arr 3 1 true (v11.map ic)])=some r))∨(∃ (v15:List Int),∃ (v16:List (List Int)),∃ v17,∃ v18,∃ v19,Zeo a a1 a2 (⟨v⟩:Plan) a5=some (.tup [.agg [Bo v17,I v18,I v19,.t .nil,.own 0,.own 1],Bo true],[.arr 3 1 true (v15.map ic),.arr 30 1 true (v16.map isc)])∧(some (.tup [.agg [Bo v17,I v18,I v19,.t .nil,.own 0,.own 1],Bo true],[.arr 3 1 true (v15.map ic),.arr 30 1 true (v16.map isc)])=some r))∨(∃ (v20:List Zf),∃ (v21:List Int),∃ v22,∃ v23,∃ v24,Zeo a a1 a2 (⟨v⟩:Plan) a5=some (.tup [.agg [Bo v22,I v23,I v24,.own 0,.own 1,.t .nil],Bo true],[.arr 211 3 true (v20.map Zf.c),.arr 3 1 true (v21.map ic)])∧(some (.tup [.agg [Bo v22,I v23,I v24,.own 0,.own 1,.t .nil],Bo true],[.arr 211 3 true (v20.map Zf.c),.arr 3 1 true (v21.map ic)])=some r))∨(∃ (v25:List Zf),∃ (v26:List Int),∃ (v27:List (List Int)),∃ v28,∃ v29,∃ v30,Zeo a a1 a2 (⟨v⟩:Plan) a5=some (.tup [.agg [Bo v28,I v29,I v30,.own 0,.own 1,.own 2],Bo true],[.arr 211 3 true (v25.map Zf.c),.arr 3 1 true (v26.map ic),.arr 30 1 true (v27.map isc)])∧(some (.tup [.agg [Bo v28,I v29,I v30,.own 0,.own 1,.own 2],Bo true],[.arr 211 3 true (v25.map Zf.c),.arr 3 1 true (v26.map ic),.arr 30 1 true (v27.map isc)])=some r))))∨(Zio a2 a3 a4=some (.tup [.agg [.t .nil],Bo false],[])∧(some (.tup [.agg [Bo false,I 0,I 0,.t .nil,.t .nil,.t .nil],Bo false],[])=some r)))) ∧
 (∀ location x x1 x2 r,Im (Zmu location x x1 x2=some r) (if x2<x1 then (0≤x2∧(∃ e1,x[x2.toNat]?=some e1∧(∃ v3,Zt e1 0 7=some (Bo v3,[])∧(if v3=true then (Zmu location x x1 (w (x2+1))=some r) else (some (Bo false,[])=some r))))) else (some (Bo (decide ((location.length:Int)≤16)),[])=some r))) ∧
 (∀ a r,Im (Zmt a=some r) (Zmu a a (a.length:Int) 0=some r)) ∧
 (∀ a b x x1 r,Im (Zmv a b x x1=some r) (if x1<x then (0≤x1∧(∃ e1,a[x1.toNat]?=some e1∧(∃ e2,b[x1.toNat]?=some e2∧(if e1<e2 then (some (Bo false,[])=some r) else (Zmv a b x (w (x1+1))=some r))))) else (some (Bo true,[])=some r))) ∧
 (∀ a a1 r,Im (Zpw a a1=some r) (if (a.length:Int)=(a1.length:Int) then (Zmv a a1 (a.length:Int) 0=some r) else (some (Bo false,[])=some r))) ∧
 (∀ a r,Im (Zwf a=some r) (∃ v,Zmt a.Low=some (Bo v,[])∧(if v=true then (∃ v3,Zmt a.High=some (Bo v3,[])∧(if v3=true then (if 0<(a.Low.length:Int) then (∃ v7,Zpw a.High a.Low=some (Bo v7,[])∧(some (Bo v7,[])=some r)) else (some (Bo false,[])=some r)) else (some (Bo false,[])=some r))) else (some (Bo false,[])=some r)))):=by
 and_intros
 all_goals intros
 all_goals unfold Im
 all_goals try simp only [Zwa,Zmr,Zen,Zms,Zjo,Zeo,Zpv,Zmu,Zmt,Zmv,Zpw,Zwf,Zmp,Zmq,Zch,Za.c_def,Zjl,Zbm,Zjm,Zhc,Zj.c_def,Zi.c_def,Plan.c_def,Zb.c_def,Zjb,Zhb,Zx,Zk.c_def,Zd.c_def,Zio,Zt,mpl,dfs]
 all_goals try simp only [itb]
 all_goals try simp only [itf,gS,kk]
 all_goals repeat' first | refine exI fun _=>?_ | refine anJ fun _ _=>?_ | refine anI fun _=>?_ | refine orE2 ?_ ?_ | exact False.elim
 all_goals (intro h;first | rw [EvL_eq Zpr.eq_1] | refine run Zbhh rfl ?_ | rw [EvL_eq Zpt.eq_1] | refine run Zbhi rfl ?_ | refine run Zbhj rfl ?_ | rw [EvL_eq Zwb.eq_1] | refine run Zbhk rfl ?_ | rw [EvL_eq Zwd.eq_1] | refine run Zbhl rfl ?_ | refine run Zbhm rfl ?_)
 all_goals first|(refine Eq.trans ?_ h;clear h;simp +decide [*,kk,tI,tII,Zps,Z3f,Z3g,Z3h,Zpu,Z3i,Z3j,Zwc,Z3k,Zwe,Z3l,Z3m];done)|((try simp only [appI] at *);refine Eq.trans ?_ h;clear h;simp +decide [*,-List.map_append,-List.length_append,appI,appO,kk,tI,tII,Zps,Z3f,Z3g,Z3h,Zpu,Z3i,Z3j,Zwc,Z3k,Zwe,Z3l,Z3m])
abbrev Zblc:=Zc5.1
abbrev Z6v:=Zc5.2.1
abbrev Zbld:=Zc5.2.2.1
abbrev Z6w:=Zc5.2.2.2.1
abbrev Z6x:=Zc5.2.2.2.2.1
abbrev Zw4:=Zc5.2.2.2.2.2.1
abbrev Zble:=Zc5.2.2.2.2.2.2.1
abbrev Z6y:=Zc5.2.2.2.2.2.2.2.1
abbrev Zblf:=Zc5.2.2.2.2.2.2.2.2.1
abbrev Z6z:=Zc5.2.2.2.2.2.2.2.2.2.1
abbrev Zblg:=Zc5.2.2.2.2.2.2.2.2.2.2.1
abbrev Zblh:=Zc5.2.2.2.2.2.2.2.2.2.2.2
theorem Zbli:∀ a r,Im (Zwg a=some r) (∃ v,Zee a=some (Bo v,[])∧(if v=true then (¬ (a.Atoms.length:Int)<0∧(some (I (w ((shlI 1 (a.Atoms.length:Int)) - 1)),[])=some r)) else (some (I 0,[])=some r))):=by
 all_goals intros
 all_goals unfold Im
 all_goals try simp only [Zwg,Zee,Zd.c_def,mpl,dfs]
 all_goals try simp only [itb]
 all_goals try simp only [itf,gS,kk]
 all_goals repeat' first | refine exI fun _=>?_ | refine anJ fun _ _=>?_ | refine anI fun _=>?_ | refine orE2 ?_ ?_ | exact False.elim
 all_goals (intro h;first | refine run Zbhn rfl ?_)
 all_goals (refine Eq.trans ?_ h;clear h;simp +decide [*,kk,tI,tII,Z3n])
abbrev Zblj:=Zbli
theorem Zju:(∀ l i r,Im (Zmx l i=some r) (if i<(l.length:Int) then (0≤i∧(∃ e1,l[i.toNat]?=some e1∧(∃ v1,Zx e1 0 7=some (Bo v1,[])∧(if v1=true then (Zmx l (w (i+1))=some r) else (some (Bo false,[])=some r))))) else (some (Bo (decide ((l.length:Int)≤16)),[])=some r))) ∧
 (∀ a r,Im (Zmw a=some r) (Zmx a 0=some r)) ∧
 (∀ a b i r,Im (Zmy a b i=some r) (if i<(a.length:Int) then (0≤i∧(∃ e1,a[i.toNat]?=some e1∧(∃ e2,b[i.toNat]?=some e2∧(if e1<e2 then (some (Bo false,[])=some r) else (Zmy a b (w (i+1))=some r))))) else (some (Bo true,[])=some r))) ∧
 (∀ a a1 r,Im (Zpx a a1=some r) (if (a.length:Int)=(a1.length:Int) then (Zmy a a1 0=some r) else (some (Bo false,[])=some r))) ∧
 (∀ a r,Im (Zwl a=some r) (if 0<(a.Low.length:Int) then (∃ v,Zmw a.Low=some (Bo v,[])∧(if v=true then (∃ v1,Zmw a.High=some (Bo v1,[])∧(if v1=true then (∃ v2,Zpx a.High a.Low=some (Bo v2,[])∧(some (Bo v2,[])=some r)) else (some (Bo false,[])=some r))) else (some (Bo false,[])=some r))) else (some (Bo false,[])=some r))) ∧
 (∀ a r,Im (Zwm a=some r) (∃ v,Zdv a=some (Bo v,[])∧(if v=true then (¬ (a.Atoms.length:Int)<0∧(some (I (w ((shlI 1 (a.Atoms.length:Int)) - 1)),[])=some r)) else (some (I 0,[])=some r)))):=by
 and_intros
 all_goals intros
 all_goals unfold Im
 all_goals try simp only [Zmx,Zmw,Zmy,Zpx,Zwl,Zwm,Zx,Zdv,Zd.c_def,mpl,dfs]
 all_goals try simp only [itb]
 all_goals try simp only [itf,gS,kk]
 all_goals repeat' first | refine exI fun _=>?_ | refine anJ fun _ _=>?_ | refine anI fun _=>?_ | refine orE2 ?_ ?_ | exact False.elim
 all_goals (intro h;first | rw [EvL_eq Zwh.eq_1] | refine run Zbho rfl ?_ | rw [EvL_eq Zwj.eq_1] | refine run Zbhp rfl ?_ | refine run Zbhq rfl ?_ | refine run Zbhr rfl ?_)
 all_goals (refine Eq.trans ?_ h;clear h;simp +decide [*,kk,tI,tII,Zwi,Z3o,Zwk,Z3p,Z3q,Z3r])
abbrev Z60:=Zju.1
abbrev Zblk:=Zju.2.1
abbrev Z61:=Zju.2.2.1
abbrev Zbll:=Zju.2.2.2.1
abbrev Zblm:=Zju.2.2.2.2.1
abbrev Zbln:=Zju.2.2.2.2.2
@[simp] theorem Zby (a b c:Int):Zt a b c=some (Bo (inR a b c),[]):=by
 refine Zbhs _ _ _ _ ?_;by_cases h:b≤a <;> simp [inR,h]
@[simp] theorem Zb7 (a b c:Int):Zx a b c=some (Bo (inR a b c),[]):=by
 refine Zbjq _ _ _ _ ?_;by_cases h:b≤a <;> simp [inR,h]
theorem lIndexI (xs:List Int) (v:Int) (hx:Le xs):∀ i,i≤xs.length →
  Zkq xs v xs.length i=some (I (Z1 (fun x=>decide (v=x)) (xs.drop i) i),[]):=by
 refine down _ ?_ ?_
 ·refine Z3v _ _ _ _ _ ?_;simp [Z1]
 ·intro i hi ih;refine Z3v _ _ _ _ _ ?_;have h4:=inc64 (i:=i) (by omega);rw [Zkk _ hi];simp at ih;by_cases e:v=xs[i] <;> simp [hi,h4,e,ih]
@[simp] theorem xIndexI (xs:List Int) (v:Int) (hx:Le xs):Zbr xs v=some (I (Z1 (fun x=>decide (v=x)) xs 0),[]):=by
 refine Zbhu _ _ _ ?_;have:=lIndexI xs v hx 0 (Nat.zero_le _);simpa using this
@[simp] theorem Zm3 (xs:List Int) (v:Int) (hx:Le xs):Zed xs v=some (Bo (has xs v),[]):=by
 refine Zbhv _ _ _ ?_;unfold has;rcases tf (xs.any (fun x=>decide (v=x))) with e | e
 ·simp [hx,Zrp _ _ _ e,e]
 ·have:=Zy0 _ _ 0 e;simp [hx,this,e]
theorem lIndexB (xs:List Bool) (v:Bool) (hx:Le xs):∀ i,i≤xs.length →
  Zkr xs v xs.length i=some (I (Z1 (fun x=>v == x) (xs.drop i) i),[]):=by
 refine down _ ?_ ?_
 ·refine Z3w _ _ _ _ _ ?_;simp [Z1]
 ·intro i hi ih;refine Z3w _ _ _ _ _ ?_;have h4:=inc64 (i:=i) (by omega);rw [Zkk _ hi];simp at ih;by_cases e:v=xs[i] <;> simp [hi,h4,e,ih]
@[simp] theorem Zblo (xs:List Bool) (v:Bool) (hx:Le xs):Zn4 xs v=some (Bo (xs.any (fun x=>v == x)),[]):=by
 refine Zbhx _ _ _ ?_;have q:Zn3 xs v=some (I (Z1 (fun x=>v == x) xs 0),[]):=by
  refine Zbhw _ _ _ ?_;have:=lIndexB xs v hx 0 (Nat.zero_le _);simpa using this
 rcases tf (xs.any (fun x=>v == x)) with e | e
 ·rw [Zrp _ _ _ e] at q;rw [e];simp [q]
 ·have:=Zy0 _ _ 0 e;rw [e];simp [q,this]
theorem l_l7Has (xs:List Int) (v:Int) (hx:Le xs):∀ i,i≤xs.length→Zlt xs v i=some (Bo (has (xs.drop i) v),[]):=by
 unfold has;refine down _ ?_ ?_
 ·refine Z5j _ _ _ _ ?_;simp
 ·intro i hi ih;refine Z5j _ _ _ _ ?_;have h4:=inc64 (i:=i) (by omega);rw [drop_any _ hi];simp at ih;by_cases e:v=xs[i]
  ·simp [hi,h4,← e]
  ·have e':¬ xs[i]=v:=fun hc=>e hc.symm
   simp [hi,h4,e,e',ih]
@[simp] theorem Zw5 (xs:List Int) (v:Int) (hx:Le xs):Zgp xs v=some (Bo (has xs v),[]):=by
 refine Zbjs _ _ _ ?_;have:=l_l7Has xs v hx 0 (Nat.zero_le _);simpa using this
theorem nm_aux (s:ByteArray) (P:Prop):(if (s.size:Int)=1 then (∃ (b1:UInt8),s[0]?=some b1∧(if 97≤(b1.toNat:Int) then (some (Bo (decide ((b1.toNat:Int)≤122)),[])=some (Bo (nmOk s),([]:List Blk))) else (some (Bo false,[])=some (Bo (nmOk s),([]:List Blk))))) else (some (Bo false,[])=some (Bo (nmOk s),([]:List Blk)))):=by
 by_cases h:s.size=1
 ·obtain ⟨b,hb⟩:=get0 h;rw [if_pos (by omega)];refine ⟨b,hb,?_⟩;have e:nmOk s=(decide (97≤(b.toNat:Int)) && decide ((b.toNat:Int)≤122)):=by
   unfold nmOk;rw [hb];simp only [h,decide_true,Bool.true_and]
  by_cases h1:(97:Int)≤(b.toNat:Int)
  ·rw [if_pos h1,e,decide_eq_true h1,Bool.true_and]
  ·rw [if_neg h1,e,decide_eq_false h1,Bool.false_and]
 ·have h':¬ (s.size:Int)=1:=by omega
  have:nmOk s=false:=by unfold nmOk;split <;> simp [h]
  simp [h',this]
@[simp] theorem x_nameOk (s:ByteArray):Zhs s=some (Bo (nmOk s),[]):=Zbht _ _ (nm_aux s True)
@[simp] theorem x_l4Name (s:ByteArray):Zik s=some (Bo (nmOk s),[]):=Zbjr _ _ (nm_aux s True)
def LeQ (q:Zd):Prop:=Le q.Atoms∧∀ a∈q.Atoms,Le a.Vars
def blB (p:Nat→Bool) (n:Nat):List Bool:=(List.range n).map p
theorem blB_set (p:Nat→Bool) (n:Nat) {v:Int} (h:inR v 0 ((n:Int) - 1)=true):(blB p n).set v.toNat true=blB (addV p [v]) n:=by
 simp [inR] at h;apply List.ext_getElem
 ·simp [blB]
 ·intro i h1 h2;simp only [blB,List.length_set,List.length_map,List.length_range] at h1;rw [List.getElem_set];simp only [blB,List.getElem_map,List.getElem_range];by_cases e:v.toNat=i
  ·have:(i:Int)=v:=by omega
   simp [e,addV,has,this]
  ·have:¬ (i:Int)=v:=by omega
   simp [e,addV,has,this]
theorem Zblp (q:Zd) (n:Nat) (hn:n≤4) (hq:q.Zl=n) (a:Atom) (qa:List Atom) (l j:Int) (hv:Le a.Vars) (r:AV×List Blk):∀ k,k≤a.Vars.length→∀ p,
  (if Zbv n (a.Vars.take k) (a.Vars.drop k)=true then Zfv q (blB (addV p (a.Vars.drop k)) n) qa l (w (j+1))=some r else some (Bo false,[])=some r) →
  Zks q (blB p n) a qa l j a.Vars a.Vars.length k=some r:=by
 refine down _ ?_ ?_
 ·intro p h;refine Z3y _ _ _ _ _ _ _ _ _ _ ?_;simpa [Zbv,Zrn] using h
 ·intro k hk ih p h;have h4:=inc64 (i:=k) (by omega);have hw:w (q.Zl - 1)=(n:Int) - 1:=by rw [hq];exact wrap64 (by omega) (by omega)
  have hl:=Zm3 (a.Vars.take k) a.Vars[k] (by simp;omega);refine Z3y _ _ _ _ _ _ _ _ _ _ ?_;rw [Zy1 _ hk] at h;rcases tf (inR a.Vars[k] 0 ((n:Int) - 1)) with e1 | e1
  ·simp [e1] at h;simp [hk,h4,hw,e1,← h]
  ·rcases tf (has (a.Vars.take k) a.Vars[k]) with e2 | e2
   ·rw [Zro p hk] at h;simp only [e1,e2,Bool.true_and,Bool.not_false] at h;have ih:=ih _ h;have e0:=e1;simp [inR] at e0;have e5:(a.Vars[k]).toNat<(blB p n).length:=by simp [blB];omega
    have e6:=blB_set p n e1;have e7:k≤a.Vars.length:=by omega
    simp at ih;simp [hk,h4,hw,e1,e2,hl,e0,e5,e6,e7,ih]
   ·simp [e1,e2] at h;have e7:k≤a.Vars.length:=by omega
    simp [hk,h4,hw,e1,e2,hl,e7,← h]
theorem Zblq (q:Zd) (n:Nat) (hn:n≤4) (hq:q.Zl=n) (qa:List Atom) (hl:Le qa) (hv:∀ a∈qa,Le a.Vars):∀ k,k≤qa.length→∀ p,
  Zfv q (blB p n) qa qa.length k=some (Bo ((qa.drop k).all (Zbf n) && (List.range n).all (addA p (qa.drop k))),[]):=by
 refine down _ ?_ ?_
 ·intro p;refine Z3x _ _ _ _ _ _ ?_;have e:addA p []=p:=by funext u;simp [addA]
  have q1:=Zblo (blB p n) false (by simp [blB];omega);have q2:(blB p n).any (fun x=>false == x)=!(List.range n).all p:=bl_any p n;rw [q2] at q1;simp [q1,e]
 ·intro k hk ih p;refine Z3x _ _ _ _ _ _ ?_;have h4:=inc64 (i:=k) (by omega);rw [Zrm _ hk];rcases tf (nmOk qa[k].Name) with e1 | e1
  ·simp [hk,e1,Zbf]
  rcases tf (inR qa[k].Vars.length 1 3) with e2 | e2
  ·simp [hk,e1,e2,Zbf]
  have b:=Zblp q n hn hq qa[k] qa qa.length k (hv _ (List.getElem_mem hk)) (Bo (Zbf n qa[k] && (qa.drop (k+1)).all (Zbf n) && (List.range n).all (addA p (qa.drop k))),[]) 0 (Nat.zero_le _) p ?_
  ·simp at b;simp [hk,e1,e2,b]
  ·simp only [List.take_zero,List.drop_zero,Zbf,e1,e2,Bool.true_and];rcases tf (Zbv n [] qa[k].Vars) with e3 | e3
   ·simp [e3]
   ·have ih:=ih (addV p qa[k].Vars);simp only [e3,if_true,Bool.true_and,Zy2 p hk];simp at ih;rw [show w ((k:Int)+1)=(k:Int)+1 from h4,ih]
@[simp] theorem Zw6 (q:Zd) (h:LeQ q):Zee q=some (Bo (Zn q.Zl q.Atoms),[]):=by
 refine Zbh6 _ _ ?_;unfold Zn;rcases tf (inR q.Zl 1 4) with e1 | e1
 ·simp [e1]
 rcases tf (inR q.Atoms.length 1 4) with e2 | e2
 ·simp [e1,e2]
 have e0:=e1;simp [inR] at e0;have hn:q.Zl=(q.Zl.toNat:Int):=by omega
 have b:=Zblq q q.Zl.toNat (by omega) hn q.Atoms h.1 h.2 0 (Nat.zero_le _) (fun _=>false);have r1:q.Zl.toNat≤room:=room2 (by omega);have r2:q.Zl≤room:=by
  have:(q.Zl.toNat:Int)≤room:=by exact_mod_cast r1
  omega
 have r3:q.Zl≤140737488355328:=by omega
 have ez:blB (fun _=>false) q.Zl.toNat=List.replicate q.Zl.toNat false:=by
  apply List.ext_getElem <;> simp [blB]
 rw [ez,← hn] at b;simp at b;simp [e1,e2,e0,r1,r2,r3,b];omega
theorem Zblr (q:Zd) (n:Nat) (hn1:1≤n) (hn:n≤4) (hq:q.Zl=n) (a:Atom) (j:Int) (hv:Le a.Vars) (r:AV×List Blk):∀ k,k≤a.Vars.length→∀ p,
  (if Zbv n (a.Vars.take k) (a.Vars.drop k)=true then Zil q (Zy (addV p (a.Vars.drop k))) (w (j+1))=some r else some (Bo false,[])=some r) →
  Zlu q a (Zy p) j k=some r:=by
 refine down _ ?_ ?_
 ·intro p h;refine Z5l _ _ _ _ _ _ ?_;simpa [Zbv,Zrn] using h
 ·intro k hk ih p h;have h4:=inc64 (i:=k) (by omega);have hw:w (q.Zl - 1)=(n:Int) - 1:=by rw [hq];exact wrap64 (by omega) (by omega)
  have hl:=Zw5 (a.Vars.take k) a.Vars[k] (by simp;omega);have e7:k≤a.Vars.length:=by omega
  refine Z5l _ _ _ _ _ _ ?_;rw [Zy1 _ hk] at h;rcases tf (inR a.Vars[k] 0 ((n:Int) - 1)) with e1 | e1
  ·simp [e1] at h;simp [hk,h4,hw,e1,← h]
  ·rcases tf (has (a.Vars.take k) a.Vars[k]) with e2 | e2
   ·rw [Zro p hk] at h;simp only [e1,e2,Bool.true_and,Bool.not_false] at h;have ih:=ih _ h;have e0:=e1;simp [inR] at e0;have e6:=or_bit p (v:=a.Vars[k]) (by simp [inR];omega);have e8:¬ a.Vars[k]<0:=by omega
    simp at ih;simp [hk,h4,hw,e1,e2,hl,e0,e6,e7,e8,ih]
   ·simp [e1,e2] at h;simp [hk,h4,hw,e1,e2,hl,e7,← h]
def Zm4 (n:Int) (p:Nat→Bool):Bool:=decide (Zy p=w (shlI 1 n - 1))
theorem Zbls (q:Zd) (n:Nat) (hn1:1≤n) (hn:n≤4) (hq:q.Zl=n) (hl:Le q.Atoms) (hv:∀ a∈q.Atoms,Le a.Vars):∀ k,k≤q.Atoms.length→∀ p,
  Zil q (Zy p) k=some (Bo ((q.Atoms.drop k).all (Zbf n) && Zm4 n (addA p (q.Atoms.drop k))),[]):=by
 refine down _ ?_ ?_
 ·intro p;refine Z5k _ _ _ _ ?_;have e:addA p []=p:=by funext u;simp [addA]
  have h0:¬ (n:Int)<0:=by omega
  simp [e,hq,h0,Zm4]
 ·intro k hk ih p;refine Z5k _ _ _ _ ?_;have h4:=inc64 (i:=k) (by omega);rw [Zrm _ hk];rcases tf (nmOk q.Atoms[k].Name) with e1 | e1
  ·simp [hk,e1,Zbf]
  rcases tf (inR q.Atoms[k].Vars.length 1 3) with e2 | e2
  ·simp [hk,e1,e2,Zbf]
  have b:=Zblr q n hn1 hn hq q.Atoms[k] k (hv _ (List.getElem_mem hk)) (Bo (Zbf n q.Atoms[k] && (q.Atoms.drop (k+1)).all (Zbf n) && Zm4 n (addA p (q.Atoms.drop k))),[]) 0 (Nat.zero_le _) p ?_
  ·simp at b;simp [hk,e1,e2,b]
  ·simp only [List.take_zero,List.drop_zero,Zbf,e1,e2,Bool.true_and];rcases tf (Zbv n [] q.Atoms[k].Vars) with e3 | e3
   ·simp [e3]
   ·have ih:=ih (addV p q.Atoms[k].Vars);simp only [e3,if_true,Bool.true_and,Zy2 p hk];simp at ih;rw [show w ((k:Int)+1)=(k:Int)+1 from h4,ih]
@[simp] theorem Zp4 (q:Zd) (h:LeQ q):Zdv q=some (Bo (Zn q.Zl q.Atoms),[]):=by
 refine Zbjt _ _ ?_;unfold Zn;rcases tf (inR q.Zl 1 4) with e1 | e1
 ·simp [e1]
 rcases tf (inR q.Atoms.length 1 4) with e2 | e2
 ·simp [e1,e2]
 have e0:=e1;simp [inR] at e0;obtain ⟨k,hk⟩:∃ k:Nat,q.Zl=k:=⟨q.Zl.toNat,by omega⟩;have b:=Zbls q k (by omega) (by omega) hk h.1 h.2 0 (Nat.zero_le _) (fun _=>false);have ez:Zy (fun _=>false)=0:=rfl;rw [ez] at b;simp only [List.drop_zero,Int.ofNat_zero] at b;have e3:(q.Atoms.all (Zbf k) && Zm4 k (addA (fun _=>false) q.Atoms))=(q.Atoms.all (Zbf k) && (List.range k).all (addA (fun _=>false) q.Atoms)):=by
  rcases tf (q.Atoms.all (Zbf k)) with e3 | e3
  ·simp [e3]
  ·have hk':k=1∨k=2∨k=3∨k=4:=by omega
   have hz:=all_in e3;have hz':∀ u:Nat,k≤u→addA (fun _=>false) q.Atoms u=false:=fun u hu=>by simp only [addA,Bool.false_or];exact hz u (by omega)
   rw [e3,Bool.true_and,Bool.true_and,Bool.eq_iff_iff,Zm4,decide_eq_true_eq,Zy];rcases hk' with rfl | rfl | rfl | rfl
   ·simp [shlI,wrap64,Znw,hz' 1 (by omega),hz' 2 (by omega),hz' 3 (by omega),List.range_succ]
   ·simp [shlI,wrap64,Znw,hz' 2 (by omega),hz' 3 (by omega),List.range_succ]
   ·simp [shlI,wrap64,Znw,hz' 3 (by omega),List.range_succ,and_assoc]
   ·simp [shlI,wrap64,Znw,List.range_succ,and_assoc]
 rw [e3] at b;rw [hk] at e1;simp only [Zb7,Option.some.injEq,Prod.mk.injEq,AV.t.injEq,T.bool.injEq,and_true,exists_eq_left',e1,e2,if_true,b,hk,Int.toNat_natCast];simp
@[simp] theorem Zbs4 (q:Zd) (h:LeQ q):Zwg q=some (I (fullM q.Zl q.Atoms),[]):=by
 refine Zblj _ _ ?_;have q1:=Zw6 q h;unfold fullM;rcases tf (Zn q.Zl q.Atoms) with e | e
 ·simp [q1,e]
 ·have:=(Zy3 e).2.2.1;have h0:¬ ((q.Atoms.length:Int)<0):=by omega
  simp [q1,e,this,h0]
@[simp] theorem Zbs5 (q:Zd) (h:LeQ q):Zwm q=some (I (fullM q.Zl q.Atoms),[]):=by
 refine Zbln _ _ ?_;have q1:=Zp4 q h;unfold fullM;rcases tf (Zn q.Zl q.Atoms) with e | e
 ·simp [q1,e]
 ·have:=(Zy3 e).2.2.1;have h0:¬ ((q.Atoms.length:Int)<0):=by omega
  simp [q1,e,this,h0]
theorem Zblt (xs:List Int) (hx:Le xs):∀ i,i≤xs.length→Zmx xs i=some (Bo (Zfp (xs.drop i) && decide ((xs.length:Int)≤16)),[]):=by
 refine down _ ?_ ?_
 ·refine Z60 _ _ _ ?_;simp [Zfp]
 ·intro i hi ih;refine Z60 _ _ _ ?_;have h4:=inc64 (i:=i) (by omega);rw [Zyx hi];simp at ih;rcases tf (inR xs[i] 0 7) with h | h <;> simp [hi,h4,h,ih]
@[simp] theorem Z62 (xs:List Int) (hx:Le xs):Zmw xs=some (Bo (Zds xs),[]):=by
 refine Zblk _ _ ?_;have:=Zblt xs hx 0 (Nat.zero_le _);simpa [Zds] using this
theorem Zblu (xs:List Int) (hx:Le xs):∀ i,i≤xs.length→Zmu xs xs xs.length i=some (Bo (Zfp (xs.drop i) && decide ((xs.length:Int)≤16)),[]):=by
 refine down _ ?_ ?_
 ·refine Z6y _ _ _ _ _ ?_;simp [Zfp]
 ·intro i hi ih;refine Z6y _ _ _ _ _ ?_;have h4:=inc64 (i:=i) (by omega);rw [Zyx hi];simp at ih;rcases tf (inR xs[i] 0 7) with h | h <;> simp [hi,h4,h,ih]
@[simp] theorem Z63 (xs:List Int) (hx:Le xs):Zmt xs=some (Bo (Zds xs),[]):=by
 refine Zblf _ _ ?_;have:=Zblu xs hx 0 (Nat.zero_le _);simpa [Zds] using this
theorem Zblv (xs ys:List Int) (hx:Le xs) (hl:ys.length=xs.length):∀ i,i≤xs.length→Zmy xs ys i=some (Bo (Zeb (xs.drop i) (ys.drop i)),[]):=by
 refine down _ ?_ ?_
 ·refine Z61 _ _ _ _ ?_;simp [Zeb]
 ·intro i hi ih;refine Z61 _ _ _ _ ?_;have hi2:i<ys.length:=by omega
  have h4:=inc64 (i:=i) (by omega);rw [Zyy hi hi2];simp at ih;by_cases h:xs[i]<ys[i]
  ·simp [hi,hi2,h4,h,show ¬ ys[i]≤xs[i] by omega]
  ·simp [hi,hi2,h4,h,show ys[i]≤xs[i] by omega,ih]
@[simp] theorem Zblw (xs ys:List Int) (hx:Le xs):Zpx xs ys=some (Bo (dom xs ys),[]):=by
 refine Zbll _ _ _ ?_;by_cases hl:ys.length=xs.length
 ·have:=Zblv xs ys hx hl 0 (Nat.zero_le _);simp at this;simp [hl,this,dom]
 ·have h2:¬ ((xs.length:Int)=ys.length):=by omega
  have h1:¬ (xs.length=ys.length):=by omega
  simp [h1,h2,dom]
theorem Zblx (xs ys:List Int) (hx:Le xs) (hl:ys.length=xs.length):∀ i,i≤xs.length→Zmv xs ys xs.length i=some (Bo (Zeb (xs.drop i) (ys.drop i)),[]):=by
 refine down _ ?_ ?_
 ·refine Z6z _ _ _ _ _ ?_;simp [Zeb]
 ·intro i hi ih;refine Z6z _ _ _ _ _ ?_;have hi2:i<ys.length:=by omega
  have h4:=inc64 (i:=i) (by omega);rw [Zyy hi hi2];simp at ih;by_cases h:xs[i]<ys[i]
  ·simp [hi,hi2,h4,h,show ¬ ys[i]≤xs[i] by omega]
  ·simp [hi,hi2,h4,h,show ys[i]≤xs[i] by omega,ih]
@[simp] theorem Zbly (xs ys:List Int) (hx:Le xs):Zpw xs ys=some (Bo (dom xs ys),[]):=by
 refine Zblg _ _ _ ?_;by_cases hl:ys.length=xs.length
 ·have:=Zblx xs ys hx hl 0 (Nat.zero_le _);simp at this;simp [hl,this,dom]
 ·have h2:¬ ((xs.length:Int)=ys.length):=by omega
  have h1:¬ (xs.length=ys.length):=by omega
  simp [h1,h2,dom]
def LeX (b:Box):Prop:=Le b.Low∧Le b.High
@[simp] theorem Zbs6 (b:Box) (h:LeX b):Zwf b=some (Bo (Znv b.Low b.High),[]):=by
 refine Zblh _ _ ?_;have q1:=Z63 b.Low h.1;have q2:=Z63 b.High h.2;have q3:=Zbly b.High b.Low h.2;unfold Znv;rcases tf (Zds b.Low) with e1 | e1 <;> rcases tf (Zds b.High) with e2 | e2 <;> by_cases e3:0<b.Low.length <;> simp [q1,q2,q3,e1,e2,e3]
@[simp] theorem Zbs7 (b:Box) (h:LeX b):Zwl b=some (Bo (Znv b.Low b.High),[]):=by
 refine Zblm _ _ ?_;have q1:=Z62 b.Low h.1;have q2:=Z62 b.High h.2;have q3:=Zblw b.High b.Low h.2;unfold Znv;rcases tf (Zds b.Low) with e1 | e1 <;> rcases tf (Zds b.High) with e2 | e2 <;> by_cases e3:0<b.Low.length <;> simp [q1,q2,q3,e1,e2,e3]
theorem l_vars0 (q:Zd) (m:Int) (hl:Le q.Atoms) (hv:∀ a∈q.Atoms,Le a.Vars) (v:Nat) (hv4:v<8) (out:List Int) (ho:out.length≤8) (r:AV×List Blk):∀ i,i≤q.Atoms.length →
  Zer q (out++if hasV m (q.Atoms.drop i) i v=true then [(v:Int)] else []) m (w ((v:Int)+1))=some r →
  Zhu q out m v q.Atoms q.Atoms.length i=some r:=by
 refine down _ ?_ ?_
 ·intro h;refine Z30 _ _ _ _ _ _ _ _ ?_;simpa [hasV] using h
 ·intro i hi ih h;refine Z30 _ _ _ _ _ _ _ _ ?_;have h4:=inc64 (i:=i) (by omega);have c1:=Zm3 q.Atoms[i].Vars v (hv _ (List.getElem_mem hi));have h0:¬ (i:Int)<0:=by omega
  rw [Zy4 _ hi] at h;by_cases e1:andI (shrI m i) 1=1
  ·have e2:Zbd m i=true:=by simp [Zbd,e1]
   rcases tf (has q.Atoms[i].Vars v) with e3 | e3
   ·simp [e2,e3] at h;have ih:=ih (by simpa using h);simp at ih;simp [hi,h4,h0,e1,c1,e3,ih]
   ·simp [e2,e3] at h;have e4:out.length+1≤68719476736:=by omega
    simp [hi,h4,h0,e1,c1,e3,e4,h]
  ·have e2:Zbd m i=false:=by simp [Zbd,e1]
   simp [e2] at h;have ih:=ih (by simpa using h);simp at ih;simp [hi,h4,h0,e1,ih]
theorem l_vars1 (q:Zd) (m:Int) (hl:Le q.Atoms) (hv:∀ a∈q.Atoms,Le a.Vars) (n:Nat) (hq:q.Zl=n) (hn:n≤4):∀ k,k≤n →
  Zer q (varL m q.Atoms k) m k=some (.own 0,[.arr Zbg 1 true ((varL m q.Atoms n).map ic)]):=by
 refine down _ ?_ ?_
 ·refine Z3z _ _ _ _ _ ?_;simp [hq]
 ·intro k hk ih;refine Z3z _ _ _ _ _ ?_;have h4:=inc64 (i:=k) (by omega)
  have b:=l_vars0 q m hl hv k (by omega) (varL m q.Atoms k) (by have:=Zhp m q.Atoms k;omega) _ 0 (Nat.zero_le _) (by
   rw [List.drop_zero,← Zbcg,show w ((k:Int)+1)=(k:Int)+1 from h4];simpa using ih)
  simp at b;simp [hq,hk,b]
@[simp] theorem Zw7 (q:Zd) (m:Int) (h:LeQ q) (hv:Zn q.Zl q.Atoms=true):Zht q m=some (.own 0,[.arr Zbg 1 true ((varL m q.Atoms q.Zl.toNat).map ic)]):=by
 refine Zbhy _ _ _ ?_;have hn:=Zfq hv;have b:=l_vars1 q m h.1 h.2 q.Zl.toNat (by omega) (by omega) 0 (Nat.zero_le _);simpa [varL] using b
theorem l_both (b xs:List Int) (hb:Le b) (hx:xs.length≤1000000):∀ i,i≤xs.length →
  Zhv ((xs.take i).filter (has b)) b xs xs.length i=some (.own 0,[.arr Zbg 1 true ((xs.filter (has b)).map ic)]):=by
 refine down _ ?_ ?_
 ·refine Z31 _ _ _ _ _ _ ?_;simp
 ·intro i hi ih;refine Z31 _ _ _ _ _ _ ?_;have h4:=inc64 (i:=i) (by omega);have c1:=Zm3 b xs[i] hb;have e4:((xs.take i).filter (has b)).length+1≤68719476736:=by
   have:=List.length_filter_le (has b) (xs.take i);simp at this;omega
  rw [Zbch _ hi] at ih;rcases tf (has b xs[i]) with e | e
  ·simp [e] at ih;simp [hi,h4,c1,e,ih]
  ·simp [e] at ih;simp [hi,h4,c1,e,e4,ih]
@[simp] theorem x_both (xs b:List Int) (hb:Le b) (hx:xs.length≤1000000):Zoa xs b=some (.own 0,[.arr Zbg 1 true ((xs.filter (has b)).map ic)]):=by
 refine Zbhz _ _ _ ?_;have:=l_both b xs hb hx 0 (Nat.zero_le _);simpa using this
theorem l_bits0 (q:Zd) (m:Int) (hv:∀ a∈q.Atoms,Le a.Vars) (h4v:Var4 q.Atoms) (i:Nat) (hi:i<q.Atoms.length) (hm:Zbd m i=true) (r:AV×List Blk):∀ k,k≤q.Atoms[i].Vars.length→∀ p,
  Zgq q m (Zy (addV p (q.Atoms[i].Vars.drop k))) (w ((i:Int)+1))=some r→Zim q m (Zy p) i k=some r:=by
 have e1:andI (shrI m i) 1=1:=by simpa [Zbd] using hm
 have h0:¬ (i:Int)<0:=by omega
 have ha:=List.getElem_mem hi;refine down _ ?_ ?_
 ·intro p h;refine Zww _ _ _ _ _ _ ?_;rw [List.drop_length,Zrn] at h;simp [hi,h]
 ·intro k hk ih p h;refine Zww _ _ _ _ _ _ ?_;have h4:=inc64 (i:=k) (by have:=hv _ ha;omega);have e6:=or_bit p (v:=q.Atoms[i].Vars[k]) (h4v _ ha _ (List.getElem_mem hk));have e7:=h4v _ ha _ (List.getElem_mem hk);simp [inR] at e7;have e8:¬ q.Atoms[i].Vars[k]<0:=by omega
  rw [Zro p hk] at h;have ih:=ih _ h;simp at ih;simp [hi,hk,h0,e1,h4,e6,e7,e8,ih]
theorem l_bits1 (q:Zd) (m:Int) (hl:Le q.Atoms) (hv:∀ a∈q.Atoms,Le a.Vars) (h4v:Var4 q.Atoms):∀ i,i≤q.Atoms.length→∀ p,
  Zgq q m (Zy p) i=some (I (Zy (addM m p q.Atoms i)),[]):=by
 refine down _ ?_ ?_
 ·intro p;refine Z5m _ _ _ _ _ ?_;have e:addM m p q.Atoms q.Atoms.length=p:=by funext u;simp [addM,hasV]
  simp [e]
 ·intro i hi ih p;refine Z5m _ _ _ _ _ ?_;have h4:=inc64 (i:=i) (by omega);have h0:¬ (i:Int)<0:=by omega
  rw [Zbcf m p hi];rcases tf (Zbd m i) with e | e
  ·have e1:¬ andI (shrI m i) 1=1:=by simpa [Zbd] using e
   have ih:=ih p;simp at ih;have b:Zim q m (Zy p) i 0=some (I (Zy (addM m p q.Atoms (i+1))),[]):=by
    refine Zww _ _ _ _ _ _ ?_;simp [hi,h0,e1,h4,ih]
   simp [hi,e,b]
  ·have ih:=ih (addV p q.Atoms[i].Vars);have b:=l_bits0 q m hv h4v i hi e _ 0 (Nat.zero_le _) p (by rw [List.drop_zero,show w ((i:Int)+1)=(i:Int)+1 from h4];simpa using ih);simp at b;simp [hi,e,b]
@[simp] theorem Zp5 (q:Zd) (m:Int) (h:LeQ q) (h4v:Var4 q.Atoms):Zcg q m=some (I (Zy (pV m q.Atoms)),[]):=by
 refine Zbju _ _ _ ?_;have b:=l_bits1 q m h.1 h.2 h4v 0 (Nat.zero_le _) (fun _=>false);have ez:Zy (fun _=>false)=0:=rfl;have e:addM m (fun _=>false) q.Atoms 0=pV m q.Atoms:=by funext u;simp [addM,pV]
 rw [ez,e] at b;simpa using b
theorem Zblz (q:Zd) (hq:LeQ q) (h:Zn q.Zl q.Atoms=true) (x:Ze) (info:List Zb) (st:List Int) (hs:StOk info st) (hil:info.length≤100) (hst:st.length≤100) :
  match Zbq q.Atoms x info st with
  | some y=>Zhw q x info st=some (.tup [.agg (y.c.map .t),Bo true],[])
  | none=>∃ y:Zb,Zhw q x info st=some (.tup [.agg (y.c.map .t),Bo false],[]):=by
 have hl:=Zdt h;have wl:w ((q.Atoms.length:Int) - 1)=(q.Atoms.length:Int) - 1:=wrap64 (by omega) (by omega);unfold Zbq;by_cases k1:x.Kind=1
 ·rw [if_pos k1];by_cases c1:inR x.Atom 0 (q.Atoms.length - 1)=true∧x.Order=0
  ·rw [if_pos c1];have c2:=c1.1;simp [inR] at c2;have hlt:x.Atom.toNat<q.Atoms.length:=by omega
   have hv:=Zkl h _ (List.getElem_mem hlt);have h0:¬ x.Atom<0:=by omega
   simp only;refine Zfe _ _ _ _ _ ?_;have e:q.Atoms[x.Atom.toNat].Vars.headD 0=q.Atoms[x.Atom.toNat].Vars[0]'(by omega):=by
    rw [List.headD_eq_head?_getD,hd0 (by omega)]
   rw [List.headD_eq_head?_getD] at e;simp [k1,wl,c1,h0,hlt,c2,e,show 0<q.Atoms[x.Atom.toNat].Vars.length by omega]
  ·rw [if_neg c1];refine ⟨⟨0,-1,-1,-1⟩,Zfe _ _ _ _ _ ?_⟩;rcases tf (inR x.Atom 0 (q.Atoms.length - 1)) with e | e
   ·simp [k1,wl,e]
   ·have e2:¬ x.Order=0:=fun hc=>c1 ⟨e,hc⟩
    simp [k1,wl,e,e2]
 rw [if_neg k1];by_cases k0:x.Atom=0
 rotate_left
 ·rw [if_pos k0];exact ⟨⟨0,-1,-1,-1⟩,Zfe _ _ _ _ _ (by simp [k1,k0])⟩
 rw [if_neg (by simpa using k0)];have w1:w ((st.length:Int) - 1)=(st.length:Int) - 1:=wrap64 (by omega) (by omega);have w2:w ((st.length:Int) - 2)=(st.length:Int) - 2:=wrap64 (by omega) (by omega);by_cases k2:x.Kind=2
 ·rw [if_pos k2];by_cases n1:st.length<1
  ·have:Zbw st info 1=none:=by unfold Zbw;rw [if_neg (by omega)]
   rw [this];have n1':(st.length:Int)<1:=by omega
   exact ⟨⟨0,-1,-1,-1⟩,Zfe _ _ _ _ _ (by simp [k1,k2,k0,n1'])⟩
  ·have n1':¬ (st.length:Int)<1:=by omega
   obtain ⟨s,y,t1,t2,t3,t4⟩:=Zfr hs (by omega:1≤1) (by omega:1≤st.length);have z1:(0:Int)≤(st.length:Int) - 1:=by omega
   have z5:(1:Int)≤(st.length:Int):=by omega
   have z2:((st.length:Int) - 1).toNat=st.length - 1:=by omega
   have q1:=Zw7 q y.Mask hq h;have q2:=Zm3 (varL y.Mask q.Atoms q.Zl.toNat) x.Order (by have:=Zhp y.Mask q.Atoms q.Zl.toNat;have:=Zfq h;omega);rw [Zhq h] at q2;rw [t1];simp only;by_cases c1:vin q.Atoms y.Mask x.Order=true∧y.Order≠x.Order
   ·rw [if_pos c1];refine Zfe _ _ _ _ _ ?_;simp [k1,k2,k0,n1',w1,z1,z2,z5,t2,t3,t4,q1,q2,c1]
   ·rw [if_neg c1];refine ⟨⟨0,-1,-1,-1⟩,Zfe _ _ _ _ _ ?_⟩;rcases tf (vin q.Atoms y.Mask x.Order) with e | e
    ·simp [k1,k2,k0,n1',w1,z1,z2,z5,t2,t3,t4,q1,q2,e]
    ·have e2:y.Order=x.Order:=Decidable.byContradiction fun hc=>c1 ⟨e,hc⟩
     simp [k1,k2,k0,n1',w1,z1,z2,z5,t2,t3,t4,q1,q2,e,e2]
 rw [if_neg k2];by_cases n2:st.length<2
 ·have:Zbw st info 2=none:=by unfold Zbw;rw [if_neg (by omega)]
  rw [this];have n2':(st.length:Int)<2:=by omega
  exact ⟨⟨0,-1,-1,-1⟩,Zfe _ _ _ _ _ (by simp [k1,k2,k0,n2'])⟩
 have n2':¬ (st.length:Int)<2:=by omega
 obtain ⟨s,y,t1,t2,t3,t4⟩:=Zfr hs (by omega:1≤2) (by omega:2≤st.length);obtain ⟨t,z,u1,u2,u3,u4⟩:=Zfr hs (by omega:1≤1) (by omega:1≤st.length);have z1:(0:Int)≤(st.length:Int) - 1:=by omega
 have z2:((st.length:Int) - 1).toNat=st.length - 1:=by omega
 have z3:(0:Int)≤(st.length:Int) - 2:=by omega
 have z4:((st.length:Int) - 2).toNat=st.length - 2:=by omega
 have hn:=Zfq h;have q1:=Zw7 q y.Mask hq h;have q2:=Zw7 q z.Mask hq h;have l1:=Zhp y.Mask q.Atoms q.Zl.toNat;have l2:=Zhp z.Mask q.Atoms q.Zl.toNat;have q3:=x_both (varL y.Mask q.Atoms q.Zl.toNat) (varL z.Mask q.Atoms q.Zl.toNat) (by omega) (by omega)
 have q4:=Zm3 ((varL y.Mask q.Atoms q.Zl.toNat).filter (has (varL z.Mask q.Atoms q.Zl.toNat))) x.Order (by
  have:=List.length_filter_le (has (varL z.Mask q.Atoms q.Zl.toNat)) (varL y.Mask q.Atoms q.Zl.toNat);omega)
 rw [Zbcj h] at q4;have q5:=Zbci h y.Mask z.Mask;generalize hS:(varL y.Mask q.Atoms q.Zl.toNat).filter (has (varL z.Mask q.Atoms q.Zl.toNat))=S at q3 q4 q5;rw [t1,u1];simp only
 have base:∀ (r:AV×List Blk),(if andI y.Mask z.Mask=0 then
    if ((S.length:Int)=0) then some (.tup [.agg [I (orI y.Mask z.Mask),I (-1),I s,I t],Bo false],[])=some r
    else if x.Kind=3 then some (.tup [.agg [I (orI y.Mask z.Mask),I (-1),I s,I t],Bo (decide (x.Order=0))],[])=some r
    else if x.Kind=5 then some (.tup [.agg [I (orI y.Mask z.Mask),I y.Order,I s,I t],Bo (decide (x.Order=0))],[])=some r
    else if x.Kind=4 then
     if (vin q.Atoms y.Mask x.Order && vin q.Atoms z.Mask x.Order)=true then
      if y.Order=x.Order then some (.tup [.agg [I (orI y.Mask z.Mask),I x.Order,I s,I t],Bo (decide (z.Order=x.Order))],[])=some r
      else some (.tup [.agg [I (orI y.Mask z.Mask),I x.Order,I s,I t],Bo false],[])=some r
     else some (.tup [.agg [I (orI y.Mask z.Mask),I x.Order,I s,I t],Bo false],[])=some r
    else some (.tup [.agg [I (orI y.Mask z.Mask),I (-1),I s,I t],Bo false],[])=some r
   else some (.tup [.agg [I (orI y.Mask z.Mask),I (-1),I s,I t],Bo false],[])=some r)→Zhw q x info st=some r:=by
  intro r hr;refine Zfe _ _ _ _ _ ?_;simp only [k1,k0,k2,if_false,if_true,n2',w1,w2,z1,z2,z3,z4,t2,t3,t4,u2,u3,u4,q1,q2,true_and,Option.some.injEq,exists_eq_left'];refine ⟨_,rfl,_,rfl,S,?_,?_⟩
  ·simpa using q3
  ·simp only [q4,Option.some.injEq,Prod.mk.injEq,AV.t.injEq,T.bool.injEq,and_true,exists_eq_left'];simpa using hr
 by_cases c1:andI y.Mask z.Mask=0∧shr q.Atoms y.Mask z.Mask=true
 rotate_left
 ·rw [if_neg c1];refine ⟨⟨orI y.Mask z.Mask,-1,s,t⟩,base _ ?_⟩;by_cases c2:andI y.Mask z.Mask=0
  ·have c3:S.length=0:=q5.2 (by rcases tf (shr q.Atoms y.Mask z.Mask) with e | e;exact e;exact absurd ⟨c2,e⟩ c1);have c4:(S.length:Int)=0:=by omega
   rw [if_pos c2,if_pos c4];simp
  ·rw [if_neg c2];simp
 rw [if_pos c1];have c4:¬ (S.length:Int)=0:=fun hc=>by
  have:=q5.1 (by omega);rw [c1.2] at this;cases this
 have c5:¬ S=[]:=fun hc=>c4 (by simp [hc])
 unfold Zcd;by_cases j1:x.Kind=3∧x.Order=0
 ·rw [if_pos j1];exact base _ (by simp [c1.1,c4,c5,j1])
 rw [if_neg j1];by_cases j2:x.Kind=5∧x.Order=0
 ·rw [if_pos j2];exact base _ (by simp [c1.1,c4,c5,j2])
 rw [if_neg j2];by_cases j3:x.Kind=4∧vin q.Atoms y.Mask x.Order=true∧vin q.Atoms z.Mask x.Order=true∧y.Order=x.Order∧z.Order=x.Order
 ·rw [if_pos j3];exact base _ (by simp [c1.1,c4,c5,j3])
 rw [if_neg j3];simp only [Option.map_none];by_cases k3:x.Kind=3
 ·have e:¬ x.Order=0:=fun hc=>j1 ⟨k3,hc⟩
  exact ⟨⟨orI y.Mask z.Mask,-1,s,t⟩,base _ (by simp [c1.1,c4,c5,k3,e])⟩
 by_cases k5:x.Kind=5
 ·have e:¬ x.Order=0:=fun hc=>j2 ⟨k5,hc⟩
  exact ⟨⟨orI y.Mask z.Mask,y.Order,s,t⟩,base _ (by simp [c1.1,c4,c5,k5,e])⟩
 by_cases k4:x.Kind=4
 ·refine ⟨⟨orI y.Mask z.Mask,x.Order,s,t⟩,base _ ?_⟩;rcases tf (vin q.Atoms y.Mask x.Order) with e1 | e1 <;> rcases tf (vin q.Atoms z.Mask x.Order) with e2 | e2 <;> by_cases e3:y.Order=x.Order <;> simp [c1.1,c4,c5,k4,e1,e2,e3];exact fun e4=>j3 ⟨k4,e1,e2,e3,e4⟩
 ·exact ⟨⟨orI y.Mask z.Mask,-1,s,t⟩,base _ (by simp [c1.1,c4,c5,k3,k4,k5])⟩
@[simp] theorem Zp6 (b v:Int):Zgr b v=some (Bo (inR v 0 3 && decide (andI (shrI b v) 1=1)),[]):=by
 refine Zbjv _ _ _ ?_;rcases tf (inR v 0 3) with e | e
 ·simp [e]
 ·have e0:=e;simp [inR] at e0;have:¬ v<0:=by omega
  simp [e,this]
def Z2 (x:Ze):Option Zb→AV×List Blk
 | some y=>(.tup [.agg (y.c.map .t),I (popsI x)],[])
 | none=>(.tup [.agg [I 0,I 0,I 0,I 0],I (-1)],[])
theorem Zbl0 (q:Zd) (hq:LeQ q) (h:Zn q.Zl q.Atoms=true) (x:Ze) (info:List Zb) (st:List Int) (hs:StOk info st) (hil:info.length≤100) (hst:st.length≤100) :
  Zgs q x info st=some (Z2 x (Zbq q.Atoms x info st)):=by
 have hl:=Zdt h;have wl:w ((q.Atoms.length:Int) - 1)=(q.Atoms.length:Int) - 1:=wrap64 (by omega) (by omega);unfold Zbq;by_cases k1:x.Kind=1
 ·rw [if_pos k1];by_cases c1:inR x.Atom 0 (q.Atoms.length - 1)=true∧x.Order=0
  ·rw [if_pos c1];have c2:=c1.1;simp [inR] at c2;have hlt:x.Atom.toNat<q.Atoms.length:=by omega
   have hv:=Zkl h _ (List.getElem_mem hlt);have h0:¬ x.Atom<0:=by omega
   refine Zdz _ _ _ _ _ ?_;have e:q.Atoms[x.Atom.toNat].Vars.headD 0=q.Atoms[x.Atom.toNat].Vars[0]'(by omega):=by
    rw [List.headD_eq_head?_getD,hd0 (by omega)]
   rw [List.headD_eq_head?_getD] at e;simp [k1,wl,c1,h0,hlt,c2,e,Z2,popsI,show 0<q.Atoms[x.Atom.toNat].Vars.length by omega]
  ·rw [if_neg c1];refine Zdz _ _ _ _ _ ?_;rcases tf (inR x.Atom 0 (q.Atoms.length - 1)) with e | e
   ·simp [k1,wl,e,Z2]
   ·have e2:¬ x.Order=0:=fun hc=>c1 ⟨e,hc⟩
    simp [k1,wl,e,e2,Z2]
 rw [if_neg k1];have w1:w ((st.length:Int) - 1)=(st.length:Int) - 1:=wrap64 (by omega) (by omega);have w2:w ((st.length:Int) - 2)=(st.length:Int) - 2:=wrap64 (by omega) (by omega);by_cases k0:x.Atom=0
 rotate_left
 ·rw [if_pos k0];refine Zdz _ _ _ _ _ ?_;have j:∀ b,Zgt q x ⟨0,0,0,0⟩ info st st.length x.Kind b=some (Z2 x none):=by
   intro b;refine Zm1 _ _ _ _ _ _ _ _ _ ?_;cases b <;> simp [k0,Z2]
  by_cases k2:x.Kind=2
  ·simp [k1,k2,k0,Z2]
  ·by_cases k3:x.Kind=3 <;> by_cases k4:x.Kind=4 <;> simp [k1,k2,k0,k3,k4,j] <;> first | (simp only [k3] at j;simp [j,Z2]) | (simp only [k4] at j;simp [j,Z2]) | simp [Z2]
 rw [if_neg (by simpa using k0)];by_cases k2:x.Kind=2
 ·rw [if_pos k2];refine Zdz _ _ _ _ _ ?_;by_cases n1:st.length<1
  ·have:Zbw st info 1=none:=by unfold Zbw;rw [if_neg (by omega)]
   rw [this];have n1':(st.length:Int)<1:=by omega
   simp [k1,k2,k0,n1',Z2]
  ·have n1':¬ (st.length:Int)<1:=by omega
   obtain ⟨s,y,t1,t2,t3,t4⟩:=Zfr hs (by omega:1≤1) (by omega:1≤st.length);have z1:(0:Int)≤(st.length:Int) - 1:=by omega
   have z5:(1:Int)≤(st.length:Int):=by omega
   have z2:((st.length:Int) - 1).toNat=st.length - 1:=by omega
   have q1:=Zp5 q y.Mask hq (Zkm h);have q2:(inR x.Order 0 3 && decide (andI (shrI (Zy (pV y.Mask q.Atoms)) x.Order) 1=1))=vin q.Atoms y.Mask x.Order:=by
    unfold vin;rcases tf (inR x.Order 0 3) with e | e
    ·simp [e]
    ·rw [e,Bool.true_and,Bool.true_and,Bool.eq_iff_iff,decide_eq_true_eq];exact at_bit _ e
   rw [t1];simp only;by_cases e2:y.Order=x.Order
   ·simp [k1,k2,k0,n1',w1,z1,z2,z5,t2,t3,t4,e2,Z2]
   ·rcases tf (vin q.Atoms y.Mask x.Order) with e | e
    ·simp only [k1,k2,k0,n1',w1,z1,z2,t2,t3,t4,q1,Zp6,q2,e,e2,if_false,if_true,true_and,Option.some.injEq,exists_eq_left',Prod.mk.injEq,AV.t.injEq,T.int.injEq,T.bool.injEq,and_true];simp [Z2]
    ·simp only [k1,k2,k0,n1',w1,z1,z2,t2,t3,t4,q1,Zp6,q2,e,e2,if_false,if_true,true_and,Option.some.injEq,exists_eq_left',Prod.mk.injEq,AV.t.injEq,T.int.injEq,T.bool.injEq,and_true];simp [Z2,popsI,k1,k2,e2]
 rw [if_neg k2]
 -- a join
 have q0:∀ (b:Zb) (c:Zb) (y:Zb) (f:Bool),x.Kind=4→∀ m1 m2,Ze7 q x ⟨0,0,0,0⟩ b c y (andI (Zy (pV m1 q.Atoms)) (Zy (pV m2 q.Atoms))) f =
   if vin q.Atoms m1 x.Order=true∧vin q.Atoms m2 x.Order=true∧b.Order=x.Order∧c.Order=x.Order then some (.tup [.agg [I y.Mask,I x.Order,I y.Left,I y.Right],I 2],[]) else some (Z2 x none):=by
  intro b c y f k4 m1 m2;have e:(inR x.Order 0 3 && decide (andI (shrI (andI (Zy (pV m1 q.Atoms)) (Zy (pV m2 q.Atoms))) x.Order) 1=1))=(vin q.Atoms m1 x.Order && vin q.Atoms m2 x.Order):=by
   unfold vin;rcases tf (inR x.Order 0 3) with e | e
   ·simp [e]
   ·rw [e,Bool.true_and,Bool.true_and,Bool.true_and,Bool.eq_iff_iff,decide_eq_true_eq,Zyz];simpa using at_bit (fun u=>pV m1 q.Atoms u && pV m2 q.Atoms u) e
  split
  ·rename_i hc;refine Zwx _ _ _ _ _ _ _ _ _ ?_;simp only [Zp6,e,hc];simp [k4]
  ·rename_i hc;refine Zwx _ _ _ _ _ _ _ _ _ ?_;simp only [Zp6,e];rcases tf (vin q.Atoms m1 x.Order) with e1 | e1 <;> rcases tf (vin q.Atoms m2 x.Order) with e2 | e2 <;> by_cases e3:b.Order=x.Order <;> by_cases e4:c.Order=x.Order <;> simp [k4,e1,e2,e3,e4,Z2];exact hc ⟨e1,e2,e3,e4⟩
 have q3:∀ (b:Zb) (c:Zb) (y:Zb) (v:Int) (f:Bool),x.Kind≠4→Ze7 q x ⟨0,0,0,0⟩ b c y v f=some (.tup [.agg (y.c.map .t),I 2],[]):=by
  intro b c y v f k4;exact Zwx _ _ _ _ _ _ _ _ _ (by simp [k4])
 have q5:∀ (b:Zb) (c:Zb) (y:Zb) (v:Int),x.Kind≠4→Zgu q x ⟨0,0,0,0⟩ b c y v=some (.tup [.agg (y.c.map .t),I 2],[]):=by
  intro b c y v k4;exact Zbjw _ _ _ _ _ _ _ _ (by simp [k4])
 by_cases kk:x.Kind=3∨x.Kind=4∨x.Kind=5
 rotate_left
 ·have k3:¬ x.Kind=3:=fun hc=>kk (.inl hc)
  have k4:¬ x.Kind=4:=fun hc=>kk (.inr (.inl hc))
  have k5:¬ x.Kind=5:=fun hc=>kk (.inr (.inr hc))
  have hj:∀ y z,Zcd q.Atoms x y z=none:=by intro y z;simp [Zcd,k3,k4,k5]
  refine Eq.trans (b:=some (Z2 x none)) (Zdz _ _ _ _ _ (by simp [k1,k2,k3,k4,k5,Z2])) ?_;simp only [hj,Option.map_none,ite_self];split <;> rfl
 have k5':x.Kind≠3→x.Kind≠4→x.Kind=5:=fun a b=>by rcases kk with h | h | h;exact absurd h a;exact absurd h b;exact h
 have red:∀ r,Zgt q x ⟨0,0,0,0⟩ info st st.length x.Kind true=some r→(x.Kind=5→Zgs q x info st=some r)→Zgs q x info st=some r:=by
  intro r hr h5;by_cases k5:x.Kind=5
  ·exact h5 k5
  ·refine Zdz _ _ _ _ _ ?_;by_cases k3:x.Kind=3
   ·rw [if_neg k1,if_neg k2,if_pos k3];exact hr
   ·by_cases k4:x.Kind=4
    ·rw [if_neg k1,if_neg k2,if_neg k3,if_pos k4];exact hr
    ·exact absurd (k5' k3 k4) k5
 by_cases n2:st.length<2
 ·have:Zbw st info 2=none:=by unfold Zbw;rw [if_neg (by omega)]
  rw [this];have n2':(st.length:Int)<2:=by omega
  refine red _ ?_ ?_
  ·exact Zm1 _ _ _ _ _ _ _ _ _ (by simp [k0,n2',Z2])
  ·intro k5;exact Zdz _ _ _ _ _ (by simp [k5,k0,n2',Z2])
 have n2':¬ (st.length:Int)<2:=by omega
 obtain ⟨s,y,t1,t2,t3,t4⟩:=Zfr hs (by omega:1≤2) (by omega:2≤st.length);obtain ⟨t,z,u1,u2,u3,u4⟩:=Zfr hs (by omega:1≤1) (by omega:1≤st.length);have z1:(0:Int)≤(st.length:Int) - 1:=by omega
 have z2:((st.length:Int) - 1).toNat=st.length - 1:=by omega
 have z3:(0:Int)≤(st.length:Int) - 2:=by omega
 have z4:((st.length:Int) - 2).toNat=st.length - 2:=by omega
 have b1:=Zp5 q y.Mask hq (Zkm h);have b2:=Zp5 q z.Mask hq (Zkm h);have b3:=shr_bits q.Atoms y.Mask z.Mask;rw [t1,u1];simp only;by_cases c1:andI y.Mask z.Mask=0
 rotate_left
 ·rw [if_neg (fun hc=>c1 hc.1)];refine red _ ?_ ?_
  ·refine Zm1 _ _ _ _ _ _ _ _ _ ?_;simp only [k0,n2',w1,w2,z1,z2,z3,z4,t2,t3,t4,u2,u3,u4,b1,b2,c1,if_true,if_false,true_and,Option.some.injEq,exists_eq_left',Prod.mk.injEq,AV.t.injEq,T.int.injEq,and_true];simp [Z2]
  ·intro k5;refine Zdz _ _ _ _ _ ?_;simp only [k5,k0,n2',w1,w2,z1,z2,z3,z4,t2,t3,t4,u2,u3,u4,b1,b2,c1,if_true,if_false,true_and,Option.some.injEq,exists_eq_left',Prod.mk.injEq,AV.t.injEq,T.int.injEq,and_true];simp [Z2]
 rcases tf (shr q.Atoms y.Mask z.Mask) with c2 | c2
 ·rw [if_neg (fun hc=>by rw [hc.2] at c2;cases c2)];have c3:=b3.2 c2;refine red _ ?_ ?_
  ·refine Zm1 _ _ _ _ _ _ _ _ _ ?_;simp only [k0,n2',w1,w2,z1,z2,z3,z4,t2,t3,t4,u2,u3,u4,b1,b2,c1,c3,if_true,if_false,true_and,Option.some.injEq,exists_eq_left',Prod.mk.injEq,AV.t.injEq,T.int.injEq,and_true];simp [Z2]
  ·intro k5;refine Zdz _ _ _ _ _ ?_;simp only [k5,k0,n2',w1,w2,z1,z2,z3,z4,t2,t3,t4,u2,u3,u4,b1,b2,c1,c3,if_true,if_false,true_and,Option.some.injEq,exists_eq_left',Prod.mk.injEq,AV.t.injEq,T.int.injEq,and_true];simp [Z2]
 rw [if_pos ⟨c1,c2⟩];have c3:¬ andI (Zy (pV y.Mask q.Atoms)) (Zy (pV z.Mask q.Atoms))=0:=fun hc=>by rw [b3.1 hc] at c2;cases c2
 have p2:popsI x=2:=by unfold popsI;rw [if_neg k1,if_neg k2]
 refine red _ ?_ ?_
 ·refine Zm1 _ _ _ _ _ _ _ _ _ ?_;simp only [k0,n2',w1,w2,z1,z2,z3,z4,t2,t3,t4,u2,u3,u4,b1,b2,c1,c3,if_true,if_false,true_and,Option.some.injEq,exists_eq_left',Prod.mk.injEq,AV.t.injEq,T.int.injEq,and_true];by_cases k4:x.Kind=4
  ·have k3:¬ x.Kind=3:=by omega
   have k5:¬ x.Kind=5:=by omega
   rw [if_pos k4,q0 _ _ _ _ k4];simp only [Zcd,k3,k4,k5,false_and,true_and,if_false];split
   ·rename_i hc;simp [Z2,p2]
   ·rfl
  ·by_cases e:x.Order=0
   ·by_cases k5:x.Kind=5
    ·rw [if_neg k4,if_pos e,if_pos k5,q5 _ _ _ _ k4];simp [Zcd,k5,e,Z2,p2]
    ·have k3:x.Kind=3:=by omega
     rw [if_neg k4,if_pos e,if_neg k5,q3 _ _ _ _ _ k4];simp [Zcd,k3,e,Z2,p2]
   ·rw [if_neg k4,if_neg e];simp [Zcd,k4,e,Z2]
 ·intro k5;refine Zdz _ _ _ _ _ ?_;have k4:x.Kind≠4:=by omega
  simp only [k5,k0,n2',w1,w2,z1,z2,z3,z4,t2,t3,t4,u2,u3,u4,b1,b2,c1,c3,if_true,if_false,true_and,Option.some.injEq,exists_eq_left',Prod.mk.injEq,AV.t.injEq,T.int.injEq,and_true];by_cases e:x.Order=0
  ·simp [e,q5 _ _ _ _ k4,Zcd,k5,Z2,p2]
  ·simp [e,Zcd,k5,Z2]
theorem Zbl1 (q:Zd) (hq:LeQ q) (h:Zn q.Zl q.Atoms=true) (p:Plan) (hl:p.Steps.length≤14):∀ i,i≤p.Steps.length→∀ info st,StOk info st→info.length=i→st.length≤i →
  Zlw q p info st i=some (match Zbb q.Atoms (p.Steps.drop i) i info st with
   | some (info',st')=>if st'.length=1 then (.tup [.own 0,Bo true],[.arr Zfu 4 true (info'.map Zb.c)]) else (.tup [.own 0,Bo false],[.arr Zfu 4 true []])
   | none=>(.tup [.own 0,Bo false],[.arr Zfu 4 true []])):=by
 refine down _ ?_ ?_
 ·intro info st _ _ _;rw [List.drop_length,Zbb];refine Z5n _ _ _ _ _ _ ?_;by_cases c:st.length=1
  ·simp [c]
  ·have c':¬ (st.length:Int)=1:=by omega
   simp [c,c']
 ·intro i hi ih info st hs hil hst;have h5:=inc64 (i:=i) (by omega);have s1:=Zbl0 q hq h p.Steps[i] info st hs (by omega) (by omega);rw [Zy6 q.Atoms hi];refine Z5n _ _ _ _ _ _ ?_
  cases he:Zbq q.Atoms p.Steps[i] info st with
  | none =>
   rw [he,Z2] at s1;have e0:Zgs q p.Steps[i] info st=some (.tup [.agg ((⟨0,0,0,0⟩:Zb).c.map .t),I (-1)],[]):=s1;rw [if_pos (by omega)];refine ⟨by omega,_,List.getElem?_eq_getElem hi,_,_,e0,?_⟩
   simp
  | some y =>
   rw [he,Z2] at s1;obtain ⟨f1,f2,f3⟩:=Zrr hs he;rw [f1] at s1;have hn:=Zkn hs y (st.length - pops y);rw [hil] at hn;have ih:=ih (info++[y]) (st.take (st.length - pops y)++[(i:Int)]) hn (by simp [hil]) (st_len hst _);have w2:w ((st.length:Int) - (pops y:Int))=(st.length:Int) - (pops y:Int):=wrap64 (by omega) (by omega);have z2:((st.length:Int) - (pops y:Int)).toNat=st.length - pops y:=by omega
   rw [if_pos (by omega)];refine ⟨by omega,_,List.getElem?_eq_getElem hi,_,_,s1,?_⟩;rw [if_neg (by omega),w2,z2];refine ⟨by omega,by omega,by omega,by omega,by omega,?_⟩;rw [show w ((i:Int)+1)=(i:Int)+1 from h5];simpa using ih
@[simp] theorem Zp7 (q:Zd) (p:Plan) (hq:LeQ q):Zej q p=some (match Z3 q.Zl q.Atoms p.Steps with
  | some info=>(.tup [.own 0,Bo true],[.arr Zfu 4 true (info.map Zb.c)])
  | none=>(.tup [.own 0,Bo false],[.arr Zfu 4 true []])):=by
 refine Zbjx _ _ _ ?_;have q1:=Zp4 q hq;unfold Z3;rcases tf (Zn q.Zl q.Atoms) with e | e
 ·simp [q1,e]
 rcases tf (inR p.Steps.length 1 14) with e2 | e2
 ·simp [q1,e,e2]
 ·have e3:=e2;simp [inR] at e3;have b:=Zbl1 q hq e p (by omega) 0 (Nat.zero_le _) [] [] (fun s hs=>by cases hs) rfl (Nat.le_refl _);simp only [List.drop_zero] at b;simp only [q1,e,e2,Zb7,Option.some.injEq,Prod.mk.injEq,AV.t.injEq,T.bool.injEq,and_true,exists_eq_left',if_true,and_self];refine Eq.trans b ?_
  cases Zbb q.Atoms p.Steps 0 [] [] with
  | none=>rfl
  | some r=>obtain ⟨a,b⟩:=r;simp only;split <;> rfl
theorem Zbl2 (q:Zd) (hq:LeQ q) (h:Zn q.Zl q.Atoms=true) (steps:List Ze) (hl:steps.length≤14):∀ i,i≤steps.length→∀ info st,StOk info st→info.length=i→st.length≤i →
  Zfw q info st steps steps.length i=some (match Zbb q.Atoms (steps.drop i) i info st with
   | some (info',st')=>if st'.length=1 then (.tup [.own 0,Bo true],[.arr Zfu 4 true (info'.map Zb.c)]) else (.tup [.t .nil,Bo false],[])
   | none=>(.tup [.t .nil,Bo false],[])):=by
 refine down _ ?_ ?_
 ·intro info st _ _ _;rw [List.drop_length,Zbb];refine Z32 _ _ _ _ _ _ _ ?_;by_cases c:st.length=1
  ·simp [c]
  ·have c':¬ (st.length:Int)=1:=by omega
   simp [c,c']
 ·intro i hi ih info st hs hil hst;have h5:=inc64 (i:=i) (by omega);have s1:=Zblz q hq h steps[i] info st hs (by omega) (by omega);rw [Zy6 q.Atoms hi];refine Z32 _ _ _ _ _ _ _ ?_
  cases he:Zbq q.Atoms steps[i] info st with
  | none =>
   rw [he] at s1;obtain ⟨y,s1⟩:=s1;rw [if_pos (by omega)];refine ⟨by omega,_,List.getElem?_eq_getElem hi,_,_,s1,?_⟩
   simp
  | some y =>
   rw [he] at s1;obtain ⟨f1,f2,f3⟩:=Zrr hs he;have hn:=Zkn hs y (st.length - pops y);rw [hil] at hn;have ih:=ih (info++[y]) (st.take (st.length - pops y)++[(i:Int)]) hn (by simp [hil]) (st_len hst _);rw [if_pos (by omega)];refine ⟨by omega,_,List.getElem?_eq_getElem hi,_,_,s1,?_⟩;rw [if_pos rfl];refine ⟨by omega,?_⟩;simp only;unfold pops at ih f2 ⊢;rw [show w ((i:Int)+1)=(i:Int)+1 from h5];by_cases r:0≤y.Right
   ·simp only [if_pos r] at ih f2 ⊢;have w2:w ((st.length:Int) - 2)=(st.length:Int) - 2:=wrap64 (by omega) (by omega);have z2:((st.length:Int) - 2).toNat=st.length - 2:=by omega
    rw [w2,z2];refine ⟨by omega,by omega,by omega,by simpa using ih⟩
   ·simp only [if_neg r] at ih f2 ⊢;by_cases l:0≤y.Left
    ·simp only [if_pos l] at ih f2 ⊢;have w2:w ((st.length:Int) - 1)=(st.length:Int) - 1:=wrap64 (by omega) (by omega);have z2:((st.length:Int) - 1).toNat=st.length - 1:=by omega
     rw [w2,z2];refine ⟨by omega,by omega,by omega,by simpa using ih⟩
    ·simp only [if_neg l] at ih f2 ⊢;exact ⟨by omega,by simpa using ih⟩
@[simp] theorem Zp8 (q:Zd) (p:Plan) (hq:LeQ q):Zdd q p=some (match Z3 q.Zl q.Atoms p.Steps with
  | some info=>(.tup [.own 0,Bo true],[.arr Zfu 4 true (info.map Zb.c)])
  | none=>(.tup [.t .nil,Bo false],[])):=by
 refine Zbh0 _ _ _ ?_;have q1:=Zw6 q hq;unfold Z3;rcases tf (Zn q.Zl q.Atoms) with e | e
 ·simp [q1,e]
 rcases tf (inR p.Steps.length 1 14) with e2 | e2
 ·simp [q1,e,e2]
 ·have e3:=e2;simp [inR] at e3;have b:=Zbl2 q hq e p.Steps (by omega) 0 (Nat.zero_le _) [] [] (fun s hs=>by cases hs) rfl (Nat.le_refl _);simp only [List.drop_zero] at b;simp only [q1,e,e2,Zby,Option.some.injEq,Prod.mk.injEq,AV.t.injEq,T.bool.injEq,and_true,exists_eq_left',if_true,and_self];refine Eq.trans b ?_
  cases Zbb q.Atoms p.Steps 0 [] [] with
  | none=>rfl
  | some r=>obtain ⟨a,b⟩:=r;simp only;split <;> rfl
theorem Zbl3 (xs:List Int) (v:Int) (hx:Le xs):∀ i,i≤xs.length→Zmd xs v i=some (I (Z1 (fun x=>decide (v=x)) (xs.drop i) i),[]):=by
 refine down _ ?_ ?_
 ·refine Z50 _ _ _ _ ?_;simp [Z1]
 ·intro i hi ih;refine Z50 _ _ _ _ ?_;have h4:=inc64 (i:=i) (by omega);rw [Zkk _ hi];simp at ih;by_cases e:v=xs[i]
  ·simp [hi,h4,← e]
  ·have e':¬ xs[i]=v:=fun hc=>e hc.symm
   simp [hi,h4,e,e',ih]
@[simp] theorem Zbl4 (xs:List Int) (v:Int) (hx:Le xs):Zb6 xs v=some (I (Z1 (fun x=>decide (v=x)) xs 0),[]):=by
 refine Zbki _ _ _ ?_;have:=Zbl3 xs v hx 0 (Nat.zero_le _);simpa using this
def Zd1:Int→List Zg→Bool
 | _,[]=>true
 | p,s::r=>inR s.From 1 8192 && inR s.Add (-99) 99 && decide (p<s.From) && Zd1 s.From r
def Zbs (l:List Zg):Nat→Int
 | 0=>0
 | i+1=>match l[i]? with | some s=>s.From | none=>0
def Zb8 (n:Int):Bool:=inR n (-99) 99
def Z5 (o:Zi):Bool:=Zb8 o.Fixed && Zb8 o.Zp && Zb8 o.Zq && Zb8 o.Zr && Zb8 o.Zs && decide (o.Steps.length≤4) && Zd1 0 o.Steps
theorem Z64 (p:Int) {l:List Zg} {i:Nat} (h:i<l.length):Zd1 p (l.drop i)=(inR l[i].From 1 8192 && inR l[i].Add (-99) 99 && decide (p<l[i].From) && Zd1 l[i].From (l.drop (i+1))):=by
 rw [List.drop_eq_getElem_cons h,Zd1]
@[simp] theorem Zbl5 (n:Int):Zdx n=some (Bo (Zb8 n),[]):=by
 refine Zbkv _ _ ?_;simp [Zb8]
theorem Zbl6 (o:Zi) (hl:Le o.Steps):∀ i,i≤o.Steps.length→Zg8 o i=some (Bo (Zd1 (Zbs o.Steps i) (o.Steps.drop i)),[]):=by
 refine down _ ?_ ?_
 ·refine Z6k _ _ _ ?_;simp [Zd1]
 ·intro i hi ih;refine Z6k _ _ _ ?_;have h4:=inc64 (i:=i) (by omega);rw [Z64 _ hi];have pn:Zbs o.Steps (i+1)=o.Steps[i].From:=by simp [Zbs,List.getElem?_eq_getElem hi]
  rw [pn] at ih;simp only [Int.natCast_add,Int.cast_ofNat_Int] at ih;rw [if_pos (by omega)];refine ⟨by omega,o.Steps[i],by rw [Int.toNat_natCast];exact List.getElem?_eq_getElem hi,_,Zb7 _ _ _,?_⟩;rcases tf (inR o.Steps[i].From 1 8192) with e1 | e1
  ·rw [e1];simp
  rw [e1,if_pos rfl];refine ⟨_,Zbl5 _,?_⟩;unfold Zb8;rcases tf (inR o.Steps[i].Add (-99) 99) with e2 | e2
  ·rw [e2];simp
  rw [e2,if_pos rfl,show w ((i:Int)+1)=(i:Int)+1 from h4]
  cases i with
  | zero =>
   rw [if_neg (by omega),ih];have:Zbs o.Steps 0<o.Steps[0].From:=by simp [inR] at e1;simp [Zbs];omega
   simp [this]
  | succ j =>
   have hj:j<o.Steps.length:=by omega
   have w2:w (((j+1:Nat):Int) - 1)=j:=by rw [show ((j+1:Nat):Int) - 1=j by omega];exact wrap64 (by omega) (by omega)
   have pj:Zbs o.Steps (j+1)=o.Steps[j].From:=by simp [Zbs,List.getElem?_eq_getElem hj]
   rw [if_pos (by omega),w2,pj];refine ⟨by omega,o.Steps[j],by rw [Int.toNat_natCast];exact List.getElem?_eq_getElem hj,?_⟩;by_cases e3:o.Steps[j+1].From≤o.Steps[j].From
   ·rw [if_pos e3,decide_eq_false (by omega)];simp
   ·rw [if_neg e3,decide_eq_true (by omega),ih];simp
@[simp] theorem Zm5 (o:Zi) (hl:Le o.Steps):Zfd o=some (Bo (Z5 o),[]):=by
 refine Zbkw _ _ ?_;have b:=Zbl6 o hl 0 (Nat.zero_le _);simp only [Zbs,List.drop_zero,Int.ofNat_zero] at b;have b:Zg8 o 0=_:=b;unfold Z5;rcases tf (Zb8 o.Fixed) with e1 | e1
 ·simp [e1]
 rcases tf (Zb8 o.Zp) with e2 | e2
 ·simp [e1,e2]
 rcases tf (Zb8 o.Zq) with e3 | e3
 ·simp [e1,e2,e3]
 rcases tf (Zb8 o.Zr) with e4 | e4
 ·simp [e1,e2,e3,e4]
 rcases tf (Zb8 o.Zs) with e5 | e5
 ·simp [e1,e2,e3,e4,e5]
 by_cases e6:o.Steps.length≤4
 ·have e7:¬ (4:Int)<o.Steps.length:=by omega
  simp [e1,e2,e3,e4,e5,e6,e7,b]
 ·have e7:(4:Int)<o.Steps.length:=by omega
  simp [e1,e2,e3,e4,e5,e6,e7]
theorem Zbl7 (o:Zi) (hl:Le o.Steps):∀ i,i≤o.Steps.length→Zew o o.Steps o.Steps.length i=some (Bo (Zd1 (Zbs o.Steps i) (o.Steps.drop i) && decide (o.Steps.length≤4)),[]):=by
 refine down _ ?_ ?_
 ·refine Z44 _ _ _ _ _ ?_;rw [if_neg (by omega)];by_cases e:o.Steps.length≤4
  ·simp [Zd1,e];omega
  ·simp [Zd1,e];omega
 ·intro i hi ih;refine Z44 _ _ _ _ _ ?_;have h4:=inc64 (i:=i) (by omega);rw [Z64 _ hi];have pn:Zbs o.Steps (i+1)=o.Steps[i].From:=by simp [Zbs,List.getElem?_eq_getElem hi]
  rw [pn] at ih;simp only [Int.natCast_add,Int.cast_ofNat_Int] at ih;rw [if_pos (by omega)];refine ⟨by omega,o.Steps[i],by rw [Int.toNat_natCast];exact List.getElem?_eq_getElem hi,_,Zby _ _ _,?_⟩;rcases tf (inR o.Steps[i].Add (-99) 99) with e2 | e2
  ·rw [e2];simp
  rw [e2,if_pos rfl];refine ⟨_,Zby _ _ _,?_⟩;rcases tf (inR o.Steps[i].From 1 8192) with e1 | e1
  ·rw [e1];simp
  rw [e1,if_pos rfl,show w ((i:Int)+1)=(i:Int)+1 from h4]
  cases i with
  | zero =>
   rw [if_neg (by omega),ih];have:Zbs o.Steps 0<o.Steps[0].From:=by simp [inR] at e1;simp [Zbs];omega
   simp [this]
  | succ j =>
   have hj:j<o.Steps.length:=by omega
   have w2:w (((j+1:Nat):Int) - 1)=j:=by rw [show ((j+1:Nat):Int) - 1=j by omega];exact wrap64 (by omega) (by omega)
   have pj:Zbs o.Steps (j+1)=o.Steps[j].From:=by simp [Zbs,List.getElem?_eq_getElem hj]
   rw [if_pos (by omega),w2,pj];refine ⟨by omega,o.Steps[j],by rw [Int.toNat_natCast];exact List.getElem?_eq_getElem hj,?_⟩;by_cases e3:o.Steps[j+1].From≤o.Steps[j].From
   ·rw [if_pos e3,decide_eq_false (by omega)];simp
   ·rw [if_neg e3,decide_eq_true (by omega),ih];simp
@[simp] theorem Zbt (o:Zi) (hl:Le o.Steps):Zbe o=some (Bo (Z5 o),[]):=by
 refine Zbi9 _ _ ?_;have hc:Zoz o=some (.bsl 1 5,[.box (o.c.map .t),.box [.ptr 0 0,.ptr 0 1,.ptr 0 2,.ptr 0 3,.ptr 0 4]]):=Zbi8 _ _ rfl;refine ⟨hc,?_⟩;have b:=Zbl7 o hl 0 (Nat.zero_le _);simp only [Zbs,List.drop_zero] at b;have b:Zew o o.Steps o.Steps.length 0=_:=b;have w1:w (0+1)=1:=by decide
 have w2:w (1+1)=2:=by decide
 have w3:w (2+1)=3:=by decide
 have w4:w (3+1)=4:=by decide
 have w5:w (4+1)=5:=by decide
 unfold Z5 Zb8;refine Zjr _ _ _ _ ?_;rw [if_pos (by omega),if_pos rfl];refine ⟨_,Zby _ _ _,?_⟩;rcases tf (inR o.Fixed (-99) 99) with e1 | e1
 ·rw [e1];simp
 rw [e1,if_pos rfl,w1];refine Zjr _ _ _ _ ?_;rw [if_pos (by omega),if_neg (by omega),if_pos rfl];refine ⟨_,Zby _ _ _,?_⟩;rcases tf (inR o.Zp (-99) 99) with e2 | e2
 ·rw [e2];simp
 rw [e2,if_pos rfl,w2];refine Zjr _ _ _ _ ?_;rw [if_pos (by omega),if_neg (by omega),if_neg (by omega),if_pos rfl];refine ⟨_,Zby _ _ _,?_⟩;rcases tf (inR o.Zq (-99) 99) with e3 | e3
 ·rw [e3];simp
 rw [e3,if_pos rfl,w3];refine Zjr _ _ _ _ ?_;rw [if_pos (by omega),if_neg (by omega),if_neg (by omega),if_neg (by omega),if_pos rfl];refine ⟨_,Zby _ _ _,?_⟩;rcases tf (inR o.Zr (-99) 99) with e4 | e4
 ·rw [e4];simp
 rw [e4,if_pos rfl,w4];refine Zjr _ _ _ _ ?_;rw [if_pos (by omega),if_neg (by omega),if_neg (by omega),if_neg (by omega),if_neg (by omega),if_pos rfl];refine ⟨_,Zby _ _ _,?_⟩;rcases tf (inR o.Zs (-99) 99) with e5 | e5
 ·rw [e5];simp
 rw [e5,if_pos rfl,w5];refine Zjr _ _ _ _ ?_;rw [if_neg (by omega),b];simp [Bool.and_comm]
def Zjv (o:Zi) (l r n:Int):Int:=w (w (w (w (o.Fixed+w (o.Zp*l))+w (o.Zq*r))+w (o.Zr*n))+w (w (o.Zs*l)*r))
def Zhe (l r n:Int) (s:Zg):Int:=if s.From≤w (l+r) then w (n+s.Add) else n
def Zjw (o:Zi) (l r n:Int):Int:=o.Steps.foldl (Zhe l r) (Zjv o l r n)
def Zci (o:Zi) (l r n:Int):Int:=if (Z5 o && inR l 0 4096 && inR r 0 4096 && inR n 0 4096)=true then Zjw o l r n else 0
theorem Zbl8 (l r:Int) (st:List Zg) (hl:Le st):∀ i,i≤st.length→∀ n,Zgh l r n st st.length i=some (I ((st.drop i).foldl (Zhe l r) n),[]):=by
 refine down _ ?_ ?_
 ·intro n;refine Z48 _ _ _ _ _ _ _ ?_;simp
 ·intro i hi ih n;refine Z48 _ _ _ _ _ _ _ ?_;have h4:=inc64 (i:=i) (by omega);rw [List.drop_eq_getElem_cons hi,List.foldl_cons];simp only [Int.natCast_add,Int.cast_ofNat_Int] at ih;by_cases e:st[i].From≤w (l+r)
  ·simp [hi,h4,e,ih,Zhe]
  ·simp [hi,h4,e,ih,Zhe]
@[simp] theorem Zbl9 (o:Zi) (hl:Le o.Steps) (l r n:Int):Zex o l r n=some (I (Zjw o l r n),[]):=by
 refine Zbjc _ _ _ _ _ ?_;have b:=Zbl8 l r o.Steps hl 0 (Nat.zero_le _) (Zjv o l r n);simpa [Zjw,Zjv] using b
@[simp] theorem Zm6 (o:Zi) (hl:Le o.Steps) (l r n:Int):Zce o l r n=some (I (Zci o l r n),[]):=by
 refine Zbjk _ _ _ _ _ ?_;unfold Zci;rcases tf (Z5 o) with e1 | e1 <;> rcases tf (inR l 0 4096) with e2 | e2 <;> rcases tf (inR r 0 4096) with e3 | e3 <;> rcases tf (inR n 0 4096) with e4 | e4 <;> simp [hl,e1,e2,e3,e4]
theorem Zbma (o:Zi) (l r:Int) (hl:Le o.Steps):∀ i,i≤o.Steps.length→∀ n,Zg9 o l r n i=some (I ((o.Steps.drop i).foldl (Zhe l r) n),[]):=by
 refine down _ ?_ ?_
 ·intro n;refine Z6l _ _ _ _ _ _ ?_;simp
 ·intro i hi ih n;refine Z6l _ _ _ _ _ _ ?_;have h4:=inc64 (i:=i) (by omega);rw [List.drop_eq_getElem_cons hi,List.foldl_cons];simp only [Int.natCast_add,Int.cast_ofNat_Int] at ih;by_cases e:o.Steps[i].From≤w (l+r)
  ·simp [hi,h4,e,ih,Zhe]
  ·simp [hi,h4,e,ih,Zhe]
@[simp] theorem Zp9 (o:Zi) (hl:Le o.Steps) (l r n:Int):Zek o l r n=some (I (Zci o l r n),[]):=by
 refine Zbkz _ _ _ _ _ ?_;have b:=Zbma o l r hl 0 (Nat.zero_le _) (Zjv o l r n);simp only [List.drop_zero,Zjv] at b;have b:Zg9 o l r _ 0=_:=b;unfold Zci;rcases tf (Z5 o) with e1 | e1 <;> rcases tf (inR l 0 4096) with e2 | e2 <;> rcases tf (inR r 0 4096) with e3 | e3 <;> rcases tf (inR n 0 4096) with e4 | e4 <;> simp [hl,e1,e2,e3,e4,b,Zjw,Zjv]
@[simp] theorem Zd2 (c:Int):Zcm c=some (I (Zz c),[]):=by
 refine Zbjb _ _ ?_;cases h:inR c 0 7
 ·simp [h,Zyw h]
 ·rcases cls8 h with rfl | rfl | rfl | rfl | rfl | rfl | rfl | rfl <;> simp [inR,Zz,wrap64,shlI]
@[simp] theorem Zd3 (c:Int):Zdy c=some (I (Zz c),[]):=by
 refine Zbky _ _ ?_;have e:∀ n i r,(if i<c then Zjc c (if 1<w (n*4) then w (n*4) else 1) (w (i+1))=some r else some (I n,[])=some r)→Zjc c n i=some r:=fun n i r h=>Zbkx _ _ _ _ h
 cases h:inR c 0 7
 ·simp [h,Zyw h]
 ·refine ⟨_,Zb7 _ _ _,?_⟩;rw [h,if_pos rfl];rcases cls8 h with rfl | rfl | rfl | rfl | rfl | rfl | rfl | rfl
  all_goals repeat (refine e _ _ _ ?_;first | (rw [if_neg (by decide)];rfl) | rw [if_pos (by decide)])
def inT (t:List Int):Prop:=∃ a b c:Int,t=[a,b,c]∧(0≤a∧a≤7)∧(0≤b∧b≤7)∧(0≤c∧c≤7)
def tcl (o:Zi):List Int→Int
 | [a,b,c]=>Zjw o (Zz a) (Zz b) (Zz c)
 | _=>0
theorem Zw8 {c:Int} (h0:0≤c) (h7:c≤7):inR (Zz c) 0 4096=true:=by
 have:c=0∨c=1∨c=2∨c=3∨c=4∨c=5∨c=6∨c=7:=by omega
 rcases this with rfl | rfl | rfl | rfl | rfl | rfl | rfl | rfl <;> decide
theorem Zhf (o:Zi) (hl:Le o.Steps) {t:List Int} (h:inT t):Zdg o t=some (I (tcl o t),[]):=by
 obtain ⟨a,b,c,rfl,_⟩:=h;refine Zbjd _ _ _ ?_;simp [hl,tcl]
theorem Zqa (o:Zi) (hl:Le o.Steps) (hv:Z5 o=true) {t:List Int} (h:inT t):Zha o t=some (I (tcl o t),[]):=by
 obtain ⟨a,b,c,rfl,h1,h2,h3⟩:=h;refine Zbk0 _ _ _ ?_;have c1:=Zw8 h1.1 h1.2;have c2:=Zw8 h2.1 h2.2;have c3:=Zw8 h3.1 h3.2;simp [hl,tcl,Zci,hv,c1,c2,c3]
theorem Z65 {t:List Int} (h:inT t) {k:Nat} {e:Int} (hk:t[k]?=some e) (h7:e+1≤7):inT (t.set k (e+1)):=by
 obtain ⟨a,b,c,rfl,h1,h2,h3⟩:=h
 match k,hk with
 | 0,hk=>simp at hk;subst hk;exact ⟨a+1,b,c,rfl,by omega,h2,h3⟩
 | 1,hk=>simp at hk;subst hk;exact ⟨a,b+1,c,rfl,h1,by omega,h3⟩
 | 2,hk=>simp at hk;subst hk;exact ⟨a,b,c+1,rfl,h1,h2,by omega⟩
 | k+3,hk=>simp at hk
theorem Z66 {t:List Int} (h:inT t) {k:Nat} (hk:k<3):∃ e,t[k]?=some e∧0≤e∧e≤7:=by
 obtain ⟨a,b,c,rfl,h1,h2,h3⟩:=h
 match k,hk with
 | 0,_=>exact ⟨a,rfl,h1⟩
 | 1,_=>exact ⟨b,rfl,h2⟩
 | 2,_=>exact ⟨c,rfl,h3⟩
theorem Zw9 {t:List Int} (h:inT t):t.length=3:=by obtain ⟨a,b,c,rfl,_⟩:=h;rfl
def decK (o:Zi) (t:List Int) (k:Nat):Prop:=∃ e,t[k]?=some e∧e+1≤7∧tcl o (t.set k (e+1))<tcl o t
def decF (o:Zi) (t:List Int) (k:Nat):Prop:=∃ j,k≤j∧j<3∧decK o t j
def decr (o:Zi):Prop:=∃ t,inT t∧decF o t 0
def cheap (o:Zi):Prop:=∃ t,inT t∧tcl o t<1
abbrev Zb9 (X:Rs) (p:Prop):Prop:=∃ (xs ys:List Int) (b:Bool),X=some (.tup [.own 0,.own 1,Bo b],[.arr Zbg 1 true (xs.map ic),.arr Zbg 1 true (ys.map ic)])∧(b=true↔p)
theorem Zb9.congr {X:Rs} {p q:Prop} (h:Zb9 X p) (e:p↔q):Zb9 X q:=by
 obtain ⟨xs,ys,b,h1,h2⟩:=h;exact ⟨xs,ys,b,h1,h2.trans e⟩
theorem l_fd0 (o:Zi) (hl:Le o.Steps) (hv:Z5 o=true) {t:List Int} (ht:inT t) (a b e:Int) (p:Prop) (hc:Zb9 (Zjh o a b (w (e+1))) p):∀ k:Nat,k≤3 →
  Zb9 (Zel o t a b e k) (decF o t k∨p):=by
 have h3:=Zw9 ht;refine down _ ?_ ?_
 ·obtain ⟨xs,ys,f,h1,h2⟩:=hc;refine ⟨xs,ys,f,Z6p _ _ _ _ _ _ _ (by rw [if_neg (by omega)];exact h1),?_⟩;rw [h2];exact ⟨.inr,fun h=>h.elim (fun ⟨j,a,b,_⟩=>by omega) id⟩
 ·intro k hk ih;have h4:=inc64 (i:=k) (by omega);obtain ⟨x,hx,x0,x7⟩:=Z66 ht hk;have wx:w (x+1)=x+1:=wrap64 (by omega) (by omega);simp only [Int.natCast_add,Int.cast_ofNat_Int] at ih;have step:decF o t k↔(decK o t k∨decF o t (k+1)):=by
   constructor
   ·rintro ⟨j,j1,j2,j3⟩;by_cases hj:j=k
    ·subst hj;exact .inl j3
    ·exact .inr ⟨j,by omega,j2,j3⟩
   ·rintro (h | ⟨j,j1,j2,j3⟩)
    ·exact ⟨k,Nat.le_refl _,hk,h⟩
    ·exact ⟨j,by omega,j2,j3⟩
  have pre:∀ r,(if x+1≤7 then (if tcl o (t.set k (x+1))<tcl o t then some (.tup [.own 0,.own 1,Bo true],[.arr Zbg 1 true (t.map ic),.arr Zbg 1 true ((t.set k (x+1)).map ic)])=some r
    else Zel o t a b e ((k:Int)+1)=some r) else Zel o t a b e ((k:Int)+1)=some r)→Zel o t a b e k=some r:=by
   intro r hr;refine Z6p _ _ _ _ _ _ _ ?_;rw [if_pos (by omega)];refine ⟨by omega,by omega,x,by rw [Int.toNat_natCast];exact hx,?_⟩;rw [wx,Int.toNat_natCast,show w ((k:Int)+1)=(k:Int)+1 from h4];by_cases h7:x+1≤7
   ·rw [if_pos h7] at hr ⊢;exact ⟨_,Zqa o hl hv (Z65 ht hx h7),_,Zqa o hl hv ht,hr⟩
   ·rw [if_neg h7] at hr ⊢;exact hr
  have dk:decK o t k↔(x+1≤7∧tcl o (t.set k (x+1))<tcl o t):=by
   constructor
   ·rintro ⟨y,y1,y2,y3⟩;rw [hx] at y1;cases y1;exact ⟨y2,y3⟩
   ·rintro ⟨y2,y3⟩;exact ⟨x,hx,y2,y3⟩
  by_cases h7:x+1≤7∧tcl o (t.set k (x+1))<tcl o t
  ·refine ⟨_,_,true,pre _ (by rw [if_pos h7.1,if_pos h7.2]),?_⟩;rw [step,dk];exact ⟨fun _=>.inl (.inl h7),fun _=>rfl⟩
  ·obtain ⟨xs,ys,f,i1,i2⟩:=ih;refine ⟨xs,ys,f,pre _ ?_,?_⟩
   ·split
    ·split
     ·rename_i a1 a2;exact absurd ⟨a1,a2⟩ h7
     ·exact i1
    ·exact i1
   ·rw [i2,step,dk];constructor
    ·exact fun h=>h.imp .inr id
    ·exact fun h=>h.imp (fun h=>h.resolve_left h7) id
theorem Zjx {P:Nat→Prop} {i:Nat} {p:Prop} (hi:i<8):((∃ z,i≤z∧z≤7∧P z)∨p)↔(P i∨(∃ z,i+1≤z∧z≤7∧P z)∨p):=by
 constructor
 ·rintro (⟨z,z1,z2,z3⟩ | h)
  ·by_cases hz:z=i
   ·subst hz;exact .inl z3
   ·exact .inr (.inl ⟨z,by omega,z2,z3⟩)
  ·exact .inr (.inr h)
 ·rintro (h | ⟨z,z1,z2,z3⟩ | h)
  ·exact .inl ⟨i,Nat.le_refl _,by omega,h⟩
  ·exact .inl ⟨z,by omega,z2,z3⟩
  ·exact .inr h
theorem Zjy {P:Nat→Prop} {p:Prop}:((∃ z,8≤z∧z≤7∧P z)∨p)↔p:=⟨fun h=>h.elim (fun ⟨z,a,b,_⟩=>by omega) id,.inr⟩
theorem l_fd1 (o:Zi) (hl:Le o.Steps) (hv:Z5 o=true) (a b:Nat) (ha:a≤7) (hb:b≤7) (p:Prop) (hc:Zb9 (Zjg o a ((b:Int)+1)) p):∀ e:Nat,e≤8 →
  Zb9 (Zjh o a b e) ((∃ z:Nat,e≤z∧z≤7∧decF o [(a:Int),(b:Int),(z:Int)] 0)∨p):=by
 have wb:w ((b:Int)+1)=(b:Int)+1:=wrap64 (by omega) (by omega);refine down _ ?_ ?_
 ·refine Zb9.congr ?_ Zjy.symm;obtain ⟨xs,ys,f,h1,h2⟩:=hc;exact ⟨xs,ys,f,Z6o _ _ _ _ _ (by rw [if_neg (by omega),wb];exact h1),h2⟩
 ·intro e he ih;have we:w ((e:Int)+1)=(e:Int)+1:=wrap64 (by omega) (by omega);have hT:inT [(a:Int),(b:Int),(e:Int)]:=⟨a,b,e,rfl,by omega,by omega,by omega⟩;simp only [Int.natCast_add,Int.cast_ofNat_Int] at ih;obtain ⟨xs,ys,f,h1,h2⟩:=l_fd0 o hl hv hT a b e _ (by rw [we];exact ih) 0 (by omega);exact ⟨xs,ys,f,Z6o _ _ _ _ _ (by rw [if_pos (by omega)];exact h1),h2.trans (Zjx (P:=fun z:Nat=>decF o [(a:Int),(b:Int),(z:Int)] 0) he).symm⟩
theorem l_fd2 (o:Zi) (hl:Le o.Steps) (hv:Z5 o=true) (a:Nat) (ha:a≤7) (p:Prop) (hc:Zb9 (Zjf o ((a:Int)+1)) p):∀ b:Nat,b≤8 →
  Zb9 (Zjg o a b) ((∃ y:Nat,b≤y∧y≤7∧∃ z:Nat,0≤z∧z≤7∧decF o [(a:Int),(y:Int),(z:Int)] 0)∨p):=by
 have wa:w ((a:Int)+1)=(a:Int)+1:=wrap64 (by omega) (by omega);refine down _ ?_ ?_
 ·refine Zb9.congr ?_ Zjy.symm;obtain ⟨xs,ys,f,h1,h2⟩:=hc;exact ⟨xs,ys,f,Z6n _ _ _ _ (by rw [if_neg (by omega),wa];exact h1),h2⟩
 ·intro b hb ih;simp only [Int.natCast_add,Int.cast_ofNat_Int] at ih;obtain ⟨xs,ys,f,h1,h2⟩:=l_fd1 o hl hv a b ha (by omega) _ ih 0 (by omega);exact ⟨xs,ys,f,Z6n _ _ _ _ (by rw [if_pos (by omega)];exact h1),h2.trans (Zjx (P:=fun y:Nat=>∃ z:Nat,0≤z∧z≤7∧decF o [(a:Int),(y:Int),(z:Int)] 0) hb).symm⟩
theorem l_fd3 (o:Zi) (hl:Le o.Steps) (hv:Z5 o=true):∀ a:Nat,a≤8 →
  Zb9 (Zjf o a) ((∃ x:Nat,a≤x∧x≤7∧∃ y:Nat,0≤y∧y≤7∧∃ z:Nat,0≤z∧z≤7∧decF o [(x:Int),(y:Int),(z:Int)] 0)∨False):=by
 refine down _ ?_ ?_
 ·refine Zb9.congr ?_ Zjy.symm;exact ⟨[],[],false,Z6m _ _ _ (by rw [if_neg (by omega)]),by simp⟩
 ·intro a ha ih;simp only [Int.natCast_add,Int.cast_ofNat_Int] at ih;obtain ⟨xs,ys,f,h1,h2⟩:=l_fd2 o hl hv a (by omega) _ ih 0 (by omega);exact ⟨xs,ys,f,Z6m _ _ _ (by rw [if_pos (by omega)];exact h1),h2.trans (Zjx (P:=fun x:Nat=>∃ y:Nat,0≤y∧y≤7∧∃ z:Nat,0≤z∧z≤7∧decF o [(x:Int),(y:Int),(z:Int)] 0) ha).symm⟩
theorem Z67 (o:Zi) (P:List Int→Prop):(∃ t,inT t∧P t)↔∃ x:Nat,0≤x∧x≤7∧∃ y:Nat,0≤y∧y≤7∧∃ z:Nat,0≤z∧z≤7∧P [(x:Int),(y:Int),(z:Int)]:=by
 constructor
 ·rintro ⟨t,⟨a,b,c,rfl,h1,h2,h3⟩,h⟩;refine ⟨a.toNat,by omega,by omega,b.toNat,by omega,by omega,c.toNat,by omega,by omega,?_⟩;rw [Int.toNat_of_nonneg h1.1,Int.toNat_of_nonneg h2.1,Int.toNat_of_nonneg h3.1];exact h
 ·rintro ⟨x,_,x2,y,_,y2,z,_,z2,h⟩;exact ⟨_,⟨x,y,z,rfl,by omega,by omega,by omega⟩,h⟩
theorem Zbmb (o:Zi) (hl:Le o.Steps) (hv:Z5 o=true):Zb9 (Zmk o) (decr o):=by
 obtain ⟨xs,ys,f,h1,h2⟩:=l_fd3 o hl hv 0 (by omega);refine ⟨xs,ys,f,Zbk1 _ _ ⟨_,Zm5 o hl,?_⟩,?_⟩
 ·rw [hv,if_pos rfl];exact h1
 ·rw [h2,decr,Z67 o (fun t=>decF o t 0)];simp
abbrev Zcj (X:Rs) (p:Prop):Prop:=∃ (xs:List Int),X=some (.own 0,[.arr Zbg 1 true (xs.map ic)])∧(xs≠[]↔p)
theorem Zcj.congr {X:Rs} {p q:Prop} (h:Zcj X p) (e:p↔q):Zcj X q:=by
 obtain ⟨xs,h1,h2⟩:=h;exact ⟨xs,h1,h2.trans e⟩
theorem l_ch0 (o:Zi) (hl:Le o.Steps) (hv:Z5 o=true) (a b:Nat) (ha:a≤7) (hb:b≤7) (p:Prop) (hc:Zcj (Zjj o a ((b:Int)+1)) p):∀ e:Nat,e≤8 →
  Zcj (Zmn o a b e) ((∃ z:Nat,e≤z∧z≤7∧tcl o [(a:Int),(b:Int),(z:Int)]<1)∨p):=by
 have wb:w ((b:Int)+1)=(b:Int)+1:=wrap64 (by omega) (by omega);refine down _ ?_ ?_
 ·refine Zcj.congr ?_ Zjy.symm;obtain ⟨xs,h1,h2⟩:=hc;exact ⟨xs,Zw3 _ _ _ _ _ (by rw [if_neg (by omega),wb];exact h1),h2⟩
 ·intro e he ih;have we:w ((e:Int)+1)=(e:Int)+1:=wrap64 (by omega) (by omega);have hT:inT [(a:Int),(b:Int),(e:Int)]:=⟨a,b,e,rfl,by omega,by omega,by omega⟩;simp only [Int.natCast_add,Int.cast_ofNat_Int] at ih;refine Zcj.congr ?_ (Zjx he).symm;by_cases h:tcl o [(a:Int),(b:Int),(e:Int)]<1
  ·refine ⟨[a,b,e],Zw3 _ _ _ _ _ ?_,by simp [h]⟩;rw [if_pos (by omega)];exact ⟨_,Zqa o hl hv hT,by rw [if_pos h]⟩
  ·obtain ⟨xs,h1,h2⟩:=ih;refine ⟨xs,Zw3 _ _ _ _ _ ?_,by rw [h2];simp [h]⟩;rw [if_pos (by omega)];exact ⟨_,Zqa o hl hv hT,by rw [if_neg h,we];exact h1⟩
theorem l_ch1 (o:Zi) (hl:Le o.Steps) (hv:Z5 o=true) (a:Nat) (ha:a≤7) (p:Prop) (hc:Zcj (Zji o ((a:Int)+1)) p):∀ b:Nat,b≤8 →
  Zcj (Zjj o a b) ((∃ y:Nat,b≤y∧y≤7∧∃ z:Nat,0≤z∧z≤7∧tcl o [(a:Int),(y:Int),(z:Int)]<1)∨p):=by
 have wa:w ((a:Int)+1)=(a:Int)+1:=wrap64 (by omega) (by omega);refine down _ ?_ ?_
 ·refine Zcj.congr ?_ Zjy.symm;obtain ⟨xs,h1,h2⟩:=hc;exact ⟨xs,Z6r _ _ _ _ (by rw [if_neg (by omega),wa];exact h1),h2⟩
 ·intro b hb ih;simp only [Int.natCast_add,Int.cast_ofNat_Int] at ih;obtain ⟨xs,h1,h2⟩:=l_ch0 o hl hv a b ha (by omega) _ ih 0 (by omega);exact ⟨xs,Z6r _ _ _ _ (by rw [if_pos (by omega)];exact h1),h2.trans (Zjx (P:=fun y:Nat=>∃ z:Nat,0≤z∧z≤7∧tcl o [(a:Int),(y:Int),(z:Int)]<1) hb).symm⟩
theorem l_ch2 (o:Zi) (hl:Le o.Steps) (hv:Z5 o=true):∀ a:Nat,a≤8 →
  Zcj (Zji o a) ((∃ x:Nat,a≤x∧x≤7∧∃ y:Nat,0≤y∧y≤7∧∃ z:Nat,0≤z∧z≤7∧tcl o [(x:Int),(y:Int),(z:Int)]<1)∨False):=by
 refine down _ ?_ ?_
 ·refine Zcj.congr ?_ Zjy.symm;exact ⟨[],Z6q _ _ _ (by rw [if_neg (by omega)]),by simp⟩
 ·intro a ha ih;simp only [Int.natCast_add,Int.cast_ofNat_Int] at ih;obtain ⟨xs,h1,h2⟩:=l_ch1 o hl hv a (by omega) _ ih 0 (by omega);exact ⟨xs,Z6q _ _ _ (by rw [if_pos (by omega)];exact h1),h2.trans (Zjx (P:=fun x:Nat=>∃ y:Nat,0≤y∧y≤7∧∃ z:Nat,0≤z∧z≤7∧tcl o [(x:Int),(y:Int),(z:Int)]<1) ha).symm⟩
theorem Zbmc (o:Zi) (hl:Le o.Steps) (hv:Z5 o=true):Zcj (Zpo o) (cheap o):=by
 obtain ⟨xs,h1,h2⟩:=l_ch2 o hl hv 0 (by omega);refine ⟨xs,Zbk2 _ _ h1,?_⟩;rw [h2,cheap,Z67 o (fun t=>tcl o t<1)];simp
def rowC (a b:Int) (c:Nat):List (List Int):=(List.range' c (8 - c)).map fun z:Nat=>[a,b,(z:Int)]
def rowB (a:Int) (b:Nat):List (List Int):=(List.range' b (8 - b)).flatMap fun y:Nat=>rowC a y 0
def rowA (a:Nat):List (List Int):=(List.range' a (8 - a)).flatMap fun x:Nat=>rowB x 0
theorem Zxa {i:Nat} (h:i<8):List.range' i (8 - i)=i::List.range' (i+1) (8 - (i+1)):=by
 rw [show 8 - i=(8 - (i+1))+1 by omega,List.range'_succ]
theorem rowC_len (a b:Int) (c:Nat):(rowC a b c).length=8 - c:=by simp [rowC]
theorem rowB_len (a:Int):(rowB a 0).length=64:=rfl
theorem l_tr0 (a b:Nat) (hb:b≤7) (r:AV×List Blk):∀ c:Nat,c≤8→∀ out:List (List Int),out.length≤1000000→Zgg (out++rowC a b c) a ((b:Int)+1)=some r→Zih out a b c=some r:=by
 have wb:w ((b:Int)+1)=(b:Int)+1:=wrap64 (by omega) (by omega);have key:∀ c:Nat,c≤8→∀ out:List (List Int),out.length≤1000000+c→Zgg (out++rowC a b c) a ((b:Int)+1)=some r→Zih out a b c=some r:=by
  refine down _ ?_ ?_
  ·intro out ho h;refine Z47 _ _ _ _ _ ?_;rw [if_neg (by omega),wb];simpa [rowC] using h
  ·intro c hc ih out ho h;have wc:w ((c:Int)+1)=(c:Int)+1:=wrap64 (by omega) (by omega);refine Z47 _ _ _ _ _ ?_;rw [if_pos (by omega),wc];refine ⟨by omega,?_⟩
   have ih:=ih (out++[[(a:Int),(b:Int),(c:Int)]]) (by simp;omega) (by
    rw [rowC,Zxa hc] at h
    simpa [rowC] using h)
   simpa using ih
 exact fun c hc out ho h=>key c hc out (by omega) h
theorem l_tr1 (a:Nat) (ha:a≤7) (r:AV×List Blk):∀ b:Nat,b≤8→∀ out:List (List Int),out.length≤100000+8*b→Zig (out++rowB a b) ((a:Int)+1)=some r→Zgg out a b=some r:=by
 have wa:w ((a:Int)+1)=(a:Int)+1:=wrap64 (by omega) (by omega);refine down _ ?_ ?_
 ·intro out ho h;refine Z46 _ _ _ _ ?_;rw [if_neg (by omega),wa];simpa [rowB] using h
 ·intro b hb ih out ho h;refine Z46 _ _ _ _ ?_;rw [if_pos (by omega)];refine l_tr0 a b (by omega) r 0 (by omega) out (by omega) ?_
  have ih:=ih (out++rowC a b 0) (by rw [List.length_append,rowC_len];omega) (by
   rw [rowB,Zxa hb] at h
   simpa [rowB] using h)
  simpa using ih
theorem l_tr2:∀ a:Nat,a≤8→∀ out:List (List Int),out.length≤64*a→Zig out a=some (.own 0,[.arr Zhr 1 true ((out++rowA a).map isc)]):=by
 refine down _ ?_ ?_
 ·intro out ho;refine Z45 _ _ _ ?_;rw [if_neg (by omega)];simp [rowA]
 ·intro a ha ih out ho;refine Z45 _ _ _ ?_;rw [if_pos (by omega)];refine l_tr1 a (by omega) _ 0 (by omega) out (by omega) ?_;have ih:=ih (out++rowB a 0) (by rw [List.length_append,rowB_len];omega);rw [rowA,Zxa ha];simpa [rowA] using ih
def allT:List (List Int):=rowA 0
theorem Zjz:Zbx=some (.own 0,[.arr Zhr 1 true (allT.map isc)]):=Zbja _ (l_tr2 0 (by omega) [] (by simp))
theorem Zc6 (t:List Int):t∈allT↔inT t:=by
 simp only [allT,rowA,rowB,rowC,List.mem_flatMap,List.mem_map,List.mem_range'_1,inT];constructor
 ·rintro ⟨x,hx,y,hy,z,hz,rfl⟩;exact ⟨x,y,z,rfl,by omega,by omega,by omega⟩
 ·rintro ⟨a,b,c,rfl,h1,h2,h3⟩;refine ⟨a.toNat,by omega,b.toNat,by omega,c.toNat,by omega,?_⟩;rw [Int.toNat_of_nonneg h1.1,Int.toNat_of_nonneg h2.1,Int.toNat_of_nonneg h3.1]
set_option maxRecDepth 100000 in
theorem Zj0:allT.length=512:=rfl
@[simp] theorem Zj1 (xs:List Int) (h:xs.length≤68719476736):Zb2 xs=some (.own 0,[.arr Zbg 1 true (xs.map ic)]):=Zbih _ _ ⟨h,rfl⟩
abbrev GoodI (X:Rs) (p:Prop):Prop:=(p∧∃ xs ys:List Int,X=some (.tup [L 1 (xs.map ic),.own 0,Bo true],[.arr Zbg 1 true (ys.map ic)]))∨(¬ p∧X=some (.tup [.t .nil,.t .nil,Bo false],[]))
theorem l_id0 (o:Zi) (hl:Le o.Steps) (ts:List (List Int)) {t:List Int} (ht:inT t) (n i:Int) (p:Prop) (hc:GoodI (Zey o ts n (w (i+1))) p):∀ k:Nat,k≤3 →
  GoodI (Zcn o ts t n i 3 k) (decF o t k∨p):=by
 have h3:=Zw9 ht;refine down _ ?_ ?_
 ·have e:(decF o t 3∨p)↔p:=⟨fun h=>h.elim (fun ⟨j,a,b,_⟩=>by omega) id,.inr⟩;rcases hc with ⟨h,xs,ys,h1⟩ | ⟨h,h1⟩
  ·exact .inl ⟨e.2 h,xs,ys,Zwu _ _ _ _ _ _ _ _ (by rw [if_neg (by omega)];exact h1)⟩
  ·exact .inr ⟨fun hc=>h (e.1 hc),Zwu _ _ _ _ _ _ _ _ (by rw [if_neg (by omega)];exact h1)⟩
 ·intro k hk ih;have h4:=inc64 (i:=k) (by omega);obtain ⟨x,hx,x0,x7⟩:=Z66 ht hk;have wx:w (x+1)=x+1:=wrap64 (by omega) (by omega);simp only [Int.natCast_add,Int.cast_ofNat_Int] at ih;have step:decF o t k↔(decK o t k∨decF o t (k+1)):=by
   constructor
   ·rintro ⟨j,j1,j2,j3⟩;by_cases hj:j=k
    ·subst hj;exact .inl j3
    ·exact .inr ⟨j,by omega,j2,j3⟩
   ·rintro (h | ⟨j,j1,j2,j3⟩)
    ·exact ⟨k,Nat.le_refl _,hk,h⟩
    ·exact ⟨j,by omega,j2,j3⟩
  have dk:decK o t k↔(x+1≤7∧tcl o (t.set k (x+1))<tcl o t):=by
   constructor
   ·rintro ⟨y,y1,y2,y3⟩;rw [hx] at y1;cases y1;exact ⟨y2,y3⟩
   ·rintro ⟨y2,y3⟩;exact ⟨x,hx,y2,y3⟩
  have pre:∀ r,(if x+1≤7 then (if tcl o (t.set k (x+1))<tcl o t then some (.tup [L 1 (t.map ic),.own 0,Bo true],[.arr Zbg 1 true ((t.set k (x+1)).map ic)])=some r
    else Zcn o ts t n i 3 ((k:Int)+1)=some r) else Zcn o ts t n i 3 ((k:Int)+1)=some r)→Zcn o ts t n i 3 k=some r:=by
   intro r hr;refine Zwu _ _ _ _ _ _ _ _ ?_;rw [if_pos (by omega)];refine ⟨by omega,x,by rw [Int.toNat_natCast];exact hx,?_⟩;rw [show w ((k:Int)+1)=(k:Int)+1 from h4];by_cases h7:x=7
   ·rw [if_pos h7];rw [if_neg (by omega)] at hr;exact hr
   ·rw [if_neg h7];have h8:x+1≤7:=by omega
    rw [if_pos h8] at hr;refine ⟨t,Zj1 t (by omega),x,by rw [Int.toNat_natCast];exact hx,?_⟩;rw [wx,Int.toNat_natCast];exact ⟨_,Zhf o hl (Z65 ht hx h8),_,Zhf o hl ht,hr⟩
  by_cases h7:x+1≤7∧tcl o (t.set k (x+1))<tcl o t
  ·exact .inl ⟨.inl (step.2 (.inl (dk.2 h7))),_,_,pre _ (by rw [if_pos h7.1,if_pos h7.2])⟩
  ·have go:∀ r,Zcn o ts t n i 3 ((k:Int)+1)=some r→Zcn o ts t n i 3 k=some r:=by
    intro r hr;refine pre r ?_;split
    ·split
     ·rename_i a1 a2;exact absurd ⟨a1,a2⟩ h7
     ·exact hr
    ·exact hr
   have e:(decF o t k∨p)↔(decF o t (k+1)∨p):=by
    rw [step,dk];exact ⟨fun h=>h.imp (fun h=>h.resolve_left h7) id,fun h=>h.imp .inr id⟩
   rcases ih with ⟨h,xs,ys,h1⟩ | ⟨h,h1⟩
   ·exact .inl ⟨e.2 h,xs,ys,go _ h1⟩
   ·exact .inr ⟨fun hc=>h (e.1 hc),go _ h1⟩
theorem l_id1 (o:Zi) (hl:Le o.Steps) (ts:List (List Int)) (hts:∀ t∈ts,inT t) (hn:ts.length≤1000):∀ i,i≤ts.length→GoodI (Zey o ts ts.length i) (∃ t∈ts.drop i,decF o t 0):=by
 refine down _ ?_ ?_
 ·refine .inr ⟨by simp,Z49 _ _ _ _ _ (by rw [if_neg (by omega)])⟩
 ·intro i hi ih;have h4:=inc64 (i:=i) (by omega);have ht:=hts _ (List.getElem_mem hi);simp only [Int.natCast_add,Int.cast_ofNat_Int] at ih;have b:=l_id0 o hl ts ht ts.length i _ (by rw [show w ((i:Int)+1)=(i:Int)+1 from h4];exact ih) 0 (by omega);have go:∀ r,Zcn o ts ts[i] ts.length i 3 0=some r→Zey o ts ts.length i=some r:=by
   intro r hr;refine Z49 _ _ _ _ _ ?_;rw [if_pos (by omega)];refine ⟨by omega,ts[i],by rw [Int.toNat_natCast];exact List.getElem?_eq_getElem hi,?_⟩;rw [Zw9 ht];exact hr
  have e:(∃ t∈ts.drop i,decF o t 0)↔(decF o ts[i] 0∨∃ t∈ts.drop (i+1),decF o t 0):=by
   rw [List.drop_eq_getElem_cons hi];simp only [List.mem_cons,exists_eq_or_imp]
  rcases b with ⟨h,xs,ys,h1⟩ | ⟨h,h1⟩
  ·exact .inl ⟨e.2 h,xs,ys,go _ h1⟩
  ·exact .inr ⟨fun hc=>h (e.1 hc),go _ h1⟩
theorem Zm7 (o:Zi) (hl:Le o.Steps) (hv:Z5 o=true):GoodI (Zba o) (decr o):=by
 have b:=l_id1 o hl allT (fun t h=>(Zc6 t).1 h) (by rw [Zj0];omega) 0 (Nat.zero_le _);have go:∀ r,Zey o allT allT.length 0=some r→Zba o=some r:=by
  intro r hr;refine Zbje _ _ ⟨_,Zbt o hl,?_⟩;rw [hv,if_pos rfl];exact ⟨allT,Zjz,hr⟩
 have e:(∃ t∈allT.drop 0,decF o t 0)↔decr o:=by
  simp only [List.drop_zero,Zc6,decr]
 rcases b with ⟨h,xs,ys,h1⟩ | ⟨h,h1⟩
 ·exact .inl ⟨e.1 h,xs,ys,go _ h1⟩
 ·exact .inr ⟨fun hc=>h (e.2 hc),go _ h1⟩
def Zbz (o:Zi):Prop:=Z5 o=true∧¬ decr o∧¬ cheap o
def mOp (m:Zj) (k:Int):Zi:=if k=1 then m.Scan else if k=2 then m.Sort_ else if k=3 then m.Hash else if k=4 then m.Merge else m.Nested
abbrev LeM (m:Zj):Prop:=Le m.Scan.Steps∧Le m.Sort_.Steps∧Le m.Hash.Steps∧Le m.Merge.Steps∧Le m.Nested.Steps
theorem LeM.op {m:Zj} (h:LeM m) (k:Int):Le (mOp m k).Steps:=by
 unfold mOp;obtain ⟨h1,h2,h3,h4,h5⟩:=h
 repeat' split
 all_goals assumption
@[simp] theorem Zxb (m:Zj) (k:Int):Zg7 m k=some (.agg ((mOp m k).c.map .t),[]):=by
 refine Zbku _ _ _ ?_;unfold mOp;by_cases h1:k=1
 ·simp [h1]
 by_cases h2:k=2
 ·simp [h2]
 by_cases h3:k=3
 ·simp [h3]
 by_cases h4:k=4
 ·simp [h4]
 ·simp [h1,h2,h3,h4]
def Zc7 (m:Zj):Prop:=Zbz m.Scan∧Zbz m.Sort_∧Zbz m.Hash∧Zbz m.Merge∧Zbz m.Nested
theorem Zbmd (m:Zj) (hm:LeM m):∀ k:Nat,k≤6→1≤k →
  ∃ (xs ys:List Int) (n:Int),Zjk m k=some (.tup [I n,.own 0,.own 1],[.arr Zbg 1 true (xs.map ic),.arr Zbg 1 true (ys.map ic)])∧(n=0↔∀ j:Nat,k≤j→j≤5→Zbz (mOp m j)):=by
 refine down _ ?_ ?_
 ·intro _;exact ⟨[],[],0,Z6s _ _ _ (by rw [if_neg (by omega)]),⟨fun _ j h1 h2=>by omega,fun _=>rfl⟩⟩
 ·intro k hk ih h1;have wk':w ((k:Int)+1)=(k:Int)+1:=wrap64 (by omega) (by omega);have hl:=hm.op k;have step:(∀ j:Nat,k≤j→j≤5→Zbz (mOp m j))↔(Zbz (mOp m k)∧∀ j:Nat,k+1≤j→j≤5→Zbz (mOp m j)):=by
   constructor
   ·exact fun h=>⟨h k (Nat.le_refl _) (by omega),fun j a b=>h j (by omega) b⟩
   ·rintro ⟨a,b⟩ j c d;by_cases hj:j=k
    ·subst hj;exact a
    ·exact b j (by omega) d
  have kne:(k:Int)≠0:=by omega
  have pre:∀ r,(∃ v,Zfd (mOp m k)=some (Bo v,[])∧_)→Zjk m k=some r:=fun r h=>Z6s _ _ _ (by rw [if_pos (by omega)];exact ⟨mOp m k,Zxb m k,h⟩)
  rcases tf (Z5 (mOp m k)) with hv | hv
  ·refine ⟨[],[],k,pre _ ⟨false,by rw [Zm5 _ hl,hv],by rw [if_neg (by simp)]⟩,?_⟩;rw [step];exact ⟨fun h=>absurd h kne,fun h=>by have:=h.1.1;rw [hv] at this;cases this⟩
  ·obtain ⟨xs,ys,f,d1,d2⟩:=Zbmb (mOp m k) hl hv
   cases f with
   | true =>
    refine ⟨xs,ys,k,pre _ ⟨true,by rw [Zm5 _ hl,hv],?_⟩,?_⟩
    ·rw [if_pos rfl];exact ⟨xs,ys,true,d1,by rw [if_pos rfl]⟩
    ·rw [step]
     exact ⟨fun h=>absurd h kne,fun h=>absurd (d2.1 rfl) h.1.2.1⟩
   | false =>
    obtain ⟨cs,c1,c2⟩:=Zbmc (mOp m k) hl hv;by_cases hc:cs=[]
    ·obtain ⟨xs',ys',n,i1,i2⟩:=ih (by omega);simp only [Int.natCast_add,Int.cast_ofNat_Int] at i1;refine ⟨xs',ys',n,pre _ ⟨true,by rw [Zm5 _ hl,hv],?_⟩,?_⟩
     ·rw [if_pos rfl];refine ⟨xs,ys,false,d1,?_⟩;rw [if_neg (by simp)];refine ⟨cs,c1,?_⟩;rw [hc,if_neg (by simp),wk'];exact i1
     ·rw [step,i2];refine ⟨fun h=>⟨⟨hv,fun hd=>(by have:=d2.2 hd;cases this),fun hch=>(c2.2 hch) hc⟩,h⟩,fun h=>h.2⟩
    ·refine ⟨cs,[],k,pre _ ⟨true,by rw [Zm5 _ hl,hv],?_⟩,?_⟩
     ·rw [if_pos rfl];refine ⟨xs,ys,false,d1,?_⟩;rw [if_neg (by simp)];refine ⟨cs,c1,?_⟩;have:0<cs.length:=List.length_pos_iff.2 hc;rw [if_pos (by omega)]
     ·rw [step];exact ⟨fun h=>absurd h kne,fun h=>absurd (c2.1 hc) h.1.2.2⟩
theorem adm_iff (m:Zj):(∀ j:Nat,1≤j→j≤5→Zbz (mOp m j))↔Zc7 m:=by
 constructor
 ·intro h;exact ⟨h 1 (by omega) (by omega),h 2 (by omega) (by omega),h 3 (by omega) (by omega),h 4 (by omega) (by omega),h 5 (by omega) (by omega)⟩
 ·rintro ⟨h1,h2,h3,h4,h5⟩ j a b;have:j=1∨j=2∨j=3∨j=4∨j=5:=by omega
  rcases this with rfl | rfl | rfl | rfl | rfl
  ·exact h1
  ·exact h2
  ·exact h3
  ·exact h4
  ·exact h5
open Classical in
theorem Z68 (m:Zj) (hm:LeM m):Zhb m=some (Bo (decide (Zc7 m)),[]):=by
 obtain ⟨xs,ys,n,h1,h2⟩:=Zbmd m hm 1 (by omega) (by omega);refine Zbk4 _ _ ⟨xs,ys,n,Zbk3 _ _ h1,?_⟩;rw [adm_iff] at h2;by_cases h:Zc7 m
 ·rw [decide_eq_true h,decide_eq_true (h2.2 h)]
 ·rw [decide_eq_false h,decide_eq_false (fun hc=>h (h2.1 hc))]
abbrev Z0 (X:Rs) (p:Prop):Prop:=(p∧X=some (.tup [I 0,.t .nil,.t .nil],[]))∨(¬ p∧∃ n:Int,n≠0∧((∃ xs ys:List Int,X=some (.tup [I n,L 1 (xs.map ic),.own 0],[.arr Zbg 1 true (ys.map ic)]))∨X=some (.tup [I n,.t .nil,.t .nil],[])∨∃ xs:List Int,X=some (.tup [I n,L 1 (xs.map ic),.t .nil],[])))
theorem Z0.of {X Y:Rs} {p:Prop} (h:Z0 X p) (e:∀ r,X=some r→Y=some r):Z0 Y p:=by
 rcases h with ⟨h,h1⟩ | ⟨h,n,hn,⟨xs,ys,h1⟩ | h1 | ⟨xs,h1⟩⟩
 ·exact .inl ⟨h,e _ h1⟩
 ·exact .inr ⟨h,n,hn,.inl ⟨xs,ys,e _ h1⟩⟩
 ·exact .inr ⟨h,n,hn,.inr (.inl (e _ h1))⟩
 ·exact .inr ⟨h,n,hn,.inr (.inr ⟨xs,e _ h1⟩)⟩
theorem Z0.congr {X:Rs} {p q:Prop} (h:Z0 X p) (e:p↔q):Z0 X q:=by
 rw [← e];exact h
theorem Zm8 {ts:List (List Int)} {j:Nat} (hj:j<ts.length) {P:List Int→Prop} {p:Prop}:((∀ t∈ts.drop j,P t)∧p)↔(P ts[j]∧(∀ t∈ts.drop (j+1),P t)∧p):=by
 rw [List.drop_eq_getElem_cons hj];simp only [List.mem_cons,forall_eq_or_imp,and_assoc]
theorem l_rf0 (m:Zj) (hl:Le m.Scan.Steps) (ts:List (List Int)) (hts:∀ t∈ts,inT t) (hn:ts.length≤1000) (kind:Int) (hk:kind≠0) (x1 x2:Int) (p:Prop) (hc:Z0 (Z4 m x1 (w (x2+1))) p):∀ j,j≤ts.length →
  Z0 (Ze1 m ts kind x1 x2 ts.length j) ((∀ t∈ts.drop j,¬ tcl m.Scan t<1)∧p):=by
 refine down _ ?_ ?_
 ·refine (hc.of fun r hr=>Z5a _ _ _ _ _ _ _ _ (by rw [if_neg (by omega)];exact hr)).congr (by simp)
 ·intro j hj ih;have h4:=inc64 (i:=j) (by omega);have ht:=hts _ (List.getElem_mem hj);simp only [Int.natCast_add,Int.cast_ofNat_Int] at ih;have pre:∀ r,(if tcl m.Scan ts[j]<1 then some (.tup [I kind,L 1 (ts[j].map ic),.t .nil],[])=some r else Ze1 m ts kind x1 x2 ts.length ((j:Int)+1)=some r)→Ze1 m ts kind x1 x2 ts.length j=some r:=by
   intro r hr;refine Z5a _ _ _ _ _ _ _ _ ?_;rw [if_pos (by omega)];refine ⟨by omega,ts[j],by rw [Int.toNat_natCast];exact List.getElem?_eq_getElem hj,_,Zhf _ hl ht,?_⟩;rw [show w ((j:Int)+1)=(j:Int)+1 from h4];exact hr
  refine Z0.congr ?_ (Zm8 (P:=fun t=>¬ tcl m.Scan t<1) hj).symm;by_cases h:tcl m.Scan ts[j]<1
  ·exact .inr ⟨fun hc=>hc.1 h,kind,hk,.inr (.inr ⟨_,pre _ (by rw [if_pos h])⟩)⟩
  ·exact (ih.of fun r hr=>pre r (by rw [if_neg h];exact hr)).congr ⟨fun hh=>⟨h,hh⟩,fun hh=>hh.2⟩
theorem l_rf1 (m:Zj) (hm:LeM m) (p:Prop) (hc:Z0 (Z4 m 5 1) p):Z0 (Z4 m 5 0) (Zbz m.Scan∧p):=by
 have hl:Le m.Scan.Steps:=by obtain ⟨h1,h2,h3,h4,h5⟩:=hm;assumption
 have w1:w (1+0)=1:=by decide
 have w2:w (0+1)=1:=by decide
 have pre:∀ r,(∃ v,Zbe m.Scan=some (Bo v,[])∧_)→Z4 m 5 0=some r:=fun r h=>Zjs _ _ _ _ (by rw [if_pos (by omega),if_pos rfl];exact h)
 rcases tf (Z5 m.Scan) with hv | hv
 ·refine .inr ⟨fun h=>(by have:=h.1.1;rw [hv] at this;cases this),1,by decide,.inr (.inl (pre _ ⟨false,by rw [Zbt _ hl,hv],?_⟩))⟩;rw [if_neg (by simp),w1]
 rcases Zm7 m.Scan hl hv with ⟨hd,xs,ys,d1⟩ | ⟨hd,d1⟩
 ·refine .inr ⟨fun h=>h.1.2.1 hd,1,by decide,.inl ⟨xs,ys,pre _ ⟨true,by rw [Zbt _ hl,hv],?_⟩⟩⟩;rw [if_pos rfl,w1];exact .inr ⟨ys,xs,d1,rfl⟩
 ·have b:=l_rf0 m hl allT (fun t h=>(Zc6 t).1 h) (by rw [Zj0];omega) 1 (by decide) 5 0 p (by rw [w2];exact hc) 0 (Nat.zero_le _);refine (b.of fun r hr=>pre r ⟨true,by rw [Zbt _ hl,hv],?_⟩).congr ?_
  ·rw [if_pos rfl,w1];exact .inl ⟨d1,allT,Zjz,hr⟩
  ·simp only [List.drop_zero,Zc6];constructor
   ·rintro ⟨h,hp⟩;exact ⟨⟨hv,hd,fun ⟨t,ht,hc⟩=>h t ht hc⟩,hp⟩
   ·rintro ⟨h,hp⟩;exact ⟨fun t ht hc=>h.2.2 ⟨t,ht,hc⟩,hp⟩
theorem l_rf0a (m:Zj) (hl:Le m.Sort_.Steps) (ts:List (List Int)) (hts:∀ t∈ts,inT t) (hn:ts.length≤1000) (kind:Int) (hk:kind≠0) (x1 x2:Int) (p:Prop) (hc:Z0 (Z4 m x1 (w (x2+1))) p):∀ j,j≤ts.length →
  Z0 (Ze2 m ts kind x1 x2 ts.length j) ((∀ t∈ts.drop j,¬ tcl m.Sort_ t<1)∧p):=by
 refine down _ ?_ ?_
 ·refine (hc.of fun r hr=>Z5b _ _ _ _ _ _ _ _ (by rw [if_neg (by omega)];exact hr)).congr (by simp)
 ·intro j hj ih;have h4:=inc64 (i:=j) (by omega);have ht:=hts _ (List.getElem_mem hj);simp only [Int.natCast_add,Int.cast_ofNat_Int] at ih;have pre:∀ r,(if tcl m.Sort_ ts[j]<1 then some (.tup [I kind,L 1 (ts[j].map ic),.t .nil],[])=some r else Ze2 m ts kind x1 x2 ts.length ((j:Int)+1)=some r)→Ze2 m ts kind x1 x2 ts.length j=some r:=by
   intro r hr;refine Z5b _ _ _ _ _ _ _ _ ?_;rw [if_pos (by omega)];refine ⟨by omega,ts[j],by rw [Int.toNat_natCast];exact List.getElem?_eq_getElem hj,_,Zhf _ hl ht,?_⟩;rw [show w ((j:Int)+1)=(j:Int)+1 from h4];exact hr
  refine Z0.congr ?_ (Zm8 (P:=fun t=>¬ tcl m.Sort_ t<1) hj).symm;by_cases h:tcl m.Sort_ ts[j]<1
  ·exact .inr ⟨fun hc=>hc.1 h,kind,hk,.inr (.inr ⟨_,pre _ (by rw [if_pos h])⟩)⟩
  ·exact (ih.of fun r hr=>pre r (by rw [if_neg h];exact hr)).congr ⟨fun hh=>⟨h,hh⟩,fun hh=>hh.2⟩
theorem l_rf1a (m:Zj) (hm:LeM m) (p:Prop) (hc:Z0 (Z4 m 5 2) p):Z0 (Z4 m 5 1) (Zbz m.Sort_∧p):=by
 have hl:Le m.Sort_.Steps:=by obtain ⟨h1,h2,h3,h4,h5⟩:=hm;assumption
 have w1:w (1+1)=2:=by decide
 have w2:w (1+1)=2:=by decide
 have pre:∀ r,(∃ v,Zbe m.Sort_=some (Bo v,[])∧_)→Z4 m 5 1=some r:=fun r h=>Zjs _ _ _ _ (by rw [if_pos (by omega),if_neg (by omega),if_pos rfl];exact h)
 rcases tf (Z5 m.Sort_) with hv | hv
 ·refine .inr ⟨fun h=>(by have:=h.1.1;rw [hv] at this;cases this),2,by decide,.inr (.inl (pre _ ⟨false,by rw [Zbt _ hl,hv],?_⟩))⟩;rw [if_neg (by simp),w1]
 rcases Zm7 m.Sort_ hl hv with ⟨hd,xs,ys,d1⟩ | ⟨hd,d1⟩
 ·refine .inr ⟨fun h=>h.1.2.1 hd,2,by decide,.inl ⟨xs,ys,pre _ ⟨true,by rw [Zbt _ hl,hv],?_⟩⟩⟩;rw [if_pos rfl,w1];exact .inr ⟨ys,xs,d1,rfl⟩
 ·have b:=l_rf0a m hl allT (fun t h=>(Zc6 t).1 h) (by rw [Zj0];omega) 2 (by decide) 5 1 p (by rw [w2];exact hc) 0 (Nat.zero_le _);refine (b.of fun r hr=>pre r ⟨true,by rw [Zbt _ hl,hv],?_⟩).congr ?_
  ·rw [if_pos rfl,w1];exact .inl ⟨d1,allT,Zjz,hr⟩
  ·simp only [List.drop_zero,Zc6];constructor
   ·rintro ⟨h,hp⟩;exact ⟨⟨hv,hd,fun ⟨t,ht,hc⟩=>h t ht hc⟩,hp⟩
   ·rintro ⟨h,hp⟩;exact ⟨fun t ht hc=>h.2.2 ⟨t,ht,hc⟩,hp⟩
theorem l_rf0b (m:Zj) (hl:Le m.Hash.Steps) (ts:List (List Int)) (hts:∀ t∈ts,inT t) (hn:ts.length≤1000) (kind:Int) (hk:kind≠0) (x1 x2:Int) (p:Prop) (hc:Z0 (Z4 m x1 (w (x2+1))) p):∀ j,j≤ts.length →
  Z0 (Ze3 m ts kind x1 x2 ts.length j) ((∀ t∈ts.drop j,¬ tcl m.Hash t<1)∧p):=by
 refine down _ ?_ ?_
 ·refine (hc.of fun r hr=>Z5c _ _ _ _ _ _ _ _ (by rw [if_neg (by omega)];exact hr)).congr (by simp)
 ·intro j hj ih;have h4:=inc64 (i:=j) (by omega);have ht:=hts _ (List.getElem_mem hj);simp only [Int.natCast_add,Int.cast_ofNat_Int] at ih;have pre:∀ r,(if tcl m.Hash ts[j]<1 then some (.tup [I kind,L 1 (ts[j].map ic),.t .nil],[])=some r else Ze3 m ts kind x1 x2 ts.length ((j:Int)+1)=some r)→Ze3 m ts kind x1 x2 ts.length j=some r:=by
   intro r hr;refine Z5c _ _ _ _ _ _ _ _ ?_;rw [if_pos (by omega)];refine ⟨by omega,ts[j],by rw [Int.toNat_natCast];exact List.getElem?_eq_getElem hj,_,Zhf _ hl ht,?_⟩;rw [show w ((j:Int)+1)=(j:Int)+1 from h4];exact hr
  refine Z0.congr ?_ (Zm8 (P:=fun t=>¬ tcl m.Hash t<1) hj).symm;by_cases h:tcl m.Hash ts[j]<1
  ·exact .inr ⟨fun hc=>hc.1 h,kind,hk,.inr (.inr ⟨_,pre _ (by rw [if_pos h])⟩)⟩
  ·exact (ih.of fun r hr=>pre r (by rw [if_neg h];exact hr)).congr ⟨fun hh=>⟨h,hh⟩,fun hh=>hh.2⟩
theorem l_rf1b (m:Zj) (hm:LeM m) (p:Prop) (hc:Z0 (Z4 m 5 3) p):Z0 (Z4 m 5 2) (Zbz m.Hash∧p):=by
 have hl:Le m.Hash.Steps:=by obtain ⟨h1,h2,h3,h4,h5⟩:=hm;assumption
 have w1:w (1+2)=3:=by decide
 have w2:w (2+1)=3:=by decide
 have pre:∀ r,(∃ v,Zbe m.Hash=some (Bo v,[])∧_)→Z4 m 5 2=some r:=fun r h=>Zjs _ _ _ _ (by rw [if_pos (by omega),if_neg (by omega),if_neg (by omega),if_pos rfl];exact h)
 rcases tf (Z5 m.Hash) with hv | hv
 ·refine .inr ⟨fun h=>(by have:=h.1.1;rw [hv] at this;cases this),3,by decide,.inr (.inl (pre _ ⟨false,by rw [Zbt _ hl,hv],?_⟩))⟩;rw [if_neg (by simp),w1]
 rcases Zm7 m.Hash hl hv with ⟨hd,xs,ys,d1⟩ | ⟨hd,d1⟩
 ·refine .inr ⟨fun h=>h.1.2.1 hd,3,by decide,.inl ⟨xs,ys,pre _ ⟨true,by rw [Zbt _ hl,hv],?_⟩⟩⟩;rw [if_pos rfl,w1];exact .inr ⟨ys,xs,d1,rfl⟩
 ·have b:=l_rf0b m hl allT (fun t h=>(Zc6 t).1 h) (by rw [Zj0];omega) 3 (by decide) 5 2 p (by rw [w2];exact hc) 0 (Nat.zero_le _);refine (b.of fun r hr=>pre r ⟨true,by rw [Zbt _ hl,hv],?_⟩).congr ?_
  ·rw [if_pos rfl,w1];exact .inl ⟨d1,allT,Zjz,hr⟩
  ·simp only [List.drop_zero,Zc6];constructor
   ·rintro ⟨h,hp⟩;exact ⟨⟨hv,hd,fun ⟨t,ht,hc⟩=>h t ht hc⟩,hp⟩
   ·rintro ⟨h,hp⟩;exact ⟨fun t ht hc=>h.2.2 ⟨t,ht,hc⟩,hp⟩
theorem l_rf0c (m:Zj) (hl:Le m.Merge.Steps) (ts:List (List Int)) (hts:∀ t∈ts,inT t) (hn:ts.length≤1000) (kind:Int) (hk:kind≠0) (x1 x2:Int) (p:Prop) (hc:Z0 (Z4 m x1 (w (x2+1))) p):∀ j,j≤ts.length →
  Z0 (Ze4 m ts kind x1 x2 ts.length j) ((∀ t∈ts.drop j,¬ tcl m.Merge t<1)∧p):=by
 refine down _ ?_ ?_
 ·refine (hc.of fun r hr=>Z5d _ _ _ _ _ _ _ _ (by rw [if_neg (by omega)];exact hr)).congr (by simp)
 ·intro j hj ih;have h4:=inc64 (i:=j) (by omega);have ht:=hts _ (List.getElem_mem hj);simp only [Int.natCast_add,Int.cast_ofNat_Int] at ih;have pre:∀ r,(if tcl m.Merge ts[j]<1 then some (.tup [I kind,L 1 (ts[j].map ic),.t .nil],[])=some r else Ze4 m ts kind x1 x2 ts.length ((j:Int)+1)=some r)→Ze4 m ts kind x1 x2 ts.length j=some r:=by
   intro r hr;refine Z5d _ _ _ _ _ _ _ _ ?_;rw [if_pos (by omega)];refine ⟨by omega,ts[j],by rw [Int.toNat_natCast];exact List.getElem?_eq_getElem hj,_,Zhf _ hl ht,?_⟩;rw [show w ((j:Int)+1)=(j:Int)+1 from h4];exact hr
  refine Z0.congr ?_ (Zm8 (P:=fun t=>¬ tcl m.Merge t<1) hj).symm;by_cases h:tcl m.Merge ts[j]<1
  ·exact .inr ⟨fun hc=>hc.1 h,kind,hk,.inr (.inr ⟨_,pre _ (by rw [if_pos h])⟩)⟩
  ·exact (ih.of fun r hr=>pre r (by rw [if_neg h];exact hr)).congr ⟨fun hh=>⟨h,hh⟩,fun hh=>hh.2⟩
theorem l_rf1c (m:Zj) (hm:LeM m) (p:Prop) (hc:Z0 (Z4 m 5 4) p):Z0 (Z4 m 5 3) (Zbz m.Merge∧p):=by
 have hl:Le m.Merge.Steps:=by obtain ⟨h1,h2,h3,h4,h5⟩:=hm;assumption
 have w1:w (1+3)=4:=by decide
 have w2:w (3+1)=4:=by decide
 have pre:∀ r,(∃ v,Zbe m.Merge=some (Bo v,[])∧_)→Z4 m 5 3=some r:=fun r h=>Zjs _ _ _ _ (by rw [if_pos (by omega),if_neg (by omega),if_neg (by omega),if_neg (by omega),if_pos rfl];exact h)
 rcases tf (Z5 m.Merge) with hv | hv
 ·refine .inr ⟨fun h=>(by have:=h.1.1;rw [hv] at this;cases this),4,by decide,.inr (.inl (pre _ ⟨false,by rw [Zbt _ hl,hv],?_⟩))⟩;rw [if_neg (by simp),w1]
 rcases Zm7 m.Merge hl hv with ⟨hd,xs,ys,d1⟩ | ⟨hd,d1⟩
 ·refine .inr ⟨fun h=>h.1.2.1 hd,4,by decide,.inl ⟨xs,ys,pre _ ⟨true,by rw [Zbt _ hl,hv],?_⟩⟩⟩;rw [if_pos rfl,w1];exact .inr ⟨ys,xs,d1,rfl⟩
 ·have b:=l_rf0c m hl allT (fun t h=>(Zc6 t).1 h) (by rw [Zj0];omega) 4 (by decide) 5 3 p (by rw [w2];exact hc) 0 (Nat.zero_le _);refine (b.of fun r hr=>pre r ⟨true,by rw [Zbt _ hl,hv],?_⟩).congr ?_
  ·rw [if_pos rfl,w1];exact .inl ⟨d1,allT,Zjz,hr⟩
  ·simp only [List.drop_zero,Zc6];constructor
   ·rintro ⟨h,hp⟩;exact ⟨⟨hv,hd,fun ⟨t,ht,hc⟩=>h t ht hc⟩,hp⟩
   ·rintro ⟨h,hp⟩;exact ⟨fun t ht hc=>h.2.2 ⟨t,ht,hc⟩,hp⟩
theorem l_rf0d (m:Zj) (hl:Le m.Nested.Steps) (ts:List (List Int)) (hts:∀ t∈ts,inT t) (hn:ts.length≤1000) (kind:Int) (hk:kind≠0) (x1 x2:Int) (p:Prop) (hc:Z0 (Z4 m x1 (w (x2+1))) p):∀ j,j≤ts.length →
  Z0 (Ze5 m ts kind x1 x2 ts.length j) ((∀ t∈ts.drop j,¬ tcl m.Nested t<1)∧p):=by
 refine down _ ?_ ?_
 ·refine (hc.of fun r hr=>Z5e _ _ _ _ _ _ _ _ (by rw [if_neg (by omega)];exact hr)).congr (by simp)
 ·intro j hj ih;have h4:=inc64 (i:=j) (by omega);have ht:=hts _ (List.getElem_mem hj);simp only [Int.natCast_add,Int.cast_ofNat_Int] at ih;have pre:∀ r,(if tcl m.Nested ts[j]<1 then some (.tup [I kind,L 1 (ts[j].map ic),.t .nil],[])=some r else Ze5 m ts kind x1 x2 ts.length ((j:Int)+1)=some r)→Ze5 m ts kind x1 x2 ts.length j=some r:=by
   intro r hr;refine Z5e _ _ _ _ _ _ _ _ ?_;rw [if_pos (by omega)];refine ⟨by omega,ts[j],by rw [Int.toNat_natCast];exact List.getElem?_eq_getElem hj,_,Zhf _ hl ht,?_⟩;rw [show w ((j:Int)+1)=(j:Int)+1 from h4];exact hr
  refine Z0.congr ?_ (Zm8 (P:=fun t=>¬ tcl m.Nested t<1) hj).symm;by_cases h:tcl m.Nested ts[j]<1
  ·exact .inr ⟨fun hc=>hc.1 h,kind,hk,.inr (.inr ⟨_,pre _ (by rw [if_pos h])⟩)⟩
  ·exact (ih.of fun r hr=>pre r (by rw [if_neg h];exact hr)).congr ⟨fun hh=>⟨h,hh⟩,fun hh=>hh.2⟩
theorem l_rf1d (m:Zj) (hm:LeM m) (p:Prop) (hc:Z0 (Z4 m 5 5) p):Z0 (Z4 m 5 4) (Zbz m.Nested∧p):=by
 have hl:Le m.Nested.Steps:=by obtain ⟨h1,h2,h3,h4,h5⟩:=hm;assumption
 have w1:w (1+4)=5:=by decide
 have w2:w (4+1)=5:=by decide
 have pre:∀ r,(∃ v,Zbe m.Nested=some (Bo v,[])∧_)→Z4 m 5 4=some r:=fun r h=>Zjs _ _ _ _ (by rw [if_pos (by omega),if_neg (by omega),if_neg (by omega),if_neg (by omega),if_neg (by omega),if_pos rfl];exact h)
 rcases tf (Z5 m.Nested) with hv | hv
 ·refine .inr ⟨fun h=>(by have:=h.1.1;rw [hv] at this;cases this),5,by decide,.inr (.inl (pre _ ⟨false,by rw [Zbt _ hl,hv],?_⟩))⟩;rw [if_neg (by simp),w1]
 rcases Zm7 m.Nested hl hv with ⟨hd,xs,ys,d1⟩ | ⟨hd,d1⟩
 ·refine .inr ⟨fun h=>h.1.2.1 hd,5,by decide,.inl ⟨xs,ys,pre _ ⟨true,by rw [Zbt _ hl,hv],?_⟩⟩⟩;rw [if_pos rfl,w1];exact .inr ⟨ys,xs,d1,rfl⟩
 ·have b:=l_rf0d m hl allT (fun t h=>(Zc6 t).1 h) (by rw [Zj0];omega) 5 (by decide) 5 4 p (by rw [w2];exact hc) 0 (Nat.zero_le _);refine (b.of fun r hr=>pre r ⟨true,by rw [Zbt _ hl,hv],?_⟩).congr ?_
  ·rw [if_pos rfl,w1];exact .inl ⟨d1,allT,Zjz,hr⟩
  ·simp only [List.drop_zero,Zc6];constructor
   ·rintro ⟨h,hp⟩;exact ⟨⟨hv,hd,fun ⟨t,ht,hc⟩=>h t ht hc⟩,hp⟩
   ·rintro ⟨h,hp⟩;exact ⟨fun t ht hc=>h.2.2 ⟨t,ht,hc⟩,hp⟩
open Classical in
theorem Zbme (m:Zj) (hm:LeM m):Zlo m=some (Bo (decide (Zc7 m)),[]):=by
 have h5:Z0 (Z4 m 5 5) True:=.inl ⟨trivial,Zjs _ _ _ _ (by rw [if_neg (by omega)])⟩;have h0:=l_rf1 m hm _ (l_rf1a m hm _ (l_rf1b m hm _ (l_rf1c m hm _ (l_rf1d m hm _ h5))));have hop:Zcl m=some (.bsl 1 5,[.box (m.c.map .t),.box [.ptr 0 0,.ptr 0 6,.ptr 0 12,.ptr 0 18,.ptr 0 24]]):=Z43 _ _ rfl;have hR:Z0 (Zii m) (Zc7 m):=(h0.of fun r hr=>Zbjf _ _ ⟨hop,hr⟩).congr (by simp [Zc7]);refine Zbjg _ _ ?_;rcases hR with ⟨h,h1⟩ | ⟨h,n,hn,⟨xs,ys,h1⟩ | h1 | ⟨xs,h1⟩⟩
 ·rw [decide_eq_true h];exact .inr (.inl ⟨0,h1,rfl⟩)
 ·rw [decide_eq_false h];exact .inl ⟨ys,n,xs,h1,by rw [decide_eq_false hn]⟩
 ·rw [decide_eq_false h];exact .inr (.inl ⟨n,h1,by rw [decide_eq_false hn]⟩)
 ·rw [decide_eq_false h];exact .inr (.inr ⟨n,xs,h1,by rw [decide_eq_false hn]⟩)
theorem wS {i n:Nat} (h:i<n) (hn:n≤1099511627776):w ((i:Int)+1)=((i+1:Nat):Int):=by
 rw [show w ((i:Int)+1)=(i:Int)+1 from wrap64 (by omega) (by omega)];simp
theorem gE {α:Type} {xs:List α} {i:Nat} (h:i<xs.length):xs[(i:Int).toNat]?=some xs[i]:=by rw [Int.toNat_natCast];exact List.getElem?_eq_getElem h
abbrev dig (v:Int):Bool:=inR v 0 9
def rwB (n:Int) (r:List Int):Bool:=r.all dig && decide ((r.length:Int)=n)
theorem Zbmf (r:List Int) (n:Int) (hl:Le r):∀ i,i≤r.length→Zkx r n r r.length i=some (Bo ((r.drop i).all dig && decide ((r.length:Int)=n)),[]):=by
 refine down _ ?_ ?_
 ·refine Z36 _ _ _ _ _ _ ?_;rw [if_neg (by omega)];simp
 ·intro i hi ih;refine Z36 _ _ _ _ _ _ ?_;rw [if_pos (by omega),List.drop_eq_getElem_cons hi,List.all_cons,wS hi hl];refine ⟨by omega,_,gE hi,_,Zby _ _ _,?_⟩;rcases tf (inR r[i] 0 9) with e | e
  ·rw [e];simp [dig,e]
  ·rw [e,if_pos rfl,ih];simp [dig,e]
@[simp] theorem Z69 (r:List Int) (n:Int) (hl:Le r):Zfx r n=some (Bo (rwB n r),[]):=Zbia _ _ _ (by simpa [rwB] using Zbmf r n hl 0 (Nat.zero_le _))
theorem Zbmg (r:List Int) (n:Int) (hl:Le r):∀ i,i≤r.length→Zlz r n i=some (Bo ((r.drop i).all dig && decide ((r.length:Int)=n)),[]):=by
 refine down _ ?_ ?_
 ·refine Z5o _ _ _ _ ?_;rw [if_neg (by omega)];simp
 ·intro i hi ih;refine Z5o _ _ _ _ ?_;rw [if_pos (by omega),List.drop_eq_getElem_cons hi,List.all_cons,wS hi hl];refine ⟨by omega,_,gE hi,_,Zb7 _ _ _,?_⟩;rcases tf (inR r[i] 0 9) with e | e
  ·rw [e];simp [dig,e]
  ·rw [e,if_pos rfl,ih];simp [dig,e]
@[simp] theorem Z7a (r:List Int) (n:Int) (hl:Le r):Ziq r n=some (Bo (rwB n r),[]):=Zbj2 _ _ _ (by simpa [rwB] using Zbmg r n hl 0 (Nat.zero_le _))
theorem x_cmp (a b:Int):Zoe a b=some (I (if a<b then -1 else if b<a then 1 else 0),[]):=by
 refine Zbib _ _ _ ⟨_,Z37 _ _ rfl,_,Z37 _ _ rfl,?_⟩;rw [if_neg (by simp),if_neg (by simp)];by_cases h1:a<b
 ·rw [if_pos h1,if_pos h1]
 ·rw [if_neg h1,if_neg h1];by_cases h2:b<a
  ·rw [if_pos h2,if_pos h2]
  ·rw [if_neg h2,if_neg h2]
theorem Zbmh (a b:List Int) (ha:Le a) (hb:Le b):∀ i,i≤a.length→i≤b.length→Zky a b a a.length i=some (I (cmpR (a.drop i) (b.drop i)),[]):=by
 refine down _ ?_ ?_
 ·intro h;refine Z38 _ _ _ _ _ _ ?_;rw [if_neg (by omega),List.drop_length];by_cases h2:(a.length:Int)<(b.length:Int)
  ·rw [if_pos h2,List.drop_eq_getElem_cons (l:=b) (i:=a.length) (by omega)];rfl
  ·rw [if_neg h2,show a.length=b.length by omega,List.drop_length];rfl
 ·intro i hi ih h;refine Z38 _ _ _ _ _ _ ?_;rw [if_pos (by omega),List.drop_eq_getElem_cons hi,wS hi ha];refine ⟨by omega,_,gE hi,?_⟩;by_cases h2:(b.length:Int)≤(i:Int)
  ·rw [if_pos h2,show b.drop i=[] from List.drop_of_length_le (by omega)];rfl
  ·have hj:i<b.length:=by omega
   rw [if_neg h2,List.drop_eq_getElem_cons hj];refine ⟨_,gE hj,_,x_cmp _ _,?_⟩;unfold cmpR;by_cases e1:a[i]<b[i]
   ·rw [if_pos e1,if_pos e1];rfl
   ·rw [if_neg e1,if_neg e1];by_cases e2:b[i]<a[i]
    ·rw [if_pos e2,if_pos e2];rfl
    ·rw [if_neg e2,if_neg e2,if_pos rfl];exact ih (by omega)
@[simp] theorem Zbmi (a b:List Int) (ha:Le a) (hb:Le b):Zkz a b=some (I (cmpR a b),[]) :=
 Zbid _ _ _ ⟨_,Zbic _ _ _ (by simpa using Zbmh a b ha hb 0 (Nat.zero_le _) (Nat.zero_le _)),rfl⟩
theorem Z7b (a b:List Int) (i:Nat) (ha:i≤a.length) (hb:i≤b.length) (h:i=a.length∨i=b.length):Zl1 a b i false=some (I (cmpR (a.drop i) (b.drop i)),[]):=by
 refine Zbj3 _ _ _ _ _ ?_;by_cases h1:(a.length:Int)<(b.length:Int)
 ·rw [if_pos h1,show a.drop i=[] from List.drop_of_length_le (by omega),List.drop_eq_getElem_cons (l:=b) (i:=i) (by omega)];rfl
 ·rw [if_neg h1];by_cases h2:(b.length:Int)<(a.length:Int)
  ·rw [if_pos h2,show b.drop i=[] from List.drop_of_length_le (by omega),List.drop_eq_getElem_cons (l:=a) (i:=i) (by omega)];rfl
  ·rw [if_neg h2,show a.drop i=[] from List.drop_of_length_le (by omega),show b.drop i=[] from List.drop_of_length_le (by omega)];rfl
theorem Zbmj (a b:List Int) (ha:Le a) (hb:Le b):∀ i,i≤a.length→i≤b.length→Zl0 a b i=some (I (cmpR (a.drop i) (b.drop i)),[]):=by
 refine down _ ?_ ?_
 ·intro h;refine Z5p _ _ _ _ ?_;rw [if_neg (by omega)];exact Z7b a b _ (Nat.le_refl _) h (.inl rfl)
 ·intro i hi ih h;refine Z5p _ _ _ _ ?_;rw [if_pos (by omega)];by_cases h2:(i:Int)<(b.length:Int)
  ·have hj:i<b.length:=by omega
   rw [if_pos h2];refine ⟨by omega,_,gE hi,_,gE hj,?_⟩;rw [wS hi ha,List.drop_eq_getElem_cons hi,List.drop_eq_getElem_cons hj];unfold cmpR;by_cases e1:a[i]<b[i]
   ·rw [if_pos e1,if_pos e1]
   ·rw [if_neg e1,if_neg e1];by_cases e2:b[i]<a[i]
    ·rw [if_pos e2,if_pos e2]
    ·rw [if_neg e2,if_neg e2];exact ih (by omega)
  ·rw [if_neg h2];exact Z7b a b _ (by omega) h (.inr (by omega))
@[simp] theorem Z7c (a b:List Int) (ha:Le a) (hb:Le b):Zir a b=some (I (cmpR a b),[]) :=
 Zbj4 _ _ _ (by simpa using Zbmj a b ha hb 0 (Nat.zero_le _) (Nat.zero_le _))
def pvA {α:Type} (xs:List α):Nat→Option α
 | 0=>none
 | k+1=>xs[k]?
def nxt {α:Type} (lt:α→α→Bool) (p:Option α) (x:α):Bool:=match p with
 | none=>true
 | some q=>lt q x
def adjL {α:Type} (lt:α→α→Bool):Option α→List α→Bool
 | _,[]=>true
 | p,x::xs=>nxt lt p x && adjL lt (some x) xs
theorem Zqb {α:Type} (lt:α→α→Bool) {xs:List α} {i:Nat} (hi:i<xs.length):adjL lt (pvA xs i) (xs.drop i)=(nxt lt (pvA xs i) xs[i] && adjL lt (pvA xs (i+1)) (xs.drop (i+1))):=by
 rw [List.drop_eq_getElem_cons hi,adjL,show pvA xs (i+1)=some xs[i] from List.getElem?_eq_getElem hi]
def ltR (a b:List Int):Bool:=decide (cmpR a b<0)
abbrev LeT (t:Zh):Prop:=Le t.Rows∧∀ r∈t.Rows,Le r
theorem wP {i n:Nat} (h0:0<i) (h:i<n) (hn:n≤1099511627776):w ((i:Int) - 1)=((i - 1:Nat):Int):=by
 rw [show w ((i:Int) - 1)=(i:Int) - 1 from wrap64 (by omega) (by omega)];omega
theorem Zj2 {α:Type} {xs:List α} {i:Nat} (h0:0<i) (h:i - 1<xs.length):pvA xs i=some xs[i - 1]:=by
 obtain ⟨k,rfl⟩:∃ k,i=k+1:=⟨i - 1,by omega⟩;exact List.getElem?_eq_getElem h
theorem Zbmk (rows:List (List Int)) (hl:Le rows) (hr:∀ r∈rows,Le r):∀ i,i≤rows.length→0<i→Zk0 rows i=some (Bo (adjL ltR (pvA rows i) (rows.drop i)),[]):=by
 refine down _ ?_ ?_
 ·intro h0;refine Zwn _ _ _ ?_;rw [if_neg (by omega)];simp [adjL]
 ·intro i hi ih h0;have hp:i - 1<rows.length:=by omega
  have ih':=ih (by omega);refine Zwn _ _ _ ?_;rw [if_pos (by omega),wP h0 hi hl,wS hi hl,Zqb _ hi,Zj2 h0 hp];refine ⟨by omega,_,gE hp,by omega,_,gE hi,_,Zbmi _ _ (hr _ (List.getElem_mem hp)) (hr _ (List.getElem_mem hi)),?_⟩;unfold nxt ltR at *
  by_cases e:0≤cmpR rows[i - 1] rows[i]
  ·rw [if_pos e];simp [show ¬ cmpR rows[i - 1] rows[i]<0 by omega]
  ·rw [if_neg e,ih'];simp [show cmpR rows[i - 1] rows[i]<0 by omega]
theorem Zbml (rows:List (List Int)) (hl:Le rows) (hr:∀ r∈rows,Le r):Zof rows=some (Bo (adjL ltR none rows),[]):=by
 refine Zbie _ _ ?_
 cases rows with
 | nil=>refine Zwn _ _ _ ?_;rw [if_neg (by simp)];rfl
 | cons r rs=>exact Zbmk (r::rs) hl hr 1 (by simp) (by omega)
def Zb0 (t:Zh):Bool:=nmOk t.Name && inR t.Arity 1 3 && decide ((t.Rows.length:Int)≤8) && (t.Rows.all (rwB t.Arity) && adjL ltR none t.Rows)
theorem Zbmm (t:Zh) (h:LeT t):∀ i,i≤t.Rows.length→Zk1 t t.Rows t.Rows.length i=some (Bo ((t.Rows.drop i).all (rwB t.Arity) && (nmOk t.Name && inR t.Arity 1 3 && decide ((t.Rows.length:Int)≤8) && adjL ltR none t.Rows)),[]):=by
 refine down _ ?_ ?_
 ·refine Z39 _ _ _ _ _ ?_;rw [if_neg (by omega)];refine ⟨_,x_nameOk _,?_⟩;rcases tf (nmOk t.Name) with e1 | e1
  ·rw [e1];simp
  rw [e1,if_pos rfl];refine ⟨_,Zby _ _ _,?_⟩;rcases tf (inR t.Arity 1 3) with e2 | e2
  ·rw [e2];simp
  rw [e2,if_pos rfl];by_cases e3:(t.Rows.length:Int)≤8
  ·rw [if_pos e3];exact ⟨_,Zbml t.Rows h.1 h.2,by simp [e3]⟩
  ·rw [if_neg e3];simp [e3]
 ·intro i hi ih;refine Z39 _ _ _ _ _ ?_;rw [if_pos (by omega),List.drop_eq_getElem_cons hi,List.all_cons,wS hi h.1];refine ⟨by omega,_,gE hi,_,Z69 _ _ (h.2 _ (List.getElem_mem hi)),?_⟩;rcases tf (rwB t.Arity t.Rows[i]) with e | e
  ·rw [e];simp
  ·rw [e,if_pos rfl,ih];simp
@[simp] theorem Zbmn (t:Zh) (h:LeT t):Zog t=some (Bo (Zb0 t),[]):=by
 refine Zbif _ _ ?_;rw [show (0:Int)=((0:Nat):Int) from rfl,Zbmm t h 0 (Nat.zero_le _)];unfold Zb0;simp only [List.drop_zero];congr 3;rw [Bool.eq_iff_iff];simp only [Bool.and_eq_true]
 grind
theorem Zbmo (t:Zh) (h:LeT t):∀ i,i≤t.Rows.length→Zis t i=some (Bo ((t.Rows.drop i).all (rwB t.Arity) && adjL ltR (pvA t.Rows i) (t.Rows.drop i)),[]):=by
 refine down _ ?_ ?_
 ·refine Z5q _ _ _ ?_;rw [if_neg (by omega)];simp [adjL]
 ·intro i hi ih;have hr:=h.2 _ (List.getElem_mem hi);refine Z5q _ _ _ ?_;rw [Zqb _ hi,if_pos (by omega),List.drop_eq_getElem_cons hi,List.all_cons,wS hi h.1];refine ⟨by omega,_,gE hi,_,Z7a _ _ hr,?_⟩;rcases tf (rwB t.Arity t.Rows[i]) with e | e
  ·rw [e];simp
  rw [e,if_pos rfl];by_cases h0:0<i
  ·have hp:i - 1<t.Rows.length:=by omega
   rw [if_pos (by omega),wP h0 hi h.1,Zj2 h0 hp];refine ⟨by omega,_,gE hp,_,Z7c _ _ (h.2 _ (List.getElem_mem hp)) hr,?_⟩;unfold nxt ltR at *
   by_cases e:0≤cmpR t.Rows[i - 1] t.Rows[i]
   ·rw [if_pos e];simp [show ¬ cmpR t.Rows[i - 1] t.Rows[i]<0 by omega]
   ·rw [if_neg e,ih];simp [show cmpR t.Rows[i - 1] t.Rows[i]<0 by omega]
  ·have:i=0:=by omega
   subst this;rw [if_neg (by omega),ih];simp [pvA,nxt]
@[simp] theorem Zbmp (t:Zh) (h:LeT t):Zpd t=some (Bo (Zb0 t),[]):=by
 refine Zbj5 _ _ ⟨_,x_l4Name _,?_⟩;unfold Zb0;rcases tf (nmOk t.Name) with e1 | e1
 ·rw [e1];simp
 rw [e1,if_pos rfl];refine ⟨_,Zb7 _ _ _,?_⟩;rcases tf (inR t.Arity 1 3) with e2 | e2
 ·rw [e2];simp
 rw [e2,if_pos rfl];by_cases e3:8<(t.Rows.length:Int)
 ·rw [if_pos e3];simp [show ¬ (t.Rows.length:Int)≤8 by omega]
 ·rw [if_neg e3];have:=Zbmo t h 0 (Nat.zero_le _);refine Eq.trans this ?_;simp [show (t.Rows.length:Int)≤8 by omega,pvA]
def ltN (a b:Zh):Bool:=Op.bytesLess a.Name.toList b.Name.toList
abbrev LeD (d:Zk):Prop:=Le d.Tables∧∀ t∈d.Tables,LeT t
def Zc8 (d:Zk):Bool:=d.Tables.all Zb0 && adjL ltN none d.Tables && decide ((d.Tables.length:Int)≤6)
theorem Zbmq (d:Zk) (h:LeD d):∀ i,i≤d.Tables.length→Zh0 d d.Tables d.Tables.length i=some (Bo ((d.Tables.drop i).all Zb0 && adjL ltN (pvA d.Tables i) (d.Tables.drop i) && decide ((d.Tables.length:Int)≤6)),[]):=by
 refine down _ ?_ ?_
 ·refine Z4a _ _ _ _ _ ?_;rw [if_neg (by omega)];simp [adjL]
 ·intro i hi ih;refine Z4a _ _ _ _ _ ?_;rw [Zqb _ hi,if_pos (by omega),List.drop_eq_getElem_cons hi,List.all_cons,wS hi h.1];refine ⟨by omega,_,gE hi,_,Zbmn _ (h.2 _ (List.getElem_mem hi)),?_⟩;rcases tf (Zb0 d.Tables[i]) with e | e
  ·rw [e];simp
  rw [e,if_pos rfl];by_cases h0:0<i
  ·have hp:i - 1<d.Tables.length:=by omega
   rw [if_pos (by omega),wP h0 hi h.1,Zj2 h0 hp];refine ⟨by omega,_,gE hp,?_⟩;unfold nxt ltN at *
   rcases tf (Op.bytesLess d.Tables[i - 1].Name.toList d.Tables[i].Name.toList) with e | e
   ·rw [e];simp [e]
   ·rw [e,if_pos rfl,ih];simp [e]
  ·have:i=0:=by omega
   subst this;rw [if_neg (by omega),ih];simp [pvA,nxt]
@[simp] theorem Zbmr (d:Zk) (h:LeD d):Zoh d=some (Bo (Zc8 d),[]):=by
 refine Zbig _ _ ?_;have:=Zbmq d h 0 (Nat.zero_le _);refine Eq.trans this ?_;unfold Zc8;simp [pvA]
theorem Zbms (d:Zk) (h:LeD d):∀ i,i≤d.Tables.length→Zit d i=some (Bo ((d.Tables.drop i).all Zb0 && adjL ltN (pvA d.Tables i) (d.Tables.drop i) && decide ((d.Tables.length:Int)≤6)),[]):=by
 refine down _ ?_ ?_
 ·refine Z5r _ _ _ ?_;rw [if_neg (by omega)];simp [adjL]
 ·intro i hi ih;refine Z5r _ _ _ ?_;rw [Zqb _ hi,if_pos (by omega),List.drop_eq_getElem_cons hi,List.all_cons,wS hi h.1];refine ⟨by omega,_,gE hi,_,Zbmp _ (h.2 _ (List.getElem_mem hi)),?_⟩;rcases tf (Zb0 d.Tables[i]) with e | e
  ·rw [e];simp
  rw [e,if_pos rfl];by_cases h0:0<i
  ·have hp:i - 1<d.Tables.length:=by omega
   rw [if_pos (by omega),wP h0 hi h.1,Zj2 h0 hp];refine ⟨by omega,_,gE hp,?_⟩;unfold nxt ltN at *
   rcases tf (Op.bytesLess d.Tables[i - 1].Name.toList d.Tables[i].Name.toList) with e | e
   ·rw [e];simp [e]
   ·rw [e,if_pos rfl,ih];simp [e]
  ·have:i=0:=by omega
   subst this;rw [if_neg (by omega),ih];simp [pvA,nxt]
@[simp] theorem Zbmt (d:Zk) (h:LeD d):Zl2 d=some (Bo (Zc8 d),[]):=by
 refine Zbj6 _ _ ?_;have:=Zbms d h 0 (Nat.zero_le _);refine Eq.trans this ?_;unfold Zc8;simp [pvA]
def Zdn (d:Zk) (n:ByteArray):Option Zh:=if Zc8 d=true then d.Tables.find? (fun t=>decide (t.Name=n)) else none
theorem Zbmu (xs:List (List Int)) (hx:Le xs) (hr:∀ r∈xs,r.length≤4) (hl:xs.length≤1000000):∀ i,i≤xs.length→Zk2 (xs.take i) xs xs.length i=some (.own 0,[.arr 30 1 true (xs.map isc)]):=by
 refine down _ ?_ ?_
 ·refine Z4b _ _ _ _ _ ?_;rw [if_neg (by omega),List.take_length]
 ·intro i hi ih;refine Z4b _ _ _ _ _ ?_;rw [if_pos (by omega),wS hi hx];have:=hr _ (List.getElem_mem hi);refine ⟨by omega,_,gE hi,_,Zj1 _ (by omega),by rw [List.length_take];omega,?_⟩;rw [List.take_succ_eq_append_getElem hi] at ih;exact ih
theorem Zxc (xs:List (List Int)) (hr:∀ r∈xs,r.length≤4) (hl:xs.length≤1000000):Zes xs=some (.own 0,[.arr 30 1 true (xs.map isc)]) :=
 Zbii _ _ (by simpa using Zbmu xs (by omega) hr hl 0 (Nat.zero_le _))
theorem Z7d {α:Type} (p:α→Bool):∀ (xs:List α) (i:Nat),match xs.find? p with
  | none=>Z1 p xs i=-1
  | some x=>∃ j,Z1 p xs i=((i+j:Nat):Int)∧xs[j]?=some x
 | [],i=>by simp [Z1]
 | x::xs,i=>by
  unfold Z1;rw [List.find?_cons];rcases tf (p x) with e | e
  ·rw [e,if_neg (by simp)];have:=Z7d p xs (i+1);revert this;simp only
   cases xs.find? p with
   | none=>exact id
   | some y=>rintro ⟨j,h1,h2⟩;exact ⟨j+1,by rw [h1];congr 1;omega,by simpa using h2⟩
  ·rw [e,if_pos rfl];exact ⟨0,rfl,rfl⟩
theorem l_idxT (s:List Zh) (n:ByteArray) (hs:Le s):∀ i,i≤s.length→Zkw s n s.length i=some (I (Z1 (fun t=>decide (t.Name=n)) (s.drop i) i),[]):=by
 refine down _ ?_ ?_
 ·refine Z35 _ _ _ _ _ ?_;rw [if_neg (by omega)];simp [Z1]
 ·intro i hi ih;refine Z35 _ _ _ _ _ ?_;rw [if_pos (by omega),Zkk _ hi,wS hi hs];refine ⟨by omega,_,gE hi,_,Zbh8 _ _ _ rfl,?_⟩;split
  ·rfl
  ·exact ih
def lookR (o:Option Zh):AV×List Blk:=match o with
 | none=>(.tup [.agg [.t (.str ⟨#[]⟩),I 0,.t .nil],Bo false],[])
 | some t=>(.tup [.agg [.t (.str t.Name),I t.Arity,.own 0],Bo true],[.arr 30 1 true (t.Rows.map isc)])
theorem Zqc {d:Zk} (hv:Zc8 d=true) {t:Zh} (ht:t∈d.Tables):Zb0 t=true:=by
 unfold Zc8 at hv;simp only [Bool.and_eq_true] at hv;exact List.all_eq_true.1 hv.1.1 t ht
theorem Z7e {t:Zh} (h:Zb0 t=true):t.Rows.length≤8:=by
 unfold Zb0 at h;simp only [Bool.and_eq_true,decide_eq_true_eq] at h;omega
theorem Z7f {t:Zh} (h:Zb0 t=true):∀ r∈t.Rows,r.length≤3:=by
 intro r hr;unfold Zb0 at h;simp only [Bool.and_eq_true] at h;have h1:=List.all_eq_true.1 h.2.1 r hr;have h2:=h.1.1.2;unfold rwB at h1;simp only [inR,Bool.and_eq_true,decide_eq_true_eq] at h1 h2;omega
theorem look_mem {d:Zk} {n:ByteArray} {t:Zh} (h:Zdn d n=some t):Zc8 d=true∧t∈d.Tables∧t.Name=n:=by
 unfold Zdn at h;split at h
 ·rename_i hv;exact ⟨hv,List.mem_of_find?_eq_some h,by simpa using List.find?_some h⟩
 ·cases h
theorem Z7g (d:Zk) (h:LeD d) (n:ByteArray):Zet d n=some (lookR (Zdn d n)):=by
 have hi:=Zbh9 _ _ _ (by simpa using l_idxT d.Tables n h.1 0 (Nat.zero_le _));have hf:=Z7d (fun t:Zh=>decide (t.Name=n)) d.Tables 0;refine Zbik _ _ _ ⟨_,hi,?_⟩;unfold Zdn
 cases hq:d.Tables.find? (fun t=>decide (t.Name=n)) with
 | none =>
  rw [hq] at hf;simp only at hf;rw [hf,if_pos (by omega)]
  split <;> rfl
 | some t =>
  rw [hq] at hf;obtain ⟨j,h1,h2⟩:=hf;rw [Nat.zero_add] at h1;rw [h1,if_neg (by omega)];refine ⟨_,Zbmr d h,?_⟩;rcases tf (Zc8 d) with e | e
  ·rw [e];rfl
  ·rw [e,if_pos rfl,if_pos rfl];have hm:=List.mem_of_getElem? h2;have hT:=h.2 t hm;have h8:=Z7e (Zqc e hm);refine ⟨by omega,t,by rw [Int.toNat_natCast];exact h2,_,_,_,Zbij _ _ ⟨_,Zxc t.Rows (fun r hr=>by have:=Z7f (Zqc e hm) r hr;omega) (by omega),rfl⟩,rfl⟩
theorem Zbmv (t:Zh) (h:LeT t) (h8:t.Rows.length≤8) (h3:∀ r∈t.Rows,r.length≤3) (a a':ByteArray) (b b':Int):∀ i,i≤t.Rows.length→Ziu t a b a' b' (t.Rows.take i) i=some (.agg [.t (.str a'),I b',.own 0],[.arr 30 1 true (t.Rows.map isc)]):=by
 refine down _ ?_ ?_
 ·refine Z5s _ _ _ _ _ _ _ _ ?_;rw [if_neg (by omega),List.take_length]
 ·intro i hi ih;refine Z5s _ _ _ _ _ _ _ _ ?_;rw [if_pos (by omega),wS hi h.1];have:=h3 _ (List.getElem_mem hi);rw [List.take_succ_eq_append_getElem hi] at ih;exact ⟨by omega,_,gE hi,by omega,by rw [List.length_take];omega,ih⟩
theorem Zbmw (t:Zh) (h:LeT t) (h8:t.Rows.length≤8) (h3:∀ r∈t.Rows,r.length≤3):Zl5 t=some (if t.Rows=[] then (.agg [.t (.str t.Name),I t.Arity,.t .nil],[]) else (.agg [.t (.str t.Name),I t.Arity,.own 0],[.arr 30 1 true (t.Rows.map isc)])):=by
 refine Zbj8 _ _ ?_;refine Zbj7 _ _ _ _ _ _ _ ?_;by_cases e:t.Rows=[]
 ·rw [if_neg (by rw [e];simp),if_pos e]
 ·have h0:0<t.Rows.length:=List.length_pos_iff.2 e;have:=h3 _ (List.getElem_mem h0);rw [if_pos (by omega),if_neg e];refine ⟨by omega,_,gE h0,by omega,?_⟩;have:=Zbmv t h h8 h3 ⟨#[]⟩ t.Name 0 t.Arity 1 (by omega);rw [List.take_succ_eq_append_getElem h0] at this;rw [show w (0+1)=1 from by decide];simpa using this
def lookS (o:Option Zh):AV×List Blk:=match o with
 | none=>(.tup [.agg [.t (.str ⟨#[]⟩),I 0,.t .nil],Bo false],[])
 | some t=>if t.Rows=[] then (.tup [.agg [.t (.str t.Name),I t.Arity,.t .nil],Bo true],[]) else (.tup [.agg [.t (.str t.Name),I t.Arity,.own 0],Bo true],[.arr 30 1 true (t.Rows.map isc)])
theorem Zbmx (d:Zk) (h:LeD d) (n:ByteArray):∀ i,i≤d.Tables.length→Zl6 d ⟨#[]⟩ 0 n i=some (lookS (if Zc8 d=true then (d.Tables.drop i).find? (fun t=>decide (t.Name=n)) else none)):=by
 refine down _ ?_ ?_
 ·refine Z5t _ _ _ _ _ _ ?_;rw [if_neg (by omega),List.drop_length];split <;> rfl
 ·intro i hi ih;refine Z5t _ _ _ _ _ _ ?_;rw [if_pos (by omega),wS hi h.1];refine ⟨_,Zbmt d h,?_⟩;rcases tf (Zc8 d) with e | e
  ·rw [e];rfl
  rw [e,if_pos rfl] at ih ⊢;rw [if_pos rfl,List.drop_eq_getElem_cons hi,List.find?_cons];have hm:=List.getElem_mem hi;refine ⟨by omega,_,gE hi,?_⟩;by_cases e2:d.Tables[i].Name=n
  ·rw [if_pos e2];have hc:=Zbmw _ (h.2 _ hm) (Z7e (Zqc e hm)) (Z7f (Zqc e hm));simp only [e2,decide_true,lookS];by_cases e3:d.Tables[i].Rows=[]
   ·rw [if_pos e3] at hc ⊢;exact .inl ⟨_,_,hc,by rw [e2]⟩
   ·rw [if_neg e3] at hc ⊢;exact .inr ⟨_,_,_,hc,by rw [e2]⟩
  ·rw [if_neg e2,ih];simp only [e2,decide_false]
theorem Z7h (d:Zk) (h:LeD d) (n:ByteArray):Ze8 d n=some (lookS (Zdn d n)) :=
 Zbj9 _ _ _ (by simpa [Zdn] using Zbmx d h n 0 (Nat.zero_le _))
def forOk (d:Zk) (a:Atom):Bool:=match Zdn d a.Name with
 | none=>false
 | some t=>decide (t.Arity=(a.Vars.length:Int))
def qFor (d:Zk) (q:Zd):Bool:=Zn q.Zl q.Atoms && q.Atoms.all (forOk d)
theorem Zbmy (d:Zk) (h:LeD d) (q:Zd) (hq:LeQ q):∀ i,i≤q.Atoms.length→Zh2 d q.Atoms q.Atoms.length i=some (Bo ((q.Atoms.drop i).all (forOk d)),[]):=by
 refine down _ ?_ ?_
 ·refine Z4c _ _ _ _ _ ?_;rw [if_neg (by omega)];simp
 ·intro i hi ih;refine Z4c _ _ _ _ _ ?_;rw [if_pos (by omega),List.drop_eq_getElem_cons hi,List.all_cons,wS hi hq.1];refine ⟨by omega,_,gE hi,?_⟩;have hk:=Z7g d h q.Atoms[i].Name;unfold forOk at ih ⊢
  cases e:Zdn d q.Atoms[i].Name with
  | none =>
   rw [e] at hk
   refine .inl ⟨_,_,hk,by simp⟩
  | some t =>
   rw [e] at hk;refine .inr ⟨_,_,_,hk,?_⟩;by_cases e2:t.Arity=(q.Atoms[i].Vars.length:Int)
   ·rw [if_pos e2,ih];simp [e2]
   ·rw [if_neg e2];simp [e2]
@[simp] theorem Zxd (d:Zk) (h:LeD d) (q:Zd) (hq:LeQ q):Zh1 d q=some (Bo (qFor d q),[]):=by
 refine Zbil _ _ _ ⟨_,Zw6 q hq,?_⟩;unfold qFor;rcases tf (Zn q.Zl q.Atoms) with e | e
 ·rw [e];simp
 ·rw [e,if_pos rfl];have:=Zbmy d h q hq 0 (Nat.zero_le _);refine Eq.trans this ?_;simp
theorem Zbmz (d:Zk) (h:LeD d) (q:Zd) (hq:LeQ q):∀ i,i≤q.Atoms.length→Ziv d q i=some (Bo ((q.Atoms.drop i).all (forOk d)),[]):=by
 refine down _ ?_ ?_
 ·refine Z5u _ _ _ _ ?_;rw [if_neg (by omega)];simp
 ·intro i hi ih;refine Z5u _ _ _ _ ?_;rw [if_pos (by omega),List.drop_eq_getElem_cons hi,List.all_cons,wS hi hq.1];refine ⟨by omega,_,gE hi,?_⟩;have hk:=Z7h d h q.Atoms[i].Name;unfold forOk at ih ⊢
  cases e:Zdn d q.Atoms[i].Name with
  | none =>
   rw [e] at hk
   refine .inl ⟨_,_,_,hk,by simp⟩
  | some t =>
   rw [e] at hk;simp only [lookS] at hk;by_cases e3:t.Rows=[]
   ·rw [if_pos e3] at hk;refine .inl ⟨_,_,_,hk,?_⟩;rw [if_pos rfl];by_cases e2:t.Arity=(q.Atoms[i].Vars.length:Int)
    ·rw [if_pos e2,ih];simp [e2]
    ·rw [if_neg e2];simp [e2]
   ·rw [if_neg e3] at hk;refine .inr ⟨_,_,_,hk,?_⟩;by_cases e2:t.Arity=(q.Atoms[i].Vars.length:Int)
    ·rw [if_pos e2,ih];simp [e2]
    ·rw [if_neg e2];simp [e2]
@[simp] theorem Zxe (d:Zk) (h:LeD d) (q:Zd) (hq:LeQ q):Zgv d q=some (Bo (qFor d q),[]):=by
 refine Zbka _ _ _ ⟨_,Zp4 q hq,?_⟩;unfold qFor;rcases tf (Zn q.Zl q.Atoms) with e | e
 ·rw [e];simp
 ·rw [e,if_pos rfl];have:=Zbmz d h q hq 0 (Nat.zero_le _);refine Eq.trans this ?_;simp
def rowsA (d:Zk) (a:Atom):List (List Int):=match Zdn d a.Name with
 | none=>[]
 | some t=>t.Rows
theorem Zxf {α β:Type} (f:α→List β) (k:Nat) (hf:∀ x,(f x).length≤k):∀ l:List α,(l.flatMap f).length≤k*l.length
 | []=>by simp
 | x::l=>by rw [List.flatMap_cons,List.length_append,List.length_cons,Nat.mul_succ];have:=hf x;have:=Zxf f k hf l;omega
end Go.Proofs.YtgnfoghkbpkgjaaGreat
