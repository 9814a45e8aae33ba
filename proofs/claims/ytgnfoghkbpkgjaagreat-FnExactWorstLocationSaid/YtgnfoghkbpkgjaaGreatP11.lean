/-
  Parts of the proofs for this seat: G13 G14 V1 V2 V3 V4 V5 V6 OP AD MK.
-/
import Derived.Test.YtgnfoghkbpkgjaaGreatP7
import Derived.Test.YtgnfoghkbpkgjaaGreatP9
import Derived.Test.YtgnfoghkbpkgjaaGreatP10
set_option linter.unusedSimpArgs false
set_option linter.unusedVariables false
set_option maxRecDepth 100000
set_option maxHeartbeats 4000000
namespace Go.Proofs.YtgnfoghkbpkgjaaGreat
open Go.AM
theorem Zdv:(∀ x a a1 r,Im (Zvm x a a1=some r) ((∃ (v1_0:List Int),∃ v1_1,∃ v1_2,∃ v1_3,Zml x a a1=some (.tup [.agg [I v1_1,I v1_2,I v1_3,.t .nil],Bo false],[.arr 3 1 true (v1_0.map ic)])∧(some (I (-1),[.arr 3 1 true (v1_0.map ic)])=some r))∨(∃ (v2_0:List Int),∃ (v2_1:List Zb),∃ v2_2,∃ v2_3,∃ v2_4,Zml x a a1=some (.tup [.agg [I v2_2,I v2_3,I v2_4,.own 1],Bo true],[.arr 3 1 true (v2_0.map ic),.arr 194 3 true (v2_1.map Zb.c)])∧(some (I v2_4,[.arr 3 1 true (v2_0.map ic)])=some r)))) ∧
 (∀ a a1 a2 r,Im (Zmm a a1 a2=some r) (∃ (v1_0:List Int),Zeq a2=some (.own 0,[.arr 3 1 true (v1_0.map ic)])∧(∃ (v2_0:List Int),∃ v2_1,Zvm v1_0 a a1=some (I v2_1,[.arr 3 1 true (v2_0.map ic)])∧(some (I v2_1,[])=some r)))) ∧
 (∀ b out index i r,Im (Zmn b out index i=some r) (if 0≤i then (∃ e1,b.High[i.toNat]?=some e1∧(∃ e2,b.Low[i.toNat]?=some e2∧(¬ (w ((w (e1 - e2))+1))=0∧(∃ e3,out[i.toNat]?=some e3∧(Zmn b (out.set i.toNat (w (e2+(Int.tmod index (w ((w (e1 - e2))+1)))))) (w (Int.tdiv index (w ((w (e1 - e2))+1)))) (w (i - 1))=some r))))) else (if 0<index then (some (.tup [.own 0,Bo false],[.arr 3 1 true (([]:List Int).map ic)])=some r) else (some (.tup [.own 0,Bo true],[.arr 3 1 true (out.map ic)])=some r)))) ∧
 (∀ a a1 r,Im (Zhz a a1=some r) (∃ v1_0,Zhm a=some (Bo v1_0,[])∧(if v1_0=true then (if a1<0 then (some (.tup [.own 0,Bo false],[.arr 3 1 true (([]:List Int).map ic)])=some r) else (a.Low.length≤68719476736∧(Zmn a a.Low a1 (w ((a.Low.length:Int) - 1))=some r))) else (some (.tup [.own 0,Bo false],[.arr 3 1 true (([]:List Int).map ic)])=some r)))) ∧
 (∀ l cost i r,Im (Zmo l cost i=some r) (if i<(l.length:Int) then (0≤i∧(∃ e1,l[i.toNat]?=some e1∧(if cost≤e1 then (some (I i,[])=some r) else (Zmo l cost (w (i+1))=some r)))) else (some (I (-1),[])=some r))) ∧
 (∀ a a1 r,Im (Zj0 a a1=some r) (Zmo a a1 0=some r)) ∧
 (∀ a a1 a2 a3 a4 r,Im (Zpx a a1 a2 a3 a4=some r) (0≤a3∧(∃ e1,a2[a3.toNat]?=some e1∧(∃ (v2_0:Zi),Zc3 a a1=some (.agg (v2_0.c.map .t),[])∧(if e1.Left<0 then (0≤e1.Mask∧(∃ e3,a4[e1.Mask.toNat]?=some e3∧(∃ v4_0,Zcf v2_0 e3 0 e3=some (I v4_0,[])∧(some (I v4_0,[])=some r)))) else (if e1.Right<0 then (0≤e1.Left∧(∃ e5,a2[e1.Left.toNat]?=some e5∧(0≤e5.Mask∧(∃ e6,a4[e5.Mask.toNat]?=some e6∧(0≤e1.Mask∧(∃ e7,a4[e1.Mask.toNat]?=some e7∧(∃ v8_0,Zcf v2_0 e6 0 e7=some (I v8_0,[])∧(some (I v8_0,[])=some r)))))))) else (0≤e1.Left∧(∃ e9,a2[e1.Left.toNat]?=some e9∧(0≤e9.Mask∧(∃ e10,a4[e9.Mask.toNat]?=some e10∧(0≤e1.Right∧(∃ e11,a2[e1.Right.toNat]?=some e11∧(0≤e11.Mask∧(∃ e12,a4[e11.Mask.toNat]?=some e12∧(0≤e1.Mask∧(∃ e13,a4[e1.Mask.toNat]?=some e13∧(∃ v14_0,Zcf v2_0 e10 e12 e13=some (I v14_0,[])∧(some (I v14_0,[])=some r)))))))))))))))))) ∧
 (∀ m p out info sizes i r,Im (Zmp m p out info sizes i=some r) (if i<(info.length:Int) then (0≤i∧(∃ e1,p.Steps[i.toNat]?=some e1∧(∃ v2_0,Zpx m e1.Kind info i sizes=some (I v2_0,[])∧(out.length+1≤68719476736∧(Zmp m p (out++[v2_0]) info sizes (w (i+1))=some r))))) else (some (.own 0,[.arr 3 1 true (out.map ic)])=some r))) ∧
 (∀ a a1 a2 a3 r,Im (Zpy a a1 a2 a3=some r) (∃ (v1_0:List Zg),∃ v1_1,Zjn a1 a2=some (.tup [.own 0,Bo v1_1],[.arr 209 4 true (v1_0.map Zg.c)])∧(if v1_1=true then (∃ v2_0,Zhw a1 a3=some (Bo v2_0,[])∧(if v2_0=true then (Zmp a a2 ([]:List Int) v1_0 a3 0=some r) else (some (.own 0,[.arr 3 1 true (([]:List Int).map ic)])=some r))) else (some (.own 0,[.arr 3 1 true (([]:List Int).map ic)])=some r)))) ∧
 (∀ l n i r,Im (Zmq l n i=some r) (if i<(l.length:Int) then (0≤i∧(∃ e1,l[i.toNat]?=some e1∧(Zmq l (w (n+e1)) (w (i+1))=some r))) else (some (I n,[])=some r))) ∧
 (∀ a a1 a2 a3 r,Im (Zpz a a1 a2 a3=some r) (∃ (v1_0:List Int),Zpy a a1 a2 a3=some (.own 0,[.arr 3 1 true (v1_0.map ic)])∧(if (v1_0.length:Int)=0 then (some (I (-1),[])=some r) else (Zmq v1_0 0 0=some r)))) ∧
 (∀ a a1 a2 a3 r,Im (Zj1 a a1 a2 a3=some r) (∃ (v1_0:List Int),Zeq a3=some (.own 0,[.arr 3 1 true (v1_0.map ic)])∧(∃ v2_0,Zpz a a1 a2 v1_0=some (I v2_0,[])∧(some (I v2_0,[])=some r)))):=by
 and_intros
 all_goals intros
 all_goals unfold Im
 all_goals try simp only [Zvm,Zmm,Zmn,Zhz,Zmo,Zj0,Zpx,Zmp,Zpy,Zmq,Zpz,Zj1,Zml,Zd.c_def,Zi.c_def,Zc.c_def,Zeq,Zhm,Box.c_def,tI,Zc3,Zcf,Zg.c_def,Zjn,Zhw,Plan.c_def,mpl,dfs]
 all_goals try simp only [itb]
 all_goals try simp only [itf,gS,kk]
 all_goals repeat' first | refine exI fun _=>?_ | refine anJ fun _ _=>?_ | refine anI fun _=>?_ | refine orE2 ?_ ?_ | exact False.elim
 all_goals (intro h;first | refine runM Zbe2 rfl ?_ | refine run Zbe3 rfl ?_ | rw [EvL_eq Zvn.eq_1] | refine run Zbe4 rfl ?_ | rw [EvL_eq Zvp.eq_1] | refine run Zbe5 rfl ?_ | refine run Zbe6 rfl ?_ | rw [EvL_eq Zvr.eq_1] | refine run Zbe7 rfl ?_ | rw [EvL_eq Zvt.eq_1] | refine run Zbe8 rfl ?_ | refine run Zbe9 rfl ?_)
 all_goals (refine Eq.trans ?_ h;clear h;simp +decide [*,kk,Z2f,Z2g,Zvo,Z2h,Zvq,Z2i,Z2j,Zvs,Z2k,Zvu,Z2l,Z2m])
abbrev Zbir:=Zdv.1
abbrev Zbis:=Zdv.2.1
abbrev Z5j:=Zdv.2.2.1
abbrev Zbit:=Zdv.2.2.2.1
abbrev Z5k:=Zdv.2.2.2.2.1
abbrev Zbiu:=Zdv.2.2.2.2.2.1
abbrev Zbiv:=Zdv.2.2.2.2.2.2.1
abbrev Z5l:=Zdv.2.2.2.2.2.2.2.1
abbrev Zbiw:=Zdv.2.2.2.2.2.2.2.2.1
abbrev Z5m:=Zdv.2.2.2.2.2.2.2.2.2.1
abbrev Zbix:=Zdv.2.2.2.2.2.2.2.2.2.2.1
abbrev Zbiy:=Zdv.2.2.2.2.2.2.2.2.2.2.2
theorem Zdw:(∀ a a1 r,Im (Zmr a a1=some r) (∃ v1_0,Z2 a 0 1000000000000=some (Bo v1_0,[])∧(if v1_0=true then (∃ v2_0,Z2 a1 0 100=some (Bo v2_0,[])∧(if v2_0=true then (some (I (w (Int.tdiv (w (a*(w (100+a1)))) 100)),[])=some r) else (some (I (-1),[])=some r))) else (some (I (-1),[])=some r)))) ∧
 (∀ m q b k l i r,Im (Zmt m q b k l i=some r) (0≤k∧(∃ e1,b.Contours[k.toNat]?=some e1∧(if i<(e1.length:Int) then (0≤i∧(∃ e2,e1[i.toNat]?=some e2∧(0≤e2∧(∃ e3,b.Plans[e2.toNat]?=some e3∧(∃ v4_0,Zj1 m q e3 l=some (I v4_0,[])∧(∃ e5,b.Budgets[k.toNat]?=some e5∧(∃ v6_0,Zmr e5 b.Slack=some (I v6_0,[])∧(if v4_0≤v6_0 then (some (Bo true,[])=some r) else (Zmt m q b k l (w (i+1))=some r))))))))) else (some (Bo false,[])=some r))))) ∧
 (∀ a a1 a2 a3 a4 r,Im (Zms a a1 a2 a3 a4=some r) (Zmt a a1 a2 a3 a4 0=some r)) ∧
 (∀ m q b shapes full i r,Im (Zj2 m q b shapes full i=some r) (∃ v1_0,Zfh b.Box=some (I v1_0,[])∧(if i<v1_0 then (∃ (v2_0:List Int),∃ v2_1,Zhz b.Box i=some (.tup [.own 0,Bo v2_1],[.arr 3 1 true (v2_0.map ic)])∧(∃ (v3_0:List Int),Zeq v2_0=some (.own 0,[.arr 3 1 true (v3_0.map ic)])∧(∃ v4_0,∃ (v4_1:List Za),Zgb shapes v3_0 m q=some (.own 2,[.arr 257 3 true (shapes.map Zu.c),.arr 3 1 true (v3_0.map ic),.arr 145 4 v4_0 (v4_1.map Za.c)])∧((∃ v5_0 v5_1 v5_2,Zc4 v4_1 full=some (.tup [.agg [I v5_0,I v5_1,I v5_2,.t .nil],Bo false],[])∧(∃ v6_0,Zj0 b.Budgets v5_2=some (I v6_0,[])∧(if v6_0<0 then (some (Bo false,[])=some r) else (∃ v7_0,Zms m q b v6_0 v2_0=some (Bo v7_0,[])∧(if v7_0=true then (Zj2 m q b shapes full (w (i+1))=some r) else (some (Bo false,[])=some r))))))∨(∃ (v8_0:List Zb),∃ v8_1,∃ v8_2,∃ v8_3,Zc4 v4_1 full=some (.tup [.agg [I v8_1,I v8_2,I v8_3,.own 0],Bo true],[.arr 194 3 true (v8_0.map Zb.c)])∧(∃ v9_0,Zj0 b.Budgets v8_3=some (I v9_0,[])∧(if v9_0<0 then (some (Bo false,[])=some r) else (∃ v10_0,Zms m q b v9_0 v2_0=some (Bo v10_0,[])∧(if v10_0=true then (Zj2 m q b shapes full (w (i+1))=some r) else (some (Bo false,[])=some r)))))))))) else (some (Bo true,[])=some r)))) ∧
 (∀ a a1 a2 r,Im (Zmu a a1 a2=some r) (∃ v1_0,Zhj a=some (Bo v1_0,[])∧(if v1_0=true then (∃ v2_0,Zl7 a1 a2=some (Bo v2_0,[])∧(if v2_0=true then (∃ v3_0,Zcg a1=some (I v3_0,[])∧(∃ v4_0,Zhv a1 v3_0=some (Bo v4_0,[])∧(if v4_0=true then (∃ v5_0,Zmm a a1 a2.Box.Low=some (I v5_0,[])∧(∃ e6,a2.Budgets[0]?=some e6∧(if v5_0<e6 then (some (Bo false,[])=some r) else (∃ (v7_0:List Zu),Zfi a1=some (.own 0,[.arr 257 3 true (v7_0.map Zu.c)])∧(Zj2 a a1 a2 v7_0 v3_0 0=some r))))) else (some (Bo false,[])=some r)))) else (some (Bo false,[])=some r))) else (some (Bo false,[])=some r)))) ∧
 (∀ m q b location total x x1 x2 r,Im (Zj3 m q b location total x x1 x2=some r) (if x2<x1 then (0≤x2∧(∃ e1,x[x2.toNat]?=some e1∧(∃ e2,b.Budgets[x2.toNat]?=some e2∧(∃ v3_0,Zi9 e2 b.Slack=some (I v3_0,[])∧(Zmw m q b location total v3_0 x x1 x2 e1 (e1.length:Int) 0=some r))))) else (some (.tup [I 0,Bo false],[])=some r))) ∧
 (∀ m q b location total slack x x1 x2 x3 x4 x5 r,Im (Zmw m q b location total slack x x1 x2 x3 x4 x5=some r) (if x5<x4 then (0≤x5∧(∃ e1,x3[x5.toNat]?=some e1∧(0≤e1∧(∃ e2,b.Plans[e1.toNat]?=some e2∧(∃ v3_0,Zja m q e2 location=some (I v3_0,[])∧(if v3_0≤slack then (some (.tup [I (w (total+v3_0)),Bo true],[])=some r) else (Zmw m q b location (w (total+slack)) slack x x1 x2 x3 x4 (w (x5+1))=some r))))))) else (Zj3 m q b location total x x1 (w (x2+1))=some r))) ∧
 (∀ a a1 a2 a3 r,Im (Zmv a a1 a2 a3=some r) (Zj3 a a1 a2 a3 0 a2.Contours (a2.Contours.length:Int) 0=some r)) ∧
 (∀ a b c d r,Im (Zmx a b c d=some r) (¬ b=0∧(¬ d=0∧(if (w (Int.tdiv a b))=(w (Int.tdiv c d)) then (if (Int.tmod c d)=0 then (if 0<(Int.tmod a b) then (some (Bo (decide ((Int.tmod c d)=0)),[])=some r) else (some (Bo false,[])=some r)) else (if (Int.tmod a b)=0 then (if 0<(Int.tmod a b) then (some (Bo (decide ((Int.tmod c d)=0)),[])=some r) else (some (Bo false,[])=some r)) else (Zmx d (Int.tmod c d) b (Int.tmod a b)=some r))) else (some (Bo (decide ((w (Int.tdiv c d))<(w (Int.tdiv a b)))),[])=some r))))) ∧
 (∀ a a1 a2 a3 r,Im (Zp2 a a1 a2 a3=some r) (Zmx a a1 a2 a3=some r)) ∧
 (∀ m q b l n k r,Im (Zh0 m q b l n k=some r) (if k<(b.Budgets.length:Int) then (0≤k∧(∃ e1,b.Budgets[k.toNat]?=some e1∧(∃ v2_0,Zmr e1 b.Slack=some (I v2_0,[])∧(Zmz m q b l n k v2_0 0=some r)))) else (some (I (-1),[])=some r))) ∧
 (∀ m q b l n k budget i r,Im (Zmz m q b l n k budget i=some r) (0≤k∧(∃ e1,b.Contours[k.toNat]?=some e1∧(if i<(e1.length:Int) then (0≤i∧(∃ e2,e1[i.toNat]?=some e2∧(0≤e2∧(∃ e3,b.Plans[e2.toNat]?=some e3∧(∃ v4_0,Zj1 m q e3 l=some (I v4_0,[])∧(if v4_0≤budget then (some (I (w (n+v4_0)),[])=some r) else (Zmz m q b l (w (n+budget)) k budget (w (i+1))=some r))))))) else (Zh0 m q b l n (w (k+1))=some r))))):=by
 and_intros
 all_goals intros
 all_goals unfold Im
 all_goals try simp only [Zmr,Zmt,Zms,Zj2,Zmu,Zj3,Zmw,Zmv,Zmx,Zp2,Zh0,Zmz,Z2,Zj1,Zd.c_def,Zi.c_def,Plan.c_def,Zc.c_def,Zfh,Zhz,Zeq,Zgb,Zc4,Zj0,Zh.c_def,Box.c_def,Zu.c_def,Za.c_def,Zhj,Zl7,Zcg,Zhv,Zmm,Zfi,Zi9,Zja,mpl,dfs]
 all_goals try simp only [itb]
 all_goals try simp only [itf,gS,kk]
 all_goals repeat' first | refine exI fun _=>?_ | refine anJ fun _ _=>?_ | refine anI fun _=>?_ | refine orE2 ?_ ?_ | exact False.elim
 all_goals (intro h;first | refine run Zbfa rfl ?_ | rw [EvL_eq Zvv.eq_1] | refine run Zbfb rfl ?_ | rw [EvL_eq Zvx.eq_1] | refine run Zbfc rfl ?_ | rw [EvL_eq Zp0.eq_1] | rw [EvL_eq Zvz.eq_1] | refine run Zbfd rfl ?_ | rw [EvL_eq Zv1.eq_1] | refine run Zbfe rfl ?_ | rw [EvL_eq Zp3.eq_1] | rw [EvL_eq Zv2.eq_1])
 all_goals (refine Eq.trans ?_ h;clear h;simp +decide [*,kk,Z2n,Zvw,Z2o,Zvy,Z2p,Zp1,Zv0,Z2q,Z2r,Zp4,Zv3])
abbrev Zbiz:=Zdw.1
abbrev Z5n:=Zdw.2.1
abbrev Zbi0:=Zdw.2.2.1
abbrev Z5o:=Zdw.2.2.2.1
abbrev Zbi1:=Zdw.2.2.2.2.1
abbrev Z5p:=Zdw.2.2.2.2.2.1
abbrev Z5q:=Zdw.2.2.2.2.2.2.1
abbrev Zbi2:=Zdw.2.2.2.2.2.2.2.1
abbrev Zbi3:=Zdw.2.2.2.2.2.2.2.2.1
abbrev Zbi4:=Zdw.2.2.2.2.2.2.2.2.2.1
abbrev Z5r:=Zdw.2.2.2.2.2.2.2.2.2.2.1
abbrev Z5s:=Zdw.2.2.2.2.2.2.2.2.2.2.2
theorem Zwk:(∀ a a1 a2 a3 r,Im (Zmy a a1 a2 a3=some r) (Zh0 a a1 a2 a3 0 0=some r)) ∧
 (∀ a b c d k r,Im (Zm0 a b c d k=some r) (if k<30 then (¬ b=0∧(¬ d=0∧(if (w (Int.tdiv a b))=(w (Int.tdiv c d)) then (Zm0 (w ((w (a - (w ((w (Int.tdiv a b))*b))))*10)) b (w ((w (c - (w ((w (Int.tdiv c d))*d))))*10)) d (w (k+1))=some r) else (some (Bo (decide ((w (Int.tdiv c d))<(w (Int.tdiv a b)))),[])=some r)))) else (some (Bo false,[])=some r))) ∧
 (∀ a a1 a2 a3 r,Im (Zj4 a a1 a2 a3=some r) (Zm0 a a1 a2 a3 0=some r)):=by
 and_intros
 all_goals intros
 all_goals unfold Im
 all_goals try simp only [Zmy,Zm0,Zj4,Zh0,mpl,dfs]
 all_goals try simp only [itb]
 all_goals try simp only [itf,gS,kk]
 all_goals repeat' first | refine exI fun _=>?_ | refine anJ fun _ _=>?_ | refine anI fun _=>?_ | refine orE2 ?_ ?_ | exact False.elim
 all_goals (intro h;first | refine run Zbff rfl ?_ | rw [EvL_eq Zv4.eq_1] | refine run Zbfg rfl ?_)
 all_goals (refine Eq.trans ?_ h;clear h;simp +decide [*,kk,Z2s,Zv5,Z2t])
abbrev Zbi5:=Zwk.1
abbrev Z5t:=Zwk.2.1
abbrev Zbi6:=Zwk.2.2
theorem Z5u:(∀ m q b best shapes top least full i r,Im (Zgc m q b best shapes top least full i=some r) (∃ v1_0,Zfh b.Box=some (I v1_0,[])∧(if i<v1_0 then (∃ (v2_0:List Int),∃ v2_1,Zhz b.Box i=some (.tup [.own 0,Bo v2_1],[.arr 3 1 true (v2_0.map ic)])∧(∃ v3_0,Zmy m q b v2_0=some (I v3_0,[])∧(∃ (v4_0:List Int),Zeq v2_0=some (.own 0,[.arr 3 1 true (v4_0.map ic)])∧(∃ v5_0,∃ (v5_1:List Za),Zgb shapes v4_0 m q=some (.own 2,[.arr 257 3 true (shapes.map Zu.c),.arr 3 1 true (v4_0.map ic),.arr 145 4 v5_0 (v5_1.map Za.c)])∧((∃ v6_0 v6_1 v6_2,Zc4 v5_1 full=some (.tup [.agg [I v6_0,I v6_1,I v6_2,.t .nil],Bo false],[])∧(∃ v7_0,Zj4 v3_0 v6_2 top least=some (Bo v7_0,[])∧(if v7_0=true then (Zgc m q b v2_0 shapes v3_0 v6_2 full (w (i+1))=some r) else (Zgc m q b best shapes top least full (w (i+1))=some r))))∨(∃ (v8_0:List Zb),∃ v8_1,∃ v8_2,∃ v8_3,Zc4 v5_1 full=some (.tup [.agg [I v8_1,I v8_2,I v8_3,.own 0],Bo true],[.arr 194 3 true (v8_0.map Zb.c)])∧(∃ v9_0,Zj4 v3_0 v8_3 top least=some (Bo v9_0,[])∧(if v9_0=true then (Zgc m q b v2_0 shapes v3_0 v8_3 full (w (i+1))=some r) else (Zgc m q b best shapes top least full (w (i+1))=some r))))))))) else (some (.tup [.own 0,Bo true],[.arr 3 1 true (best.map ic)])=some r)))) ∧
 (∀ a a1 a2 r,Im (Zp5 a a1 a2=some r) (∃ v1_0,Zmu a a1 a2=some (Bo v1_0,[])∧(if v1_0=true then (∃ (v2_0:List Zu),Zfi a1=some (.own 0,[.arr 257 3 true (v2_0.map Zu.c)])∧(∃ v3_0,Zcg a1=some (I v3_0,[])∧(Zgc a a1 a2 ([]:List Int) v2_0 0 1 v3_0 0=some r))) else (some (.tup [.own 0,Bo false],[.arr 3 1 true (([]:List Int).map ic)])=some r)))):=by
 and_intros
 all_goals intros
 all_goals unfold Im
 all_goals try simp only [Zgc,Zp5,Zfh,Zhz,Zmy,Zeq,Zgb,Zc4,Zj4,Zh.c_def,Box.c_def,Zu.c_def,Zd.c_def,Zi.c_def,Plan.c_def,Za.c_def,Zc.c_def,Zmu,Zfi,Zcg,mpl,dfs]
 all_goals try simp only [itb]
 all_goals try simp only [itf,gS,kk]
 all_goals repeat' first | refine exI fun _=>?_ | refine anJ fun _ _=>?_ | refine anI fun _=>?_ | refine orE2 ?_ ?_ | exact False.elim
 all_goals (intro h;first | rw [EvL_eq Zv6.eq_1] | refine run Zbfh rfl ?_)
 all_goals (refine Eq.trans ?_ h;clear h;simp +decide [*,kk,Z2u,Zv7,Z2v])
abbrev Z5v:=Z5u.1
abbrev Z5w:=Z5u.2
@[simp] theorem Zcw (a b c:Int):Zw a b c=some (Bo (inR a b c),[]):=by
 refine Zbfi _ _ _ _ ?_
 by_cases h:b≤a <;> simp [inR,h]
@[simp] theorem Zfl (a b c:Int):Z2 a b c=some (Bo (inR a b c),[]):=by
 refine Zbhb _ _ _ _ ?_
 by_cases h:b≤a <;> simp [inR,h]
theorem lIndexI (xs:List Int) (v:Int) (hx:Le xs):∀ i,i≤xs.length →
  Zky xs v xs.length i=some (I (Zbf (fun x=>decide (v=x)) (xs.drop i) i),[]):=by
 refine down _ ?_ ?_
 ·refine Z2y _ _ _ _ _ ?_
  simp [Zbf]
 ·intro i hi ih
  refine Z2y _ _ _ _ _ ?_
  have h4:=inc64 (i:=i) (by omega)
  rw [Zku _ hi]
  simp at ih
  by_cases e:v=xs[i] <;> simp [hi,h4,e,ih]
@[simp] theorem xIndexI (xs:List Int) (v:Int) (hx:Le xs):Zoc xs v=some (I (Zbf (fun x=>decide (v=x)) xs 0),[]):=by
 refine Zbfk _ _ _ ?_
 have:=lIndexI xs v hx 0 (Nat.zero_le _)
 simpa using this
@[simp] theorem Zj7 (xs:List Int) (v:Int) (hx:Le xs):Zdc xs v=some (Bo (has xs v),[]):=by
 refine Zbfl _ _ _ ?_
 unfold has
 rcases tf (xs.any (fun x=>decide (v=x))) with e | e
 ·simp [hx,Zrm _ _ _ e,e]
 ·have:=Zrn _ _ 0 e
  simp [hx,this,e]
theorem lIndexB (xs:List Bool) (v:Bool) (hx:Le xs):∀ i,i≤xs.length →
  Zkz xs v xs.length i=some (I (Zbf (fun x=>v == x) (xs.drop i) i),[]):=by
 refine down _ ?_ ?_
 ·refine Z2z _ _ _ _ _ ?_
  simp [Zbf]
 ·intro i hi ih
  refine Z2z _ _ _ _ _ ?_
  have h4:=inc64 (i:=i) (by omega)
  rw [Zku _ hi]
  simp at ih
  by_cases e:v=xs[i] <;> simp [hi,h4,e,ih]
@[simp] theorem Zbi7 (xs:List Bool) (v:Bool) (hx:Le xs):Zoe xs v=some (Bo (xs.any (fun x=>v == x)),[]):=by
 refine Zbfn _ _ _ ?_
 have q:Zod xs v=some (I (Zbf (fun x=>v == x) xs 0),[]):=by
  refine Zbfm _ _ _ ?_
  have:=lIndexB xs v hx 0 (Nat.zero_le _)
  simpa using this
 rcases tf (xs.any (fun x=>v == x)) with e | e
 ·rw [Zrm _ _ _ e] at q
  rw [e];simp [q]
 ·have:=Zrn _ _ 0 e
  rw [e];simp [q,this]
theorem l_l7Has (xs:List Int) (v:Int) (hx:Le xs):∀ i,i≤xs.length→Zl0 xs v i=some (Bo (has (xs.drop i) v),[]):=by
 unfold has
 refine down _ ?_ ?_
 ·refine Z4s _ _ _ _ ?_
  simp
 ·intro i hi ih
  refine Z4s _ _ _ _ ?_
  have h4:=inc64 (i:=i) (by omega)
  rw [drop_any _ hi]
  simp at ih
  by_cases e:v=xs[i]
  ·simp [hi,h4,← e]
  ·have e':¬ xs[i]=v:=fun hc=>e hc.symm
   simp [hi,h4,e,e',ih]
@[simp] theorem Zwl (xs:List Int) (v:Int) (hx:Le xs):Zf7 xs v=some (Bo (has xs v),[]):=by
 refine Zbhn _ _ _ ?_
 have:=l_l7Has xs v hx 0 (Nat.zero_le _)
 simpa using this
theorem nm_aux (s:ByteArray) (P:Prop):(if (s.size:Int)=1 then (∃ (b1:UInt8),s[0]?=some b1∧(if 97≤(b1.toNat:Int) then (some (Bo (decide ((b1.toNat:Int)≤122)),[])=some (Bo (nmOk s),([]:List Blk))) else (some (Bo false,[])=some (Bo (nmOk s),([]:List Blk))))) else (some (Bo false,[])=some (Bo (nmOk s),([]:List Blk)))):=by
 by_cases h:s.size=1
 ·obtain ⟨b,hb⟩:=get0 h
  rw [if_pos (by omega)]
  refine ⟨b,hb,?_⟩
  have e:nmOk s=(decide (97≤(b.toNat:Int)) && decide ((b.toNat:Int)≤122)):=by
   unfold nmOk;rw [hb];simp only [h,decide_true,Bool.true_and]
  by_cases h1:(97:Int)≤(b.toNat:Int)
  ·rw [if_pos h1,e,decide_eq_true h1,Bool.true_and]
  ·rw [if_neg h1,e,decide_eq_false h1,Bool.false_and]
 ·have h':¬ (s.size:Int)=1:=by omega
  have:nmOk s=false:=by unfold nmOk;split <;> simp [h]
  simp [h',this]
@[simp] theorem x_nameOk (s:ByteArray):Zob s=some (Bo (nmOk s),[]):=Zbfj _ _ (nm_aux s True)
@[simp] theorem x_l4Name (s:ByteArray):Zpc s=some (Bo (nmOk s),[]):=Zbhm _ _ (nm_aux s True)
def LeQ (q:Zc):Prop:=Le q.Atoms∧∀ a∈q.Atoms,Le a.Vars
def blB (p:Nat→Bool) (n:Nat):List Bool:=(List.range n).map p
theorem blB_set (p:Nat→Bool) (n:Nat) {v:Int} (h:inR v 0 ((n:Int) - 1)=true):(blB p n).set v.toNat true=blB (addV p [v]) n:=by
 simp [inR] at h
 apply List.ext_getElem
 ·simp [blB]
 ·intro i h1 h2
  simp only [blB,List.length_set,List.length_map,List.length_range] at h1
  rw [List.getElem_set]
  simp only [blB,List.getElem_map,List.getElem_range]
  by_cases e:v.toNat=i
  ·have:(i:Int)=v:=by omega
   simp [e,addV,has,this]
  ·have:¬ (i:Int)=v:=by omega
   simp [e,addV,has,this]
theorem Zbi8 (q:Zc) (n:Nat) (hn:n≤4) (hq:q.Ze=n) (a:Atom) (qa:List Atom) (l j:Int) (hv:Le a.Vars) (r:AV×List Blk):∀ k,k≤a.Vars.length→∀ p,
  (if Zbj n (a.Vars.take k) (a.Vars.drop k)=true then Zgv q (blB (addV p (a.Vars.drop k)) n) qa l (w (j+1))=some r else some (Bo false,[])=some r) →
  Zk0 q (blB p n) a qa l j a.Vars a.Vars.length k=some r:=by
 refine down _ ?_ ?_
 ·intro p h
  refine Z21 _ _ _ _ _ _ _ _ _ _ ?_
  simpa [Zbj,Zrk] using h
 ·intro k hk ih p h
  have h4:=inc64 (i:=k) (by omega)
  have hw:w (q.Ze - 1)=(n:Int) - 1:=by rw [hq];exact wrap64 (by omega) (by omega)
  have hl:=Zj7 (a.Vars.take k) a.Vars[k] (by simp;omega)
  refine Z21 _ _ _ _ _ _ _ _ _ _ ?_
  rw [Zn3 _ hk] at h
  rcases tf (inR a.Vars[k] 0 ((n:Int) - 1)) with e1 | e1
  ·simp [e1] at h
   simp [hk,h4,hw,e1,← h]
  ·rcases tf (has (a.Vars.take k) a.Vars[k]) with e2 | e2
   ·rw [Zrl p hk] at h
    simp only [e1,e2,Bool.true_and,Bool.not_false] at h
    have ih:=ih _ h
    have e0:=e1
    simp [inR] at e0
    have e5:(a.Vars[k]).toNat<(blB p n).length:=by simp [blB];omega
    have e6:=blB_set p n e1
    have e7:k≤a.Vars.length:=by omega
    simp at ih
    simp [hk,h4,hw,e1,e2,hl,e0,e5,e6,e7,ih]
   ·simp [e1,e2] at h
    have e7:k≤a.Vars.length:=by omega
    simp [hk,h4,hw,e1,e2,hl,e7,← h]
theorem Zbi9 (q:Zc) (n:Nat) (hn:n≤4) (hq:q.Ze=n) (qa:List Atom) (hl:Le qa) (hv:∀ a∈qa,Le a.Vars):∀ k,k≤qa.length→∀ p,
  Zgv q (blB p n) qa qa.length k=some (Bo ((qa.drop k).all (Zbu n) && (List.range n).all (addA p (qa.drop k))),[]):=by
 refine down _ ?_ ?_
 ·intro p
  refine Z20 _ _ _ _ _ _ ?_
  have e:addA p []=p:=by funext u;simp [addA]
  have q1:=Zbi7 (blB p n) false (by simp [blB];omega)
  have q2:(blB p n).any (fun x=>false == x)=!(List.range n).all p:=bl_any p n
  rw [q2] at q1
  simp [q1,e]
 ·intro k hk ih p
  refine Z20 _ _ _ _ _ _ ?_
  have h4:=inc64 (i:=k) (by omega)
  rw [Ze2 _ hk]
  rcases tf (nmOk qa[k].Name) with e1 | e1
  ·simp [hk,e1,Zbu]
  rcases tf (inR qa[k].Vars.length 1 3) with e2 | e2
  ·simp [hk,e1,e2,Zbu]
  have b:=Zbi8 q n hn hq qa[k] qa qa.length k (hv _ (List.getElem_mem hk)) (Bo (Zbu n qa[k] && (qa.drop (k+1)).all (Zbu n) && (List.range n).all (addA p (qa.drop k))),[]) 0 (Nat.zero_le _) p ?_
  ·simp at b
   simp [hk,e1,e2,b]
  ·simp only [List.take_zero,List.drop_zero,Zbu,e1,e2,Bool.true_and]
   rcases tf (Zbj n [] qa[k].Vars) with e3 | e3
   ·simp [e3]
   ·have ih:=ih (addV p qa[k].Vars)
    simp only [e3,if_true,Bool.true_and,Zx6 p hk]
    simp at ih
    rw [show w ((k:Int)+1)=(k:Int)+1 from h4,ih]
@[simp] theorem Zm5 (q:Zc) (h:LeQ q):Zdd q=some (Bo (Zn q.Ze q.Atoms),[]):=by
 refine Zbfw _ _ ?_
 unfold Zn
 rcases tf (inR q.Ze 1 4) with e1 | e1
 ·simp [e1]
 rcases tf (inR q.Atoms.length 1 4) with e2 | e2
 ·simp [e1,e2]
 have e0:=e1
 simp [inR] at e0
 have hn:q.Ze=(q.Ze.toNat:Int):=by omega
 have b:=Zbi9 q q.Ze.toNat (by omega) hn q.Atoms h.1 h.2 0 (Nat.zero_le _) (fun _=>false)
 have r1:q.Ze.toNat≤room:=room2 (by omega)
 have r2:q.Ze≤room:=by
  have:(q.Ze.toNat:Int)≤room:=by exact_mod_cast r1
  omega
 have r3:q.Ze≤140737488355328:=by omega
 have ez:blB (fun _=>false) q.Ze.toNat=List.replicate q.Ze.toNat false:=by
  apply List.ext_getElem <;> simp [blB]
 rw [ez,← hn] at b
 simp at b
 simp [e1,e2,e0,r1,r2,r3,b]
 omega
theorem Zbja (q:Zc) (n:Nat) (hn1:1≤n) (hn:n≤4) (hq:q.Ze=n) (a:Atom) (j:Int) (hv:Le a.Vars) (r:AV×List Blk):∀ k,k≤a.Vars.length→∀ p,
  (if Zbj n (a.Vars.take k) (a.Vars.drop k)=true then Zhk q (Zz (addV p (a.Vars.drop k))) (w (j+1))=some r else some (Bo false,[])=some r) →
  Zl1 q a (Zz p) j k=some r:=by
 refine down _ ?_ ?_
 ·intro p h
  refine Z4u _ _ _ _ _ _ ?_
  simpa [Zbj,Zrk] using h
 ·intro k hk ih p h
  have h4:=inc64 (i:=k) (by omega)
  have hw:w (q.Ze - 1)=(n:Int) - 1:=by rw [hq];exact wrap64 (by omega) (by omega)
  have hl:=Zwl (a.Vars.take k) a.Vars[k] (by simp;omega)
  have e7:k≤a.Vars.length:=by omega
  refine Z4u _ _ _ _ _ _ ?_
  rw [Zn3 _ hk] at h
  rcases tf (inR a.Vars[k] 0 ((n:Int) - 1)) with e1 | e1
  ·simp [e1] at h
   simp [hk,h4,hw,e1,← h]
  ·rcases tf (has (a.Vars.take k) a.Vars[k]) with e2 | e2
   ·rw [Zrl p hk] at h
    simp only [e1,e2,Bool.true_and,Bool.not_false] at h
    have ih:=ih _ h
    have e0:=e1
    simp [inR] at e0
    have e6:=Zn2 p (v:=a.Vars[k]) (by simp [inR];omega)
    have e8:¬ a.Vars[k]<0:=by omega
    simp at ih
    simp [hk,h4,hw,e1,e2,hl,e0,e6,e7,e8,ih]
   ·simp [e1,e2] at h
    simp [hk,h4,hw,e1,e2,hl,e7,← h]
def Zm6 (n:Int) (p:Nat→Bool):Bool:=decide (Zz p=w (shlI 1 n - 1))
theorem Zbjb (q:Zc) (n:Nat) (hn1:1≤n) (hn:n≤4) (hq:q.Ze=n) (hl:Le q.Atoms) (hv:∀ a∈q.Atoms,Le a.Vars):∀ k,k≤q.Atoms.length→∀ p,
  Zhk q (Zz p) k=some (Bo ((q.Atoms.drop k).all (Zbu n) && Zm6 n (addA p (q.Atoms.drop k))),[]):=by
 refine down _ ?_ ?_
 ·intro p
  refine Z4t _ _ _ _ ?_
  have e:addA p []=p:=by funext u;simp [addA]
  have h0:¬ (n:Int)<0:=by omega
  simp [e,hq,h0,Zm6]
 ·intro k hk ih p
  refine Z4t _ _ _ _ ?_
  have h4:=inc64 (i:=k) (by omega)
  rw [Ze2 _ hk]
  rcases tf (nmOk q.Atoms[k].Name) with e1 | e1
  ·simp [hk,e1,Zbu]
  rcases tf (inR q.Atoms[k].Vars.length 1 3) with e2 | e2
  ·simp [hk,e1,e2,Zbu]
  have b:=Zbja q n hn1 hn hq q.Atoms[k] k (hv _ (List.getElem_mem hk)) (Bo (Zbu n q.Atoms[k] && (q.Atoms.drop (k+1)).all (Zbu n) && Zm6 n (addA p (q.Atoms.drop k))),[]) 0 (Nat.zero_le _) p ?_
  ·simp at b
   simp [hk,e1,e2,b]
  ·simp only [List.take_zero,List.drop_zero,Zbu,e1,e2,Bool.true_and]
   rcases tf (Zbj n [] q.Atoms[k].Vars) with e3 | e3
   ·simp [e3]
   ·have ih:=ih (addV p q.Atoms[k].Vars)
    simp only [e3,if_true,Bool.true_and,Zx6 p hk]
    simp at ih
    rw [show w ((k:Int)+1)=(k:Int)+1 from h4,ih]
@[simp] theorem Zp7 (q:Zc) (h:LeQ q):Zep q=some (Bo (Zn q.Ze q.Atoms),[]):=by
 refine Zbho _ _ ?_
 unfold Zn
 rcases tf (inR q.Ze 1 4) with e1 | e1
 ·simp [e1]
 rcases tf (inR q.Atoms.length 1 4) with e2 | e2
 ·simp [e1,e2]
 have e0:=e1
 simp [inR] at e0
 obtain ⟨k,hk⟩:∃ k:Nat,q.Ze=k:=⟨q.Ze.toNat,by omega⟩
 have b:=Zbjb q k (by omega) (by omega) hk h.1 h.2 0 (Nat.zero_le _) (fun _=>false)
 have ez:Zz (fun _=>false)=0:=rfl
 rw [ez] at b
 simp only [List.drop_zero,Int.ofNat_zero] at b
 have e3:(q.Atoms.all (Zbu k) && Zm6 k (addA (fun _=>false) q.Atoms))=(q.Atoms.all (Zbu k) && (List.range k).all (addA (fun _=>false) q.Atoms)):=by
  rcases tf (q.Atoms.all (Zbu k)) with e3 | e3
  ·simp [e3]
  ·have hk':k=1∨k=2∨k=3∨k=4:=by omega
   have hz:=all_in e3
   have hz':∀ u:Nat,k≤u→addA (fun _=>false) q.Atoms u=false:=fun u hu=>by simp only [addA,Bool.false_or];exact hz u (by omega)
   rw [e3,Bool.true_and,Bool.true_and,Bool.eq_iff_iff,Zm6,decide_eq_true_eq,Zz]
   rcases hk' with rfl | rfl | rfl | rfl
   ·simp [shlI,wrap64,Zn4,hz' 1 (by omega),hz' 2 (by omega),hz' 3 (by omega),List.range_succ]
   ·simp [shlI,wrap64,Zn4,hz' 2 (by omega),hz' 3 (by omega),List.range_succ]
   ·simp [shlI,wrap64,Zn4,hz' 3 (by omega),List.range_succ,and_assoc]
   ·simp [shlI,wrap64,Zn4,List.range_succ,and_assoc]
 rw [e3] at b
 rw [hk] at e1
 simp only [Zfl,Option.some.injEq,Prod.mk.injEq,AV.t.injEq,T.bool.injEq,and_true,exists_eq_left',e1,e2,if_true,b,hk,Int.toNat_natCast]
 simp
@[simp] theorem Zgg (q:Zc) (h:LeQ q):Zcd q=some (I (Zr q.Ze q.Atoms),[]):=by
 refine Zbfs _ _ ?_
 have q1:=Zm5 q h
 unfold Zr
 rcases tf (Zn q.Ze q.Atoms) with e | e
 ·simp [q1,e]
 ·have:=(Zgp e).2.2.1
  have h0:¬ ((q.Atoms.length:Int)<0):=by omega
  simp [q1,e,this,h0]
@[simp] theorem Zh2 (q:Zc) (h:LeQ q):Zcg q=some (I (Zr q.Ze q.Atoms),[]):=by
 refine Zbhp _ _ ?_
 have q1:=Zp7 q h
 unfold Zr
 rcases tf (Zn q.Ze q.Atoms) with e | e
 ·simp [q1,e]
 ·have:=(Zgp e).2.2.1
  have h0:¬ ((q.Atoms.length:Int)<0):=by omega
  simp [q1,e,this,h0]
theorem Zbjc (xs:List Int) (hx:Le xs):∀ i,i≤xs.length→Zl2 xs i=some (Bo (Zej (xs.drop i) && decide ((xs.length:Int)≤16)),[]):=by
 refine down _ ?_ ?_
 ·refine Z4v _ _ _ ?_
  simp [Zej]
 ·intro i hi ih
  refine Z4v _ _ _ ?_
  have h4:=inc64 (i:=i) (by omega)
  rw [Zx3 hi]
  simp at ih
  rcases tf (inR xs[i] 0 7) with h | h <;> simp [hi,h4,h,ih]
@[simp] theorem Zp8 (xs:List Int) (hx:Le xs):Zhl xs=some (Bo (Zy xs),[]):=by
 refine Zbhq _ _ ?_
 have:=Zbjc xs hx 0 (Nat.zero_le _)
 simpa [Zy] using this
theorem Zbjd (xs:List Int) (hx:Le xs):∀ i,i≤xs.length→Zk1 xs xs xs.length i=some (Bo (Zej (xs.drop i) && decide ((xs.length:Int)≤16)),[]):=by
 refine down _ ?_ ?_
 ·refine Z22 _ _ _ _ _ ?_
  simp [Zej]
 ·intro i hi ih
  refine Z22 _ _ _ _ _ ?_
  have h4:=inc64 (i:=i) (by omega)
  rw [Zx3 hi]
  simp at ih
  rcases tf (inR xs[i] 0 7) with h | h <;> simp [hi,h4,h,ih]
@[simp] theorem Zp9 (xs:List Int) (hx:Le xs):Zfr xs=some (Bo (Zy xs),[]):=by
 refine Zbfo _ _ ?_
 have:=Zbjd xs hx 0 (Nat.zero_le _)
 simpa [Zy] using this
theorem Zbje (xs ys:List Int) (hx:Le xs) (hl:ys.length=xs.length):∀ i,i≤xs.length→Zl3 xs ys i=some (Bo (Zc9 (xs.drop i) (ys.drop i)),[]):=by
 refine down _ ?_ ?_
 ·refine Z4w _ _ _ _ ?_
  simp [Zc9]
 ·intro i hi ih
  refine Z4w _ _ _ _ ?_
  have hi2:i<ys.length:=by omega
  have h4:=inc64 (i:=i) (by omega)
  rw [Zx4 hi hi2]
  simp at ih
  by_cases h:xs[i]<ys[i]
  ·simp [hi,hi2,h4,h,show ¬ ys[i]≤xs[i] by omega]
  ·simp [hi,hi2,h4,h,show ys[i]≤xs[i] by omega,ih]
@[simp] theorem Zbjf (xs ys:List Int) (hx:Le xs):Zpf xs ys=some (Bo (dom xs ys),[]):=by
 refine Zbhr _ _ _ ?_
 by_cases hl:ys.length=xs.length
 ·have:=Zbje xs ys hx hl 0 (Nat.zero_le _)
  simp at this
  simp [hl,this,dom]
 ·have h2:¬ ((xs.length:Int)=ys.length):=by omega
  have h1:¬ (xs.length=ys.length):=by omega
  simp [h1,h2,dom]
theorem Zbjg (xs ys:List Int) (hx:Le xs) (hl:ys.length=xs.length):∀ i,i≤xs.length→Zk2 xs ys xs.length i=some (Bo (Zc9 (xs.drop i) (ys.drop i)),[]):=by
 refine down _ ?_ ?_
 ·refine Z23 _ _ _ _ _ ?_
  simp [Zc9]
 ·intro i hi ih
  refine Z23 _ _ _ _ _ ?_
  have hi2:i<ys.length:=by omega
  have h4:=inc64 (i:=i) (by omega)
  rw [Zx4 hi hi2]
  simp at ih
  by_cases h:xs[i]<ys[i]
  ·simp [hi,hi2,h4,h,show ¬ ys[i]≤xs[i] by omega]
  ·simp [hi,hi2,h4,h,show ys[i]≤xs[i] by omega,ih]
@[simp] theorem Zbjh (xs ys:List Int) (hx:Le xs):Zoi xs ys=some (Bo (dom xs ys),[]):=by
 refine Zbfp _ _ _ ?_
 by_cases hl:ys.length=xs.length
 ·have:=Zbjg xs ys hx hl 0 (Nat.zero_le _)
  simp at this
  simp [hl,this,dom]
 ·have h2:¬ ((xs.length:Int)=ys.length):=by omega
  have h1:¬ (xs.length=ys.length):=by omega
  simp [h1,h2,dom]
def LeX (b:Box):Prop:=Le b.Low∧Le b.High
@[simp] theorem Z5x (b:Box) (h:LeX b):Zik b=some (Bo (Z8 b.Low b.High),[]):=by
 refine Zbfq _ _ ?_
 have q1:=Zp9 b.Low h.1
 have q2:=Zp9 b.High h.2
 have q3:=Zbjh b.High b.Low h.2
 unfold Z8
 rcases tf (Zy b.Low) with e1 | e1 <;> rcases tf (Zy b.High) with e2 | e2 <;> by_cases e3:0<b.Low.length <;> simp [q1,q2,q3,e1,e2,e3]
@[simp] theorem Z5y (b:Box) (h:LeX b):Zhm b=some (Bo (Z8 b.Low b.High),[]):=by
 refine Zbhs _ _ ?_
 have q1:=Zp8 b.Low h.1
 have q2:=Zp8 b.High h.2
 have q3:=Zbjf b.High b.Low h.2
 unfold Z8
 rcases tf (Zy b.Low) with e1 | e1 <;> rcases tf (Zy b.High) with e2 | e2 <;> by_cases e3:0<b.Low.length <;> simp [q1,q2,q3,e1,e2,e3]
theorem Z5z (b:Box) (hv:Z8 b.Low b.High=true):∀ i,i≤b.Low.length→∀ n:Int,1≤n→n≤8 ^ i →
  Zk3 b n b.Low.length i=some (I (n*vol (b.Low.drop i) (b.High.drop i)),[]):=by
 obtain ⟨b1,b2,b3,b4⟩:=Zc0 hv
 refine down _ ?_ ?_
 ·intro n _ _
  refine Z24 _ _ _ _ _ ?_
  rw [List.drop_length,← b1,List.drop_length,Zrt]
  simp
 ·intro i hi0 ih n hn1 hn2
  refine Z24 _ _ _ _ _ ?_
  have h5:=inc64 (i:=i) (by omega)
  have hi2:i<b.High.length:=by omega
  obtain ⟨g1,g2,g3⟩:=b4 i hi0 hi2
  have p1:=pow8 (i:=i+1) (by omega)
  have p2:(8:Int) ^ (i+1)=8 ^ i*8:=Int.pow_succ 8 i
  have hd:(b.High[i] - b.Low[i]+1)≤8:=by omega
  have hd1:1≤(b.High[i] - b.Low[i]+1):=by omega
  have m1:n*(b.High[i] - b.Low[i]+1)≤8 ^ i*8:=Int.mul_le_mul hn2 hd (by omega) (by omega)
  have m2:1≤n*(b.High[i] - b.Low[i]+1):=by
   have:=Int.mul_le_mul hn1 hd1 (by omega) (by omega)
   omega
  have w1:IntKind.wrap .i64 (b.High[i] - b.Low[i])=b.High[i] - b.Low[i]:=wrap64 (by omega) (by omega)
  have w2:IntKind.wrap .i64 (b.High[i] - b.Low[i]+1)=b.High[i] - b.Low[i]+1:=wrap64 (by omega) (by omega)
  have w3:IntKind.wrap .i64 (n*(b.High[i] - b.Low[i]+1))=n*(b.High[i] - b.Low[i]+1):=wrap64 (by omega) (by omega)
  have ih:=ih (n*(b.High[i] - b.Low[i]+1)) m2 (by omega)
  rw [Zru hi0 hi2,← Int.mul_assoc]
  simp at ih
  simp [hi0,hi2,h5,w1,w2,w3,ih]
@[simp] theorem Zwm (b:Box) (h:LeX b):Zgx b=some (I (Z7 b.Low b.High),[]):=by
 refine Zbfr _ _ ?_
 have q1:=Z5x b h
 unfold Z7
 rcases tf (Z8 b.Low b.High) with e | e
 ·simp [q1,e]
 ·have q2:=Z5z b e 0 (Nat.zero_le _) 1 (by omega) (by decide)
  have q3:Zgw b=some (I (vol b.Low b.High),[]):=Z25 _ _ (by simpa using q2)
  simp [q1,q3,e,capV]
theorem Zbji (b:Box) (hv:Z8 b.Low b.High=true):∀ i,i≤b.Low.length→∀ n:Int,1≤n →
  Zl4 b (capV n) i=some (I (capV (n*vol (b.Low.drop i) (b.High.drop i))),[]):=by
 obtain ⟨b1,b2,b3,b4⟩:=Zc0 hv
 refine down _ ?_ ?_
 ·intro n _
  refine Z4x _ _ _ _ ?_
  rw [List.drop_length,← b1,List.drop_length,Zrt]
  simp [b1]
 ·intro i hi0 ih n hn1
  refine Z4x _ _ _ _ ?_
  have h5:=inc64 (i:=i) (by omega)
  have hi2:i<b.High.length:=by omega
  obtain ⟨g1,g2,g3⟩:=b4 i hi0 hi2
  have hd:(b.High[i] - b.Low[i]+1)≤8:=by omega
  have hd1:1≤(b.High[i] - b.Low[i]+1):=by omega
  obtain ⟨c1,c2⟩:=cap_le hn1
  have m1:capV n*(b.High[i] - b.Low[i]+1)≤401*8:=Int.mul_le_mul c2 hd (by omega) (by omega)
  have m2:1*1≤capV n*(b.High[i] - b.Low[i]+1):=Int.mul_le_mul c1 hd1 (by omega) (by omega)
  have m3:1*1≤n*(b.High[i] - b.Low[i]+1):=Int.mul_le_mul hn1 hd1 (by omega) (by omega)
  have w1:IntKind.wrap .i64 (b.High[i] - b.Low[i])=b.High[i] - b.Low[i]:=wrap64 (by omega) (by omega)
  have w2:IntKind.wrap .i64 (b.High[i] - b.Low[i]+1)=b.High[i] - b.Low[i]+1:=wrap64 (by omega) (by omega)
  have w3:IntKind.wrap .i64 (capV n*(b.High[i] - b.Low[i]+1))=capV n*(b.High[i] - b.Low[i]+1):=wrap64 (by omega) (by omega)
  have ih:=ih (n*(b.High[i] - b.Low[i]+1)) (by omega)
  rw [← cap_mul hn1 hd1] at ih
  rw [Zru hi0 hi2,← Int.mul_assoc]
  simp at ih
  simp [hi0,hi2,h5,w1,w2,w3,cap_flip,ih]
@[simp] theorem Zm7 (b:Box) (h:LeX b):Zfh b=some (I (Z7 b.Low b.High),[]):=by
 refine Zbht _ _ ?_
 have q1:=Z5y b h
 unfold Z7
 rcases tf (Z8 b.Low b.High) with e | e
 ·simp [q1,e]
 ·have q2:=Zbji b e 0 (Nat.zero_le _) 1 (by omega)
  have e1:capV 1=1:=by decide
  rw [e1] at q2
  simp at q2
  simp [q1,e,q2]
theorem l_vars0 (q:Zc) (m:Int) (hl:Le q.Atoms) (hv:∀ a∈q.Atoms,Le a.Vars) (v:Nat) (hv4:v<8) (out:List Int) (ho:out.length≤8) (r:AV×List Blk):∀ i,i≤q.Atoms.length →
  Zgy q (out++if hasV m (q.Atoms.drop i) i v=true then [(v:Int)] else []) m (w ((v:Int)+1))=some r →
  Zil q out m v q.Atoms q.Atoms.length i=some r:=by
 refine down _ ?_ ?_
 ·intro h
  refine Z27 _ _ _ _ _ _ _ _ ?_
  simpa [hasV] using h
 ·intro i hi ih h
  refine Z27 _ _ _ _ _ _ _ _ ?_
  have h4:=inc64 (i:=i) (by omega)
  have c1:=Zj7 q.Atoms[i].Vars v (hv _ (List.getElem_mem hi))
  have h0:¬ (i:Int)<0:=by omega
  rw [Zrp _ hi] at h
  by_cases e1:andI (shrI m i) 1=1
  ·have e2:Zs m i=true:=by simp [Zs,e1]
   rcases tf (has q.Atoms[i].Vars v) with e3 | e3
   ·simp [e2,e3] at h
    have ih:=ih (by simpa using h)
    simp at ih
    simp [hi,h4,h0,e1,c1,e3,ih]
   ·simp [e2,e3] at h
    have e4:out.length+1≤68719476736:=by omega
    simp [hi,h4,h0,e1,c1,e3,e4,h]
  ·have e2:Zs m i=false:=by simp [Zs,e1]
   simp [e2] at h
   have ih:=ih (by simpa using h)
   simp at ih
   simp [hi,h4,h0,e1,ih]
theorem l_vars1 (q:Zc) (m:Int) (hl:Le q.Atoms) (hv:∀ a∈q.Atoms,Le a.Vars) (n:Nat) (hq:q.Ze=n) (hn:n≤4):∀ k,k≤n →
  Zgy q (varL m q.Atoms k) m k=some (.own 0,[.arr Zv 1 true ((varL m q.Atoms n).map ic)]):=by
 refine down _ ?_ ?_
 ·refine Z26 _ _ _ _ _ ?_
  simp [hq]
 ·intro k hk ih
  refine Z26 _ _ _ _ _ ?_
  have h4:=inc64 (i:=k) (by omega)
  have b:=l_vars0 q m hl hv k (by omega) (varL m q.Atoms k) (by have:=Zig m q.Atoms k;omega) _ 0 (Nat.zero_le _) (by
   rw [List.drop_zero,← Z97,show w ((k:Int)+1)=(k:Int)+1 from h4];simpa using ih)
  simp at b
  simp [hq,hk,b]
@[simp] theorem Zm8 (q:Zc) (m:Int) (h:LeQ q) (hv:Zn q.Ze q.Atoms=true):Zd5 q m=some (.own 0,[.arr Zv 1 true ((varL m q.Atoms q.Ze.toNat).map ic)]):=by
 refine Zbft _ _ _ ?_
 have hn:=Zda hv
 have b:=l_vars1 q m h.1 h.2 q.Ze.toNat (by omega) (by omega) 0 (Nat.zero_le _)
 simpa [varL] using b
theorem l_both (b xs:List Int) (hb:Le b) (hx:xs.length≤1000000):∀ i,i≤xs.length →
  Zim ((xs.take i).filter (has b)) b xs xs.length i=some (.own 0,[.arr Zv 1 true ((xs.filter (has b)).map ic)]):=by
 refine down _ ?_ ?_
 ·refine Z28 _ _ _ _ _ _ ?_
  simp
 ·intro i hi ih
  refine Z28 _ _ _ _ _ _ ?_
  have h4:=inc64 (i:=i) (by omega)
  have c1:=Zj7 b xs[i] hb
  have e4:((xs.take i).filter (has b)).length+1≤68719476736:=by
   have:=List.length_filter_le (has b) (xs.take i)
   simp at this
   omega
  rw [Zrq _ hi] at ih
  rcases tf (has b xs[i]) with e | e
  ·simp [e] at ih
   simp [hi,h4,c1,e,ih]
  ·simp [e] at ih
   simp [hi,h4,c1,e,e4,ih]
@[simp] theorem x_both (xs b:List Int) (hb:Le b) (hx:xs.length≤1000000):Ze8 xs b=some (.own 0,[.arr Zv 1 true ((xs.filter (has b)).map ic)]):=by
 refine Zbfu _ _ _ ?_
 have:=l_both b xs hb hx 0 (Nat.zero_le _)
 simpa using this
theorem l_bits0 (q:Zc) (m:Int) (hv:∀ a∈q.Atoms,Le a.Vars) (h4v:Var4 q.Atoms) (i:Nat) (hi:i<q.Atoms.length) (hm:Zs m i=true) (r:AV×List Blk):∀ k,k≤q.Atoms[i].Vars.length→∀ p,
  Zhn q m (Zz (addV p (q.Atoms[i].Vars.drop k))) (w ((i:Int)+1))=some r→Zjk q m (Zz p) i k=some r:=by
 have e1:andI (shrI m i) 1=1:=by simpa [Zs] using hm
 have h0:¬ (i:Int)<0:=by omega
 have ha:=List.getElem_mem hi
 refine down _ ?_ ?_
 ·intro p h
  refine Zwd _ _ _ _ _ _ ?_
  rw [List.drop_length,Zrk] at h
  simp [hi,h]
 ·intro k hk ih p h
  refine Zwd _ _ _ _ _ _ ?_
  have h4:=inc64 (i:=k) (by have:=hv _ ha;omega)
  have e6:=Zn2 p (v:=q.Atoms[i].Vars[k]) (h4v _ ha _ (List.getElem_mem hk))
  have e7:=h4v _ ha _ (List.getElem_mem hk)
  simp [inR] at e7
  have e8:¬ q.Atoms[i].Vars[k]<0:=by omega
  rw [Zrl p hk] at h
  have ih:=ih _ h
  simp at ih
  simp [hi,hk,h0,e1,h4,e6,e7,e8,ih]
theorem l_bits1 (q:Zc) (m:Int) (hl:Le q.Atoms) (hv:∀ a∈q.Atoms,Le a.Vars) (h4v:Var4 q.Atoms):∀ i,i≤q.Atoms.length→∀ p,
  Zhn q m (Zz p) i=some (I (Zz (addM m p q.Atoms i)),[]):=by
 refine down _ ?_ ?_
 ·intro p
  refine Z4y _ _ _ _ _ ?_
  have e:addM m p q.Atoms q.Atoms.length=p:=by funext u;simp [addM,hasV]
  simp [e]
 ·intro i hi ih p
  refine Z4y _ _ _ _ _ ?_
  have h4:=inc64 (i:=i) (by omega)
  have h0:¬ (i:Int)<0:=by omega
  rw [Z96 m p hi]
  rcases tf (Zs m i) with e | e
  ·have e1:¬ andI (shrI m i) 1=1:=by simpa [Zs] using e
   have ih:=ih p
   simp at ih
   have b:Zjk q m (Zz p) i 0=some (I (Zz (addM m p q.Atoms (i+1))),[]):=by
    refine Zwd _ _ _ _ _ _ ?_
    simp [hi,h0,e1,h4,ih]
   simp [hi,e,b]
  ·have ih:=ih (addV p q.Atoms[i].Vars)
   have b:=l_bits0 q m hv h4v i hi e _ 0 (Nat.zero_le _) p (by rw [List.drop_zero,show w ((i:Int)+1)=(i:Int)+1 from h4];simpa using ih)
   simp at b
   simp [hi,e,b]
@[simp] theorem Zj8 (q:Zc) (m:Int) (h:LeQ q) (h4v:Var4 q.Atoms):Zcq q m=some (I (Zz (pV m q.Atoms)),[]):=by
 refine Zbhu _ _ _ ?_
 have b:=l_bits1 q m h.1 h.2 h4v 0 (Nat.zero_le _) (fun _=>false)
 have ez:Zz (fun _=>false)=0:=rfl
 have e:addM m (fun _=>false) q.Atoms 0=pV m q.Atoms:=by funext u;simp [addM,pV]
 rw [ez,e] at b
 simpa using b
theorem Zbjj (q:Zc) (hq:LeQ q) (h:Zn q.Ze q.Atoms=true) (x:Zb) (info:List Zg) (st:List Int) (hs:StOk info st) (hil:info.length≤100) (hst:st.length≤100) :
  match Zcb q.Atoms x info st with
  | some y=>Zin q x info st=some (.tup [.agg (y.c.map .t),Bo true],[])
  | none=>∃ y:Zg,Zin q x info st=some (.tup [.agg (y.c.map .t),Bo false],[]):=by
 have hl:=Zbt h
 have wl:w ((q.Atoms.length:Int) - 1)=(q.Atoms.length:Int) - 1:=wrap64 (by omega) (by omega)
 unfold Zcb
 by_cases k1:x.Kind=1
 ·rw [if_pos k1]
  by_cases c1:inR x.Atom 0 (q.Atoms.length - 1)=true∧x.Order=0
  ·rw [if_pos c1]
   have c2:=c1.1
   simp [inR] at c2
   have hlt:x.Atom.toNat<q.Atoms.length:=by omega
   have hv:=Zif h _ (List.getElem_mem hlt)
   have h0:¬ x.Atom<0:=by omega
   simp only
   refine Zgd _ _ _ _ _ ?_
   have e:q.Atoms[x.Atom.toNat].Vars.headD 0=q.Atoms[x.Atom.toNat].Vars[0]'(by omega):=by
    rw [List.headD_eq_head?_getD,hd0 (by omega)]
   rw [List.headD_eq_head?_getD] at e
   simp [k1,wl,c1,h0,hlt,c2,e,show 0<q.Atoms[x.Atom.toNat].Vars.length by omega]
  ·rw [if_neg c1]
   refine ⟨⟨0,-1,-1,-1⟩,Zgd _ _ _ _ _ ?_⟩
   rcases tf (inR x.Atom 0 (q.Atoms.length - 1)) with e | e
   ·simp [k1,wl,e]
   ·have e2:¬ x.Order=0:=fun hc=>c1 ⟨e,hc⟩
    simp [k1,wl,e,e2]
 rw [if_neg k1]
 by_cases k0:x.Atom=0
 rotate_left
 ·rw [if_pos k0]
  exact ⟨⟨0,-1,-1,-1⟩,Zgd _ _ _ _ _ (by simp [k1,k0])⟩
 rw [if_neg (by simpa using k0)]
 have w1:w ((st.length:Int) - 1)=(st.length:Int) - 1:=wrap64 (by omega) (by omega)
 have w2:w ((st.length:Int) - 2)=(st.length:Int) - 2:=wrap64 (by omega) (by omega)
 by_cases k2:x.Kind=2
 ·rw [if_pos k2]
  by_cases n1:st.length<1
  ·have:Zbg st info 1=none:=by unfold Zbg;rw [if_neg (by omega)]
   rw [this]
   have n1':(st.length:Int)<1:=by omega
   exact ⟨⟨0,-1,-1,-1⟩,Zgd _ _ _ _ _ (by simp [k1,k2,k0,n1'])⟩
  ·have n1':¬ (st.length:Int)<1:=by omega
   obtain ⟨s,y,t1,t2,t3,t4⟩:=Zgr hs (by omega:1≤1) (by omega:1≤st.length)
   have z1:(0:Int)≤(st.length:Int) - 1:=by omega
   have z5:(1:Int)≤(st.length:Int):=by omega
   have z2:((st.length:Int) - 1).toNat=st.length - 1:=by omega
   have q1:=Zm8 q y.Mask hq h
   have q2:=Zj7 (varL y.Mask q.Atoms q.Ze.toNat) x.Order (by have:=Zig y.Mask q.Atoms q.Ze.toNat;have:=Zda h;omega)
   rw [Zkv h] at q2
   rw [t1]
   simp only
   by_cases c1:vin q.Atoms y.Mask x.Order=true∧y.Order≠x.Order
   ·rw [if_pos c1]
    refine Zgd _ _ _ _ _ ?_
    simp [k1,k2,k0,n1',w1,z1,z2,z5,t2,t3,t4,q1,q2,c1]
   ·rw [if_neg c1]
    refine ⟨⟨0,-1,-1,-1⟩,Zgd _ _ _ _ _ ?_⟩
    rcases tf (vin q.Atoms y.Mask x.Order) with e | e
    ·simp [k1,k2,k0,n1',w1,z1,z2,z5,t2,t3,t4,q1,q2,e]
    ·have e2:y.Order=x.Order:=Decidable.byContradiction fun hc=>c1 ⟨e,hc⟩
     simp [k1,k2,k0,n1',w1,z1,z2,z5,t2,t3,t4,q1,q2,e,e2]
 rw [if_neg k2]
 by_cases n2:st.length<2
 ·have:Zbg st info 2=none:=by unfold Zbg;rw [if_neg (by omega)]
  rw [this]
  have n2':(st.length:Int)<2:=by omega
  exact ⟨⟨0,-1,-1,-1⟩,Zgd _ _ _ _ _ (by simp [k1,k2,k0,n2'])⟩
 have n2':¬ (st.length:Int)<2:=by omega
 obtain ⟨s,y,t1,t2,t3,t4⟩:=Zgr hs (by omega:1≤2) (by omega:2≤st.length)
 obtain ⟨t,z,u1,u2,u3,u4⟩:=Zgr hs (by omega:1≤1) (by omega:1≤st.length)
 have z1:(0:Int)≤(st.length:Int) - 1:=by omega
 have z2:((st.length:Int) - 1).toNat=st.length - 1:=by omega
 have z3:(0:Int)≤(st.length:Int) - 2:=by omega
 have z4:((st.length:Int) - 2).toNat=st.length - 2:=by omega
 have hn:=Zda h
 have q1:=Zm8 q y.Mask hq h
 have q2:=Zm8 q z.Mask hq h
 have l1:=Zig y.Mask q.Atoms q.Ze.toNat
 have l2:=Zig z.Mask q.Atoms q.Ze.toNat
 have q3:=x_both (varL y.Mask q.Atoms q.Ze.toNat) (varL z.Mask q.Atoms q.Ze.toNat) (by omega) (by omega)
 have q4:=Zj7 ((varL y.Mask q.Atoms q.Ze.toNat).filter (has (varL z.Mask q.Atoms q.Ze.toNat))) x.Order (by
  have:=List.length_filter_le (has (varL z.Mask q.Atoms q.Ze.toNat)) (varL y.Mask q.Atoms q.Ze.toNat);omega)
 rw [Z99 h] at q4
 have q5:=Z98 h y.Mask z.Mask
 generalize hS:(varL y.Mask q.Atoms q.Ze.toNat).filter (has (varL z.Mask q.Atoms q.Ze.toNat))=S at q3 q4 q5
 rw [t1,u1]
 simp only
 have base:∀ (r:AV×List Blk),(if andI y.Mask z.Mask=0 then
    if ((S.length:Int)=0) then some (.tup [.agg [I (orI y.Mask z.Mask),I (-1),I s,I t],Bo false],[])=some r
    else if x.Kind=3 then some (.tup [.agg [I (orI y.Mask z.Mask),I (-1),I s,I t],Bo (decide (x.Order=0))],[])=some r
    else if x.Kind=5 then some (.tup [.agg [I (orI y.Mask z.Mask),I y.Order,I s,I t],Bo (decide (x.Order=0))],[])=some r
    else if x.Kind=4 then
     if (vin q.Atoms y.Mask x.Order && vin q.Atoms z.Mask x.Order)=true then
      if y.Order=x.Order then some (.tup [.agg [I (orI y.Mask z.Mask),I x.Order,I s,I t],Bo (decide (z.Order=x.Order))],[])=some r
      else some (.tup [.agg [I (orI y.Mask z.Mask),I x.Order,I s,I t],Bo false],[])=some r
     else some (.tup [.agg [I (orI y.Mask z.Mask),I x.Order,I s,I t],Bo false],[])=some r
    else some (.tup [.agg [I (orI y.Mask z.Mask),I (-1),I s,I t],Bo false],[])=some r
   else some (.tup [.agg [I (orI y.Mask z.Mask),I (-1),I s,I t],Bo false],[])=some r)→Zin q x info st=some r:=by
  intro r hr
  refine Zgd _ _ _ _ _ ?_
  simp only [k1,k0,k2,if_false,if_true,n2',w1,w2,z1,z2,z3,z4,t2,t3,t4,u2,u3,u4,q1,q2,true_and,Option.some.injEq,exists_eq_left']
  refine ⟨_,rfl,_,rfl,S,?_,?_⟩
  ·simpa using q3
  ·simp only [q4,Option.some.injEq,Prod.mk.injEq,AV.t.injEq,T.bool.injEq,and_true,exists_eq_left']
   simpa using hr
 by_cases c1:andI y.Mask z.Mask=0∧shr q.Atoms y.Mask z.Mask=true
 rotate_left
 ·rw [if_neg c1]
  refine ⟨⟨orI y.Mask z.Mask,-1,s,t⟩,base _ ?_⟩
  by_cases c2:andI y.Mask z.Mask=0
  ·have c3:S.length=0:=q5.2 (by rcases tf (shr q.Atoms y.Mask z.Mask) with e | e;exact e;exact absurd ⟨c2,e⟩ c1)
   have c4:(S.length:Int)=0:=by omega
   rw [if_pos c2,if_pos c4]
   simp
  ·rw [if_neg c2]
   simp
 rw [if_pos c1]
 have c4:¬ (S.length:Int)=0:=fun hc=>by
  have:=q5.1 (by omega)
  rw [c1.2] at this
  cases this
 have c5:¬ S=[]:=fun hc=>c4 (by simp [hc])
 unfold Zb0
 by_cases j1:x.Kind=3∧x.Order=0
 ·rw [if_pos j1]
  exact base _ (by simp [c1.1,c4,c5,j1])
 rw [if_neg j1]
 by_cases j2:x.Kind=5∧x.Order=0
 ·rw [if_pos j2]
  exact base _ (by simp [c1.1,c4,c5,j2])
 rw [if_neg j2]
 by_cases j3:x.Kind=4∧vin q.Atoms y.Mask x.Order=true∧vin q.Atoms z.Mask x.Order=true∧y.Order=x.Order∧z.Order=x.Order
 ·rw [if_pos j3]
  exact base _ (by simp [c1.1,c4,c5,j3])
 rw [if_neg j3]
 simp only [Option.map_none]
 by_cases k3:x.Kind=3
 ·have e:¬ x.Order=0:=fun hc=>j1 ⟨k3,hc⟩
  exact ⟨⟨orI y.Mask z.Mask,-1,s,t⟩,base _ (by simp [c1.1,c4,c5,k3,e])⟩
 by_cases k5:x.Kind=5
 ·have e:¬ x.Order=0:=fun hc=>j2 ⟨k5,hc⟩
  exact ⟨⟨orI y.Mask z.Mask,y.Order,s,t⟩,base _ (by simp [c1.1,c4,c5,k5,e])⟩
 by_cases k4:x.Kind=4
 ·refine ⟨⟨orI y.Mask z.Mask,x.Order,s,t⟩,base _ ?_⟩
  rcases tf (vin q.Atoms y.Mask x.Order) with e1 | e1 <;> rcases tf (vin q.Atoms z.Mask x.Order) with e2 | e2 <;> by_cases e3:y.Order=x.Order <;> simp [c1.1,c4,c5,k4,e1,e2,e3]
  exact fun e4=>j3 ⟨k4,e1,e2,e3,e4⟩
 ·exact ⟨⟨orI y.Mask z.Mask,-1,s,t⟩,base _ (by simp [c1.1,c4,c5,k3,k4,k5])⟩
@[simp] theorem Zqa (b v:Int):Zjl b v=some (Bo (inR v 0 3 && decide (andI (shrI b v) 1=1)),[]):=by
 refine Zbhv _ _ _ ?_
 rcases tf (inR v 0 3) with e | e
 ·simp [e]
 ·have e0:=e
  simp [inR] at e0
  have:¬ v<0:=by omega
  simp [e,this]
def Z5 (x:Zb):Option Zg→AV×List Blk
 | some y=>(.tup [.agg (y.c.map .t),I (popsI x)],[])
 | none=>(.tup [.agg [I 0,I 0,I 0,I 0],I (-1)],[])
theorem Zbjk (q:Zc) (hq:LeQ q) (h:Zn q.Ze q.Atoms=true) (x:Zb) (info:List Zg) (st:List Int) (hs:StOk info st) (hil:info.length≤100) (hst:st.length≤100) :
  Zho q x info st=some (Z5 x (Zcb q.Atoms x info st)):=by
 have hl:=Zbt h
 have wl:w ((q.Atoms.length:Int) - 1)=(q.Atoms.length:Int) - 1:=wrap64 (by omega) (by omega)
 unfold Zcb
 by_cases k1:x.Kind=1
 ·rw [if_pos k1]
  by_cases c1:inR x.Atom 0 (q.Atoms.length - 1)=true∧x.Order=0
  ·rw [if_pos c1]
   have c2:=c1.1
   simp [inR] at c2
   have hlt:x.Atom.toNat<q.Atoms.length:=by omega
   have hv:=Zif h _ (List.getElem_mem hlt)
   have h0:¬ x.Atom<0:=by omega
   refine Zeu _ _ _ _ _ ?_
   have e:q.Atoms[x.Atom.toNat].Vars.headD 0=q.Atoms[x.Atom.toNat].Vars[0]'(by omega):=by
    rw [List.headD_eq_head?_getD,hd0 (by omega)]
   rw [List.headD_eq_head?_getD] at e
   simp [k1,wl,c1,h0,hlt,c2,e,Z5,popsI,show 0<q.Atoms[x.Atom.toNat].Vars.length by omega]
  ·rw [if_neg c1]
   refine Zeu _ _ _ _ _ ?_
   rcases tf (inR x.Atom 0 (q.Atoms.length - 1)) with e | e
   ·simp [k1,wl,e,Z5]
   ·have e2:¬ x.Order=0:=fun hc=>c1 ⟨e,hc⟩
    simp [k1,wl,e,e2,Z5]
 rw [if_neg k1]
 have w1:w ((st.length:Int) - 1)=(st.length:Int) - 1:=wrap64 (by omega) (by omega)
 have w2:w ((st.length:Int) - 2)=(st.length:Int) - 2:=wrap64 (by omega) (by omega)
 by_cases k0:x.Atom=0
 rotate_left
 ·rw [if_pos k0]
  refine Zeu _ _ _ _ _ ?_
  have j:∀ b,Zhp q x ⟨0,0,0,0⟩ info st st.length x.Kind b=some (Z5 x none):=by
   intro b
   refine Zm4 _ _ _ _ _ _ _ _ _ ?_
   cases b <;> simp [k0,Z5]
  by_cases k2:x.Kind=2
  ·simp [k1,k2,k0,Z5]
  ·by_cases k3:x.Kind=3 <;> by_cases k4:x.Kind=4 <;> simp [k1,k2,k0,k3,k4,j] <;> first | (simp only [k3] at j;simp [j,Z5]) | (simp only [k4] at j;simp [j,Z5]) | simp [Z5]
 rw [if_neg (by simpa using k0)]
 by_cases k2:x.Kind=2
 ·rw [if_pos k2]
  refine Zeu _ _ _ _ _ ?_
  by_cases n1:st.length<1
  ·have:Zbg st info 1=none:=by unfold Zbg;rw [if_neg (by omega)]
   rw [this]
   have n1':(st.length:Int)<1:=by omega
   simp [k1,k2,k0,n1',Z5]
  ·have n1':¬ (st.length:Int)<1:=by omega
   obtain ⟨s,y,t1,t2,t3,t4⟩:=Zgr hs (by omega:1≤1) (by omega:1≤st.length)
   have z1:(0:Int)≤(st.length:Int) - 1:=by omega
   have z5:(1:Int)≤(st.length:Int):=by omega
   have z2:((st.length:Int) - 1).toNat=st.length - 1:=by omega
   have q1:=Zj8 q y.Mask hq (Zgq h)
   have q2:(inR x.Order 0 3 && decide (andI (shrI (Zz (pV y.Mask q.Atoms)) x.Order) 1=1))=vin q.Atoms y.Mask x.Order:=by
    unfold vin
    rcases tf (inR x.Order 0 3) with e | e
    ·simp [e]
    ·rw [e,Bool.true_and,Bool.true_and,Bool.eq_iff_iff,decide_eq_true_eq]
     exact at_bit _ e
   rw [t1]
   simp only
   by_cases e2:y.Order=x.Order
   ·simp [k1,k2,k0,n1',w1,z1,z2,z5,t2,t3,t4,e2,Z5]
   ·rcases tf (vin q.Atoms y.Mask x.Order) with e | e
    ·simp only [k1,k2,k0,n1',w1,z1,z2,t2,t3,t4,q1,Zqa,q2,e,e2,if_false,if_true,true_and,Option.some.injEq,exists_eq_left',Prod.mk.injEq,AV.t.injEq,T.int.injEq,T.bool.injEq,and_true]
     simp [Z5]
    ·simp only [k1,k2,k0,n1',w1,z1,z2,t2,t3,t4,q1,Zqa,q2,e,e2,if_false,if_true,true_and,Option.some.injEq,exists_eq_left',Prod.mk.injEq,AV.t.injEq,T.int.injEq,T.bool.injEq,and_true]
     simp [Z5,popsI,k1,k2,e2]
 rw [if_neg k2]
 -- a join
 have q0:∀ (b:Zg) (c:Zg) (y:Zg) (f:Bool),x.Kind=4→∀ m1 m2,Zf8 q x ⟨0,0,0,0⟩ b c y (andI (Zz (pV m1 q.Atoms)) (Zz (pV m2 q.Atoms))) f =
   if vin q.Atoms m1 x.Order=true∧vin q.Atoms m2 x.Order=true∧b.Order=x.Order∧c.Order=x.Order then some (.tup [.agg [I y.Mask,I x.Order,I y.Left,I y.Right],I 2],[]) else some (Z5 x none):=by
  intro b c y f k4 m1 m2
  have e:(inR x.Order 0 3 && decide (andI (shrI (andI (Zz (pV m1 q.Atoms)) (Zz (pV m2 q.Atoms))) x.Order) 1=1))=(vin q.Atoms m1 x.Order && vin q.Atoms m2 x.Order):=by
   unfold vin
   rcases tf (inR x.Order 0 3) with e | e
   ·simp [e]
   ·rw [e,Bool.true_and,Bool.true_and,Bool.true_and,Bool.eq_iff_iff,decide_eq_true_eq,Zx5]
    simpa using at_bit (fun u=>pV m1 q.Atoms u && pV m2 q.Atoms u) e
  split
  ·rename_i hc
   refine Zwe _ _ _ _ _ _ _ _ _ ?_
   simp only [Zqa,e,hc]
   simp [k4]
  ·rename_i hc
   refine Zwe _ _ _ _ _ _ _ _ _ ?_
   simp only [Zqa,e]
   rcases tf (vin q.Atoms m1 x.Order) with e1 | e1 <;> rcases tf (vin q.Atoms m2 x.Order) with e2 | e2 <;> by_cases e3:b.Order=x.Order <;> by_cases e4:c.Order=x.Order <;> simp [k4,e1,e2,e3,e4,Z5]
   exact hc ⟨e1,e2,e3,e4⟩
 have q3:∀ (b:Zg) (c:Zg) (y:Zg) (v:Int) (f:Bool),x.Kind≠4→Zf8 q x ⟨0,0,0,0⟩ b c y v f=some (.tup [.agg (y.c.map .t),I 2],[]):=by
  intro b c y v f k4
  exact Zwe _ _ _ _ _ _ _ _ _ (by simp [k4])
 have q5:∀ (b:Zg) (c:Zg) (y:Zg) (v:Int),x.Kind≠4→Zjm q x ⟨0,0,0,0⟩ b c y v=some (.tup [.agg (y.c.map .t),I 2],[]):=by
  intro b c y v k4
  exact Zbhw _ _ _ _ _ _ _ _ (by simp [k4])
 by_cases kk:x.Kind=3∨x.Kind=4∨x.Kind=5
 rotate_left
 ·have k3:¬ x.Kind=3:=fun hc=>kk (.inl hc)
  have k4:¬ x.Kind=4:=fun hc=>kk (.inr (.inl hc))
  have k5:¬ x.Kind=5:=fun hc=>kk (.inr (.inr hc))
  have hj:∀ y z,Zb0 q.Atoms x y z=none:=by intro y z;simp [Zb0,k3,k4,k5]
  refine Eq.trans (b:=some (Z5 x none)) (Zeu _ _ _ _ _ (by simp [k1,k2,k3,k4,k5,Z5])) ?_
  simp only [hj,Option.map_none,ite_self]
  split <;> rfl
 have k5':x.Kind≠3→x.Kind≠4→x.Kind=5:=fun a b=>by rcases kk with h | h | h;exact absurd h a;exact absurd h b;exact h
 have red:∀ r,Zhp q x ⟨0,0,0,0⟩ info st st.length x.Kind true=some r→(x.Kind=5→Zho q x info st=some r)→Zho q x info st=some r:=by
  intro r hr h5
  by_cases k5:x.Kind=5
  ·exact h5 k5
  ·refine Zeu _ _ _ _ _ ?_
   by_cases k3:x.Kind=3
   ·rw [if_neg k1,if_neg k2,if_pos k3];exact hr
   ·by_cases k4:x.Kind=4
    ·rw [if_neg k1,if_neg k2,if_neg k3,if_pos k4];exact hr
    ·exact absurd (k5' k3 k4) k5
 by_cases n2:st.length<2
 ·have:Zbg st info 2=none:=by unfold Zbg;rw [if_neg (by omega)]
  rw [this]
  have n2':(st.length:Int)<2:=by omega
  refine red _ ?_ ?_
  ·exact Zm4 _ _ _ _ _ _ _ _ _ (by simp [k0,n2',Z5])
  ·intro k5
   exact Zeu _ _ _ _ _ (by simp [k5,k0,n2',Z5])
 have n2':¬ (st.length:Int)<2:=by omega
 obtain ⟨s,y,t1,t2,t3,t4⟩:=Zgr hs (by omega:1≤2) (by omega:2≤st.length)
 obtain ⟨t,z,u1,u2,u3,u4⟩:=Zgr hs (by omega:1≤1) (by omega:1≤st.length)
 have z1:(0:Int)≤(st.length:Int) - 1:=by omega
 have z2:((st.length:Int) - 1).toNat=st.length - 1:=by omega
 have z3:(0:Int)≤(st.length:Int) - 2:=by omega
 have z4:((st.length:Int) - 2).toNat=st.length - 2:=by omega
 have b1:=Zj8 q y.Mask hq (Zgq h)
 have b2:=Zj8 q z.Mask hq (Zgq h)
 have b3:=Zrr q.Atoms y.Mask z.Mask
 rw [t1,u1]
 simp only
 by_cases c1:andI y.Mask z.Mask=0
 rotate_left
 ·rw [if_neg (fun hc=>c1 hc.1)]
  refine red _ ?_ ?_
  ·refine Zm4 _ _ _ _ _ _ _ _ _ ?_
   simp only [k0,n2',w1,w2,z1,z2,z3,z4,t2,t3,t4,u2,u3,u4,b1,b2,c1,if_true,if_false,true_and,Option.some.injEq,exists_eq_left',Prod.mk.injEq,AV.t.injEq,T.int.injEq,and_true]
   simp [Z5]
  ·intro k5
   refine Zeu _ _ _ _ _ ?_
   simp only [k5,k0,n2',w1,w2,z1,z2,z3,z4,t2,t3,t4,u2,u3,u4,b1,b2,c1,if_true,if_false,true_and,Option.some.injEq,exists_eq_left',Prod.mk.injEq,AV.t.injEq,T.int.injEq,and_true]
   simp [Z5]
 rcases tf (shr q.Atoms y.Mask z.Mask) with c2 | c2
 ·rw [if_neg (fun hc=>by rw [hc.2] at c2;cases c2)]
  have c3:=b3.2 c2
  refine red _ ?_ ?_
  ·refine Zm4 _ _ _ _ _ _ _ _ _ ?_
   simp only [k0,n2',w1,w2,z1,z2,z3,z4,t2,t3,t4,u2,u3,u4,b1,b2,c1,c3,if_true,if_false,true_and,Option.some.injEq,exists_eq_left',Prod.mk.injEq,AV.t.injEq,T.int.injEq,and_true]
   simp [Z5]
  ·intro k5
   refine Zeu _ _ _ _ _ ?_
   simp only [k5,k0,n2',w1,w2,z1,z2,z3,z4,t2,t3,t4,u2,u3,u4,b1,b2,c1,c3,if_true,if_false,true_and,Option.some.injEq,exists_eq_left',Prod.mk.injEq,AV.t.injEq,T.int.injEq,and_true]
   simp [Z5]
 rw [if_pos ⟨c1,c2⟩]
 have c3:¬ andI (Zz (pV y.Mask q.Atoms)) (Zz (pV z.Mask q.Atoms))=0:=fun hc=>by rw [b3.1 hc] at c2;cases c2
 have p2:popsI x=2:=by unfold popsI;rw [if_neg k1,if_neg k2]
 refine red _ ?_ ?_
 ·refine Zm4 _ _ _ _ _ _ _ _ _ ?_
  simp only [k0,n2',w1,w2,z1,z2,z3,z4,t2,t3,t4,u2,u3,u4,b1,b2,c1,c3,if_true,if_false,true_and,Option.some.injEq,exists_eq_left',Prod.mk.injEq,AV.t.injEq,T.int.injEq,and_true]
  by_cases k4:x.Kind=4
  ·have k3:¬ x.Kind=3:=by omega
   have k5:¬ x.Kind=5:=by omega
   rw [if_pos k4,q0 _ _ _ _ k4]
   simp only [Zb0,k3,k4,k5,false_and,true_and,if_false]
   split
   ·rename_i hc;simp [Z5,p2]
   ·rfl
  ·by_cases e:x.Order=0
   ·by_cases k5:x.Kind=5
    ·rw [if_neg k4,if_pos e,if_pos k5,q5 _ _ _ _ k4]
     simp [Zb0,k5,e,Z5,p2]
    ·have k3:x.Kind=3:=by omega
     rw [if_neg k4,if_pos e,if_neg k5,q3 _ _ _ _ _ k4]
     simp [Zb0,k3,e,Z5,p2]
   ·rw [if_neg k4,if_neg e]
    simp [Zb0,k4,e,Z5]
 ·intro k5
  refine Zeu _ _ _ _ _ ?_
  have k4:x.Kind≠4:=by omega
  simp only [k5,k0,n2',w1,w2,z1,z2,z3,z4,t2,t3,t4,u2,u3,u4,b1,b2,c1,c3,if_true,if_false,true_and,Option.some.injEq,exists_eq_left',Prod.mk.injEq,AV.t.injEq,T.int.injEq,and_true]
  by_cases e:x.Order=0
  ·simp [e,q5 _ _ _ _ k4,Zb0,k5,Z5,p2]
  ·simp [e,Zb0,k5,Z5]
theorem Zbjl (q:Zc) (hq:LeQ q) (h:Zn q.Ze q.Atoms=true) (p:Plan) (hl:p.Steps.length≤14):∀ i,i≤p.Steps.length→∀ info st,StOk info st→info.length=i→st.length≤i →
  Zl5 q p info st i=some (match Zbh q.Atoms (p.Steps.drop i) i info st with
   | some (info',st')=>if st'.length=1 then (.tup [.own 0,Bo true],[.arr Zgu 4 true (info'.map Zg.c)]) else (.tup [.own 0,Bo false],[.arr Zgu 4 true []])
   | none=>(.tup [.own 0,Bo false],[.arr Zgu 4 true []])):=by
 refine down _ ?_ ?_
 ·intro info st _ _ _
  rw [List.drop_length,Zbh]
  refine Z4z _ _ _ _ _ _ ?_
  by_cases c:st.length=1
  ·simp [c]
  ·have c':¬ (st.length:Int)=1:=by omega
   simp [c,c']
 ·intro i hi ih info st hs hil hst
  have h5:=inc64 (i:=i) (by omega)
  have s1:=Zbjk q hq h p.Steps[i] info st hs (by omega) (by omega)
  rw [Zx7 q.Atoms hi]
  refine Z4z _ _ _ _ _ _ ?_
  cases he:Zcb q.Atoms p.Steps[i] info st with
  | none =>
   rw [he,Z5] at s1
   have e0:Zho q p.Steps[i] info st=some (.tup [.agg ((⟨0,0,0,0⟩:Zg).c.map .t),I (-1)],[]):=s1
   rw [if_pos (by omega)]
   refine ⟨by omega,_,List.getElem?_eq_getElem hi,_,_,e0,?_⟩
   simp
  | some y =>
   rw [he,Z5] at s1
   obtain ⟨f1,f2,f3⟩:=Zrs hs he
   rw [f1] at s1
   have hn:=Zkw hs y (st.length - pops y)
   rw [hil] at hn
   have ih:=ih (info++[y]) (st.take (st.length - pops y)++[(i:Int)]) hn (by simp [hil]) (st_len hst _)
   have w2:w ((st.length:Int) - (pops y:Int))=(st.length:Int) - (pops y:Int):=wrap64 (by omega) (by omega)
   have z2:((st.length:Int) - (pops y:Int)).toNat=st.length - pops y:=by omega
   rw [if_pos (by omega)]
   refine ⟨by omega,_,List.getElem?_eq_getElem hi,_,_,s1,?_⟩
   rw [if_neg (by omega),w2,z2]
   refine ⟨by omega,by omega,by omega,by omega,by omega,?_⟩
   rw [show w ((i:Int)+1)=(i:Int)+1 from h5]
   simpa using ih
@[simp] theorem Z50 (q:Zc) (p:Plan) (hq:LeQ q):Zjn q p=some (match Zbb q.Ze q.Atoms p.Steps with
  | some info=>(.tup [.own 0,Bo true],[.arr Zgu 4 true (info.map Zg.c)])
  | none=>(.tup [.own 0,Bo false],[.arr Zgu 4 true []])):=by
 refine Zbhx _ _ _ ?_
 have q1:=Zp7 q hq
 unfold Zbb
 rcases tf (Zn q.Ze q.Atoms) with e | e
 ·simp [q1,e]
 rcases tf (inR p.Steps.length 1 14) with e2 | e2
 ·simp [q1,e,e2]
 ·have e3:=e2
  simp [inR] at e3
  have b:=Zbjl q hq e p (by omega) 0 (Nat.zero_le _) [] [] (fun s hs=>by cases hs) rfl (Nat.le_refl _)
  simp only [List.drop_zero] at b
  simp only [q1,e,e2,Zfl,Option.some.injEq,Prod.mk.injEq,AV.t.injEq,T.bool.injEq,and_true,exists_eq_left',if_true,and_self]
  refine Eq.trans b ?_
  cases Zbh q.Atoms p.Steps 0 [] [] with
  | none=>rfl
  | some r=>obtain ⟨a,b⟩:=r;simp only;split <;> rfl
theorem Zbjm (q:Zc) (hq:LeQ q) (h:Zn q.Ze q.Atoms=true) (steps:List Zb) (hl:steps.length≤14):∀ i,i≤steps.length→∀ info st,StOk info st→info.length=i→st.length≤i →
  Zgz q info st steps steps.length i=some (match Zbh q.Atoms (steps.drop i) i info st with
   | some (info',st')=>if st'.length=1 then (.tup [.own 0,Bo true],[.arr Zgu 4 true (info'.map Zg.c)]) else (.tup [.t .nil,Bo false],[])
   | none=>(.tup [.t .nil,Bo false],[])):=by
 refine down _ ?_ ?_
 ·intro info st _ _ _
  rw [List.drop_length,Zbh]
  refine Z29 _ _ _ _ _ _ _ ?_
  by_cases c:st.length=1
  ·simp [c]
  ·have c':¬ (st.length:Int)=1:=by omega
   simp [c,c']
 ·intro i hi ih info st hs hil hst
  have h5:=inc64 (i:=i) (by omega)
  have s1:=Zbjj q hq h steps[i] info st hs (by omega) (by omega)
  rw [Zx7 q.Atoms hi]
  refine Z29 _ _ _ _ _ _ _ ?_
  cases he:Zcb q.Atoms steps[i] info st with
  | none =>
   rw [he] at s1
   obtain ⟨y,s1⟩:=s1
   rw [if_pos (by omega)]
   refine ⟨by omega,_,List.getElem?_eq_getElem hi,_,_,s1,?_⟩
   simp
  | some y =>
   rw [he] at s1
   obtain ⟨f1,f2,f3⟩:=Zrs hs he
   have hn:=Zkw hs y (st.length - pops y)
   rw [hil] at hn
   have ih:=ih (info++[y]) (st.take (st.length - pops y)++[(i:Int)]) hn (by simp [hil]) (st_len hst _)
   rw [if_pos (by omega)]
   refine ⟨by omega,_,List.getElem?_eq_getElem hi,_,_,s1,?_⟩
   rw [if_pos rfl]
   refine ⟨by omega,?_⟩
   simp only
   unfold pops at ih f2 ⊢
   rw [show w ((i:Int)+1)=(i:Int)+1 from h5]
   by_cases r:0≤y.Right
   ·simp only [if_pos r] at ih f2 ⊢
    have w2:w ((st.length:Int) - 2)=(st.length:Int) - 2:=wrap64 (by omega) (by omega)
    have z2:((st.length:Int) - 2).toNat=st.length - 2:=by omega
    rw [w2,z2]
    refine ⟨by omega,by omega,by omega,by simpa using ih⟩
   ·simp only [if_neg r] at ih f2 ⊢
    by_cases l:0≤y.Left
    ·simp only [if_pos l] at ih f2 ⊢
     have w2:w ((st.length:Int) - 1)=(st.length:Int) - 1:=wrap64 (by omega) (by omega)
     have z2:((st.length:Int) - 1).toNat=st.length - 1:=by omega
     rw [w2,z2]
     refine ⟨by omega,by omega,by omega,by simpa using ih⟩
    ·simp only [if_neg l] at ih f2 ⊢
     exact ⟨by omega,by simpa using ih⟩
@[simp] theorem Z51 (q:Zc) (p:Plan) (hq:LeQ q):Ze9 q p=some (match Zbb q.Ze q.Atoms p.Steps with
  | some info=>(.tup [.own 0,Bo true],[.arr Zgu 4 true (info.map Zg.c)])
  | none=>(.tup [.t .nil,Bo false],[])):=by
 refine Zbfv _ _ _ ?_
 have q1:=Zm5 q hq
 unfold Zbb
 rcases tf (Zn q.Ze q.Atoms) with e | e
 ·simp [q1,e]
 rcases tf (inR p.Steps.length 1 14) with e2 | e2
 ·simp [q1,e,e2]
 ·have e3:=e2
  simp [inR] at e3
  have b:=Zbjm q hq e p.Steps (by omega) 0 (Nat.zero_le _) [] [] (fun s hs=>by cases hs) rfl (Nat.le_refl _)
  simp only [List.drop_zero] at b
  simp only [q1,e,e2,Zcw,Option.some.injEq,Prod.mk.injEq,AV.t.injEq,T.bool.injEq,and_true,exists_eq_left',if_true,and_self]
  refine Eq.trans b ?_
  cases Zbh q.Atoms p.Steps 0 [] [] with
  | none=>rfl
  | some r=>obtain ⟨a,b⟩:=r;simp only;split <;> rfl
@[simp] theorem Zbjn (q:Zc) (p:Plan) (hq:LeQ q):Zol q p=some (I (Ze4 q.Ze q.Atoms p.Steps),[]):=by
 refine Zbfx _ _ _ ?_
 have q1:=Z51 q p hq
 unfold Ze4
 cases he:Zbb q.Ze q.Atoms p.Steps with
 | none=>rw [he] at q1;exact .inl ⟨q1,rfl⟩
 | some info =>
  obtain ⟨l1,l2,l3,l4⟩:=Zgs he
  rw [he] at q1
  have hlt:info.length - 1<info.length:=by omega
  have w1:w ((info.length:Int) - 1)=(info.length:Int) - 1:=wrap64 (by omega) (by omega)
  have z2:((info.length:Int) - 1).toNat=info.length - 1:=by omega
  refine .inr ⟨info,q1,?_⟩
  rw [w1,z2]
  refine ⟨by omega,_,List.getElem?_eq_getElem hlt,?_⟩
  simp [List.getElem?_eq_getElem hlt]
@[simp] theorem Zbjo (q:Zc) (p:Plan) (hq:LeQ q):Zl6 q p=some (I (Ze4 q.Ze q.Atoms p.Steps),[]):=by
 refine Zbhy _ _ _ ?_
 have q1:=Z50 q p hq
 unfold Ze4
 cases he:Zbb q.Ze q.Atoms p.Steps with
 | none=>rw [he] at q1;exact ⟨[],false,q1,by simp⟩
 | some info =>
  obtain ⟨l1,l2,l3,l4⟩:=Zgs he
  rw [he] at q1
  have hlt:info.length - 1<info.length:=by omega
  have w1:w ((info.length:Int) - 1)=(info.length:Int) - 1:=wrap64 (by omega) (by omega)
  have z2:((info.length:Int) - 1).toNat=info.length - 1:=by omega
  refine ⟨info,true,q1,?_⟩
  rw [if_pos rfl,w1,z2]
  refine ⟨by omega,_,List.getElem?_eq_getElem hlt,?_⟩
  simp [List.getElem?_eq_getElem hlt]
theorem Zbjp (l:List Int) (n:Nat) (hn:n≤1099511627776) (hl:Le l):∀ k,k≤l.length→Zk4 l n l l.length k=some (Bo (Zbj n (l.take k) (l.drop k) && decide (0<l.length)),[]):=by
 have hw:w ((n:Int) - 1)=(n:Int) - 1:=wrap64 (by omega) (by omega)
 refine down _ ?_ ?_
 ·refine Z3a _ _ _ _ _ _ ?_
  simp [Zbj]
 ·intro k hk ih
  refine Z3a _ _ _ _ _ _ ?_
  have h4:=inc64 (i:=k) (by omega)
  have c1:=Zj7 (l.take k) l[k] (by simp;omega)
  have e7:k≤l.length:=by omega
  rw [Zn3 _ hk]
  simp at ih
  rcases tf (inR l[k] 0 ((n:Int) - 1)) with e1 | e1
  ·simp [hk,h4,hw,e1]
  ·rcases tf (has (l.take k) l[k]) with e2 | e2
   ·simp [hk,h4,hw,e1,e2,c1,e7,ih]
   ·simp [hk,h4,hw,e1,e2,c1,e7]
@[simp] theorem Zbjq (l:List Int) (n:Nat) (hn:n≤1099511627776) (hl:Le l):Zom l n=some (Bo (Zbj n [] l && decide (0<l.length)),[]):=by
 refine Zbfy _ _ _ ?_
 have:=Zbjp l n hn hl 0 (Nat.zero_le _)
 simpa using this
@[simp] theorem Z52 (b s:Int):Zi9 b s=some (I (Zdb b s),[]):=by
 refine Zbg4 _ _ _ ?_
 unfold Zdb
 rcases tf (inR b 0 1000000000000) with e1 | e1
 ·simp [e1]
 rcases tf (inR s 0 100) with e2 | e2
 ·simp [e1,e2]
 ·obtain ⟨w1,w2,w3⟩:=Zyc e1 e2
  simp [e1,e2,w1,w2,w3]
@[simp] theorem Z53 (b s:Int):Zmr b s=some (I (Zdb b s),[]):=by
 refine Zbiz _ _ _ ?_
 unfold Zdb
 rcases tf (inR b 0 1000000000000) with e1 | e1
 ·simp [e1]
 rcases tf (inR s 0 100) with e2 | e2
 ·simp [e1,e2]
 ·obtain ⟨w1,w2,w3⟩:=Zyc e1 e2
  simp [e1,e2,w1,w2,w3]
theorem Zbjr (b:Zh) (hl:LeB b):∀ k,k≤b.Contours.length →
  Zip b b.Contours b.Contours.length k=some (Bo ((b.Contours.drop k).all (Zco b.Plans.length) && (decide (0<b.Budgets.length) && decide (b.Contours.length=b.Budgets.length))),[]):=by
 obtain ⟨l1,l2,l3,l4,l5,l6⟩:=hl
 refine down _ ?_ ?_
 ·refine Z3d _ _ _ _ _ ?_
  by_cases e1:0<b.Budgets.length
  ·have e2:(0:Int)<b.Budgets.length:=by omega
   rw [if_neg (by omega),if_pos e2]
   simp [e1,Int.natCast_inj]
  ·have e2:¬ (0:Int)<b.Budgets.length:=by omega
   rw [if_neg (by omega),if_neg e2]
   simp [e1]
 ·intro k hk ih
  refine Z3d _ _ _ _ _ ?_
  have h4:=inc64 (i:=k) (by omega)
  have c1:=Zbjq b.Contours[k] b.Plans.length l4 (l6 _ (List.getElem_mem hk))
  rw [Ze2 _ hk]
  simp only [Zco] at ih ⊢
  simp only [Int.natCast_add,Int.cast_ofNat_Int] at ih
  generalize hd:(Zbj (b.Plans.length) [] b.Contours[k] && decide (0<b.Contours[k].length))=d at c1 ⊢
  rw [if_pos (by omega)]
  refine ⟨by omega,_,List.getElem?_eq_getElem hk,d,c1,?_⟩
  cases d
  ·simp
  ·rw [if_pos rfl,show w ((k:Int)+1)=(k:Int)+1 from h4,ih]
   simp
theorem Zbjs (b:Zh) (hr:inR b.Ratio 2 8=true) (hl:LeB b) (c:Bool) (hc:Zip b b.Contours b.Contours.length 0=some (Bo c,[])):∀ k,k≤b.Budgets.length→(∀ p,Zb6 b.Budgets k=some p→inR p 1 500000000000=true) →
  Zg0 b b.Budgets b.Budgets.length k=some (Bo (Zc1 b.Ratio (Zb6 b.Budgets k) (b.Budgets.drop k) && c),[]):=by
 obtain ⟨l1,l2,l3,l4,l5,l6⟩:=hl
 refine down _ ?_ ?_
 ·intro _
  refine Z3c _ _ _ _ _ ?_
  rw [if_neg (by omega),hc]
  simp [Zc1]
 ·intro k hk ih hp
  refine Z3c _ _ _ _ _ ?_
  have h4:=inc64 (i:=k) (by omega)
  rw [Zyd _ _ hk]
  rcases tf (inR b.Budgets[k] 1 500000000000) with e1 | e1
  ·simp [hk,e1]
  have pk:Zb6 b.Budgets (k+1)=some b.Budgets[k]:=by simp [Zb6,List.getElem?_eq_getElem hk]
  rw [pk] at ih
  have ih:=ih (fun p h=>by cases h;exact e1)
  simp only [Int.natCast_add,Int.cast_ofNat_Int] at ih
  cases k with
  | zero =>
   simp at ih
   simp [hk,e1,Zb6,Zii,ih,show w 1=1 by decide]
  | succ j =>
   have hj:j<b.Budgets.length:=by omega
   have hpj:Zb6 b.Budgets (j+1)=some b.Budgets[j]:=by simp [Zb6,List.getElem?_eq_getElem hj]
   have hb:=hp _ hpj
   rw [hpj]
   simp only [Zii]
   simp [inR] at hb hr
   have m1:b.Ratio*b.Budgets[j]≤8*500000000000:=Int.mul_le_mul hr.2 hb.2 (by omega) (by omega)
   have m2:0≤b.Ratio*b.Budgets[j]:=Int.mul_nonneg (by omega) (by omega)
   have w1:w (b.Ratio*b.Budgets[j])=b.Ratio*b.Budgets[j]:=wrap64 (by omega) (by omega)
   have w2:w (((j+1:Nat):Int) - 1)=j:=by rw [show ((j+1:Nat):Int) - 1=j by omega];exact wrap64 (by omega) (by omega)
   rw [if_pos (by omega)]
   refine ⟨by omega,b.Budgets[j+1],by rw [Int.toNat_natCast];exact List.getElem?_eq_getElem hk,true,by rw [Zcw,e1],?_⟩
   rw [if_pos rfl,if_pos (by omega),w2]
   refine ⟨by omega,b.Budgets[j],by rw [Int.toNat_natCast];exact List.getElem?_eq_getElem hj,?_⟩
   rw [w1,Int.mul_comm]
   by_cases e2:b.Budgets[j+1]=b.Budgets[j]*b.Ratio
   ·rw [if_pos e2,show w (((j+1:Nat):Int)+1)=((j+1:Nat):Int)+1 from h4,ih,e1,decide_eq_true e2,Bool.true_and,Bool.true_and]
   ·rw [if_neg e2]
    simp [e2]
theorem Zbjt (q:Zc) (b:Zh) (hq:LeQ q) (hl:LeB b) (c:Bool) (hc:Zg0 b b.Budgets b.Budgets.length 0=some (Bo c,[])):∀ k,k≤b.Plans.length →
  Zio q b b.Plans b.Plans.length k=some (Bo ((b.Plans.drop k).all (Ze5 q.Ze q.Atoms) && c),[]):=by
 obtain ⟨l1,l2,l3,l4,l5,l6⟩:=hl
 refine down _ ?_ ?_
 ·refine Z3b _ _ _ _ _ _ ?_
  rw [if_neg (by omega),hc]
  simp
 ·intro k hk ih
  refine Z3b _ _ _ _ _ _ ?_
  have h4:=inc64 (i:=k) (by omega)
  have q1:=Zbjn q b.Plans[k] hq
  have q2:=Zgg q hq
  rw [Ze2 _ hk]
  simp at ih
  by_cases e:Ze4 q.Ze q.Atoms b.Plans[k].Steps=Zr q.Ze q.Atoms
  ·simp [hk,h4,q1,q2,e,ih,Ze5]
  ·simp [hk,h4,q1,q2,e,Ze5]
@[simp] theorem Zbju (q:Zc) (b:Zh) (hq:LeQ q) (hl:LeB b):Zk5 q b=some (Bo (Ze6 q.Ze q.Atoms b),[]):=by
 refine Zbfz _ _ _ ?_
 have q1:=Zm5 q hq
 have q2:=Zgg q hq
 have q3:=Zwm b.Box ⟨hl.1,hl.2.1⟩
 have q4:=Zn5 q.Ze q.Atoms
 unfold Ze6 headB
 rcases tf (Zn q.Ze q.Atoms) with e1 | e1
 ·simp [q1,e1]
 rcases tf (inR b.Version 1 999) with e2 | e2
 ·simp [q1,e1,e2]
 rcases tf (inR b.Ratio 2 8) with e3 | e3
 ·simp [q1,e1,e2,e3]
 rcases tf (inR b.Slack 0 100) with e4 | e4
 ·simp [q1,e1,e2,e3,e4]
 rcases tf (inR (Z7 b.Box.Low b.Box.High) 1 400) with e5 | e5
 ·simp [q1,q3,e1,e2,e3,e4,e5]
 by_cases e6:(b.Box.Low.length:Int)=Zr q.Ze q.Atoms+1
 ·have r2:=Zbjr b hl 0 (Nat.zero_le _)
  have r1:=Zbjs b e3 hl _ r2 0 (Nat.zero_le _) (fun p h=>by simp [Zb6] at h)
  have r0:=Zbjt q b hq hl _ r1 0 (Nat.zero_le _)
  simp only [List.drop_zero,Zb6,Int.ofNat_zero] at r0
  have r0:Zio q b b.Plans b.Plans.length 0=_:=r0
  simp only [q1,q2,q3,e1,e2,e3,e4,e5,Zcw,Option.some.injEq,Prod.mk.injEq,AV.t.injEq,T.bool.injEq,T.int.injEq,true_and,and_true,exists_eq_left',if_true]
  rw [show w (Zr q.Ze q.Atoms+1)=Zr q.Ze q.Atoms+1 from q4,if_pos e6,r0]
  simp [e6,Bool.and_assoc]
 ·simp [q1,q2,q3,q4,e1,e2,e3,e4,e5,e6]
def Zdx:Int→List Zf→Bool
 | _,[]=>true
 | p,s::r=>inR s.From 1 8192 && inR s.Add (-99) 99 && decide (p<s.From) && Zdx s.From r
def Zch (l:List Zf):Nat→Int
 | 0=>0
 | i+1=>match l[i]? with | some s=>s.From | none=>0
def Zci (n:Int):Bool:=inR n (-99) 99
def Zbd (o:Zi):Bool:=Zci o.Fixed && Zci o.Zj && Zci o.Zk && Zci o.Zm && Zci o.Zl && decide (o.Steps.length≤4) && Zdx 0 o.Steps
theorem Z54 (p:Int) {l:List Zf} {i:Nat} (h:i<l.length):Zdx p (l.drop i)=(inR l[i].From 1 8192 && inR l[i].Add (-99) 99 && decide (p<l[i].From) && Zdx l[i].From (l.drop (i+1))):=by
 rw [List.drop_eq_getElem_cons h,Zdx]
@[simp] theorem Zbjv (n:Int):Zeo n=some (Bo (Zci n),[]):=by
 refine Zbhc _ _ ?_
 simp [Zci]
theorem Zbjw (o:Zi) (hl:Le o.Steps):∀ i,i≤o.Steps.length→Zhg o i=some (Bo (Zdx (Zch o.Steps i) (o.Steps.drop i)),[]):=by
 refine down _ ?_ ?_
 ·refine Z4j _ _ _ ?_
  simp [Zdx]
 ·intro i hi ih
  refine Z4j _ _ _ ?_
  have h4:=inc64 (i:=i) (by omega)
  rw [Z54 _ hi]
  have pn:Zch o.Steps (i+1)=o.Steps[i].From:=by simp [Zch,List.getElem?_eq_getElem hi]
  rw [pn] at ih
  simp only [Int.natCast_add,Int.cast_ofNat_Int] at ih
  rw [if_pos (by omega)]
  refine ⟨by omega,o.Steps[i],by rw [Int.toNat_natCast];exact List.getElem?_eq_getElem hi,_,Zfl _ _ _,?_⟩
  rcases tf (inR o.Steps[i].From 1 8192) with e1 | e1
  ·rw [e1];simp
  rw [e1,if_pos rfl]
  refine ⟨_,Zbjv _,?_⟩
  unfold Zci
  rcases tf (inR o.Steps[i].Add (-99) 99) with e2 | e2
  ·rw [e2];simp
  rw [e2,if_pos rfl,show w ((i:Int)+1)=(i:Int)+1 from h4]
  cases i with
  | zero =>
   rw [if_neg (by omega),ih]
   have:Zch o.Steps 0<o.Steps[0].From:=by simp [inR] at e1;simp [Zch];omega
   simp [this]
  | succ j =>
   have hj:j<o.Steps.length:=by omega
   have w2:w (((j+1:Nat):Int) - 1)=j:=by rw [show ((j+1:Nat):Int) - 1=j by omega];exact wrap64 (by omega) (by omega)
   have pj:Zch o.Steps (j+1)=o.Steps[j].From:=by simp [Zch,List.getElem?_eq_getElem hj]
   rw [if_pos (by omega),w2,pj]
   refine ⟨by omega,o.Steps[j],by rw [Int.toNat_natCast];exact List.getElem?_eq_getElem hj,?_⟩
   by_cases e3:o.Steps[j+1].From≤o.Steps[j].From
   ·rw [if_pos e3,decide_eq_false (by omega)];simp
   ·rw [if_neg e3,decide_eq_true (by omega),ih];simp
@[simp] theorem Zm9 (o:Zi) (hl:Le o.Steps):Zf5 o=some (Bo (Zbd o),[]):=by
 refine Zbhd _ _ ?_
 have b:=Zbjw o hl 0 (Nat.zero_le _)
 simp only [Zch,List.drop_zero,Int.ofNat_zero] at b
 have b:Zhg o 0=_:=b
 unfold Zbd
 rcases tf (Zci o.Fixed) with e1 | e1
 ·simp [e1]
 rcases tf (Zci o.Zj) with e2 | e2
 ·simp [e1,e2]
 rcases tf (Zci o.Zk) with e3 | e3
 ·simp [e1,e2,e3]
 rcases tf (Zci o.Zm) with e4 | e4
 ·simp [e1,e2,e3,e4]
 rcases tf (Zci o.Zl) with e5 | e5
 ·simp [e1,e2,e3,e4,e5]
 by_cases e6:o.Steps.length≤4
 ·have e7:¬ (4:Int)<o.Steps.length:=by omega
  simp [e1,e2,e3,e4,e5,e6,e7,b]
 ·have e7:(4:Int)<o.Steps.length:=by omega
  simp [e1,e2,e3,e4,e5,e6,e7]
theorem Zbjx (o:Zi) (hl:Le o.Steps):∀ i,i≤o.Steps.length→Zfs o o.Steps o.Steps.length i=some (Bo (Zdx (Zch o.Steps i) (o.Steps.drop i) && decide (o.Steps.length≤4)),[]):=by
 refine down _ ?_ ?_
 ·refine Z3i _ _ _ _ _ ?_
  rw [if_neg (by omega)]
  by_cases e:o.Steps.length≤4
  ·simp [Zdx,e];omega
  ·simp [Zdx,e];omega
 ·intro i hi ih
  refine Z3i _ _ _ _ _ ?_
  have h4:=inc64 (i:=i) (by omega)
  rw [Z54 _ hi]
  have pn:Zch o.Steps (i+1)=o.Steps[i].From:=by simp [Zch,List.getElem?_eq_getElem hi]
  rw [pn] at ih
  simp only [Int.natCast_add,Int.cast_ofNat_Int] at ih
  rw [if_pos (by omega)]
  refine ⟨by omega,o.Steps[i],by rw [Int.toNat_natCast];exact List.getElem?_eq_getElem hi,_,Zcw _ _ _,?_⟩
  rcases tf (inR o.Steps[i].Add (-99) 99) with e2 | e2
  ·rw [e2];simp
  rw [e2,if_pos rfl]
  refine ⟨_,Zcw _ _ _,?_⟩
  rcases tf (inR o.Steps[i].From 1 8192) with e1 | e1
  ·rw [e1];simp
  rw [e1,if_pos rfl,show w ((i:Int)+1)=(i:Int)+1 from h4]
  cases i with
  | zero =>
   rw [if_neg (by omega),ih]
   have:Zch o.Steps 0<o.Steps[0].From:=by simp [inR] at e1;simp [Zch];omega
   simp [this]
  | succ j =>
   have hj:j<o.Steps.length:=by omega
   have w2:w (((j+1:Nat):Int) - 1)=j:=by rw [show ((j+1:Nat):Int) - 1=j by omega];exact wrap64 (by omega) (by omega)
   have pj:Zch o.Steps (j+1)=o.Steps[j].From:=by simp [Zch,List.getElem?_eq_getElem hj]
   rw [if_pos (by omega),w2,pj]
   refine ⟨by omega,o.Steps[j],by rw [Int.toNat_natCast];exact List.getElem?_eq_getElem hj,?_⟩
   by_cases e3:o.Steps[j+1].From≤o.Steps[j].From
   ·rw [if_pos e3,decide_eq_false (by omega)];simp
   ·rw [if_neg e3,decide_eq_true (by omega),ih];simp
@[simp] theorem Zcj (o:Zi) (hl:Le o.Steps):Zbp o=some (Bo (Zbd o),[]):=by
 refine Zbf4 _ _ ?_
 have hc:Zoo o=some (.bsl 1 5,[.box (o.c.map .t),.box [.ptr 0 0,.ptr 0 1,.ptr 0 2,.ptr 0 3,.ptr 0 4]]):=Zbf3 _ _ rfl
 refine ⟨hc,?_⟩
 have b:=Zbjx o hl 0 (Nat.zero_le _)
 simp only [Zch,List.drop_zero] at b
 have b:Zfs o o.Steps o.Steps.length 0=_:=b
 have w1:w (0+1)=1:=by decide
 have w2:w (1+1)=2:=by decide
 have w3:w (2+1)=3:=by decide
 have w4:w (3+1)=4:=by decide
 have w5:w (4+1)=5:=by decide
 unfold Zbd Zci
 refine Zj5 _ _ _ _ ?_
 rw [if_pos (by omega),if_pos rfl]
 refine ⟨_,Zcw _ _ _,?_⟩
 rcases tf (inR o.Fixed (-99) 99) with e1 | e1
 ·rw [e1];simp
 rw [e1,if_pos rfl,w1]
 refine Zj5 _ _ _ _ ?_
 rw [if_pos (by omega),if_neg (by omega),if_pos rfl]
 refine ⟨_,Zcw _ _ _,?_⟩
 rcases tf (inR o.Zj (-99) 99) with e2 | e2
 ·rw [e2];simp
 rw [e2,if_pos rfl,w2]
 refine Zj5 _ _ _ _ ?_
 rw [if_pos (by omega),if_neg (by omega),if_neg (by omega),if_pos rfl]
 refine ⟨_,Zcw _ _ _,?_⟩
 rcases tf (inR o.Zk (-99) 99) with e3 | e3
 ·rw [e3];simp
 rw [e3,if_pos rfl,w3]
 refine Zj5 _ _ _ _ ?_
 rw [if_pos (by omega),if_neg (by omega),if_neg (by omega),if_neg (by omega),if_pos rfl]
 refine ⟨_,Zcw _ _ _,?_⟩
 rcases tf (inR o.Zm (-99) 99) with e4 | e4
 ·rw [e4];simp
 rw [e4,if_pos rfl,w4]
 refine Zj5 _ _ _ _ ?_
 rw [if_pos (by omega),if_neg (by omega),if_neg (by omega),if_neg (by omega),if_neg (by omega),if_pos rfl]
 refine ⟨_,Zcw _ _ _,?_⟩
 rcases tf (inR o.Zl (-99) 99) with e5 | e5
 ·rw [e5];simp
 rw [e5,if_pos rfl,w5]
 refine Zj5 _ _ _ _ ?_
 rw [if_neg (by omega),b]
 simp [Bool.and_comm]
def Zfm (o:Zi) (l r n:Int):Int:=w (w (w (w (o.Fixed+w (o.Zj*l))+w (o.Zk*r))+w (o.Zm*n))+w (w (o.Zl*l)*r))
def Zdy (l r:Int) (n:Int) (s:Zf):Int:=if s.From≤w (l+r) then w (n+s.Add) else n
def Zj9 (o:Zi) (l r n:Int):Int:=o.Steps.foldl (Zdy l r) (Zfm o l r n)
def Z6 (o:Zi) (l r n:Int):Int:=if (Zbd o && inR l 0 4096 && inR r 0 4096 && inR n 0 4096)=true then Zj9 o l r n else 0
theorem Zbjy (l r:Int) (st:List Zf) (hl:Le st):∀ i,i≤st.length→∀ n,Zg6 l r n st st.length i=some (I ((st.drop i).foldl (Zdy l r) n),[]):=by
 refine down _ ?_ ?_
 ·intro n
  refine Z3n _ _ _ _ _ _ _ ?_
  simp
 ·intro i hi ih n
  refine Z3n _ _ _ _ _ _ _ ?_
  have h4:=inc64 (i:=i) (by omega)
  rw [List.drop_eq_getElem_cons hi,List.foldl_cons]
  simp only [Int.natCast_add,Int.cast_ofNat_Int] at ih
  by_cases e:st[i].From≤w (l+r)
  ·simp [hi,h4,e,ih,Zdy]
  ·simp [hi,h4,e,ih,Zdy]
@[simp] theorem Zbqf (o:Zi) (hl:Le o.Steps) (l r n:Int):Zis o l r n=some (I (Zj9 o l r n),[]):=by
 refine Zbf7 _ _ _ _ _ ?_
 have b:=Zbjy l r o.Steps hl 0 (Nat.zero_le _) (Zfm o l r n)
 simpa [Zj9,Zfm] using b
@[simp] theorem Zev (o:Zi) (hl:Le o.Steps) (l r n:Int):Zbm o l r n=some (I (Z6 o l r n),[]):=by
 refine Zbgh _ _ _ _ _ ?_
 unfold Z6
 rcases tf (Zbd o) with e1 | e1 <;> rcases tf (inR l 0 4096) with e2 | e2 <;> rcases tf (inR r 0 4096) with e3 | e3 <;> rcases tf (inR n 0 4096) with e4 | e4 <;> simp [hl,e1,e2,e3,e4]
theorem Zbjz (o:Zi) (l r:Int) (hl:Le o.Steps):∀ i,i≤o.Steps.length→∀ n,Zhh o l r n i=some (I ((o.Steps.drop i).foldl (Zdy l r) n),[]):=by
 refine down _ ?_ ?_
 ·intro n
  refine Z4k _ _ _ _ _ _ ?_
  simp
 ·intro i hi ih n
  refine Z4k _ _ _ _ _ _ ?_
  have h4:=inc64 (i:=i) (by omega)
  rw [List.drop_eq_getElem_cons hi,List.foldl_cons]
  simp only [Int.natCast_add,Int.cast_ofNat_Int] at ih
  by_cases e:o.Steps[i].From≤w (l+r)
  ·simp [hi,h4,e,ih,Zdy]
  ·simp [hi,h4,e,ih,Zdy]
@[simp] theorem Zd9 (o:Zi) (hl:Le o.Steps) (l r n:Int):Zcf o l r n=some (I (Z6 o l r n),[]):=by
 refine Zbhg _ _ _ _ _ ?_
 have b:=Zbjz o l r hl 0 (Nat.zero_le _) (Zfm o l r n)
 simp only [List.drop_zero,Zfm] at b
 have b:Zhh o l r _ 0=_:=b
 unfold Z6
 rcases tf (Zbd o) with e1 | e1 <;> rcases tf (inR l 0 4096) with e2 | e2 <;> rcases tf (inR r 0 4096) with e3 | e3 <;> rcases tf (inR n 0 4096) with e4 | e4 <;> simp [hl,e1,e2,e3,e4,b,Zj9,Zfm]
@[simp] theorem Zbj0 (c:Int):Zfa c=some (I (Zbi c),[]):=by
 refine Zbf6 _ _ ?_
 cases h:inR c 0 7
 ·simp [h,Zx2 h]
 ·rcases cls8 h with rfl | rfl | rfl | rfl | rfl | rfl | rfl | rfl <;> simp [inR,Zbi,wrap64,shlI]
@[simp] theorem Zbj1 (c:Int):Zf6 c=some (I (Zbi c),[]):=by
 refine Zbhf _ _ ?_
 have e:∀ n i r,(if i<c then Zjb c (if 1<w (n*4) then w (n*4) else 1) (w (i+1))=some r else some (I n,[])=some r)→Zjb c n i=some r:=fun n i r h=>Zbhe _ _ _ _ h
 cases h:inR c 0 7
 ·simp [h,Zx2 h]
 ·refine ⟨_,Zfl _ _ _,?_⟩
  rw [h,if_pos rfl]
  rcases cls8 h with rfl | rfl | rfl | rfl | rfl | rfl | rfl | rfl
  all_goals repeat (refine e _ _ _ ?_;first | (rw [if_neg (by decide)];rfl) | rw [if_pos (by decide)])
def inT (t:List Int):Prop:=∃ a b c:Int,t=[a,b,c]∧(0≤a∧a≤7)∧(0≤b∧b≤7)∧(0≤c∧c≤7)
def tcl (o:Zi):List Int→Int
 | [a,b,c]=>Zj9 o (Zbi a) (Zbi b) (Zbi c)
 | _=>0
theorem Zka {c:Int} (h0:0≤c) (h7:c≤7):inR (Zbi c) 0 4096=true:=by
 have:c=0∨c=1∨c=2∨c=3∨c=4∨c=5∨c=6∨c=7:=by omega
 rcases this with rfl | rfl | rfl | rfl | rfl | rfl | rfl | rfl <;> decide
theorem Zh3 (o:Zi) (hl:Le o.Steps) {t:List Int} (h:inT t):Zd6 o t=some (I (tcl o t),[]):=by
 obtain ⟨a,b,c,rfl,_⟩:=h
 refine Zbf8 _ _ _ ?_
 simp [hl,tcl]
theorem Zqb (o:Zi) (hl:Le o.Steps) (hv:Zbd o=true) {t:List Int} (h:inT t):Zhi o t=some (I (tcl o t),[]):=by
 obtain ⟨a,b,c,rfl,h1,h2,h3⟩:=h
 refine Zbhh _ _ _ ?_
 have c1:=Zka h1.1 h1.2
 have c2:=Zka h2.1 h2.2
 have c3:=Zka h3.1 h3.2
 simp [hl,tcl,Z6,hv,c1,c2,c3]
theorem Z55 {t:List Int} (h:inT t) {k:Nat} {e:Int} (hk:t[k]?=some e) (h7:e+1≤7):inT (t.set k (e+1)):=by
 obtain ⟨a,b,c,rfl,h1,h2,h3⟩:=h
 match k,hk with
 | 0,hk=>simp at hk;subst hk;exact ⟨a+1,b,c,rfl,by omega,h2,h3⟩
 | 1,hk=>simp at hk;subst hk;exact ⟨a,b+1,c,rfl,h1,by omega,h3⟩
 | 2,hk=>simp at hk;subst hk;exact ⟨a,b,c+1,rfl,h1,h2,by omega⟩
 | k+3,hk=>simp at hk
theorem Z56 {t:List Int} (h:inT t) {k:Nat} (hk:k<3):∃ e,t[k]?=some e∧0≤e∧e≤7:=by
 obtain ⟨a,b,c,rfl,h1,h2,h3⟩:=h
 match k,hk with
 | 0,_=>exact ⟨a,rfl,h1⟩
 | 1,_=>exact ⟨b,rfl,h2⟩
 | 2,_=>exact ⟨c,rfl,h3⟩
theorem Zwn {t:List Int} (h:inT t):t.length=3:=by obtain ⟨a,b,c,rfl,_⟩:=h;rfl
def decK (o:Zi) (t:List Int) (k:Nat):Prop:=∃ e,t[k]?=some e∧e+1≤7∧tcl o (t.set k (e+1))<tcl o t
def decF (o:Zi) (t:List Int) (k:Nat):Prop:=∃ j,k≤j∧j<3∧decK o t j
def decr (o:Zi):Prop:=∃ t,inT t∧decF o t 0
def cheap (o:Zi):Prop:=∃ t,inT t∧tcl o t<1
abbrev Zcx (X:Rs) (p:Prop):Prop:=∃ (xs ys:List Int) (b:Bool),X=some (.tup [.own 0,.own 1,Bo b],[.arr Zv 1 true (xs.map ic),.arr Zv 1 true (ys.map ic)])∧(b=true↔p)
theorem Zcx.congr {X:Rs} {p q:Prop} (h:Zcx X p) (e:p↔q):Zcx X q:=by
 obtain ⟨xs,ys,b,h1,h2⟩:=h;exact ⟨xs,ys,b,h1,h2.trans e⟩
theorem l_fd0 (o:Zi) (hl:Le o.Steps) (hv:Zbd o=true) {t:List Int} (ht:inT t) (a b e:Int) (p:Prop) (hc:Zcx (Zjg o a b (w (e+1))) p):∀ k:Nat,k≤3 →
  Zcx (Zfg o t a b e k) (decF o t k∨p):=by
 have h3:=Zwn ht
 refine down _ ?_ ?_
 ·obtain ⟨xs,ys,f,h1,h2⟩:=hc
  refine ⟨xs,ys,f,Z4o _ _ _ _ _ _ _ (by rw [if_neg (by omega)];exact h1),?_⟩
  rw [h2]
  exact ⟨.inr,fun h=>h.elim (fun ⟨j,a,b,_⟩=>by omega) id⟩
 ·intro k hk ih
  have h4:=inc64 (i:=k) (by omega)
  obtain ⟨x,hx,x0,x7⟩:=Z56 ht hk
  have wx:w (x+1)=x+1:=wrap64 (by omega) (by omega)
  simp only [Int.natCast_add,Int.cast_ofNat_Int] at ih
  have step:decF o t k↔(decK o t k∨decF o t (k+1)):=by
   constructor
   ·rintro ⟨j,j1,j2,j3⟩
    by_cases hj:j=k
    ·subst hj;exact .inl j3
    ·exact .inr ⟨j,by omega,j2,j3⟩
   ·rintro (h | ⟨j,j1,j2,j3⟩)
    ·exact ⟨k,Nat.le_refl _,hk,h⟩
    ·exact ⟨j,by omega,j2,j3⟩
  have pre:∀ r,(if x+1≤7 then (if tcl o (t.set k (x+1))<tcl o t then some (.tup [.own 0,.own 1,Bo true],[.arr Zv 1 true (t.map ic),.arr Zv 1 true ((t.set k (x+1)).map ic)])=some r
    else Zfg o t a b e ((k:Int)+1)=some r) else Zfg o t a b e ((k:Int)+1)=some r)→Zfg o t a b e k=some r:=by
   intro r hr
   refine Z4o _ _ _ _ _ _ _ ?_
   rw [if_pos (by omega)]
   refine ⟨by omega,by omega,x,by rw [Int.toNat_natCast];exact hx,?_⟩
   rw [wx,Int.toNat_natCast,show w ((k:Int)+1)=(k:Int)+1 from h4]
   by_cases h7:x+1≤7
   ·rw [if_pos h7] at hr ⊢
    exact ⟨_,Zqb o hl hv (Z55 ht hx h7),_,Zqb o hl hv ht,hr⟩
   ·rw [if_neg h7] at hr ⊢
    exact hr
  have dk:decK o t k↔(x+1≤7∧tcl o (t.set k (x+1))<tcl o t):=by
   constructor
   ·rintro ⟨y,y1,y2,y3⟩;rw [hx] at y1;cases y1;exact ⟨y2,y3⟩
   ·rintro ⟨y2,y3⟩;exact ⟨x,hx,y2,y3⟩
  by_cases h7:x+1≤7∧tcl o (t.set k (x+1))<tcl o t
  ·refine ⟨_,_,true,pre _ (by rw [if_pos h7.1,if_pos h7.2]),?_⟩
   rw [step,dk]
   exact ⟨fun _=>.inl (.inl h7),fun _=>rfl⟩
  ·obtain ⟨xs,ys,f,i1,i2⟩:=ih
   refine ⟨xs,ys,f,pre _ ?_,?_⟩
   ·split
    ·split
     ·rename_i a1 a2;exact absurd ⟨a1,a2⟩ h7
     ·exact i1
    ·exact i1
   ·rw [i2,step,dk]
    constructor
    ·exact fun h=>h.imp .inr id
    ·exact fun h=>h.imp (fun h=>h.resolve_left h7) id
theorem Zkb {P:Nat→Prop} {i:Nat} {p:Prop} (hi:i<8):((∃ z,i≤z∧z≤7∧P z)∨p)↔(P i∨(∃ z,i+1≤z∧z≤7∧P z)∨p):=by
 constructor
 ·rintro (⟨z,z1,z2,z3⟩ | h)
  ·by_cases hz:z=i
   ·subst hz;exact .inl z3
   ·exact .inr (.inl ⟨z,by omega,z2,z3⟩)
  ·exact .inr (.inr h)
 ·rintro (h | ⟨z,z1,z2,z3⟩ | h)
  ·exact .inl ⟨i,Nat.le_refl _,by omega,h⟩
  ·exact .inl ⟨z,by omega,z2,z3⟩
  ·exact .inr h
theorem Zkc {P:Nat→Prop} {p:Prop}:((∃ z,8≤z∧z≤7∧P z)∨p)↔p:=⟨fun h=>h.elim (fun ⟨z,a,b,_⟩=>by omega) id,.inr⟩
theorem l_fd1 (o:Zi) (hl:Le o.Steps) (hv:Zbd o=true) (a b:Nat) (ha:a≤7) (hb:b≤7) (p:Prop) (hc:Zcx (Zjf o a ((b:Int)+1)) p):∀ e:Nat,e≤8 →
  Zcx (Zjg o a b e) ((∃ z:Nat,e≤z∧z≤7∧decF o [(a:Int),(b:Int),(z:Int)] 0)∨p):=by
 have wb:w ((b:Int)+1)=(b:Int)+1:=wrap64 (by omega) (by omega)
 refine down _ ?_ ?_
 ·refine Zcx.congr ?_ Zkc.symm
  obtain ⟨xs,ys,f,h1,h2⟩:=hc
  exact ⟨xs,ys,f,Z4n _ _ _ _ _ (by rw [if_neg (by omega),wb];exact h1),h2⟩
 ·intro e he ih
  have we:w ((e:Int)+1)=(e:Int)+1:=wrap64 (by omega) (by omega)
  have hT:inT [(a:Int),(b:Int),(e:Int)]:=⟨a,b,e,rfl,by omega,by omega,by omega⟩
  simp only [Int.natCast_add,Int.cast_ofNat_Int] at ih
  obtain ⟨xs,ys,f,h1,h2⟩:=l_fd0 o hl hv hT a b e _ (by rw [we];exact ih) 0 (by omega)
  exact ⟨xs,ys,f,Z4n _ _ _ _ _ (by rw [if_pos (by omega)];exact h1),h2.trans (Zkb (P:=fun z:Nat=>decF o [(a:Int),(b:Int),(z:Int)] 0) he).symm⟩
theorem l_fd2 (o:Zi) (hl:Le o.Steps) (hv:Zbd o=true) (a:Nat) (ha:a≤7) (p:Prop) (hc:Zcx (Zje o ((a:Int)+1)) p):∀ b:Nat,b≤8 →
  Zcx (Zjf o a b) ((∃ y:Nat,b≤y∧y≤7∧∃ z:Nat,0≤z∧z≤7∧decF o [(a:Int),(y:Int),(z:Int)] 0)∨p):=by
 have wa:w ((a:Int)+1)=(a:Int)+1:=wrap64 (by omega) (by omega)
 refine down _ ?_ ?_
 ·refine Zcx.congr ?_ Zkc.symm
  obtain ⟨xs,ys,f,h1,h2⟩:=hc
  exact ⟨xs,ys,f,Z4m _ _ _ _ (by rw [if_neg (by omega),wa];exact h1),h2⟩
 ·intro b hb ih
  simp only [Int.natCast_add,Int.cast_ofNat_Int] at ih
  obtain ⟨xs,ys,f,h1,h2⟩:=l_fd1 o hl hv a b ha (by omega) _ ih 0 (by omega)
  exact ⟨xs,ys,f,Z4m _ _ _ _ (by rw [if_pos (by omega)];exact h1),h2.trans (Zkb (P:=fun y:Nat=>∃ z:Nat,0≤z∧z≤7∧decF o [(a:Int),(y:Int),(z:Int)] 0) hb).symm⟩
theorem l_fd3 (o:Zi) (hl:Le o.Steps) (hv:Zbd o=true):∀ a:Nat,a≤8 →
  Zcx (Zje o a) ((∃ x:Nat,a≤x∧x≤7∧∃ y:Nat,0≤y∧y≤7∧∃ z:Nat,0≤z∧z≤7∧decF o [(x:Int),(y:Int),(z:Int)] 0)∨False):=by
 refine down _ ?_ ?_
 ·refine Zcx.congr ?_ Zkc.symm
  exact ⟨[],[],false,Z4l _ _ _ (by rw [if_neg (by omega)]),by simp⟩
 ·intro a ha ih
  simp only [Int.natCast_add,Int.cast_ofNat_Int] at ih
  obtain ⟨xs,ys,f,h1,h2⟩:=l_fd2 o hl hv a (by omega) _ ih 0 (by omega)
  exact ⟨xs,ys,f,Z4l _ _ _ (by rw [if_pos (by omega)];exact h1),h2.trans (Zkb (P:=fun x:Nat=>∃ y:Nat,0≤y∧y≤7∧∃ z:Nat,0≤z∧z≤7∧decF o [(x:Int),(y:Int),(z:Int)] 0) ha).symm⟩
theorem Z57 (o:Zi) (P:List Int→Prop):(∃ t,inT t∧P t)↔∃ x:Nat,0≤x∧x≤7∧∃ y:Nat,0≤y∧y≤7∧∃ z:Nat,0≤z∧z≤7∧P [(x:Int),(y:Int),(z:Int)]:=by
 constructor
 ·rintro ⟨t,⟨a,b,c,rfl,h1,h2,h3⟩,h⟩
  refine ⟨a.toNat,by omega,by omega,b.toNat,by omega,by omega,c.toNat,by omega,by omega,?_⟩
  rw [Int.toNat_of_nonneg h1.1,Int.toNat_of_nonneg h2.1,Int.toNat_of_nonneg h3.1]
  exact h
 ·rintro ⟨x,_,x2,y,_,y2,z,_,z2,h⟩
  exact ⟨_,⟨x,y,z,rfl,by omega,by omega,by omega⟩,h⟩
theorem Zbj2 (o:Zi) (hl:Le o.Steps) (hv:Zbd o=true):Zcx (Zlw o) (decr o):=by
 obtain ⟨xs,ys,f,h1,h2⟩:=l_fd3 o hl hv 0 (by omega)
 refine ⟨xs,ys,f,Zbhi _ _ ⟨_,Zm9 o hl,?_⟩,?_⟩
 ·rw [hv,if_pos rfl];exact h1
 ·rw [h2,decr,Z57 o (fun t=>decF o t 0)]
  simp
abbrev Zc5 (X:Rs) (p:Prop):Prop:=∃ (xs:List Int),X=some (.own 0,[.arr Zv 1 true (xs.map ic)])∧(xs≠[]↔p)
theorem Zc5.congr {X:Rs} {p q:Prop} (h:Zc5 X p) (e:p↔q):Zc5 X q:=by
 obtain ⟨xs,h1,h2⟩:=h;exact ⟨xs,h1,h2.trans e⟩
theorem l_ch0 (o:Zi) (hl:Le o.Steps) (hv:Zbd o=true) (a b:Nat) (ha:a≤7) (hb:b≤7) (p:Prop) (hc:Zc5 (Zji o a ((b:Int)+1)) p):∀ e:Nat,e≤8 →
  Zc5 (Zlz o a b e) ((∃ z:Nat,e≤z∧z≤7∧tcl o [(a:Int),(b:Int),(z:Int)]<1)∨p):=by
 have wb:w ((b:Int)+1)=(b:Int)+1:=wrap64 (by omega) (by omega)
 refine down _ ?_ ?_
 ·refine Zc5.congr ?_ Zkc.symm
  obtain ⟨xs,h1,h2⟩:=hc
  exact ⟨xs,Zwc _ _ _ _ _ (by rw [if_neg (by omega),wb];exact h1),h2⟩
 ·intro e he ih
  have we:w ((e:Int)+1)=(e:Int)+1:=wrap64 (by omega) (by omega)
  have hT:inT [(a:Int),(b:Int),(e:Int)]:=⟨a,b,e,rfl,by omega,by omega,by omega⟩
  simp only [Int.natCast_add,Int.cast_ofNat_Int] at ih
  refine Zc5.congr ?_ (Zkb he).symm
  by_cases h:tcl o [(a:Int),(b:Int),(e:Int)]<1
  ·refine ⟨[a,b,e],Zwc _ _ _ _ _ ?_,by simp [h]⟩
   rw [if_pos (by omega)]
   exact ⟨_,Zqb o hl hv hT,by rw [if_pos h]⟩
  ·obtain ⟨xs,h1,h2⟩:=ih
   refine ⟨xs,Zwc _ _ _ _ _ ?_,by rw [h2];simp [h]⟩
   rw [if_pos (by omega)]
   exact ⟨_,Zqb o hl hv hT,by rw [if_neg h,we];exact h1⟩
theorem l_ch1 (o:Zi) (hl:Le o.Steps) (hv:Zbd o=true) (a:Nat) (ha:a≤7) (p:Prop) (hc:Zc5 (Zjh o ((a:Int)+1)) p):∀ b:Nat,b≤8 →
  Zc5 (Zji o a b) ((∃ y:Nat,b≤y∧y≤7∧∃ z:Nat,0≤z∧z≤7∧tcl o [(a:Int),(y:Int),(z:Int)]<1)∨p):=by
 have wa:w ((a:Int)+1)=(a:Int)+1:=wrap64 (by omega) (by omega)
 refine down _ ?_ ?_
 ·refine Zc5.congr ?_ Zkc.symm
  obtain ⟨xs,h1,h2⟩:=hc
  exact ⟨xs,Z4q _ _ _ _ (by rw [if_neg (by omega),wa];exact h1),h2⟩
 ·intro b hb ih
  simp only [Int.natCast_add,Int.cast_ofNat_Int] at ih
  obtain ⟨xs,h1,h2⟩:=l_ch0 o hl hv a b ha (by omega) _ ih 0 (by omega)
  exact ⟨xs,Z4q _ _ _ _ (by rw [if_pos (by omega)];exact h1),h2.trans (Zkb (P:=fun y:Nat=>∃ z:Nat,0≤z∧z≤7∧tcl o [(a:Int),(y:Int),(z:Int)]<1) hb).symm⟩
theorem l_ch2 (o:Zi) (hl:Le o.Steps) (hv:Zbd o=true):∀ a:Nat,a≤8 →
  Zc5 (Zjh o a) ((∃ x:Nat,a≤x∧x≤7∧∃ y:Nat,0≤y∧y≤7∧∃ z:Nat,0≤z∧z≤7∧tcl o [(x:Int),(y:Int),(z:Int)]<1)∨False):=by
 refine down _ ?_ ?_
 ·refine Zc5.congr ?_ Zkc.symm
  exact ⟨[],Z4p _ _ _ (by rw [if_neg (by omega)]),by simp⟩
 ·intro a ha ih
  simp only [Int.natCast_add,Int.cast_ofNat_Int] at ih
  obtain ⟨xs,h1,h2⟩:=l_ch1 o hl hv a (by omega) _ ih 0 (by omega)
  exact ⟨xs,Z4p _ _ _ (by rw [if_pos (by omega)];exact h1),h2.trans (Zkb (P:=fun x:Nat=>∃ y:Nat,0≤y∧y≤7∧∃ z:Nat,0≤z∧z≤7∧tcl o [(x:Int),(y:Int),(z:Int)]<1) ha).symm⟩
theorem Zbj3 (o:Zi) (hl:Le o.Steps) (hv:Zbd o=true):Zc5 (Zpb o) (cheap o):=by
 obtain ⟨xs,h1,h2⟩:=l_ch2 o hl hv 0 (by omega)
 refine ⟨xs,Zbhj _ _ h1,?_⟩
 rw [h2,cheap,Z57 o (fun t=>tcl o t<1)]
 simp
def rowC (a b:Int) (c:Nat):List (List Int):=(List.range' c (8 - c)).map fun z:Nat=>[a,b,(z:Int)]
def rowB (a:Int) (b:Nat):List (List Int):=(List.range' b (8 - b)).flatMap fun y:Nat=>rowC a y 0
def rowA (a:Nat):List (List Int):=(List.range' a (8 - a)).flatMap fun x:Nat=>rowB x 0
theorem Zwo {i:Nat} (h:i<8):List.range' i (8 - i)=i::List.range' (i+1) (8 - (i+1)):=by
 rw [show 8 - i=(8 - (i+1))+1 by omega,List.range'_succ]
theorem rowC_len (a b:Int) (c:Nat):(rowC a b c).length=8 - c:=by simp [rowC]
theorem rowB_len (a:Int):(rowB a 0).length=64:=rfl
theorem l_tr0 (a b:Nat) (hb:b≤7) (r:AV×List Blk):∀ c:Nat,c≤8→∀ out:List (List Int),out.length≤1000000→Zg4 (out++rowC a b c) a ((b:Int)+1)=some r→Zir out a b c=some r:=by
 have wb:w ((b:Int)+1)=(b:Int)+1:=wrap64 (by omega) (by omega)
 have key:∀ c:Nat,c≤8→∀ out:List (List Int),out.length≤1000000+c→Zg4 (out++rowC a b c) a ((b:Int)+1)=some r→Zir out a b c=some r:=by
  refine down _ ?_ ?_
  ·intro out ho h
   refine Z3l _ _ _ _ _ ?_
   rw [if_neg (by omega),wb]
   simpa [rowC] using h
  ·intro c hc ih out ho h
   have wc:w ((c:Int)+1)=(c:Int)+1:=wrap64 (by omega) (by omega)
   refine Z3l _ _ _ _ _ ?_
   rw [if_pos (by omega),wc]
   refine ⟨by omega,?_⟩
   have ih:=ih (out++[[(a:Int),(b:Int),(c:Int)]]) (by simp;omega) (by
    rw [rowC,Zwo hc] at h
    simpa [rowC] using h)
   simpa using ih
 exact fun c hc out ho h=>key c hc out (by omega) h
theorem l_tr1 (a:Nat) (ha:a≤7) (r:AV×List Blk):∀ b:Nat,b≤8→∀ out:List (List Int),out.length≤100000+8*b→Ziq (out++rowB a b) ((a:Int)+1)=some r→Zg4 out a b=some r:=by
 have wa:w ((a:Int)+1)=(a:Int)+1:=wrap64 (by omega) (by omega)
 refine down _ ?_ ?_
 ·intro out ho h
  refine Z3k _ _ _ _ ?_
  rw [if_neg (by omega),wa]
  simpa [rowB] using h
 ·intro b hb ih out ho h
  refine Z3k _ _ _ _ ?_
  rw [if_pos (by omega)]
  refine l_tr0 a b (by omega) r 0 (by omega) out (by omega) ?_
  have ih:=ih (out++rowC a b 0) (by rw [List.length_append,rowC_len];omega) (by
   rw [rowB,Zwo hb] at h
   simpa [rowB] using h)
  simpa using ih
theorem l_tr2:∀ a:Nat,a≤8→∀ out:List (List Int),out.length≤64*a→Ziq out a=some (.own 0,[.arr Zij 1 true ((out++rowA a).map isc)]):=by
 refine down _ ?_ ?_
 ·intro out ho
  refine Z3j _ _ _ ?_
  rw [if_neg (by omega)]
  simp [rowA]
 ·intro a ha ih out ho
  refine Z3j _ _ _ ?_
  rw [if_pos (by omega)]
  refine l_tr1 a (by omega) _ 0 (by omega) out (by omega) ?_
  have ih:=ih (out++rowB a 0) (by rw [List.length_append,rowB_len];omega)
  rw [rowA,Zwo ha]
  simpa [rowA] using ih
def allT:List (List Int):=rowA 0
theorem Zkd:Zcp=some (.own 0,[.arr Zij 1 true (allT.map isc)]):=Zbf5 _ (l_tr2 0 (by omega) [] (by simp))
theorem Zdz (t:List Int):t∈allT↔inT t:=by
 simp only [allT,rowA,rowB,rowC,List.mem_flatMap,List.mem_map,List.mem_range'_1,inT]
 constructor
 ·rintro ⟨x,hx,y,hy,z,hz,rfl⟩
  exact ⟨x,y,z,rfl,by omega,by omega,by omega⟩
 ·rintro ⟨a,b,c,rfl,h1,h2,h3⟩
  refine ⟨a.toNat,by omega,b.toNat,by omega,c.toNat,by omega,?_⟩
  rw [Int.toNat_of_nonneg h1.1,Int.toNat_of_nonneg h2.1,Int.toNat_of_nonneg h3.1]
set_option maxRecDepth 100000 in
theorem Zke:allT.length=512:=rfl
@[simp] theorem Zbj4 (xs:List Int) (h:xs.length≤68719476736):Zg5 xs=some (.own 0,[.arr Zv 1 true (xs.map ic)]):=Z3m _ _ ⟨h,rfl⟩
abbrev GoodI (X:Rs) (p:Prop):Prop:=(p∧∃ xs ys:List Int,X=some (.tup [L 1 (xs.map ic),.own 0,Bo true],[.arr Zv 1 true (ys.map ic)]))∨(¬ p∧X=some (.tup [.t .nil,.t .nil,Bo false],[]))
theorem l_id0 (o:Zi) (hl:Le o.Steps) (ts:List (List Int)) {t:List Int} (ht:inT t) (n i:Int) (p:Prop) (hc:GoodI (Zft o ts n (w (i+1))) p):∀ k:Nat,k≤3 →
  GoodI (Zde o ts t n i 3 k) (decF o t k∨p):=by
 have h3:=Zwn ht
 refine down _ ?_ ?_
 ·have e:(decF o t 3∨p)↔p:=⟨fun h=>h.elim (fun ⟨j,a,b,_⟩=>by omega) id,.inr⟩
  rcases hc with ⟨h,xs,ys,h1⟩ | ⟨h,h1⟩
  ·exact .inl ⟨e.2 h,xs,ys,Zv9 _ _ _ _ _ _ _ _ (by rw [if_neg (by omega)];exact h1)⟩
  ·exact .inr ⟨fun hc=>h (e.1 hc),Zv9 _ _ _ _ _ _ _ _ (by rw [if_neg (by omega)];exact h1)⟩
 ·intro k hk ih
  have h4:=inc64 (i:=k) (by omega)
  obtain ⟨x,hx,x0,x7⟩:=Z56 ht hk
  have wx:w (x+1)=x+1:=wrap64 (by omega) (by omega)
  simp only [Int.natCast_add,Int.cast_ofNat_Int] at ih
  have step:decF o t k↔(decK o t k∨decF o t (k+1)):=by
   constructor
   ·rintro ⟨j,j1,j2,j3⟩
    by_cases hj:j=k
    ·subst hj;exact .inl j3
    ·exact .inr ⟨j,by omega,j2,j3⟩
   ·rintro (h | ⟨j,j1,j2,j3⟩)
    ·exact ⟨k,Nat.le_refl _,hk,h⟩
    ·exact ⟨j,by omega,j2,j3⟩
  have dk:decK o t k↔(x+1≤7∧tcl o (t.set k (x+1))<tcl o t):=by
   constructor
   ·rintro ⟨y,y1,y2,y3⟩;rw [hx] at y1;cases y1;exact ⟨y2,y3⟩
   ·rintro ⟨y2,y3⟩;exact ⟨x,hx,y2,y3⟩
  have pre:∀ r,(if x+1≤7 then (if tcl o (t.set k (x+1))<tcl o t then some (.tup [L 1 (t.map ic),.own 0,Bo true],[.arr Zv 1 true ((t.set k (x+1)).map ic)])=some r
    else Zde o ts t n i 3 ((k:Int)+1)=some r) else Zde o ts t n i 3 ((k:Int)+1)=some r)→Zde o ts t n i 3 k=some r:=by
   intro r hr
   refine Zv9 _ _ _ _ _ _ _ _ ?_
   rw [if_pos (by omega)]
   refine ⟨by omega,x,by rw [Int.toNat_natCast];exact hx,?_⟩
   rw [show w ((k:Int)+1)=(k:Int)+1 from h4]
   by_cases h7:x=7
   ·rw [if_pos h7]
    rw [if_neg (by omega)] at hr
    exact hr
   ·rw [if_neg h7]
    have h8:x+1≤7:=by omega
    rw [if_pos h8] at hr
    refine ⟨t,Zbj4 t (by omega),x,by rw [Int.toNat_natCast];exact hx,?_⟩
    rw [wx,Int.toNat_natCast]
    exact ⟨_,Zh3 o hl (Z55 ht hx h8),_,Zh3 o hl ht,hr⟩
  by_cases h7:x+1≤7∧tcl o (t.set k (x+1))<tcl o t
  ·exact .inl ⟨.inl (step.2 (.inl (dk.2 h7))),_,_,pre _ (by rw [if_pos h7.1,if_pos h7.2])⟩
  ·have go:∀ r,Zde o ts t n i 3 ((k:Int)+1)=some r→Zde o ts t n i 3 k=some r:=by
    intro r hr
    refine pre r ?_
    split
    ·split
     ·rename_i a1 a2;exact absurd ⟨a1,a2⟩ h7
     ·exact hr
    ·exact hr
   have e:(decF o t k∨p)↔(decF o t (k+1)∨p):=by
    rw [step,dk]
    exact ⟨fun h=>h.imp (fun h=>h.resolve_left h7) id,fun h=>h.imp .inr id⟩
   rcases ih with ⟨h,xs,ys,h1⟩ | ⟨h,h1⟩
   ·exact .inl ⟨e.2 h,xs,ys,go _ h1⟩
   ·exact .inr ⟨fun hc=>h (e.1 hc),go _ h1⟩
theorem l_id1 (o:Zi) (hl:Le o.Steps) (ts:List (List Int)) (hts:∀ t∈ts,inT t) (hn:ts.length≤1000):∀ i,i≤ts.length→GoodI (Zft o ts ts.length i) (∃ t∈ts.drop i,decF o t 0):=by
 refine down _ ?_ ?_
 ·refine .inr ⟨by simp,Z3p _ _ _ _ _ (by rw [if_neg (by omega)])⟩
 ·intro i hi ih
  have h4:=inc64 (i:=i) (by omega)
  have ht:=hts _ (List.getElem_mem hi)
  simp only [Int.natCast_add,Int.cast_ofNat_Int] at ih
  have b:=l_id0 o hl ts ht ts.length i _ (by rw [show w ((i:Int)+1)=(i:Int)+1 from h4];exact ih) 0 (by omega)
  have go:∀ r,Zde o ts ts[i] ts.length i 3 0=some r→Zft o ts ts.length i=some r:=by
   intro r hr
   refine Z3p _ _ _ _ _ ?_
   rw [if_pos (by omega)]
   refine ⟨by omega,ts[i],by rw [Int.toNat_natCast];exact List.getElem?_eq_getElem hi,?_⟩
   rw [Zwn ht]
   exact hr
  have e:(∃ t∈ts.drop i,decF o t 0)↔(decF o ts[i] 0∨∃ t∈ts.drop (i+1),decF o t 0):=by
   rw [List.drop_eq_getElem_cons hi];simp only [List.mem_cons,exists_eq_or_imp]
  rcases b with ⟨h,xs,ys,h1⟩ | ⟨h,h1⟩
  ·exact .inl ⟨e.2 h,xs,ys,go _ h1⟩
  ·exact .inr ⟨fun hc=>h (e.1 hc),go _ h1⟩
theorem Zna (o:Zi) (hl:Le o.Steps) (hv:Zbd o=true):GoodI (Zbk o) (decr o):=by
 have b:=l_id1 o hl allT (fun t h=>(Zdz t).1 h) (by rw [Zke];omega) 0 (Nat.zero_le _)
 have go:∀ r,Zft o allT allT.length 0=some r→Zbk o=some r:=by
  intro r hr
  refine Zbf9 _ _ ⟨_,Zcj o hl,?_⟩
  rw [hv,if_pos rfl]
  exact ⟨allT,Zkd,hr⟩
 have e:(∃ t∈allT.drop 0,decF o t 0)↔decr o:=by
  simp only [List.drop_zero,Zdz,decr]
 rcases b with ⟨h,xs,ys,h1⟩ | ⟨h,h1⟩
 ·exact .inl ⟨e.1 h,xs,ys,go _ h1⟩
 ·exact .inr ⟨fun hc=>h (e.2 hc),go _ h1⟩
def Zbc (o:Zi):Prop:=Zbd o=true∧¬ decr o∧¬ cheap o
def mOp (m:Zd) (k:Int):Zi:=if k=1 then m.Scan else if k=2 then m.Sort_ else if k=3 then m.Hash else if k=4 then m.Merge else m.Nested
abbrev LeM (m:Zd):Prop:=Le m.Scan.Steps∧Le m.Sort_.Steps∧Le m.Hash.Steps∧Le m.Merge.Steps∧Le m.Nested.Steps
theorem LeM.op {m:Zd} (h:LeM m) (k:Int):Le (mOp m k).Steps:=by
 unfold mOp
 obtain ⟨h1,h2,h3,h4,h5⟩:=h
 repeat' split
 all_goals assumption
@[simp] theorem Zkf (m:Zd) (k:Int):Zc3 m k=some (.agg ((mOp m k).c.map .t),[]):=by
 refine Zbha _ _ _ ?_
 unfold mOp
 by_cases h1:k=1
 ·simp [h1]
 by_cases h2:k=2
 ·simp [h2]
 by_cases h3:k=3
 ·simp [h3]
 by_cases h4:k=4
 ·simp [h4]
 ·simp [h1,h2,h3,h4]
def Zbv (m:Zd):Prop:=Zbc m.Scan∧Zbc m.Sort_∧Zbc m.Hash∧Zbc m.Merge∧Zbc m.Nested
theorem Zbj5 (m:Zd) (hm:LeM m):∀ k:Nat,k≤6→1≤k →
  ∃ (xs ys:List Int) (n:Int),Zjj m k=some (.tup [I n,.own 0,.own 1],[.arr Zv 1 true (xs.map ic),.arr Zv 1 true (ys.map ic)])∧(n=0↔∀ j:Nat,k≤j→j≤5→Zbc (mOp m j)):=by
 refine down _ ?_ ?_
 ·intro _
  exact ⟨[],[],0,Z4r _ _ _ (by rw [if_neg (by omega)]),⟨fun _ j h1 h2=>by omega,fun _=>rfl⟩⟩
 ·intro k hk ih h1
  have wk':w ((k:Int)+1)=(k:Int)+1:=wrap64 (by omega) (by omega)
  have hl:=hm.op k
  have step:(∀ j:Nat,k≤j→j≤5→Zbc (mOp m j))↔(Zbc (mOp m k)∧∀ j:Nat,k+1≤j→j≤5→Zbc (mOp m j)):=by
   constructor
   ·exact fun h=>⟨h k (Nat.le_refl _) (by omega),fun j a b=>h j (by omega) b⟩
   ·rintro ⟨a,b⟩ j c d
    by_cases hj:j=k
    ·subst hj;exact a
    ·exact b j (by omega) d
  have kne:(k:Int)≠0:=by omega
  have pre:∀ r,(∃ v2_0,Zf5 (mOp m k)=some (Bo v2_0,[])∧_)→Zjj m k=some r:=fun r h=>Z4r _ _ _ (by rw [if_pos (by omega)];exact ⟨mOp m k,Zkf m k,h⟩)
  rcases tf (Zbd (mOp m k)) with hv | hv
  ·refine ⟨[],[],k,pre _ ⟨false,by rw [Zm9 _ hl,hv],by rw [if_neg (by simp)]⟩,?_⟩
   rw [step]
   exact ⟨fun h=>absurd h kne,fun h=>by have:=h.1.1;rw [hv] at this;cases this⟩
  ·obtain ⟨xs,ys,f,d1,d2⟩:=Zbj2 (mOp m k) hl hv
   cases f with
   | true =>
    refine ⟨xs,ys,k,pre _ ⟨true,by rw [Zm9 _ hl,hv],?_⟩,?_⟩
    ·rw [if_pos rfl];exact ⟨xs,ys,true,d1,by rw [if_pos rfl]⟩
    ·rw [step]
     exact ⟨fun h=>absurd h kne,fun h=>absurd (d2.1 rfl) h.1.2.1⟩
   | false =>
    obtain ⟨cs,c1,c2⟩:=Zbj3 (mOp m k) hl hv
    by_cases hc:cs=[]
    ·obtain ⟨xs',ys',n,i1,i2⟩:=ih (by omega)
     simp only [Int.natCast_add,Int.cast_ofNat_Int] at i1
     refine ⟨xs',ys',n,pre _ ⟨true,by rw [Zm9 _ hl,hv],?_⟩,?_⟩
     ·rw [if_pos rfl]
      refine ⟨xs,ys,false,d1,?_⟩
      rw [if_neg (by simp)]
      refine ⟨cs,c1,?_⟩
      rw [hc,if_neg (by simp),wk']
      exact i1
     ·rw [step,i2]
      refine ⟨fun h=>⟨⟨hv,fun hd=>(by have:=d2.2 hd;cases this),fun hch=>(c2.2 hch) hc⟩,h⟩,fun h=>h.2⟩
    ·refine ⟨cs,[],k,pre _ ⟨true,by rw [Zm9 _ hl,hv],?_⟩,?_⟩
     ·rw [if_pos rfl]
      refine ⟨xs,ys,false,d1,?_⟩
      rw [if_neg (by simp)]
      refine ⟨cs,c1,?_⟩
      have:0<cs.length:=List.length_pos_iff.2 hc
      rw [if_pos (by omega)]
     ·rw [step]
      exact ⟨fun h=>absurd h kne,fun h=>absurd (c2.1 hc) h.1.2.2⟩
theorem adm_iff (m:Zd):(∀ j:Nat,1≤j→j≤5→Zbc (mOp m j))↔Zbv m:=by
 constructor
 ·intro h
  exact ⟨h 1 (by omega) (by omega),h 2 (by omega) (by omega),h 3 (by omega) (by omega),h 4 (by omega) (by omega),h 5 (by omega) (by omega)⟩
 ·rintro ⟨h1,h2,h3,h4,h5⟩ j a b
  have:j=1∨j=2∨j=3∨j=4∨j=5:=by omega
  rcases this with rfl | rfl | rfl | rfl | rfl
  ·exact h1
  ·exact h2
  ·exact h3
  ·exact h4
  ·exact h5
open Classical in
theorem Z58 (m:Zd) (hm:LeM m):Zhj m=some (Bo (decide (Zbv m)),[]):=by
 obtain ⟨xs,ys,n,h1,h2⟩:=Zbj5 m hm 1 (by omega) (by omega)
 refine Zbhl _ _ ⟨xs,ys,n,Zbhk _ _ h1,?_⟩
 rw [adm_iff] at h2
 by_cases h:Zbv m
 ·rw [decide_eq_true h,decide_eq_true (h2.2 h)]
 ·rw [decide_eq_false h,decide_eq_false (fun hc=>h (h2.1 hc))]
abbrev Z4 (X:Rs) (p:Prop):Prop:=(p∧X=some (.tup [I 0,.t .nil,.t .nil],[]))∨(¬ p∧∃ n:Int,n≠0∧((∃ xs ys:List Int,X=some (.tup [I n,L 1 (xs.map ic),.own 0],[.arr Zv 1 true (ys.map ic)]))∨X=some (.tup [I n,.t .nil,.t .nil],[])∨∃ xs:List Int,X=some (.tup [I n,L 1 (xs.map ic),.t .nil],[])))
theorem Z4.of {X Y:Rs} {p:Prop} (h:Z4 X p) (e:∀ r,X=some r→Y=some r):Z4 Y p:=by
 rcases h with ⟨h,h1⟩ | ⟨h,n,hn,⟨xs,ys,h1⟩ | h1 | ⟨xs,h1⟩⟩
 ·exact .inl ⟨h,e _ h1⟩
 ·exact .inr ⟨h,n,hn,.inl ⟨xs,ys,e _ h1⟩⟩
 ·exact .inr ⟨h,n,hn,.inr (.inl (e _ h1))⟩
 ·exact .inr ⟨h,n,hn,.inr (.inr ⟨xs,e _ h1⟩)⟩
theorem Z4.congr {X:Rs} {p q:Prop} (h:Z4 X p) (e:p↔q):Z4 X q:=by
 rw [← e];exact h
theorem Znb {ts:List (List Int)} {j:Nat} (hj:j<ts.length) {P:List Int→Prop} {p:Prop}:((∀ t∈ts.drop j,P t)∧p)↔(P ts[j]∧(∀ t∈ts.drop (j+1),P t)∧p):=by
 rw [List.drop_eq_getElem_cons hj]
 simp only [List.mem_cons,forall_eq_or_imp,and_assoc]
theorem l_rf0 (m:Zd) (hl:Le m.Scan.Steps) (ts:List (List Int)) (hts:∀ t∈ts,inT t) (hn:ts.length≤1000) (kind:Int) (hk:kind≠0) (x1 x2:Int) (p:Prop) (hc:Z4 (Z9 m x1 (w (x2+1))) p):∀ j,j≤ts.length →
  Z4 (Zfw m ts kind x1 x2 ts.length j) ((∀ t∈ts.drop j,¬ tcl m.Scan t<1)∧p):=by
 refine down _ ?_ ?_
 ·refine (hc.of fun r hr=>Z3q _ _ _ _ _ _ _ _ (by rw [if_neg (by omega)];exact hr)).congr (by simp)
 ·intro j hj ih
  have h4:=inc64 (i:=j) (by omega)
  have ht:=hts _ (List.getElem_mem hj)
  simp only [Int.natCast_add,Int.cast_ofNat_Int] at ih
  have pre:∀ r,(if tcl m.Scan ts[j]<1 then some (.tup [I kind,L 1 (ts[j].map ic),.t .nil],[])=some r else Zfw m ts kind x1 x2 ts.length ((j:Int)+1)=some r)→Zfw m ts kind x1 x2 ts.length j=some r:=by
   intro r hr
   refine Z3q _ _ _ _ _ _ _ _ ?_
   rw [if_pos (by omega)]
   refine ⟨by omega,ts[j],by rw [Int.toNat_natCast];exact List.getElem?_eq_getElem hj,_,Zh3 _ hl ht,?_⟩
   rw [show w ((j:Int)+1)=(j:Int)+1 from h4]
   exact hr
  refine Z4.congr ?_ (Znb (P:=fun t=>¬ tcl m.Scan t<1) hj).symm
  by_cases h:tcl m.Scan ts[j]<1
  ·exact .inr ⟨fun hc=>hc.1 h,kind,hk,.inr (.inr ⟨_,pre _ (by rw [if_pos h])⟩)⟩
  ·exact (ih.of fun r hr=>pre r (by rw [if_neg h];exact hr)).congr ⟨fun hh=>⟨h,hh⟩,fun hh=>hh.2⟩
theorem l_rf1 (m:Zd) (hm:LeM m) (p:Prop) (hc:Z4 (Z9 m 5 1) p):Z4 (Z9 m 5 0) (Zbc m.Scan∧p):=by
 have hl:Le m.Scan.Steps:=by obtain ⟨h1,h2,h3,h4,h5⟩:=hm;assumption
 have w1:w (1+0)=1:=by decide
 have w2:w (0+1)=1:=by decide
 have pre:∀ r,(∃ v1_0,Zbp m.Scan=some (Bo v1_0,[])∧_)→Z9 m 5 0=some r:=fun r h=>Zj6 _ _ _ _ (by rw [if_pos (by omega),if_pos rfl];exact h)
 rcases tf (Zbd m.Scan) with hv | hv
 ·refine .inr ⟨fun h=>(by have:=h.1.1;rw [hv] at this;cases this),1,by decide,.inr (.inl (pre _ ⟨false,by rw [Zcj _ hl,hv],?_⟩))⟩
  rw [if_neg (by simp),w1]
 rcases Zna m.Scan hl hv with ⟨hd,xs,ys,d1⟩ | ⟨hd,d1⟩
 ·refine .inr ⟨fun h=>h.1.2.1 hd,1,by decide,.inl ⟨xs,ys,pre _ ⟨true,by rw [Zcj _ hl,hv],?_⟩⟩⟩
  rw [if_pos rfl,w1]
  exact .inr ⟨ys,xs,d1,rfl⟩
 ·have b:=l_rf0 m hl allT (fun t h=>(Zdz t).1 h) (by rw [Zke];omega) 1 (by decide) 5 0 p (by rw [w2];exact hc) 0 (Nat.zero_le _)
  refine (b.of fun r hr=>pre r ⟨true,by rw [Zcj _ hl,hv],?_⟩).congr ?_
  ·rw [if_pos rfl,w1]
   exact .inl ⟨d1,allT,Zkd,hr⟩
  ·simp only [List.drop_zero,Zdz]
   constructor
   ·rintro ⟨h,hp⟩;exact ⟨⟨hv,hd,fun ⟨t,ht,hc⟩=>h t ht hc⟩,hp⟩
   ·rintro ⟨h,hp⟩;exact ⟨fun t ht hc=>h.2.2 ⟨t,ht,hc⟩,hp⟩
theorem l_rf0a (m:Zd) (hl:Le m.Sort_.Steps) (ts:List (List Int)) (hts:∀ t∈ts,inT t) (hn:ts.length≤1000) (kind:Int) (hk:kind≠0) (x1 x2:Int) (p:Prop) (hc:Z4 (Z9 m x1 (w (x2+1))) p):∀ j,j≤ts.length →
  Z4 (Zfx m ts kind x1 x2 ts.length j) ((∀ t∈ts.drop j,¬ tcl m.Sort_ t<1)∧p):=by
 refine down _ ?_ ?_
 ·refine (hc.of fun r hr=>Z3r _ _ _ _ _ _ _ _ (by rw [if_neg (by omega)];exact hr)).congr (by simp)
 ·intro j hj ih
  have h4:=inc64 (i:=j) (by omega)
  have ht:=hts _ (List.getElem_mem hj)
  simp only [Int.natCast_add,Int.cast_ofNat_Int] at ih
  have pre:∀ r,(if tcl m.Sort_ ts[j]<1 then some (.tup [I kind,L 1 (ts[j].map ic),.t .nil],[])=some r else Zfx m ts kind x1 x2 ts.length ((j:Int)+1)=some r)→Zfx m ts kind x1 x2 ts.length j=some r:=by
   intro r hr
   refine Z3r _ _ _ _ _ _ _ _ ?_
   rw [if_pos (by omega)]
   refine ⟨by omega,ts[j],by rw [Int.toNat_natCast];exact List.getElem?_eq_getElem hj,_,Zh3 _ hl ht,?_⟩
   rw [show w ((j:Int)+1)=(j:Int)+1 from h4]
   exact hr
  refine Z4.congr ?_ (Znb (P:=fun t=>¬ tcl m.Sort_ t<1) hj).symm
  by_cases h:tcl m.Sort_ ts[j]<1
  ·exact .inr ⟨fun hc=>hc.1 h,kind,hk,.inr (.inr ⟨_,pre _ (by rw [if_pos h])⟩)⟩
  ·exact (ih.of fun r hr=>pre r (by rw [if_neg h];exact hr)).congr ⟨fun hh=>⟨h,hh⟩,fun hh=>hh.2⟩
theorem l_rf1a (m:Zd) (hm:LeM m) (p:Prop) (hc:Z4 (Z9 m 5 2) p):Z4 (Z9 m 5 1) (Zbc m.Sort_∧p):=by
 have hl:Le m.Sort_.Steps:=by obtain ⟨h1,h2,h3,h4,h5⟩:=hm;assumption
 have w1:w (1+1)=2:=by decide
 have w2:w (1+1)=2:=by decide
 have pre:∀ r,(∃ v1_0,Zbp m.Sort_=some (Bo v1_0,[])∧_)→Z9 m 5 1=some r:=fun r h=>Zj6 _ _ _ _ (by rw [if_pos (by omega),if_neg (by omega),if_pos rfl];exact h)
 rcases tf (Zbd m.Sort_) with hv | hv
 ·refine .inr ⟨fun h=>(by have:=h.1.1;rw [hv] at this;cases this),2,by decide,.inr (.inl (pre _ ⟨false,by rw [Zcj _ hl,hv],?_⟩))⟩
  rw [if_neg (by simp),w1]
 rcases Zna m.Sort_ hl hv with ⟨hd,xs,ys,d1⟩ | ⟨hd,d1⟩
 ·refine .inr ⟨fun h=>h.1.2.1 hd,2,by decide,.inl ⟨xs,ys,pre _ ⟨true,by rw [Zcj _ hl,hv],?_⟩⟩⟩
  rw [if_pos rfl,w1]
  exact .inr ⟨ys,xs,d1,rfl⟩
 ·have b:=l_rf0a m hl allT (fun t h=>(Zdz t).1 h) (by rw [Zke];omega) 2 (by decide) 5 1 p (by rw [w2];exact hc) 0 (Nat.zero_le _)
  refine (b.of fun r hr=>pre r ⟨true,by rw [Zcj _ hl,hv],?_⟩).congr ?_
  ·rw [if_pos rfl,w1]
   exact .inl ⟨d1,allT,Zkd,hr⟩
  ·simp only [List.drop_zero,Zdz]
   constructor
   ·rintro ⟨h,hp⟩;exact ⟨⟨hv,hd,fun ⟨t,ht,hc⟩=>h t ht hc⟩,hp⟩
   ·rintro ⟨h,hp⟩;exact ⟨fun t ht hc=>h.2.2 ⟨t,ht,hc⟩,hp⟩
theorem l_rf0b (m:Zd) (hl:Le m.Hash.Steps) (ts:List (List Int)) (hts:∀ t∈ts,inT t) (hn:ts.length≤1000) (kind:Int) (hk:kind≠0) (x1 x2:Int) (p:Prop) (hc:Z4 (Z9 m x1 (w (x2+1))) p):∀ j,j≤ts.length →
  Z4 (Zfy m ts kind x1 x2 ts.length j) ((∀ t∈ts.drop j,¬ tcl m.Hash t<1)∧p):=by
 refine down _ ?_ ?_
 ·refine (hc.of fun r hr=>Z3s _ _ _ _ _ _ _ _ (by rw [if_neg (by omega)];exact hr)).congr (by simp)
 ·intro j hj ih
  have h4:=inc64 (i:=j) (by omega)
  have ht:=hts _ (List.getElem_mem hj)
  simp only [Int.natCast_add,Int.cast_ofNat_Int] at ih
  have pre:∀ r,(if tcl m.Hash ts[j]<1 then some (.tup [I kind,L 1 (ts[j].map ic),.t .nil],[])=some r else Zfy m ts kind x1 x2 ts.length ((j:Int)+1)=some r)→Zfy m ts kind x1 x2 ts.length j=some r:=by
   intro r hr
   refine Z3s _ _ _ _ _ _ _ _ ?_
   rw [if_pos (by omega)]
   refine ⟨by omega,ts[j],by rw [Int.toNat_natCast];exact List.getElem?_eq_getElem hj,_,Zh3 _ hl ht,?_⟩
   rw [show w ((j:Int)+1)=(j:Int)+1 from h4]
   exact hr
  refine Z4.congr ?_ (Znb (P:=fun t=>¬ tcl m.Hash t<1) hj).symm
  by_cases h:tcl m.Hash ts[j]<1
  ·exact .inr ⟨fun hc=>hc.1 h,kind,hk,.inr (.inr ⟨_,pre _ (by rw [if_pos h])⟩)⟩
  ·exact (ih.of fun r hr=>pre r (by rw [if_neg h];exact hr)).congr ⟨fun hh=>⟨h,hh⟩,fun hh=>hh.2⟩
theorem l_rf1b (m:Zd) (hm:LeM m) (p:Prop) (hc:Z4 (Z9 m 5 3) p):Z4 (Z9 m 5 2) (Zbc m.Hash∧p):=by
 have hl:Le m.Hash.Steps:=by obtain ⟨h1,h2,h3,h4,h5⟩:=hm;assumption
 have w1:w (1+2)=3:=by decide
 have w2:w (2+1)=3:=by decide
 have pre:∀ r,(∃ v1_0,Zbp m.Hash=some (Bo v1_0,[])∧_)→Z9 m 5 2=some r:=fun r h=>Zj6 _ _ _ _ (by rw [if_pos (by omega),if_neg (by omega),if_neg (by omega),if_pos rfl];exact h)
 rcases tf (Zbd m.Hash) with hv | hv
 ·refine .inr ⟨fun h=>(by have:=h.1.1;rw [hv] at this;cases this),3,by decide,.inr (.inl (pre _ ⟨false,by rw [Zcj _ hl,hv],?_⟩))⟩
  rw [if_neg (by simp),w1]
 rcases Zna m.Hash hl hv with ⟨hd,xs,ys,d1⟩ | ⟨hd,d1⟩
 ·refine .inr ⟨fun h=>h.1.2.1 hd,3,by decide,.inl ⟨xs,ys,pre _ ⟨true,by rw [Zcj _ hl,hv],?_⟩⟩⟩
  rw [if_pos rfl,w1]
  exact .inr ⟨ys,xs,d1,rfl⟩
 ·have b:=l_rf0b m hl allT (fun t h=>(Zdz t).1 h) (by rw [Zke];omega) 3 (by decide) 5 2 p (by rw [w2];exact hc) 0 (Nat.zero_le _)
  refine (b.of fun r hr=>pre r ⟨true,by rw [Zcj _ hl,hv],?_⟩).congr ?_
  ·rw [if_pos rfl,w1]
   exact .inl ⟨d1,allT,Zkd,hr⟩
  ·simp only [List.drop_zero,Zdz]
   constructor
   ·rintro ⟨h,hp⟩;exact ⟨⟨hv,hd,fun ⟨t,ht,hc⟩=>h t ht hc⟩,hp⟩
   ·rintro ⟨h,hp⟩;exact ⟨fun t ht hc=>h.2.2 ⟨t,ht,hc⟩,hp⟩
theorem l_rf0c (m:Zd) (hl:Le m.Merge.Steps) (ts:List (List Int)) (hts:∀ t∈ts,inT t) (hn:ts.length≤1000) (kind:Int) (hk:kind≠0) (x1 x2:Int) (p:Prop) (hc:Z4 (Z9 m x1 (w (x2+1))) p):∀ j,j≤ts.length →
  Z4 (Zfz m ts kind x1 x2 ts.length j) ((∀ t∈ts.drop j,¬ tcl m.Merge t<1)∧p):=by
 refine down _ ?_ ?_
 ·refine (hc.of fun r hr=>Z3t _ _ _ _ _ _ _ _ (by rw [if_neg (by omega)];exact hr)).congr (by simp)
 ·intro j hj ih
  have h4:=inc64 (i:=j) (by omega)
  have ht:=hts _ (List.getElem_mem hj)
  simp only [Int.natCast_add,Int.cast_ofNat_Int] at ih
  have pre:∀ r,(if tcl m.Merge ts[j]<1 then some (.tup [I kind,L 1 (ts[j].map ic),.t .nil],[])=some r else Zfz m ts kind x1 x2 ts.length ((j:Int)+1)=some r)→Zfz m ts kind x1 x2 ts.length j=some r:=by
   intro r hr
   refine Z3t _ _ _ _ _ _ _ _ ?_
   rw [if_pos (by omega)]
   refine ⟨by omega,ts[j],by rw [Int.toNat_natCast];exact List.getElem?_eq_getElem hj,_,Zh3 _ hl ht,?_⟩
   rw [show w ((j:Int)+1)=(j:Int)+1 from h4]
   exact hr
  refine Z4.congr ?_ (Znb (P:=fun t=>¬ tcl m.Merge t<1) hj).symm
  by_cases h:tcl m.Merge ts[j]<1
  ·exact .inr ⟨fun hc=>hc.1 h,kind,hk,.inr (.inr ⟨_,pre _ (by rw [if_pos h])⟩)⟩
  ·exact (ih.of fun r hr=>pre r (by rw [if_neg h];exact hr)).congr ⟨fun hh=>⟨h,hh⟩,fun hh=>hh.2⟩
theorem l_rf1c (m:Zd) (hm:LeM m) (p:Prop) (hc:Z4 (Z9 m 5 4) p):Z4 (Z9 m 5 3) (Zbc m.Merge∧p):=by
 have hl:Le m.Merge.Steps:=by obtain ⟨h1,h2,h3,h4,h5⟩:=hm;assumption
 have w1:w (1+3)=4:=by decide
 have w2:w (3+1)=4:=by decide
 have pre:∀ r,(∃ v1_0,Zbp m.Merge=some (Bo v1_0,[])∧_)→Z9 m 5 3=some r:=fun r h=>Zj6 _ _ _ _ (by rw [if_pos (by omega),if_neg (by omega),if_neg (by omega),if_neg (by omega),if_pos rfl];exact h)
 rcases tf (Zbd m.Merge) with hv | hv
 ·refine .inr ⟨fun h=>(by have:=h.1.1;rw [hv] at this;cases this),4,by decide,.inr (.inl (pre _ ⟨false,by rw [Zcj _ hl,hv],?_⟩))⟩
  rw [if_neg (by simp),w1]
 rcases Zna m.Merge hl hv with ⟨hd,xs,ys,d1⟩ | ⟨hd,d1⟩
 ·refine .inr ⟨fun h=>h.1.2.1 hd,4,by decide,.inl ⟨xs,ys,pre _ ⟨true,by rw [Zcj _ hl,hv],?_⟩⟩⟩
  rw [if_pos rfl,w1]
  exact .inr ⟨ys,xs,d1,rfl⟩
 ·have b:=l_rf0c m hl allT (fun t h=>(Zdz t).1 h) (by rw [Zke];omega) 4 (by decide) 5 3 p (by rw [w2];exact hc) 0 (Nat.zero_le _)
  refine (b.of fun r hr=>pre r ⟨true,by rw [Zcj _ hl,hv],?_⟩).congr ?_
  ·rw [if_pos rfl,w1]
   exact .inl ⟨d1,allT,Zkd,hr⟩
  ·simp only [List.drop_zero,Zdz]
   constructor
   ·rintro ⟨h,hp⟩;exact ⟨⟨hv,hd,fun ⟨t,ht,hc⟩=>h t ht hc⟩,hp⟩
   ·rintro ⟨h,hp⟩;exact ⟨fun t ht hc=>h.2.2 ⟨t,ht,hc⟩,hp⟩
theorem l_rf0d (m:Zd) (hl:Le m.Nested.Steps) (ts:List (List Int)) (hts:∀ t∈ts,inT t) (hn:ts.length≤1000) (kind:Int) (hk:kind≠0) (x1 x2:Int) (p:Prop) (hc:Z4 (Z9 m x1 (w (x2+1))) p):∀ j,j≤ts.length →
  Z4 (Zf0 m ts kind x1 x2 ts.length j) ((∀ t∈ts.drop j,¬ tcl m.Nested t<1)∧p):=by
 refine down _ ?_ ?_
 ·refine (hc.of fun r hr=>Z3u _ _ _ _ _ _ _ _ (by rw [if_neg (by omega)];exact hr)).congr (by simp)
 ·intro j hj ih
  have h4:=inc64 (i:=j) (by omega)
  have ht:=hts _ (List.getElem_mem hj)
  simp only [Int.natCast_add,Int.cast_ofNat_Int] at ih
  have pre:∀ r,(if tcl m.Nested ts[j]<1 then some (.tup [I kind,L 1 (ts[j].map ic),.t .nil],[])=some r else Zf0 m ts kind x1 x2 ts.length ((j:Int)+1)=some r)→Zf0 m ts kind x1 x2 ts.length j=some r:=by
   intro r hr
   refine Z3u _ _ _ _ _ _ _ _ ?_
   rw [if_pos (by omega)]
   refine ⟨by omega,ts[j],by rw [Int.toNat_natCast];exact List.getElem?_eq_getElem hj,_,Zh3 _ hl ht,?_⟩
   rw [show w ((j:Int)+1)=(j:Int)+1 from h4]
   exact hr
  refine Z4.congr ?_ (Znb (P:=fun t=>¬ tcl m.Nested t<1) hj).symm
  by_cases h:tcl m.Nested ts[j]<1
  ·exact .inr ⟨fun hc=>hc.1 h,kind,hk,.inr (.inr ⟨_,pre _ (by rw [if_pos h])⟩)⟩
  ·exact (ih.of fun r hr=>pre r (by rw [if_neg h];exact hr)).congr ⟨fun hh=>⟨h,hh⟩,fun hh=>hh.2⟩
theorem l_rf1d (m:Zd) (hm:LeM m) (p:Prop) (hc:Z4 (Z9 m 5 5) p):Z4 (Z9 m 5 4) (Zbc m.Nested∧p):=by
 have hl:Le m.Nested.Steps:=by obtain ⟨h1,h2,h3,h4,h5⟩:=hm;assumption
 have w1:w (1+4)=5:=by decide
 have w2:w (4+1)=5:=by decide
 have pre:∀ r,(∃ v1_0,Zbp m.Nested=some (Bo v1_0,[])∧_)→Z9 m 5 4=some r:=fun r h=>Zj6 _ _ _ _ (by rw [if_pos (by omega),if_neg (by omega),if_neg (by omega),if_neg (by omega),if_neg (by omega),if_pos rfl];exact h)
 rcases tf (Zbd m.Nested) with hv | hv
 ·refine .inr ⟨fun h=>(by have:=h.1.1;rw [hv] at this;cases this),5,by decide,.inr (.inl (pre _ ⟨false,by rw [Zcj _ hl,hv],?_⟩))⟩
  rw [if_neg (by simp),w1]
 rcases Zna m.Nested hl hv with ⟨hd,xs,ys,d1⟩ | ⟨hd,d1⟩
 ·refine .inr ⟨fun h=>h.1.2.1 hd,5,by decide,.inl ⟨xs,ys,pre _ ⟨true,by rw [Zcj _ hl,hv],?_⟩⟩⟩
  rw [if_pos rfl,w1]
  exact .inr ⟨ys,xs,d1,rfl⟩
 ·have b:=l_rf0d m hl allT (fun t h=>(Zdz t).1 h) (by rw [Zke];omega) 5 (by decide) 5 4 p (by rw [w2];exact hc) 0 (Nat.zero_le _)
  refine (b.of fun r hr=>pre r ⟨true,by rw [Zcj _ hl,hv],?_⟩).congr ?_
  ·rw [if_pos rfl,w1]
   exact .inl ⟨d1,allT,Zkd,hr⟩
  ·simp only [List.drop_zero,Zdz]
   constructor
   ·rintro ⟨h,hp⟩;exact ⟨⟨hv,hd,fun ⟨t,ht,hc⟩=>h t ht hc⟩,hp⟩
   ·rintro ⟨h,hp⟩;exact ⟨fun t ht hc=>h.2.2 ⟨t,ht,hc⟩,hp⟩
open Classical in
theorem Z59 (m:Zd) (hm:LeM m):Ziu m=some (Bo (decide (Zbv m)),[]):=by
 have h5:Z4 (Z9 m 5 5) True:=.inl ⟨trivial,Zj6 _ _ _ _ (by rw [if_neg (by omega)])⟩
 have h0:=l_rf1 m hm _ (l_rf1a m hm _ (l_rf1b m hm _ (l_rf1c m hm _ (l_rf1d m hm _ h5))))
 have hop:Zel m=some (.bsl 1 5,[.box (m.c.map .t),.box [.ptr 0 0,.ptr 0 6,.ptr 0 12,.ptr 0 18,.ptr 0 24]]):=Z3h _ _ rfl
 have hR:Z4 (Zit m) (Zbv m):=(h0.of fun r hr=>Zbga _ _ ⟨hop,hr⟩).congr (by simp [Zbv])
 refine Zbgb _ _ ?_
 rcases hR with ⟨h,h1⟩ | ⟨h,n,hn,⟨xs,ys,h1⟩ | h1 | ⟨xs,h1⟩⟩
 ·rw [decide_eq_true h];exact .inr (.inl ⟨0,h1,rfl⟩)
 ·rw [decide_eq_false h];exact .inl ⟨ys,n,xs,h1,by rw [decide_eq_false hn]⟩
 ·rw [decide_eq_false h];exact .inr (.inl ⟨n,h1,by rw [decide_eq_false hn]⟩)
 ·rw [decide_eq_false h];exact .inr (.inr ⟨n,xs,h1,by rw [decide_eq_false hn]⟩)
def popc (x:Int):Nat:=(if andI (shrI x 0) 1=1 then 1 else 0)+(if andI (shrI x 1) 1=1 then 1 else 0)+(if andI (shrI x 2) 1=1 then 1 else 0)+(if andI (shrI x 3) 1=1 then 1 else 0)
abbrev M16 (x:Int):Prop:=0≤x∧x<16
theorem m16 {x:Int} (h:M16 x):∃ a:Fin 16,x=(a.1:Int):=⟨⟨x.toNat,by omega⟩,by simp;omega⟩
set_option maxRecDepth 100000 in
theorem f_or:∀ a b:Fin 16,M16 (orI a.1 b.1)∧andI a.1 (orI a.1 b.1)=a.1∧(orI a.1 b.1=a.1∨popc a.1+1≤popc (orI a.1 b.1)):=by decide
set_option maxRecDepth 100000 in
theorem f_and:∀ a b:Fin 16,M16 (andI a.1 b.1)∧andI (andI a.1 b.1) b.1=andI a.1 b.1∧(andI (a.1:Int) b.1=a.1→popc a.1≤popc b.1∧(popc b.1≤popc a.1→a.1=b.1)):=by decide
set_option maxRecDepth 1000000 in
theorem f_sub:∀ a b c:Fin 16,andI (a.1:Int) c.1=a.1→andI (b.1:Int) c.1=b.1→andI (orI a.1 b.1) c.1=orI a.1 b.1:=by decide
set_option maxRecDepth 100000 in
theorem f_bit:∀ (a:Fin 16) (i:Fin 4),(andI (shrI a.1 i.1) 1=0↔¬ andI (shrI a.1 i.1) 1=1):=by decide
set_option maxRecDepth 100000 in
theorem f_shl:∀ (i j:Fin 4),(andI (shrI (shlI 1 i.1) j.1) 1=1↔i=j)∧M16 (shlI 1 i.1):=by decide
set_option maxRecDepth 100000 in
theorem f_low:∀ a:Fin 16,M16 (andI a.1 (w (0 - a.1)))∧andI (andI a.1 (w (0 - a.1))) a.1=andI a.1 (w (0 - (a.1:Int))):=by decide
set_option maxRecDepth 100000 in
theorem f_pop:∀ (a:Fin 16),(a.1<2→popc a.1≤1)∧(a.1<4→popc a.1≤2)∧(a.1<8→popc a.1≤3)∧popc a.1≤4:=by decide
theorem f_bits:∀ a b c d:Bool,M16 (bit4 a b c d):=by decide
def Zb7 (qa:List Atom) (m:Int):Nat→Bool:=fun i=>decide (i<qa.length) && (!Zs m i && shr qa (shlI 1 i) m)
def Zea (qa:List Atom) (m:Int):Int:=Zz (Zb7 qa m)
theorem nearM_16 (qa:List Atom) (m:Int):M16 (Zea qa m):=f_bits _ _ _ _
theorem Zbj6 {i j:Nat} (hi:i<4) (hj:j<4):Zs (shlI 1 i) j=decide (i=j):=by
 have:=(f_shl ⟨i,hi⟩ ⟨j,hj⟩).1
 simp only [Zs,Fin.mk.injEq] at this ⊢
 rw [Bool.eq_iff_iff,decide_eq_true_eq,decide_eq_true_eq]
 exact this
theorem Zqc {m:Int} (hm:M16 m) {i:Nat} (hi:i<4):andI (shrI m i) 1=0↔Zs m i=false:=by
 obtain ⟨a,rfl⟩:=m16 hm
 have:=f_bit a ⟨i,hi⟩
 simp only at this
 rw [this,Zs,decide_eq_false_iff_not]
theorem hasV_one (qa:List Atom) (h4:qa.length≤4) {i:Nat} (hi:i<qa.length) (u:Int):∀ k,k≤qa.length→hasV (shlI 1 i) (qa.drop k) k u=(decide (k≤i) && has qa[i].Vars u):=by
 refine down _ ?_ ?_
 ·rw [List.drop_length,hasV,decide_eq_false (by omega)];rfl
 ·intro k hk ih
  rw [Zrp _ hk,ih,Zbj6 (by omega) (by omega)]
  by_cases e:i=k
  ·subst e
   rw [decide_eq_true rfl,decide_eq_true (Nat.le_refl _),decide_eq_false (by omega)];simp
  ·by_cases e2:k≤i
   ·rw [decide_eq_false e,decide_eq_true (by omega),decide_eq_true e2];simp
   ·rw [decide_eq_false e,decide_eq_false (by omega),decide_eq_false e2];simp
theorem pV_one (qa:List Atom) (h4:qa.length≤4) {i:Nat} (hi:i<qa.length) (u:Nat):pV (shlI 1 i) qa u=has qa[i].Vars u:=by
 have:=hasV_one qa h4 hi u 0 (Nat.zero_le _)
 simpa [pV] using this
theorem shr_one {n:Int} {qa:List Atom} (h:Zn n qa=true) {i:Nat} (hi:i<qa.length) (m:Int):shr qa (shlI 1 i) m=qa[i].Vars.any (fun v=>has (varL m qa n.toNat) v):=by
 have h4:=(Zbt h).2
 rw [Bool.eq_iff_iff,shr,List.any_eq_true,List.any_eq_true]
 simp only [Zkv h,pV_one qa h4 hi,Bool.and_eq_true,List.mem_range]
 constructor
 ·rintro ⟨u,hu,h1,h2⟩
  refine ⟨(u:Int),Zfq.1 h1,?_⟩
  simp only [vin,Bool.and_eq_true]
  exact ⟨by simp [inR];omega,by simpa using h2⟩
 ·rintro ⟨v,hv,h2⟩
  have h3:=Zgq h _ (List.getElem_mem hi) v hv
  simp [inR] at h3
  simp only [vin,Bool.and_eq_true] at h2
  refine ⟨v.toNat,by omega,?_,h2.2⟩
  rw [Zfq,Int.toNat_of_nonneg h3.1]
  exact hv
theorem Z6a {qa:List Atom} {m:Int} {i:Nat} (hi:i<4) (h:Zb7 qa m i=true):addV (fun u=>decide (u<i) && Zb7 qa m u) [(i:Int)]=fun u=>decide (u<i+1) && Zb7 qa m u:=by
 funext u
 simp only [addV,has]
 by_cases e:u=i
 ·subst e
  rw [decide_eq_true (by omega:u<u+1),h]
  simp
 ·by_cases e2:u<i
  ·rw [decide_eq_true e2,decide_eq_true (by omega)]
   have:¬ ((u:Int)=(i:Int)):=by omega
   simp [this]
  ·rw [decide_eq_false e2,decide_eq_false (by omega)]
   have:¬ ((u:Int)=(i:Int)):=by omega
   simp [this]
theorem Zqd {qa:List Atom} {m:Int} {i:Nat} (h:Zb7 qa m i=false):(fun u=>decide (u<i) && Zb7 qa m u)=fun u=>decide (u<i+1) && Zb7 qa m u:=by
 funext u
 by_cases e:u=i
 ·subst e;rw [h];simp
 ·by_cases e2:u<i
  ·rw [decide_eq_true e2,decide_eq_true (by omega)]
  ·rw [decide_eq_false e2,decide_eq_false (by omega)]
theorem Z6b (qa:List Atom) (m:Int):(fun u=>decide (u<qa.length) && Zb7 qa m u)=Zb7 qa m:=by
 funext u
 unfold Zb7
 by_cases e:u<qa.length
 ·rw [decide_eq_true e];simp
 ·rw [decide_eq_false e];simp
theorem Zbj7 (q:Zc) (hq:LeQ q) (hv:Zn q.Ze q.Atoms=true) (m:Int) (hm:M16 m):∀ i,i≤q.Atoms.length →
  Zg2 (varL m q.Atoms q.Ze.toNat) m (Zz fun u=>decide (u<i) && Zb7 q.Atoms m u) q.Atoms q.Atoms.length i=some (I (Zea q.Atoms m),[]):=by
 have h4:=(Zbt hv).2
 refine down _ ?_ ?_
 ·refine Z3e _ _ _ _ _ _ _ ?_
  rw [if_neg (by omega),Z6b];rfl
 ·intro i hi ih
  have hi4:i<4:=by omega
  have hinc:=inc64 (i:=i) (by omega)
  simp only [Int.natCast_add,Int.cast_ofNat_Int] at ih
  refine Z3e _ _ _ _ _ _ _ ?_
  rw [if_pos (by omega)]
  refine ⟨by omega,q.Atoms[i],by rw [Int.toNat_natCast];exact List.getElem?_eq_getElem hi,by omega,?_⟩
  rw [show w ((i:Int)+1)=(i:Int)+1 from hinc]
  have hn:Zb7 q.Atoms m i=(!Zs m i && q.Atoms[i].Vars.any (fun v=>has (varL m q.Atoms q.Ze.toNat) v)):=by
   unfold Zb7;rw [decide_eq_true hi,shr_one hv hi];simp
  have hvars:=Zif hv _ (List.getElem_mem hi)
  have hvl:=Zig m q.Atoms q.Ze.toNat
  have hvn:=Zda hv
  rcases tf (Zs m i) with e1 | e1
  ·rw [if_pos ((Zqc hm hi4).2 e1)]
   refine ⟨_,x_both q.Atoms[i].Vars (varL m q.Atoms q.Ze.toNat) (by omega) (by omega),?_⟩
   rcases tf (q.Atoms[i].Vars.any (fun v=>has (varL m q.Atoms q.Ze.toNat) v)) with e2 | e2
   ·have e3:q.Atoms[i].Vars.filter (has (varL m q.Atoms q.Ze.toNat))=[]:=by
     rw [List.filter_eq_nil_iff];intro a ha;have:=List.any_eq_false.1 e2 a ha;simpa using this
    rw [e3,if_neg (by simp),Zqd (by rw [hn,e2];simp)]
    exact ih
   ·have e3:0<(q.Atoms[i].Vars.filter (has (varL m q.Atoms q.Ze.toNat))).length:=by
     obtain ⟨v,hv1,hv2⟩:=List.any_eq_true.1 e2
     exact List.length_pos_of_mem (List.mem_filter.2 ⟨hv1,hv2⟩)
    rw [if_pos (by omega),Zn2 _ (by simp [inR];omega),Z6a hi4 (by rw [hn,e1,e2];rfl)]
    exact ih
  ·rw [if_neg (fun hc=>by rw [(Zqc hm hi4).1 hc] at e1;cases e1),Zqd (by rw [hn,e1];rfl)]
   exact ih
theorem Z6c (q:Zc) (hq:LeQ q) (hv:Zn q.Ze q.Atoms=true) (m:Int) (hm:M16 m):Zon q m=some (I (Zea q.Atoms m),[]):=by
 have b:=Zbj7 q hq hv m hm 0 (Nat.zero_le _)
 refine Zbf1 _ _ _ ⟨_,Zm8 q m hq hv,?_⟩
 simpa [Zz,bit4] using b
theorem l_near (q:Zc) (hq:LeQ q) (hv:Zn q.Ze q.Atoms=true) (m:Int) (hm:M16 m):∀ i,i≤q.Atoms.length →
  Zht q m (Zz fun u=>decide (u<i) && Zb7 q.Atoms m u) (Zz (pV m q.Atoms)) i=some (I (Zea q.Atoms m),[]):=by
 have h4:=(Zbt hv).2
 refine down _ ?_ ?_
 ·refine Z42 _ _ _ _ _ _ ?_
  rw [if_neg (by omega),Z6b];rfl
 ·intro i hi ih
  have hi4:i<4:=by omega
  have hinc:=inc64 (i:=i) (by omega)
  simp only [Int.natCast_add,Int.cast_ofNat_Int] at ih
  refine Z42 _ _ _ _ _ _ ?_
  rw [if_pos (by omega)]
  refine ⟨by omega,?_⟩
  rw [show w ((i:Int)+1)=(i:Int)+1 from hinc]
  have hn:Zb7 q.Atoms m i=(!Zs m i && shr q.Atoms (shlI 1 i) m):=by
   unfold Zb7;rw [decide_eq_true hi];simp
  rcases tf (Zs m i) with e1 | e1
  ·rw [if_pos ((Zqc hm hi4).2 e1)]
   refine ⟨_,Zj8 q (shlI 1 i) hq (Zgq hv),?_⟩
   rcases tf (shr q.Atoms (shlI 1 i) m) with e2 | e2
   ·rw [if_pos ((Zrr q.Atoms (shlI 1 i) m).2 e2),Zqd (by rw [hn,e2];simp)]
    exact ih
   ·rw [if_neg (fun hc=>by rw [(Zrr q.Atoms (shlI 1 i) m).1 hc] at e2;cases e2),Zn2 _ (by simp [inR];omega),Z6a hi4 (by rw [hn,e1,e2];rfl)]
    exact ih
  ·rw [if_neg (fun hc=>by rw [(Zqc hm hi4).1 hc] at e1;cases e1),Zqd (by rw [hn,e1];rfl)]
   exact ih
theorem x_near (q:Zc) (hq:LeQ q) (hv:Zn q.Ze q.Atoms=true) (m:Int) (hm:M16 m):Zpm q m=some (I (Zea q.Atoms m),[]):=by
 have b:=l_near q hq hv m hm 0 (Nat.zero_le _)
 refine Zbh1 _ _ _ ⟨_,Zj8 q m hq (Zgq hv),?_⟩
 simpa [Zz,bit4] using b
def Zd0 (qa:List Atom) (mask x:Int):Int:=orI x (andI (Zea qa x) mask)
def Zfn (qa:List Atom) (mask:Int):Nat→Int→Int
 | 0,x=>x
 | n+1,x=>Zfn qa mask n (Zd0 qa mask x)
def conn (qa:List Atom) (mask:Int):Bool:=decide (Zfn qa mask qa.length (andI mask (w (0 - mask)))=mask)
abbrev SubM (x mask:Int):Prop:=andI x mask=x
theorem Zwp {qa:List Atom} {mask x:Int} (hm:M16 mask) (hx:M16 x) (hs:SubM x mask):M16 (Zd0 qa mask x)∧SubM (Zd0 qa mask x) mask∧(Zd0 qa mask x=x∨popc x+1≤popc (Zd0 qa mask x)):=by
 obtain ⟨a,rfl⟩:=m16 hx
 obtain ⟨b,rfl⟩:=m16 hm
 obtain ⟨c,hc⟩:=m16 (nearM_16 qa (a.1:Int))
 unfold Zd0
 rw [hc]
 obtain ⟨d1,d2,_⟩:=f_and c b
 obtain ⟨d,hd⟩:=m16 d1
 rw [hd] at d2 ⊢
 obtain ⟨e1,_,e3⟩:=f_or a d
 exact ⟨e1,f_sub a d b hs d2,e3⟩
theorem Z6d {qa:List Atom} {mask x:Int} (h:Zd0 qa mask x=x):∀ n,Zfn qa mask n x=x
 | 0=>rfl
 | n+1=>by rw [Zfn,h];exact Z6d h n
theorem Zbj8 (q:Zc) (hq:LeQ q) (hv:Zn q.Ze q.Atoms=true) (mask:Int) (hm:M16 mask) (hp:popc mask≤q.Atoms.length):∀ (f:Nat) (x:Int),M16 x→SubM x mask→q.Atoms.length≤popc x+f →
  Zk6 q mask x=some (Bo (decide (Zfn q.Atoms mask f x=mask)),[]):=by
 intro f
 induction f with
 | zero =>
  intro x hx hs hf
  have hxm:x=mask:=by
   obtain ⟨a,rfl⟩:=m16 hx
   obtain ⟨b,rfl⟩:=m16 hm
   have:=((f_and a b).2.2 hs).2 (by omega)
   omega
  obtain ⟨s1,s2,s3⟩:=Zwp (qa:=q.Atoms) hm hx hs
  have hfix:Zd0 q.Atoms mask x=x:=by
   rcases s3 with h | h
   ·exact h
   ·obtain ⟨a,ha⟩:=m16 s1
    obtain ⟨b,rfl⟩:=m16 hm
    rw [ha] at s2 h
    have:=((f_and a b).2.2 s2).1
    rw [hxm] at h
    omega
  refine Z3f _ _ _ _ ⟨_,Z6c q hq hv x hx,?_⟩
  rw [if_pos (show orI x (andI (Zea q.Atoms x) mask)=x from hfix)];rfl
 | succ f ih =>
  intro x hx hs hf
  obtain ⟨s1,s2,s3⟩:=Zwp (qa:=q.Atoms) hm hx hs
  refine Z3f _ _ _ _ ⟨_,Z6c q hq hv x hx,?_⟩
  by_cases h:Zd0 q.Atoms mask x=x
  ·rw [if_pos (show orI x (andI (Zea q.Atoms x) mask)=x from h),Z6d h]
  ·rw [if_neg (show ¬ orI x (andI (Zea q.Atoms x) mask)=x from h)]
   exact ih (Zd0 q.Atoms mask x) s1 s2 (by rcases s3 with h' | h';exact absurd h' h;omega)
theorem l_joined (q:Zc) (hq:LeQ q) (hv:Zn q.Ze q.Atoms=true) (mask:Int) (hm:M16 mask):∀ i,i≤q.Atoms.length→∀ x,M16 x→SubM x mask →
  Zl8 q mask x i=some (Bo (decide (Zfn q.Atoms mask (q.Atoms.length - i) x=mask)),[]):=by
 have h4:=(Zbt hv).2
 refine down _ ?_ ?_
 ·intro x _ _
  refine Z43 _ _ _ _ _ ?_
  rw [if_neg (by omega),Nat.sub_self];rfl
 ·intro i hi ih x hx hs
  obtain ⟨s1,s2,s3⟩:=Zwp (qa:=q.Atoms) hm hx hs
  have hinc:=inc64 (i:=i) (by omega)
  refine Z43 _ _ _ _ _ ?_
  rw [if_pos (by omega)]
  refine ⟨_,x_near q hq hv x hx,?_⟩
  have ih:=ih _ s1 s2
  simp only [Int.natCast_add,Int.cast_ofNat_Int] at ih
  rw [show w ((i:Int)+1)=(i:Int)+1 from hinc,show q.Atoms.length - i=(q.Atoms.length - (i+1))+1 by omega,Zfn]
  exact ih
abbrev MQ (qa:List Atom) (m:Int):Prop:=0≤m∧m<2 ^ qa.length
theorem MQ.m16 {n:Int} {qa:List Atom} {m:Int} (hv:Zn n qa=true) (h:MQ qa m):M16 m∧popc m≤qa.length:=by
 have hl:=Zbt hv
 obtain ⟨h1,h2⟩:=h
 have e:qa.length=1∨qa.length=2∨qa.length=3∨qa.length=4:=by omega
 have k16:M16 m:=by rcases e with e | e | e | e <;> rw [e] at h2 <;> exact ⟨h1,by omega⟩
 refine ⟨k16,?_⟩
 obtain ⟨a,rfl⟩:=Go.Proofs.YtgnfoghkbpkgjaaGreat.m16 k16
 obtain ⟨p1,p2,p3,p4⟩:=f_pop a
 rcases e with e | e | e | e <;> rw [e] at h2 ⊢
 ·exact p1 (by omega)
 ·exact p2 (by omega)
 ·exact p3 (by omega)
 ·exact p4
theorem Zqe (q:Zc) (hq:LeQ q) (hv:Zn q.Ze q.Atoms=true) (m:Int) (hm:MQ q.Atoms m) (h0:m≠0):Zek q m=some (Bo (conn q.Atoms m),[]):=by
 obtain ⟨k1,k2⟩:=hm.m16 hv
 refine Z3g _ _ _ ?_
 rw [if_neg h0]
 obtain ⟨a,rfl⟩:=m16 k1
 obtain ⟨l1,l2⟩:=f_low a
 exact Zbj8 q hq hv _ k1 k2 q.Atoms.length _ l1 l2 (by omega)
theorem Zqf (q:Zc) (hq:LeQ q) (hv:Zn q.Ze q.Atoms=true) (m:Int) (hm:MQ q.Atoms m):Zhu q m=some (Bo (conn q.Atoms m),[]):=by
 obtain ⟨k1,k2⟩:=hm.m16 hv
 refine Zbh2 _ _ _ ?_
 obtain ⟨a,rfl⟩:=m16 k1
 obtain ⟨l1,l2⟩:=f_low a
 exact l_joined q hq hv _ k1 0 (Nat.zero_le _) _ l1 l2
theorem Zeb {n:Int} {qa:List Atom} (hv:Zn n qa=true):Zr n qa=2 ^ qa.length - 1:=by
 unfold Zr;rw [if_pos hv,(Zgp hv).2.1]
theorem Z6e (q:Zc) (hq:LeQ q) (m:Int):Zg1 q m=some (Bo (Zn q.Ze q.Atoms && inR m 0 (Zr q.Ze q.Atoms)),[]):=by
 refine Zbf0 _ _ _ ⟨_,Zm5 q hq,?_⟩
 rcases tf (Zn q.Ze q.Atoms) with e | e
 ·rw [e];simp
 ·rw [e,if_pos rfl]
  refine ⟨by omega,_,Zcw _ _ _,?_⟩
  rw [show w (shlI 1 (q.Atoms.length:Int) - 1)=shlI 1 (q.Atoms.length:Int) - 1 from (Zgp e).2.2.1]
  unfold Zr
  rw [if_pos e];simp
theorem Z6f (q:Zc) (hq:LeQ q) (m:Int):Zhs q m=some (Bo (Zn q.Ze q.Atoms && inR m 0 (Zr q.Ze q.Atoms)),[]):=by
 refine Zbh0 _ _ _ ⟨_,Zp7 q hq,?_⟩
 rcases tf (Zn q.Ze q.Atoms) with e | e
 ·rw [e];simp
 ·rw [e,if_pos rfl]
  refine ⟨by omega,_,Zfl _ _ _,?_⟩
  rw [show w (shlI 1 (q.Atoms.length:Int) - 1)=shlI 1 (q.Atoms.length:Int) - 1 from (Zgp e).2.2.1]
  unfold Zr
  rw [if_pos e];simp
theorem Zqg {n:Int} {qa:List Atom} (hv:Zn n qa=true) {m:Int} (h:inR m 0 (Zr n qa)=true):MQ qa m:=by
 rw [Zeb hv] at h;simp [inR] at h;exact ⟨h.1,by omega⟩
def Zbq (n:Int) (qa:List Atom) (m:Int):Bool:=Zn n qa && inR m 0 (Zr n qa) && decide (m≠0) && conn qa m
theorem Z6g (q:Zc) (hq:LeQ q) (m:Int):Zg3 q m=some (Bo (Zbq q.Ze q.Atoms m),[]):=by
 refine Zbf2 _ _ _ ⟨_,Z6e q hq m,?_⟩
 unfold Zbq
 rcases tf (Zn q.Ze q.Atoms) with e | e
 ·rw [e];simp
 rcases tf (inR m 0 (Zr q.Ze q.Atoms)) with e1 | e1
 ·rw [e,e1];simp
 rw [e,e1,if_pos (by rfl)]
 have hm:=Zqg e e1
 by_cases h0:m=0
 ·refine ⟨false,Z3g _ _ _ (by rw [if_pos h0]),?_⟩
  simp [h0]
 ·exact ⟨_,Zqe q hq e m hm h0,by simp [h0]⟩
theorem Z6h (q:Zc) (hq:LeQ q) (m:Int):Zhv q m=some (Bo (Zbq q.Ze q.Atoms m),[]):=by
 refine Zbh3 _ _ _ ⟨_,Z6f q hq m,?_⟩
 unfold Zbq
 rcases tf (Zn q.Ze q.Atoms) with e | e
 ·rw [e];simp
 rcases tf (inR m 0 (Zr q.Ze q.Atoms)) with e1 | e1
 ·rw [e,e1];simp
 rw [e,e1,if_pos (by rfl)]
 have hm:=Zqg e e1
 by_cases h0:m=0
 ·rw [if_neg (by omega)]
  simp [h0]
 ·rw [if_pos (by have:=hm.1;omega)]
  exact ⟨_,Zqf q hq e m hm,by simp [h0]⟩
def Zd1 (qa:List Atom) (k n:Nat):List Int:=((List.range' k n).filter (fun m:Nat=>conn qa (m:Int))).map (fun m:Nat=>(m:Int))
theorem Z6i {qa:List Atom} {k n:Nat}:Zd1 qa k (n+1)=(if conn qa (k:Int)=true then [(k:Int)] else [])++Zd1 qa (k+1) n:=by
 unfold Zd1
 rw [List.range'_succ,List.filter_cons]
 split <;> simp
theorem Zbj9 {qa:List Atom} {k n:Nat}:(Zd1 qa k n).length≤n:=by
 unfold Zd1;rw [List.length_map];exact Nat.le_trans (List.length_filter_le _ _) (by simp)
theorem Zec (k:Nat):((2 ^ k:Nat):Int)=2 ^ k:=by simp
theorem Zbka (q:Zc) (hq:LeQ q) (hv:Zn q.Ze q.Atoms=true):∀ k:Nat,k≤2 ^ q.Atoms.length→1≤k→∀ out:List Int,out.length≤k →
  Ziv q out k=some (.own 0,[.arr Zv 1 true ((out++Zd1 q.Atoms k (2 ^ q.Atoms.length - k)).map ic)]):=by
 have hf:=Zeb hv
 have hp:=Zec q.Atoms.length
 have h16:2 ^ q.Atoms.length≤16:=Nat.pow_le_pow_right (by omega:0<2) (Zbt hv).2
 refine down _ ?_ ?_
 ·intro _ out _
  refine Z3x _ _ _ _ ⟨_,Zgg q hq,?_⟩
  rw [if_neg (by rw [hf];omega),Nat.sub_self]
  simp [Zd1]
 ·intro k hk ih h1 out ho
  have wk':w ((k:Int)+1)=(k:Int)+1:=wrap64 (by omega) (by omega)
  refine Z3x _ _ _ _ ⟨_,Zgg q hq,?_⟩
  rw [if_pos (by rw [hf];omega)]
  refine ⟨_,Zqe q hq hv k ⟨by omega,by omega⟩ (by omega),?_⟩
  rw [show 2 ^ q.Atoms.length - k=(2 ^ q.Atoms.length - (k+1))+1 by omega,Z6i,wk']
  rcases tf (conn q.Atoms k) with e | e
  ·have ih:=ih (by omega) out (by omega)
   rw [e,if_neg (by simp)]
   simpa using ih
  ·have ih:=ih (by omega) (out++[(k:Int)]) (by simp;omega)
   rw [e,if_pos rfl]
   refine ⟨by omega,?_⟩
   simpa using ih
def Zo (qa:List Atom):List Int:=Zd1 qa 1 (2 ^ qa.length - 1)
theorem Zbkb (q:Zc) (hq:LeQ q) (hv:Zn q.Ze q.Atoms=true):Zlb q=some (.own 0,[.arr Zv 1 true ((Zo q.Atoms).map ic)]):=by
 have hpos:1≤2 ^ q.Atoms.length:=Nat.one_le_two_pow
 have b:=Zbka q hq hv 1 hpos (Nat.le_refl _) [] (by simp)
 exact Zbge _ _ (by simpa [Zo] using b)
end Go.Proofs.YtgnfoghkbpkgjaaGreat
