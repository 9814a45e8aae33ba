/-
  Parts of the proofs for this seat: G1 G2 SN G3 G4 G5 G6 G7 G8 G9 G10 G11.
-/
import Derived.Test.YtgnfoghkbpkgjaaGreatP6
import Derived.Test.YtgnfoghkbpkgjaaGreatP9
set_option linter.unusedSimpArgs false
set_option linter.unusedVariables false
set_option maxRecDepth 100000
set_option maxHeartbeats 4000000
namespace Go.Proofs.YtgnfoghkbpkgjaaGreat
open Go.AM
theorem Zem:(∀⦃a a1 a2 r⦄,Im (Zz a a1 a2=some r) (if a1≤a then(some (Bo (decide (a≤a2)),[])=some r)else(some (Bo false,[])=some r))) ∧
 (∀⦃a r⦄,Im (Zlt a=some r) (if(a.size:Int)=1 then(∃b1,a[0]?=some b1∧(if 97≤(b1.toNat:Int)then(some (Bo (decide ((b1.toNat:Int)≤122)),[])=some r)else(some (Bo false,[])=some r)))else(some (Bo false,[])=some r))) ∧
 (∀⦃s v x x1 r⦄,Im (Zpa s v x x1=some r) (if x1<x then(0≤x1∧(∃e1,s[x1.toNat]?=some e1∧(if v=e1 then(some (I x1,[])=some r)else(Zpa s v x (w (x1+1))=some r))))else(some (I (-1),[])=some r))) ∧
 (∀⦃a a1 r⦄,Im (Zc2 a a1=some r) (Zpa a a1 (a.length:Int) 0=some r)) ∧
 (∀⦃a a1 r⦄,Im (Zgs a a1=some r) (∃v1,Zc2 a a1=some (I v1,[])∧(some (Bo (decide (0≤v1)),[])=some r))) ∧
 (∀⦃s v x x1 r⦄,Im (Zpb s v x x1=some r) (if x1<x then(0≤x1∧(∃e1,s[x1.toNat]?=some e1∧(if v=e1 then(some (I x1,[])=some r)else(Zpb s v x (w (x1+1))=some r))))else(some (I (-1),[])=some r))) ∧
 (∀⦃a a1 r⦄,Im (Ztg a a1=some r) (Zpb a a1 (a.length:Int) 0=some r)) ∧
 (∀⦃a a1 r⦄,Im (Zth a a1=some r) (∃v1,Ztg a a1=some (I v1,[])∧(some (Bo (decide (0≤v1)),[])=some r))) ∧
 (∀⦃q cc x x1 x2 r⦄,Im (Zi5 q cc x x1 x2=some r) (if x2<x1 then(0≤x2∧(∃e1,x[x2.toNat]?=some e1∧(∃v2,Zlt e1.Name=some (Bo v2,[])∧(if v2=true then(∃v3,Zz (e1.Vars.length:Int) 1 3=some (Bo v3,[])∧(if v3=true then(Zpc q cc e1 x x1 x2 e1.Vars (e1.Vars.length:Int) 0=some r)else(some (Bo false,[])=some r)))else(some (Bo false,[])=some r)))))else(∃v4,Zth cc false=some (Bo v4,[])∧(some (Bo (!v4),[])=some r)))) ∧
 (∀⦃q cc a x x1 x2 x3 x4 x5 r⦄,Im (Zpc q cc a x x1 x2 x3 x4 x5=some r) (if x5<x4 then(0≤x5∧(∃e1,x3[x5.toNat]?=some e1∧(∃v2,Zz e1 0 (w (q.Zi-1))=some (Bo v2,[])∧(if v2=true then(x5.toNat≤a.Vars.length∧(∃v3,Zgs (a.Vars.take x5.toNat) e1=some (Bo v3,[])∧(if v3=true then(some (Bo false,[])=some r)else(0≤e1∧(∃e4,cc[e1.toNat]?=some e4∧(Zpc q (cc.set e1.toNat true) a x x1 x2 x3 x4 (w (x5+1))=some r))))))else(some (Bo false,[])=some r)))))else(Zi5 q cc x x1 (w (x2+1))=some r))) ∧
 (∀⦃q cd c v r⦄,Im (Zhp q cd c v=some r) (if v<q.Zi then(Zlv q cd c v q.Atoms (q.Atoms.length:Int) 0=some r)else(some (.own 0,[.arr 3 1 true (cd.map ic)])=some r))) ∧
 (∀⦃q cd c v x x1 x2 r⦄,Im (Zlv q cd c v x x1 x2=some r) (if x2<x1 then(0≤x2∧(∃e1,x[x2.toNat]?=some e1∧(¬x2<0∧(if(andI (shrI c x2) 1)=1 then(∃v2,Zgs e1.Vars v=some (Bo v2,[])∧(if v2=true then(cd.length+1≤68719476736∧(Zhp q (cd++[v]) c (w (v+1))=some r))else(Zlv q cd c v x x1 (w (x2+1))=some r)))else(Zlv q cd c v x x1 (w (x2+1))=some r)))))else(Zhp q cd c (w (v+1))=some r))):=by
 and_intros
 all_goals intros
 all_goals unfold Im
 all_goals try simp only[Zz,Zlt,Zpa,Zc2,Zgs,Zpb,Ztg,Zth,Zi5,Zpc,Zhp,Zlv,mpl,dfs]
 all_goals try simp only[itb]
 all_goals try simp only[itf,gS,kk]
 all_goals repeat' first|refine exI fun _=>?_|refine anJ fun _ _=>?_|refine anI fun _=>?_|refine orE2 ?_ ?_|exact False.elim
 all_goals (intro h;first|refine run Zbpa rfl ?_|refine run Zbpb rfl ?_|rw[Zf Zyg.eq_1]|refine run Zbpc rfl ?_|refine run Zbpd rfl ?_|rw[Zf Zyi.eq_1]|refine run Zbpe rfl ?_|refine run Zbpf rfl ?_|rw[Zf Zti.eq_1]|rw[Zf Zyk.eq_1]|rw[Zf Ztl.eq_1]|rw[Zf Zym.eq_1])
 all_goals (refine Yb ?_ h;clear h;simp +decide[*,kk,tI,tII,Z8g,Z8h,Zyh,Z8i,Z8j,Zyj,Z8k,Z8l,Ztj,Zyl,Ztm,Zyn])
abbrev Zbta:=Zem.1
abbrev Zbtb:=Zem.2.1
abbrev Zbc6:=Zem.2.2.1
abbrev Zbtc:=Zem.2.2.2.1
abbrev Zbtd:=Zem.2.2.2.2.1
abbrev Zbc7:=Zem.2.2.2.2.2.1
abbrev Zbte:=Zem.2.2.2.2.2.2.1
abbrev Zbtf:=Zem.2.2.2.2.2.2.2.1
abbrev Zbc8:=Zem.2.2.2.2.2.2.2.2.1
abbrev Zbc9:=Zem.2.2.2.2.2.2.2.2.2.1
abbrev Zbda:=Zem.2.2.2.2.2.2.2.2.2.2.1
abbrev Zbdb:=Zem.2.2.2.2.2.2.2.2.2.2.2
theorem Zen:(∀⦃a a1 r⦄,Im (Zlu a a1=some r) (Zhp a ([]:List Int) a1 0=some r)) ∧
 (∀⦃cl b x x1 x2 r⦄,Im (Zlw cl b x x1 x2=some r) (if x2<x1 then(0≤x2∧(∃e1,x[x2.toNat]?=some e1∧(∃v1,Zgs b e1=some (Bo v1,[])∧(if v1=true then(cl.length+1≤68719476736∧(Zlw (cl++[e1]) b x x1 (w (x2+1))=some r))else(Zlw cl b x x1 (w (x2+1))=some r)))))else(some (.own 0,[.arr 3 1 true (cl.map ic)])=some r))) ∧
 (∀⦃a a1 r⦄,Im (Ztn a a1=some r) (Zlw ([]:List Int) a1 a (a.length:Int) 0=some r)) ∧
 (∀⦃a a1 a2 a3 r⦄,Im (Zlx a a1 a2 a3=some r) (if a1.Kind=1 then(∃v,Zz a1.Atom 0 (w ((a.Atoms.length:Int)-1))=some (Bo v,[])∧(if v=true then(if a1.Order=0 then(¬a1.Atom<0∧(0≤a1.Atom∧(∃e2,a.Atoms[a1.Atom.toNat]?=some e2∧(∃e3,e2.Vars[0]?=some e3∧(some (.tup [.agg [I (shlI 1 a1.Atom),I e3,I (-1),I (-1)],Bo true],[])=some r)))))else(some (.tup [.agg [I 0,I (-1),I (-1),I (-1)],Bo false],[])=some r))else(some (.tup [.agg [I 0,I (-1),I (-1),I (-1)],Bo false],[])=some r)))else(if a1.Atom=0 then(if a1.Kind=2 then(if(a3.length:Int)<1 then(some (.tup [.agg [I 0,I (-1),I (-1),I (-1)],Bo false],[])=some r)else(0≤(w ((a3.length:Int)-1))∧(∃e4,a3[(w ((a3.length:Int)-1)).toNat]?=some e4∧(0≤e4∧(∃e5,a2[e4.toNat]?=some e5∧(∃(v6:List Int),Zlu a e5.Mask=some (.own 0,[.arr 3 1 true (v6.map ic)])∧(∃v7,Zgs v6 a1.Order=some (Bo v7,[])∧(if v7=true then(if e5.Order=a1.Order then(some (.tup [.agg [I 0,I (-1),I (-1),I (-1)],Bo false],[])=some r)else(some (.tup [.agg [I e5.Mask,I a1.Order,I e4,I (-1)],Bo true],[])=some r))else(some (.tup [.agg [I 0,I (-1),I (-1),I (-1)],Bo false],[])=some r)))))))))else(if(a3.length:Int)<2 then(some (.tup [.agg [I 0,I (-1),I (-1),I (-1)],Bo false],[])=some r)else(0≤(w ((a3.length:Int)-2))∧(∃e8,a3[(w ((a3.length:Int)-2)).toNat]?=some e8∧(0≤(w ((a3.length:Int)-1))∧(∃e9,a3[(w ((a3.length:Int)-1)).toNat]?=some e9∧(0≤e8∧(∃e10,a2[e8.toNat]?=some e10∧(0≤e9∧(∃e11,a2[e9.toNat]?=some e11∧(∃(v8:List Int),Zlu a e10.Mask=some (.own 0,[.arr 3 1 true (v8.map ic)])∧(∃(v9:List Int),Zlu a e11.Mask=some (.own 0,[.arr 3 1 true (v9.map ic)])∧(∃(v10:List Int),Ztn v8 v9=some (.own 0,[.arr 3 1 true (v10.map ic)])∧(if(andI e10.Mask e11.Mask)=0 then(if(v10.length:Int)=0 then(some (.tup [.agg [I (orI e10.Mask e11.Mask),I (-1),I e8,I e9],Bo false],[])=some r)else(if a1.Kind=3 then(some (.tup [.agg [I (orI e10.Mask e11.Mask),I (-1),I e8,I e9],Bo (decide (a1.Order=0))],[])=some r)else(if a1.Kind=5 then(some (.tup [.agg [I (orI e10.Mask e11.Mask),I e10.Order,I e8,I e9],Bo (decide (a1.Order=0))],[])=some r)else(if a1.Kind=4 then(∃v11,Zgs v10 a1.Order=some (Bo v11,[])∧(if v11=true then(if e10.Order=a1.Order then(some (.tup [.agg [I (orI e10.Mask e11.Mask),I a1.Order,I e8,I e9],Bo (decide (e11.Order=a1.Order))],[])=some r)else(some (.tup [.agg [I (orI e10.Mask e11.Mask),I a1.Order,I e8,I e9],Bo false],[])=some r))else(some (.tup [.agg [I (orI e10.Mask e11.Mask),I a1.Order,I e8,I e9],Bo false],[])=some r)))else(some (.tup [.agg [I (orI e10.Mask e11.Mask),I (-1),I e8,I e9],Bo false],[])=some r)))))else(some (.tup [.agg [I (orI e10.Mask e11.Mask),I (-1),I e8,I e9],Bo false],[])=some r)))))))))))))))else(some (.tup [.agg [I 0,I (-1),I (-1),I (-1)],Bo false],[])=some r)))) ∧
 (∀⦃q cd cc x x1 x2 r⦄,Im (Zi6 q cd cc x x1 x2=some r) (if x2<x1 then(0≤x2∧(∃e1,x[x2.toNat]?=some e1∧(∃(v1:Zb),∃v2,Zlx q e1 cd cc=some (.tup [.agg (v1.c.map .t),Bo v2],[])∧(if v2=true then(cd.length+1≤68719476736∧(if 0≤v1.Right then(0≤(w ((cc.length:Int)-2))∧((w ((cc.length:Int)-2)).toNat≤cc.length∧((w ((cc.length:Int)-2)).toNat+1≤68719476736∧(Zi6 q (cd++[v1]) ((cc.take ((w ((cc.length:Int)-2)).toNat))++[x2]) x x1 (w (x2+1))=some r))))else(if 0≤v1.Left then(0≤(w ((cc.length:Int)-1))∧((w ((cc.length:Int)-1)).toNat≤cc.length∧((w ((cc.length:Int)-1)).toNat+1≤68719476736∧(Zi6 q (cd++[v1]) ((cc.take ((w ((cc.length:Int)-1)).toNat))++[x2]) x x1 (w (x2+1))=some r))))else(cc.length+1≤68719476736∧(Zi6 q (cd++[v1]) (cc++[x2]) x x1 (w (x2+1))=some r)))))else(some (.tup [.t .nil,Bo false],[])=some r)))))else(if(cc.length:Int)=1 then(some (.tup [.own 0,Bo true],[.arr 209 4 true (cd.map Zb.c)])=some r)else(some (.tup [.t .nil,Bo false],[])=some r)))) ∧
 (∀⦃a a1 r⦄,Im (Zct a a1=some r) (∃v,Zgt a=some (Bo v,[])∧(if v=true then(∃v1,Zz (a1.Steps.length:Int) 1 14=some (Bo v1,[])∧(if v1=true then(Zi6 a ([]:List Zb) ([]:List Int) a1.Steps (a1.Steps.length:Int) 0=some r)else(some (.tup [.t .nil,Bo false],[])=some r)))else(some (.tup [.t .nil,Bo false],[])=some r)))) ∧
 (∀⦃cl x x1 x2 r⦄,Im (Zly cl x x1 x2=some r) (if x2<x1 then(0≤x2∧(∃e1,x[x2.toNat]?=some e1∧(if 3≤e1.Kind then(cl.length+1≤68719476736∧(Zly (cl++[x2]) x x1 (w (x2+1))=some r))else(Zly cl x x1 (w (x2+1))=some r))))else(some (.own 0,[.arr 3 1 true (cl.map ic)])=some r))) ∧
 (∀⦃a r⦄,Im (Zi7 a=some r) (Zly ([]:List Int) a.Steps (a.Steps.length:Int) 0=some r)) ∧
 (∀⦃cd cn r⦄,Im (Zpd cd cn=some r) (0≤cn∧(∃e1,cd[cn.toNat]?=some e1∧(if 0≤e1.Left then(Zpd cd e1.Left=some r)else(some (I cn,[])=some r))))) ∧
 (∀⦃a a1 r⦄,Im (Zto a a1=some r) (Zpd a a1=some r)) ∧
 (∀⦃a r⦄,Im (Zyw a=some r) (a.Steps.length≤68719476736∧(some (.agg [.own 0],[.arr 194 3 true (a.Steps.map Ze.c)])=some r))) ∧
 (∀⦃a a1 a2 r⦄,Im (Zlz a a1 a2=some r) ((Zct a a1=some (.tup [.t .nil,Bo false],[])∧(some (.tup [.agg [.t .nil],Bo false],[])=some r))∨(∃(v1:List Zb),Zct a a1=some (.tup [.own 0,Bo true],[.arr 209 4 true (v1.map Zb.c)])∧(∃v3,Zz a2 0 (w ((v1.length:Int)-1))=some (Bo v3,[])∧(if v3=true then(∃v4,Zto v1 a2=some (I v4,[])∧(0≤v4∧(0≤(w (a2+1))∧(v4.toNat≤(w (a2+1)).toNat∧((w (a2+1)).toNat≤a1.Steps.length∧(∃(v5:List Ze),Zyw (⟨((a1.Steps.take ((w (a2+1)).toNat)).drop v4.toNat)⟩:Plan)=some (.agg [.own 0],[.arr 194 3 true (v5.map Ze.c)])∧(some (.tup [.agg [.own 0],Bo true],[.arr 194 3 true (v5.map Ze.c)])=some r)))))))else(some (.tup [.agg [.t .nil],Bo false],[])=some r)))))):=by
 and_intros
 all_goals intros
 all_goals unfold Im
 all_goals try simp only[Zlu,Zlw,Ztn,Zlx,Zi6,Zct,Zly,Zi7,Zpd,Zto,Zyw,Zlz,Zgs,Zz,Zd.c_def,Ze.c_def,Zb.c_def,Zgt,Plan.c_def,Zhp,mpl,dfs]
 all_goals try simp only[itb]
 all_goals try simp only[itf,gS,kk]
 all_goals repeat' first|refine exI fun _=>?_|refine anJ fun _ _=>?_|refine anI fun _=>?_|refine orE2 ?_ ?_|exact False.elim
 all_goals (intro h;first|refine run Zbph rfl ?_|rw[Zf Zyo.eq_1]|refine run Zbpi rfl ?_|refine run Zbpj rfl ?_|rw[Zf Zyq.eq_1]|refine run Zbpk rfl ?_|rw[Zf Zys.eq_1]|refine run Zbpl rfl ?_|rw[Zf Zyu.eq_1]|refine run Zbpm rfl ?_|refine run Zbpn rfl ?_|refine run Zbpo rfl ?_)
 all_goals (refine Yb ?_ h;clear h;simp +decide[*,kk,tI,tII,Z8m,Z8n,Zyp,Z8o,Z8p,Z8q,Zyr,Z8r,Z8s,Zyt,Z8t,Zyv,Z8u,Z8v,Z8w])
abbrev Zbtg:=Zen.1
abbrev Zbdc:=Zen.2.1
abbrev Zbth:=Zen.2.2.1
abbrev Zii:=Zen.2.2.2.1
abbrev Zbdd:=Zen.2.2.2.2.1
abbrev Zbti:=Zen.2.2.2.2.2.1
abbrev Zbde:=Zen.2.2.2.2.2.2.1
abbrev Zbtj:=Zen.2.2.2.2.2.2.2.1
abbrev Zbtk:=Zen.2.2.2.2.2.2.2.2.1
abbrev Zbtl:=Zen.2.2.2.2.2.2.2.2.2.1
abbrev Zbtm:=Zen.2.2.2.2.2.2.2.2.2.2.1
abbrev Zbtn:=Zen.2.2.2.2.2.2.2.2.2.2.2
theorem Zbto{a:Zd}{r:AV×List Blk}(h:(∃(v:Bool),Zz a.Zi 1 4=some (Bo v,[])∧(if v=true then(∃(v1:Bool),Zz (a.Atoms.length:Int) 1 4=some (Bo v1,[])∧(if v1=true then(0≤a.Zi∧(a.Zi.toNat*1≤room∧(a.Zi≤140737488355328∧(Zi5 a (List.replicate (a.Zi).toNat false) a.Atoms (a.Atoms.length:Int) 0=some r))))else(some (Bo false,[])=some r)))else(some (Bo false,[])=some r)))):Zgt a=some r:=by
 unfold Zgt;refine run Zbpg rfl ?_;obtain⟨v,q1,h⟩:=h;unfold Zz at q1
 try simp at q1
 by_cases q2:v=true
 ·rw[if_pos q2]at h;obtain⟨v1,q3,h⟩:=h;unfold Zz at q3
  try simp at q3
  by_cases q4:v1=true
  ·rw[if_pos q4]at h;obtain⟨q5,h⟩:=h;obtain⟨q6,h⟩:=h;have zq6:=q6;try simp at zq6
   obtain⟨q7,h⟩:=h;refine Yb ?_ h;clear h;simp +decide[*,Ztk,tI,tII,Zi5]
  ·rw[if_neg q4]at h;refine Yb ?_ h;clear h;simp +decide[*,Ztk,tI,tII]
 ·rw[if_neg q2]at h;refine Yb ?_ h;clear h;simp +decide[*,Ztk,tI,tII]
theorem Zeo:(∀⦃q p cd x cl x1 x2 r⦄,Im (Zpe q p cd x cl x1 x2=some r) (if x2<x1 then(0≤x2∧(∃e1,x[x2.toNat]?=some e1∧(0≤e1∧(∃e2,cd[e1.toNat]?=some e2∧(if e2.Mask=cl then((Zlz q p e1=some (.tup [.agg [.t .nil],Bo false],[])∧(some (.tup [.agg [.t .nil],Bo false],[])=some r))∨(∃(v3:List Ze),Zlz q p e1=some (.tup [.agg [.own 0],Bo true],[.arr 194 3 true (v3.map Ze.c)])∧(some (.tup [.agg [.own 0],Bo true],[.arr 194 3 true (v3.map Ze.c)])=some r)))else(Zpe q p cd x cl x1 (w (x2+1))=some r))))))else(some (.tup [.agg [.t .nil],Bo false],[])=some r))) ∧
 (∀⦃a a1 a2 r⦄,Im (Zl0 a a1 a2=some r) ((Zct a a1=some (.tup [.t .nil,Bo false],[])∧(some (.tup [.agg [.t .nil],Bo false],[])=some r))∨(∃(v1:List Zb),Zct a a1=some (.tup [.own 0,Bo true],[.arr 209 4 true (v1.map Zb.c)])∧(∃(v2:List Int),Zi7 a1=some (.own 0,[.arr 3 1 true (v2.map ic)])∧(Zpe a a1 v1 v2 a2 (v2.length:Int) 0=some r))))) ∧
 (∀⦃a a1 r⦄,Im (Zyz a a1=some r) (some (Bo (decide (a.Name=a1)),[])=some r)) ∧
 (∀⦃s f x x1 r⦄,Im (Zpf s f x x1=some r) (if x1<x then(0≤x1∧(∃e1,s[x1.toNat]?=some e1∧(∃v1,Zyz e1 f=some (Bo v1,[])∧(if v1=true then(some (I x1,[])=some r)else(Zpf s f x (w (x1+1))=some r)))))else(some (I (-1),[])=some r))) ∧
 (∀⦃a a1 r⦄,Im (Ztp a a1=some r) (Zpf a a1 (a.length:Int) 0=some r)) ∧
 (∀⦃cn cc x x1 x2 r⦄,Im (Zpg cn cc x x1 x2=some r) (if x2<x1 then(0≤x2∧(∃e1,x[x2.toNat]?=some e1∧(∃v1,Zz e1 0 9=some (Bo v1,[])∧(if v1=true then(Zpg cn cc x x1 (w (x2+1))=some r)else(some (Bo false,[])=some r)))))else(some (Bo (decide ((cn.length:Int)=cc)),[])=some r))) ∧
 (∀⦃a a1 r⦄,Im (Zi8 a a1=some r) (Zpg a a1 a (a.length:Int) 0=some r)) ∧
 (∀⦃a r⦄,Im (Ztq a=some r) (some (Bo (!(decide (a=a))),[])=some r)) ∧
 (∀⦃a a1 r⦄,Im (Ztr a a1=some r) (∃v,Ztq a=some (Bo v,[])∧(∃v1,Ztq a1=some (Bo v1,[])∧(if v=true then(if v1=true then(some (I 0,[])=some r)else(some (I (-1),[])=some r))else(if v1=true then(some (I 1,[])=some r)else(if a<a1 then(some (I (-1),[])=some r)else(if a1<a then(some (I 1,[])=some r)else(some (I 0,[])=some r)))))))) ∧
 (∀⦃s1 s2 x x1 x2 r⦄,Im (Zph s1 s2 x x1 x2=some r) (if x2<x1 then(0≤x2∧(∃e1,x[x2.toNat]?=some e1∧(if(s2.length:Int)≤x2 then(some (I 1,[])=some r)else(∃e2,s2[x2.toNat]?=some e2∧(∃v2,Ztr e1 e2=some (I v2,[])∧(if v2=0 then(Zph s1 s2 x x1 (w (x2+1))=some r)else(some (I v2,[])=some r)))))))else(if(s1.length:Int)<(s2.length:Int)then(some (I (-1),[])=some r)else(some (I 0,[])=some r)))) ∧
 (∀⦃a a1 r⦄,Im (Zy6 a a1=some r) (Zph a a1 a (a.length:Int) 0=some r)) ∧
 (∀⦃a a1 r⦄,Im (Zpi a a1=some r) (∃v,Zy6 a a1=some (I v,[])∧(some (I v,[])=some r))):=by
 and_intros
 all_goals intros
 all_goals unfold Im
 all_goals try simp only[Zpe,Zl0,Zyz,Zpf,Ztp,Zpg,Zi8,Ztq,Ztr,Zph,Zy6,Zpi,Zlz,Plan.c_def,Zd.c_def,Zct,Zi7,Zj.c_def,Zz,mpl,dfs]
 all_goals try simp only[itb]
 all_goals try simp only[itf,gS,kk]
 all_goals repeat' first|refine exI fun _=>?_|refine anJ fun _ _=>?_|refine anI fun _=>?_|refine orE2 ?_ ?_|exact False.elim
 all_goals (intro h;first|rw[Zf Zyx.eq_1]|refine run Zbpp rfl ?_|refine run Zbpq rfl ?_|rw[Zf Zy0.eq_1]|refine run Zbpr rfl ?_|rw[Zf Zy2.eq_1]|refine run Zbps rfl ?_|refine run Zbpt rfl ?_|refine run Zbpu rfl ?_|rw[Zf Zy4.eq_1]|refine run Zbpv rfl ?_|refine run Zbpw rfl ?_)
 all_goals (refine Yb ?_ h;clear h;simp +decide[*,kk,tI,tII,Zyy,Z8x,Z8y,Zy1,Z8z,Zy3,Z80,Z81,Z82,Zy5,Z83,Z84])
abbrev Zbdf:=Zeo.1
abbrev Zbtp:=Zeo.2.1
abbrev Zbtq:=Zeo.2.2.1
abbrev Zbdg:=Zeo.2.2.2.1
abbrev Zbtr:=Zeo.2.2.2.2.1
abbrev Zbdh:=Zeo.2.2.2.2.2.1
abbrev Zbts:=Zeo.2.2.2.2.2.2.1
abbrev Zbdi:=Zeo.2.2.2.2.2.2.2.1
abbrev Zbtt:=Zeo.2.2.2.2.2.2.2.2.1
abbrev Zbdj:=Zeo.2.2.2.2.2.2.2.2.2.1
abbrev Zbtu:=Zeo.2.2.2.2.2.2.2.2.2.2.1
abbrev Zbtv:=Zeo.2.2.2.2.2.2.2.2.2.2.2
theorem Zep:(∀⦃c i r⦄,Im (Zpj c i=some r) (if i<(c.length:Int)then(0≤(w (i-1))∧(∃e1,c[(w (i-1)).toNat]?=some e1∧(0≤i∧(∃e2,c[i.toNat]?=some e2∧(∃v3,Zpi e1 e2=some (I v3,[])∧(if 0≤v3 then(some (Bo false,[])=some r)else(Zpj c (w (i+1))=some r)))))))else(some (Bo true,[])=some r))) ∧
 (∀⦃a r⦄,Im (Zts a=some r) (Zpj a 1=some r)) ∧
 (∀⦃t x x1 x2 r⦄,Im (Zpk t x x1 x2=some r) (if x2<x1 then(0≤x2∧(∃e1,x[x2.toNat]?=some e1∧(∃v1,Zi8 e1 t.Arity=some (Bo v1,[])∧(if v1=true then(Zpk t x x1 (w (x2+1))=some r)else(some (Bo false,[])=some r)))))else(∃v3,Zlt t.Name=some (Bo v3,[])∧(if v3=true then(∃v6,Zz t.Arity 1 3=some (Bo v6,[])∧(if v6=true then(if(t.Rows.length:Int)≤8 then(∃v9,Zts t.Rows=some (Bo v9,[])∧(some (Bo v9,[])=some r))else(some (Bo false,[])=some r))else(some (Bo false,[])=some r)))else(some (Bo false,[])=some r))))) ∧
 (∀⦃a r⦄,Im (Ztt a=some r) (Zpk a a.Rows (a.Rows.length:Int) 0=some r)) ∧
 (∀⦃db x x1 x2 r⦄,Im (Zl1 db x x1 x2=some r) (if x2<x1 then(0≤x2∧(∃e1,x[x2.toNat]?=some e1∧(∃v1,Ztt e1=some (Bo v1,[])∧(if v1=true then(if 0<x2 then(0≤(w (x2-1))∧(∃e3,db.Tables[(w (x2-1)).toNat]?=some e3∧(if(Op.bytesLess e3.Name.toList e1.Name.toList)=true then(Zl1 db x x1 (w (x2+1))=some r)else(some (Bo false,[])=some r))))else(Zl1 db x x1 (w (x2+1))=some r))else(some (Bo false,[])=some r)))))else(some (Bo (decide ((db.Tables.length:Int)≤6)),[])=some r))) ∧
 (∀⦃a r⦄,Im (Ztu a=some r) (Zl1 a a.Tables (a.Tables.length:Int) 0=some r)) ∧
 (∀⦃a r⦄,Im (Zcu a=some r) (a.length≤68719476736∧(some (.own 0,[.arr 3 1 true (a.map ic)])=some r))) ∧
 (∀⦃cc x x1 x2 r⦄,Im (Zpl cc x x1 x2=some r) (if x2<x1 then(0≤x2∧(∃e1,x[x2.toNat]?=some e1∧(∃(v1:List Int),Zcu e1=some (.own 0,[.arr 3 1 true (v1.map ic)])∧(cc.length+1≤68719476736∧(Zpl (cc++[v1]) x x1 (w (x2+1))=some r)))))else(some (.own 0,[.arr 30 1 true (cc.map isc)])=some r))) ∧
 (∀⦃a r⦄,Im (Zhq a=some r) (Zpl ([]:List (List Int)) a (a.length:Int) 0=some r)) ∧
 (∀⦃a r⦄,Im (Zzf a=some r) (∃(v:List (List Int)),Zhq a.Rows=some (.own 0,[.arr 30 1 true (v.map isc)])∧(some (.agg [.t (.str a.Name),I a.Arity,.own 0],[.arr 30 1 true (v.map isc)])=some r))) ∧
 (∀⦃a a1 r⦄,Im (Zhr a a1=some r) (∃v,Ztp a.Tables a1=some (I v,[])∧(if v<0 then(some (.tup [.agg [.t (.str ⟨#[]⟩),I 0,.t .nil],Bo false],[])=some r)else(∃v1,Ztu a=some (Bo v1,[])∧(if v1=true then(0≤v∧(∃e3,a.Tables[v.toNat]?=some e3∧(∃(v6:List (List Int)),∃v7,∃v8,Zzf e3=some (.agg [.t (.str v7),I v8,.own 0],[.arr 30 1 true (v6.map isc)])∧(some (.tup [.agg [.t (.str v7),I v8,.own 0],Bo true],[.arr 30 1 true (v6.map isc)])=some r))))else(some (.tup [.agg [.t (.str ⟨#[]⟩),I 0,.t .nil],Bo false],[])=some r)))))) ∧
 (∀⦃db x x1 x2 r⦄,Im (Zl2 db x x1 x2=some r) (if x2<x1 then(0≤x2∧(∃e1,x[x2.toNat]?=some e1∧((∃v1 v2,Zhr db e1.Name=some (.tup [.agg [.t (.str v1),I v2,.t .nil],Bo false],[])∧(some (Bo false,[])=some r))∨(∃(v3:List (List Int)),∃v4,∃v5,Zhr db e1.Name=some (.tup [.agg [.t (.str v4),I v5,.own 0],Bo true],[.arr 30 1 true (v3.map isc)])∧(if v5=(e1.Vars.length:Int)then(Zl2 db x x1 (w (x2+1))=some r)else(some (Bo false,[])=some r))))))else(some (Bo true,[])=some r))):=by
 and_intros
 all_goals intros
 all_goals unfold Im
 all_goals try simp only[Zpj,Zts,Zpk,Ztt,Zl1,Ztu,Zcu,Zpl,Zhq,Zzf,Zhr,Zl2,Zpi,Zi8,Zlt,Zz,Zj.c_def,Ztp,Zl.c_def,mpl,dfs]
 all_goals try simp only[itb]
 all_goals try simp only[itf,gS,kk]
 all_goals repeat' first|refine exI fun _=>?_|refine anJ fun _ _=>?_|refine anI fun _=>?_|refine orE2 ?_ ?_|exact False.elim
 all_goals (intro h;first|rw[Zf Zy7.eq_1]|refine run Zbpx rfl ?_|rw[Zf Zy9.eq_1]|refine run Zbpy rfl ?_|rw[Zf Zzb.eq_1]|refine run Zbpz rfl ?_|refine run Zbp0 rfl ?_|rw[Zf Zzd.eq_1]|refine run Zbp1 rfl ?_|refine run Zbp2 rfl ?_|refine run Zbp3 rfl ?_|rw[Zf Zzg.eq_1])
 all_goals (refine Yb ?_ h;clear h;simp +decide[*,kk,tI,tII,Zy8,Z85,Zza,Z86,Zzc,Z87,Z88,Zze,Z89,Z9a,Z9b,Zzh])
abbrev Z3f:=Zep.1
abbrev Zbtw:=Zep.2.1
abbrev Zbdk:=Zep.2.2.1
abbrev Zbtx:=Zep.2.2.2.1
abbrev Zbdl:=Zep.2.2.2.2.1
abbrev Zbty:=Zep.2.2.2.2.2.1
abbrev Zbtz:=Zep.2.2.2.2.2.2.1
abbrev Zbdm:=Zep.2.2.2.2.2.2.2.1
abbrev Zbt0:=Zep.2.2.2.2.2.2.2.2.1
abbrev Zbt1:=Zep.2.2.2.2.2.2.2.2.2.1
abbrev Zbt2:=Zep.2.2.2.2.2.2.2.2.2.2.1
abbrev Zbdn:=Zep.2.2.2.2.2.2.2.2.2.2.2
theorem Zno:(∀⦃a a1 r⦄,Im (Zhs a a1=some r) (∃v,Zgt a1=some (Bo v,[])∧(if v=true then(Zl2 a a1.Atoms (a1.Atoms.length:Int) 0=some r)else(some (Bo false,[])=some r)))) ∧
 (∀⦃a x x1 x2 x3 r⦄,Im (Zzi a x x1 x2 x3=some r) (if x3<x2 then(0≤x3∧(∃e1,x1[x3.toNat]?=some e1∧(Zpm a x ([]:List Int) x1 e1 x2 x3 (x.length:Int) 0=some r)))else(some (.tup [.agg [.own 0,.t .nil],Bo true],[.arr 3 1 true (x.map ic)])=some r))) ∧
 (∀⦃a x x1 x2 c x3 x4 x5 x6 r⦄,Im (Zpm a x x1 x2 c x3 x4 x5 x6=some r) (if x6<x5 then(0≤x6∧(∃e1,x[x6.toNat]?=some e1∧(∃v1,Zc2 a.Vars e1=some (I v1,[])∧(0≤v1∧(∃e3,c[v1.toNat]?=some e3∧(x1.length+1≤68719476736∧(Zpm a x (x1++[e3]) x2 c x3 x4 x5 (w (x6+1))=some r)))))))else(Zjd a x ([x1]) x2 x3 (w (x4+1))=some r))) ∧
 (∀⦃a x x1 x2 x3 x4 r⦄,Im (Zjd a x x1 x2 x3 x4=some r) (if x4<x3 then(0≤x4∧(∃e1,x2[x4.toNat]?=some e1∧(Zpn a x x1 ([]:List Int) x2 e1 x3 x4 (x.length:Int) 0=some r)))else(some (.tup [.agg [.own 0,.own 1],Bo true],[.arr 3 1 true (x.map ic),.arr 30 1 true (x1.map isc)])=some r))) ∧
 (∀⦃a x x1 x2 x3 c x4 x5 x6 x7 r⦄,Im (Zpn a x x1 x2 x3 c x4 x5 x6 x7=some r) (if x7<x6 then(0≤x7∧(∃e1,x[x7.toNat]?=some e1∧(∃v1,Zc2 a.Vars e1=some (I v1,[])∧(0≤v1∧(∃e3,c[v1.toNat]?=some e3∧(x2.length+1≤68719476736∧(Zpn a x x1 (x2++[e3]) x3 c x4 x5 x6 (w (x7+1))=some r)))))))else(x1.length+1≤68719476736∧(Zjd a x (x1++[x2]) x3 x4 (w (x5+1))=some r)))) ∧
 (∀⦃a a1 a2 r⦄,Im (Zjc a a1 a2=some r) (∃v,Zhs a a1=some (Bo v,[])∧(if v=true then(∃v1,Zz a2 0 (w ((a1.Atoms.length:Int)-1))=some (Bo v1,[])∧(if v1=true then(0≤a2∧(∃e3,a1.Atoms[a2.toNat]?=some e3∧((∃v2 v3,Zhr a e3.Name=some (.tup [.agg [.t (.str v2),I v3,.t .nil],Bo false],[])∧(∃(v4:List Int),Zcu e3.Vars=some (.own 0,[.arr 3 1 true (v4.map ic)])∧(∃(v5:List Int),Zi9 v4=some (.tup [],[.arr 3 1 true (v5.map ic)])∧(Z9e e3 v5 0 0=some r))))∨(∃(v6:List (List Int)),∃v7,∃v8,Zhr a e3.Name=some (.tup [.agg [.t (.str v7),I v8,.own 0],Bo true],[.arr 30 1 true (v6.map isc)])∧(∃(v9:List Int),Zcu e3.Vars=some (.own 0,[.arr 3 1 true (v9.map ic)])∧(∃(v10:List Int),Zi9 v9=some (.tup [],[.arr 3 1 true (v10.map ic)])∧(Zzi e3 v10 v6 (v6.length:Int) 0=some r)))))))else(some (.tup [.agg [.t .nil,.t .nil],Bo false],[])=some r)))else(some (.tup [.agg [.t .nil,.t .nil],Bo false],[])=some r)))):=by
 and_intros
 all_goals intros
 all_goals unfold Im
 all_goals try simp only[Zhs,Zzi,Zpm,Zjd,Zpn,Zjc,Zgt,Zd.c_def,Zc2,Zz,Zhr,Zcu,Zi9,Zl.c_def,Zl2,Z9e,mpl,dfs]
 all_goals try simp only[itb]
 all_goals try simp only[itf,gS,kk]
 all_goals repeat' first|refine exI fun _=>?_|refine anJ fun _ _=>?_|refine anI fun _=>?_|refine orE2 ?_ ?_|exact False.elim
 all_goals (intro h;first|refine run Zbp4 rfl ?_|rw[Zf Zja.eq_1]|rw[Zf Ztv.eq_1]|refine run Zbp5 rfl ?_)
 all_goals (refine Yb ?_ h;clear h;simp +decide[*,kk,tI,tII,Z9c,Zjb,Ztx,Ztw,Z9d])
abbrev Zbt3:=Zno.1
abbrev Zbt4:=Zno.2.1
abbrev Zbdo:=Zno.2.2.1
abbrev Zbdp:=Zno.2.2.2.1
abbrev Zbdq:=Zno.2.2.2.2.1
abbrev Zbt5:=Zno.2.2.2.2.2
end Go.Proofs.YtgnfoghkbpkgjaaGreat
namespace Go.AM
theorem setI(l:List (List Int))(i:Nat)(e:List Int):(l.map isc).set i [.lst 1 (e.map ic)]=(l.set i e).map isc:=by rw[List.map_set];rfl
theorem appI(l:List Int)(v:Int):l.map ic++[[.int .i64 v]]=(l++[v]).map ic:=by simp
theorem Zcf(a b:Int)(k:IntKind):binT .shr (.int .u64 a) (.int k b)=if b<0 then none else some (.int .u64 (shrI a b)):=by simp[binT,shrI,IntKind.bits]
end Go.AM
namespace Go.Proofs.YtgnfoghkbpkgjaaGreat
open Go.AM
theorem Znp:(∀⦃c cc x x1 x2 r⦄,Im (Zl3 c cc x x1 x2=some r) (if x2<x1 then(0≤x2∧(∃e1,x[x2.toNat]?=some e1∧(∃v1,Zz e1 0 (w (cc-1))=some (Bo v1,[])∧(if v1=true then(if 0<x2 then(0≤(w (x2-1))∧(∃e3,c[(w (x2-1)).toNat]?=some e3∧(if e1≤e3 then(some (Bo false,[])=some r)else(Zl3 c cc x x1 (w (x2+1))=some r))))else(Zl3 c cc x x1 (w (x2+1))=some r))else(some (Bo false,[])=some r)))))else(some (Bo true,[])=some r))) ∧
 (∀⦃a a1 r⦄,Im (Zzl a a1=some r) (Zl3 a a1 a (a.length:Int) 0=some r)) ∧
 (∀⦃a r⦄,Im (Zzm a=some r) (∃v,Zzl a 4=some (Bo v,[])∧(some (Bo v,[])=some r))) ∧
 (∀⦃s x x1 x2 r⦄,Im (Zpo s x x1 x2=some r) (if x2<x1 then(0≤x2∧(∃e1,x[x2.toNat]?=some e1∧(∃v1,Zi8 e1 (s.Vars.length:Int)=some (Bo v1,[])∧(if v1=true then(Zpo s x x1 (w (x2+1))=some r)else(some (Bo false,[])=some r)))))else(∃v2,Zzm s.Vars=some (Bo v2,[])∧(if v2=true then(some (Bo (decide ((s.Rows.length:Int)≤4096)),[])=some r)else(some (Bo false,[])=some r))))) ∧
 (∀⦃a r⦄,Im (Zdo a=some r) (Zpo a a.Rows (a.Rows.length:Int) 0=some r)) ∧
 (∀⦃x a a1 r⦄,Im (Zfc x a a1=some r) (0≤x∧(∃e1,a[x.toNat]?=some e1∧(∃e2,a1[x.toNat]?=some e2∧(some (I (w (e1-e2)),[.box [I x]])=some r))))):=by
 and_intros
 all_goals intros
 all_goals unfold Im
 all_goals try simp only[Zl3,Zzl,Zzm,Zpo,Zdo,Zfc,Zz,Zi8,mpl,dfs]
 all_goals try simp only[itb]
 all_goals try simp only[itf,gS,kk]
 all_goals repeat' first|refine exI fun _=>?_|refine anJ fun _ _=>?_|refine anI fun _=>?_|refine orE2 ?_ ?_|exact False.elim
 all_goals (intro h;first|rw[Zf Zzj.eq_1]|refine run Zbp6 rfl ?_|refine run Zbp7 rfl ?_|rw[Zf Zzn.eq_1]|refine run Zbp8 rfl ?_|refine runM Zbp9 rfl ?_)
 all_goals (refine Yb ?_ h;clear h;simp +decide[*,kk,tI,tII,Zzk,Z9f,Z9g,Zzo,Z9h,Z9i])
abbrev Zbdr:=Znp.1
abbrev Zbt6:=Znp.2.1
abbrev Zbt7:=Znp.2.2.1
abbrev Zbds:=Znp.2.2.2.1
abbrev Zbt8:=Znp.2.2.2.2.1
abbrev Zbt9:=Znp.2.2.2.2.2
theorem Zbdt{fr:Bool}{c:List (List Int)}{x a b i:Int}{r:AV×List Blk}(h:(if i<b then(Zje fr c x a b i i=some r)else(some (.tup [],[.arr 30 1 fr (c.map isc),.box [I x]])=some r))):Zgu fr c x a b i=some r:=by
 unfold Zgu;rw[Zf Zty.eq_1]
 try simp only[itb]at h
 try simp only[itf,gS,kk]at h
 rcases h with⟨q1,h⟩|⟨q1,h⟩
 all_goals (refine Yb ?_ h;clear h;simp +decide[*,-List.map_set,setI,Zcf,kk,tI,tII,Zje])
theorem Zve{fr:Bool}{c:List (List Int)}{x a b i j:Int}{r:AV×List Blk}(h:(if a<j then(0≤j∧(∃(e1:List Int),c[j.toNat]?=some e1∧(0≤(w (j-1))∧(∃(e2:List Int),c[(w (j-1)).toNat]?=some e2∧(∃(v:Int) (v1:Int),Zfc x e1 e2=some (I v1,[.box [I v]])∧(if v1<0 then(∃(e4:List Int),(c.set j.toNat e2)[(w (j-1)).toNat]?=some e4∧(Zje false ((c.set j.toNat e2).set ((w (j-1)).toNat) e1) v a b i (w (j-1))=some r))else(Zgu fr c v a b (w (i+1))=some r)))))))else(Zgu fr c x a b (w (i+1))=some r))):Zje fr c x a b i j=some r:=by
 unfold Zje;rw[Zf Zzp.eq_1];simp only[Zfc,mpl,dfs]at h
 try simp only[itb]at h
 try simp only[itf,gS,kk]at h
 rcases h with⟨q1,q2,e1,⟨g3,q3⟩,q4,e2,⟨g5,q5⟩,v,v1,q6,(⟨q7,e4,⟨g8,q8⟩,h⟩|⟨q7,h⟩)⟩|⟨q1,h⟩
 all_goals (refine Yb ?_ h;clear h;simp +decide[*,-List.map_set,setI,Zcf,kk,tI,tII,Zje,Zgu,Zzq])
theorem Zbua{fr:Bool}{x:List (List Int)}{x1 a a1:Int}{r:AV×List Blk}(h:(Zgu fr x x1 a a1 (w (a+1))=some r)):Zl4 fr x x1 a a1=some r:=by
 unfold Zl4;refine runM Zbqa rfl ?_;refine Yb ?_ h;clear h;simp +decide[*,-List.map_set,setI,Zcf,kk,tI,tII,Z9j,Zgu]
theorem Zbdu{fr:Bool}{c:List (List Int)}{x a b n i:Int}{r:AV×List Blk}(h:(if i<n then(0≤(w (b+i))∧(∃(e1:List Int),c[(w (b+i)).toNat]?=some e1∧(0≤(w (a+i))∧(∃(e2:List Int),c[(w (a+i)).toNat]?=some e2∧(∃(e3:List Int),(c.set ((w (a+i)).toNat) e1)[(w (b+i)).toNat]?=some e3∧(Zjg false ((c.set ((w (a+i)).toNat) e1).set ((w (b+i)).toNat) e2) x a b n (w (i+1))=some r))))))else(some (.tup [],[.arr 30 1 fr (c.map isc),.box [I x]])=some r))):Zjg fr c x a b n i=some r:=by
 unfold Zjg;rw[Zf Zzr.eq_1]
 try simp only[itb]at h
 try simp only[itf,gS,kk]at h
 rcases h with⟨q1,q2,e1,⟨g3,q3⟩,q4,e2,⟨g5,q5⟩,e3,⟨g6,q6⟩,h⟩|⟨q1,h⟩
 all_goals (refine Yb ?_ h;clear h;simp +decide[*,-List.map_set,setI,Zcf,kk,tI,tII,Zjg])
theorem Zbub{fr:Bool}{x:List (List Int)}{x1 a a1 a2:Int}{r:AV×List Blk}(h:(Zjg fr x x1 a a1 a2 0=some r)):Zjf fr x x1 a a1 a2=some r:=by
 unfold Zjf;refine runM Zbqb rfl ?_;refine Yb ?_ h;clear h;simp +decide[*,-List.map_set,setI,Zcf,kk,tI,tII,Z9k,Zjg]
theorem Z3g{fr:Bool}{c:List (List Int)}{x m i j:Int}{r:AV×List Blk}(h:(if i=j then(∃(v:Bool) (v1:List (List Int)) (v2:Int),Zjf fr c x (w (m-i)) m i=some (.tup [],[.arr 30 1 v (v1.map isc),.box [I v2]])∧(some (.tup [],[.arr 30 1 v (v1.map isc),.box [I v2]])=some r))else(if j<i then(∃(v3:Bool) (v4:List (List Int)) (v5:Int),Zjf fr c x (w (m-i)) m j=some (.tup [],[.arr 30 1 v3 (v4.map isc),.box [I v5]])∧(Zht v3 v4 v5 m (w (i-j)) j=some r))else(∃(v6:Bool) (v7:List (List Int)) (v8:Int),Zjf fr c x (w (m-i)) (w ((w (m+j))-i)) i=some (.tup [],[.arr 30 1 v6 (v7.map isc),.box [I v8]])∧(Zht v6 v7 v8 m i (w (j-i))=some r))))):Zht fr c x m i j=some r:=by
 unfold Zht;rw[Zf Zzs.eq_1];simp only[Zjf,mpl,dfs]at h
 try simp only[itb]at h
 try simp only[itf,gS,kk]at h
 rcases h with⟨q1,v,v1,v2,q2,h⟩|⟨q1,(⟨q3,v3,v4,v5,q4,h⟩|⟨q3,v6,v7,v8,q5,h⟩)⟩
 all_goals (refine Yb ?_ h;clear h;simp +decide[*,-List.map_set,setI,Zcf,kk,tI,tII,Zzt,Zht])
theorem Zbuc{fr:Bool}{x:List (List Int)}{x1 a a1 a2:Int}{r:AV×List Blk}(h:(Zht fr x x1 a1 (w (a1-a)) (w (a2-a1))=some r)):Zpp fr x x1 a a1 a2=some r:=by
 unfold Zpp;refine runM Zbqc rfl ?_;refine Yb ?_ h;clear h;simp +decide[*,-List.map_set,setI,Zcf,kk,tI,tII,Z9l,Zht]
theorem Z3h{fr:Bool}{c:List (List Int)}{x a i j:Int}{r:AV×List Blk}(h:(if i<j then(0≤(w (shrI (IntKind.wrap .u64 (w (i+j))) 1))∧(∃(e1:List Int),c[(w (shrI (IntKind.wrap .u64 (w (i+j))) 1)).toNat]?=some e1∧(0≤a∧(∃(e2:List Int),c[a.toNat]?=some e2∧(∃(v:Int) (v1:Int),Zfc x e1 e2=some (I v1,[.box [I v]])∧(if v1<0 then(Zhu fr c v a (w ((w (shrI (IntKind.wrap .u64 (w (i+j))) 1))+1)) j=some r)else(Zhu fr c v a i (w (shrI (IntKind.wrap .u64 (w (i+j))) 1))=some r)))))))else(Zjh fr c x i a=some r))):Zhu fr c x a i j=some r:=by
 unfold Zhu;rw[Zf Zzu.eq_1];simp only[Zfc,mpl,dfs]at h
 try simp only[itb]at h
 try simp only[itf,gS,kk]at h
 rcases h with⟨q1,q2,e1,⟨g3,q3⟩,q4,e2,⟨g5,q5⟩,v,v1,q6,(⟨q7,h⟩|⟨q7,h⟩)⟩|⟨q1,h⟩
 all_goals (refine Yb ?_ h;clear h;simp +decide[*,-List.map_set,setI,Zcf,kk,tI,tII,Zhu,Zjh,Zzx])
theorem Z3i{fr:Bool}{c:List (List Int)}{x m i j:Int}{r:AV×List Blk}(h:(if i<j then(0≤m∧(∃(e1:List Int),c[m.toNat]?=some e1∧(0≤(w (shrI (IntKind.wrap .u64 (w (i+j))) 1))∧(∃(e2:List Int),c[(w (shrI (IntKind.wrap .u64 (w (i+j))) 1)).toNat]?=some e2∧(∃(v:Int) (v1:Int),Zfc x e1 e2=some (I v1,[.box [I v]])∧(if v1<0 then(Zhv fr c v m i (w (shrI (IntKind.wrap .u64 (w (i+j))) 1))=some r)else(Zhv fr c v m (w ((w (shrI (IntKind.wrap .u64 (w (i+j))) 1))+1)) j=some r)))))))else(Zji fr c x i m=some r))):Zhv fr c x m i j=some r:=by
 unfold Zhv;rw[Zf Zzy.eq_1];simp only[Zfc,mpl,dfs]at h
 try simp only[itb]at h
 try simp only[itf,gS,kk]at h
 rcases h with⟨q1,q2,e1,⟨g3,q3⟩,q4,e2,⟨g5,q5⟩,v,v1,q6,(⟨q7,h⟩|⟨q7,h⟩)⟩|⟨q1,h⟩
 all_goals (refine Yb ?_ h;clear h;simp +decide[*,-List.map_set,setI,Zcf,kk,tI,tII,Zhv,Zji,Zz1])
theorem Zrl{fr:Bool}{cc:List (List Int)}{x a m b cd n c cl p:Int}{r:AV×List Blk}(h:(if c<cl then(0≤(w (p-(w (shrI (IntKind.wrap .u64 (w (c+cl))) 1))))∧(∃(e1:List Int),cc[(w (p-(w (shrI (IntKind.wrap .u64 (w (c+cl))) 1)))).toNat]?=some e1∧(0≤(w (shrI (IntKind.wrap .u64 (w (c+cl))) 1))∧(∃(e2:List Int),cc[(w (shrI (IntKind.wrap .u64 (w (c+cl))) 1)).toNat]?=some e2∧(∃(v:Int) (v1:Int),Zfc x e1 e2=some (I v1,[.box [I v]])∧(if v1<0 then(Zgv fr cc v a m b cd n c (w (shrI (IntKind.wrap .u64 (w (c+cl))) 1)) p=some r)else(Zgv fr cc v a m b cd n (w ((w (shrI (IntKind.wrap .u64 (w (c+cl))) 1))+1)) cl p=some r)))))))else(if c<m then(if m<(w (n-c))then(∃(v2:Bool) (v3:List (List Int)) (v4:Int),Zpp fr cc x c m (w (n-c))=some (.tup [],[.arr 30 1 v2 (v3.map isc),.box [I v4]])∧(if a<c then(if c<cd then(∃(v5:Bool) (v6:List (List Int)) (v7:Int),Zc3 v2 v3 v4 a c cd=some (.tup [],[.arr 30 1 v5 (v6.map isc),.box [I v7]])∧(Zgw v5 v6 v7 b cd (w (n-c))=some r))else(Zfd v2 v3 v4 a b cd c (w (n-c)) false=some r))else(Zfd v2 v3 v4 a b cd c (w (n-c)) false=some r)))else(Zl5 fr cc x a m b cd c (w (n-c)) false=some r))else(Zl5 fr cc x a m b cd c (w (n-c)) false=some r)))):Zgv fr cc x a m b cd n c cl p=some r:=by
 unfold Zgv;rw[Zf Zz2.eq_1];simp only[Zfc,Zpp,Zc3,mpl,dfs]at h
 try simp only[itb]at h
 try simp only[itf,gS,kk]at h
 rcases h with⟨q1,q2,e1,⟨g3,q3⟩,q4,e2,⟨g5,q5⟩,v,v1,q6,(⟨q7,h⟩|⟨q7,h⟩)⟩|⟨q1,(⟨q8,(⟨q9,v2,v3,v4,q10,(⟨q11,(⟨q12,v5,v6,v7,q13,h⟩|⟨q12,h⟩)⟩|⟨q11,h⟩)⟩|⟨q9,h⟩)⟩|⟨q8,h⟩)⟩
 all_goals (refine Yb ?_ h;clear h;simp +decide[*,-List.map_set,setI,Zcf,kk,tI,tII,Zgv,Zgw,Ztz,Zz3,Zfd,Zl5])
theorem Zbdv{fr:Bool}{c:List (List Int)}{x i k:Int}{r:AV×List Blk}(h:(if k<(w (i-1))then(0≤(w (k+1))∧(∃(e1:List Int),c[(w (k+1)).toNat]?=some e1∧(0≤k∧(∃(e2:List Int),c[k.toNat]?=some e2∧(∃(e3:List Int),(c.set k.toNat e1)[(w (k+1)).toNat]?=some e3∧(Zjh false ((c.set k.toNat e1).set ((w (k+1)).toNat) e2) x i (w (k+1))=some r))))))else(some (.tup [],[.arr 30 1 fr (c.map isc),.box [I x]])=some r))):Zjh fr c x i k=some r:=by
 unfold Zjh;rw[Zf Zzv.eq_1]
 try simp only[itb]at h
 try simp only[itf,gS,kk]at h
 rcases h with⟨q1,q2,e1,⟨g3,q3⟩,q4,e2,⟨g5,q5⟩,e3,⟨g6,q6⟩,h⟩|⟨q1,h⟩
 all_goals (refine Yb ?_ h;clear h;simp +decide[*,-List.map_set,setI,Zcf,kk,tI,tII,Zjh,Zzw])
theorem Zbdw{fr:Bool}{c:List (List Int)}{x i k:Int}{r:AV×List Blk}(h:(if i<k then(0≤(w (k-1))∧(∃(e1:List Int),c[(w (k-1)).toNat]?=some e1∧(0≤k∧(∃(e2:List Int),c[k.toNat]?=some e2∧(∃(e3:List Int),(c.set k.toNat e1)[(w (k-1)).toNat]?=some e3∧(Zji false ((c.set k.toNat e1).set ((w (k-1)).toNat) e2) x i (w (k-1))=some r))))))else(some (.tup [],[.arr 30 1 fr (c.map isc),.box [I x]])=some r))):Zji fr c x i k=some r:=by
 unfold Zji;rw[Zf Zzz.eq_1]
 try simp only[itb]at h
 try simp only[itf,gS,kk]at h
 rcases h with⟨q1,q2,e1,⟨g3,q3⟩,q4,e2,⟨g5,q5⟩,e3,⟨g6,q6⟩,h⟩|⟨q1,h⟩
 all_goals (refine Yb ?_ h;clear h;simp +decide[*,-List.map_set,setI,Zcf,kk,tI,tII,Zji,Zz0])
theorem Zbdx{fr:Bool}{c:List (List Int)}{x b cc x1:Int}{r:AV×List Blk}(h:(if cc<x1 then(if x1<b then(∃(v:Bool) (v1:List (List Int)) (v2:Int),Zc3 fr c x cc x1 b=some (.tup [],[.arr 30 1 v (v1.map isc),.box [I v2]])∧(some (.tup [],[.arr 30 1 v (v1.map isc),.box [I v2]])=some r))else(some (.tup [],[.arr 30 1 fr (c.map isc),.box [I x]])=some r))else(some (.tup [],[.arr 30 1 fr (c.map isc),.box [I x]])=some r))):Zgw fr c x b cc x1=some r:=by
 unfold Zgw;rw[Ev_eq Zpq.eq_1];simp only[Zc3,mpl,dfs]at h
 try simp only[itb]at h
 try simp only[itf,gS,kk]at h
 rcases h with⟨q1,(⟨q2,v,v1,v2,q3,h⟩|⟨q2,h⟩)⟩|⟨q1,h⟩
 all_goals (refine Yb ?_ h;clear h;simp +decide[*,-List.map_set,setI,Zcf,kk,tI,tII])
theorem Zbdy{fr:Bool}{c:List (List Int)}{x a b cc cd x1:Int}{x2:Bool}{r:AV×List Blk}(h:(if cc<x1 then(if x1<b then(∃(v:Bool) (v1:List (List Int)) (v2:Int),Zc3 fr c x cc x1 b=some (.tup [],[.arr 30 1 v (v1.map isc),.box [I v2]])∧(some (.tup [],[.arr 30 1 v (v1.map isc),.box [I v2]])=some r))else(some (.tup [],[.arr 30 1 fr (c.map isc),.box [I x]])=some r))else(some (.tup [],[.arr 30 1 fr (c.map isc),.box [I x]])=some r))):Zfd fr c x a b cc cd x1 x2=some r:=by
 unfold Zfd;rw[Ev_eq Zpq.eq_1];simp only[Zc3,mpl,dfs]at h
 try simp only[itb]at h
 try simp only[itf,gS,kk]at h
 rcases h with⟨q1,(⟨q2,v,v1,v2,q3,h⟩|⟨q2,h⟩)⟩|⟨q1,h⟩
 all_goals (refine Yb ?_ h;clear h;simp +decide[*,-List.map_set,setI,Zcf,kk,tI,tII])
theorem Zbdz{fr:Bool}{cd:List (List Int)}{x a m b cc c x1:Int}{x2:Bool}{r:AV×List Blk}(h:(if a<c then(if c<cc then(∃(v:Bool) (v1:List (List Int)) (v2:Int),Zc3 fr cd x a c cc=some (.tup [],[.arr 30 1 v (v1.map isc),.box [I v2]])∧(Zgw v v1 v2 b cc x1=some r))else(Zfd fr cd x a b cc c x1 false=some r))else(Zfd fr cd x a b cc c x1 false=some r))):Zl5 fr cd x a m b cc c x1 x2=some r:=by
 unfold Zl5;rw[Ev_eq Ztz.eq_1];simp only[Zc3,mpl,dfs]at h
 try simp only[itb]at h
 try simp only[itf,gS,kk]at h
 rcases h with⟨q1,(⟨q2,v,v1,v2,q3,h⟩|⟨q2,h⟩)⟩|⟨q1,h⟩
 all_goals (refine Yb ?_ h;clear h;simp +decide[*,-List.map_set,setI,Zcf,kk,tI,tII,Zgw,Zfd])
theorem Zvf{fr:Bool}{x:List (List Int)}{x1 a a1 a2:Int}{r:AV×List Blk}(h:(if(w (a1-a))=1 then(Zhu fr x x1 a a1 a2=some r)else(if(w (a2-a1))=1 then(Zhv fr x x1 a1 a a1=some r)else(if(w (shrI (IntKind.wrap .u64 (w (a+a2))) 1))<a1 then(Zgv fr x x1 a a1 a2 (w (shrI (IntKind.wrap .u64 (w (a+a2))) 1)) (w ((w (shrI (IntKind.wrap .u64 (w (a+a2))) 1))+a1)) (w ((w ((w (shrI (IntKind.wrap .u64 (w (a+a2))) 1))+a1))-a2)) (w (shrI (IntKind.wrap .u64 (w (a+a2))) 1)) (w ((w ((w (shrI (IntKind.wrap .u64 (w (a+a2))) 1))+a1))-1))=some r)else(Zgv fr x x1 a a1 a2 (w (shrI (IntKind.wrap .u64 (w (a+a2))) 1)) (w ((w (shrI (IntKind.wrap .u64 (w (a+a2))) 1))+a1)) a a1 (w ((w ((w (shrI (IntKind.wrap .u64 (w (a+a2))) 1))+a1))-1))=some r))))):Zc3 fr x x1 a a1 a2=some r:=by
 unfold Zc3;refine runM Zbqd rfl ?_
 try simp only[itb]at h
 try simp only[itf,gS,kk]at h
 rcases h with⟨q1,h⟩|⟨q1,(⟨q2,h⟩|⟨q2,(⟨q3,h⟩|⟨q3,h⟩)⟩)⟩
 all_goals (refine Yb ?_ h;clear h;simp +decide[*,-List.map_set,setI,Zcf,kk,tI,tII,Z9n,Zhu,Zhv,Zt1,Zgv,Z9m,Zt0])
theorem Zbd0{fr:Bool}{cc:List (List Int)}{x n c a b:Int}{r:AV×List Blk}(h:(if b≤n then(∃(v:Bool) (v1:List (List Int)) (v2:Int),Zl4 fr cc x a b=some (.tup [],[.arr 30 1 v (v1.map isc),.box [I v2]])∧(Zjj v v1 v2 n c b (w (b+c))=some r))else(∃(v3:Bool) (v4:List (List Int)) (v5:Int),Zl4 fr cc x a n=some (.tup [],[.arr 30 1 v3 (v4.map isc),.box [I v5]])∧(Zgx v3 v4 v5 n c=some r)))):Zjj fr cc x n c a b=some r:=by
 unfold Zjj;rw[Zf Zz4.eq_1];simp only[Zl4,mpl,dfs]at h
 try simp only[itb]at h
 try simp only[itf,gS,kk]at h
 rcases h with⟨q1,v,v1,v2,q2,h⟩|⟨q1,v3,v4,v5,q3,h⟩
 all_goals (refine Yb ?_ h;clear h;simp +decide[*,-List.map_set,setI,Zcf,kk,tI,tII,Zjj,Zgx,Zz7])
theorem Zbd1{fr:Bool}{cc:List (List Int)}{x n c:Int}{r:AV×List Blk}(h:(if c<n then(Zjk fr cc x n c 0 (w (2*c))=some r)else(some (.tup [],[.arr 30 1 fr (cc.map isc),.box [I x]])=some r))):Zgx fr cc x n c=some r:=by
 unfold Zgx;rw[Zf Zt2.eq_1]
 try simp only[itb]at h
 try simp only[itf,gS,kk]at h
 rcases h with⟨q1,h⟩|⟨q1,h⟩
 all_goals (refine Yb ?_ h;clear h;simp +decide[*,-List.map_set,setI,Zcf,kk,tI,tII,Zjk])
theorem Z3j{fr:Bool}{cc:List (List Int)}{x n c a b:Int}{r:AV×List Blk}(h:(if b≤n then(∃(v:Bool) (v1:List (List Int)) (v2:Int),Zc3 fr cc x a (w (a+c)) b=some (.tup [],[.arr 30 1 v (v1.map isc),.box [I v2]])∧(Zjk v v1 v2 n c b (w (b+(w (2*c))))=some r))else(if(w (a+c))<n then(∃(v3:Bool) (v4:List (List Int)) (v5:Int),Zc3 fr cc x a (w (a+c)) n=some (.tup [],[.arr 30 1 v3 (v4.map isc),.box [I v5]])∧(Zgx v3 v4 v5 n (w (c*2))=some r))else(Zgx fr cc x n (w (c*2))=some r)))):Zjk fr cc x n c a b=some r:=by
 unfold Zjk;rw[Zf Zz5.eq_1];simp only[Zc3,mpl,dfs]at h
 try simp only[itb]at h
 try simp only[itf,gS,kk]at h
 rcases h with⟨q1,v,v1,v2,q2,h⟩|⟨q1,(⟨q3,v3,v4,v5,q4,h⟩|⟨q3,h⟩)⟩
 all_goals (refine Yb ?_ h;clear h;simp +decide[*,-List.map_set,setI,Zcf,kk,tI,tII,Zjk,Zgx,Z9o,Zz6])
theorem Zbud{x:List (List Int)}{x1 a:Int}{r:AV×List Blk}(h:(Zjj true x x1 a 20 0 20=some r)):Zt3 x x1 a=some r:=by
 unfold Zt3;refine runM Zbqe rfl ?_;refine Yb ?_ h;clear h;simp +decide[*,-List.map_set,setI,Zcf,kk,tI,tII,Z9p,Zjj]
theorem Znq:(∀⦃x x1 r⦄,Im (Zt4 x x1=some r) (∃v,∃(v1:List (List Int)),∃v2,Zt3 x x1 (x.length:Int)=some (.tup [],[.arr 30 1 v (v1.map isc),.box [I v2]])∧(some (.tup [],[.arr 30 1 v (v1.map isc),.box [I v2]])=some r))) ∧
 (∀⦃a a1 r⦄,Im (Zl6 a a1=some r) (∃v,Zc2 a.Vars a1=some (I v,[])∧(if v<0 then(some (.tup [.agg [.t .nil,.t .nil],Bo false],[])=some r)else(∃v3,Zdo a=some (Bo v3,[])∧(if v3=true then(∃(v4:List Int),Zcu a.Vars=some (.own 0,[.arr 3 1 true (v4.map ic)])∧(∃(v5:List (List Int)),Zhq a.Rows=some (.own 0,[.arr 30 1 true (v5.map isc)])∧(∃v6,∃(v7:List (List Int)),∃v8,Zt4 v5 v=some (.tup [],[.arr 30 1 v6 (v7.map isc),.box [I v8]])∧(some (.tup [.agg [.own 0,.own 1],Bo true],[.arr 3 1 true (v4.map ic),.arr 30 1 v6 (v7.map isc)])=some r))))else(some (.tup [.agg [.t .nil,.t .nil],Bo false],[])=some r)))))) ∧
 (∀⦃a a1 r⦄,Im (Zjl a a1=some r) (∃(v:List Int),Zcu a.Vars=some (.own 0,[.arr 3 1 true (v.map ic)])∧(v.length+a1.Vars.length≤68719476736∧(∃(v3:List Int),Zi9 (v++a1.Vars)=some (.tup [],[.arr 3 1 true (v3.map ic)])∧(∃(v4:List Int),Zt5 v3=some (.own 1,[.dead,.arr 3 1 true (v4.map ic)])∧(some (.ptr 0 0,[.box [L 1 (a.Vars.map ic),L 1 (a.Rows.map isc),L 1 (a1.Vars.map ic),L 1 (a1.Rows.map isc),.own 1,.t .nil],.arr 3 1 true (v4.map ic)])=some r)))))) ∧
 (∀⦃a b x c x1 y x2 x3 r⦄,Im (Zjm a b x c x1 y x2 x3=some r) (if x3<x2 then(0≤x3∧(∃e1,x[x3.toNat]?=some e1∧(∃v3,Zc2 a.Vars e1=some (I v3,[])∧(∃v4,Zc2 b.Vars e1=some (I v4,[])∧(if v3<0 then(0≤v4∧(∃e4,y[v4.toNat]?=some e4∧(c.length+1≤68719476736∧(Zjm a b x (c++[e4]) x1 y x2 (w (x3+1))=some r))))else(if 0≤v4 then(0≤v3∧(∃e5,x1[v3.toNat]?=some e5∧(∃e6,y[v4.toNat]?=some e6∧(if e5=e6 then(c.length+1≤68719476736∧(Zjm a b x (c++[e5]) x1 y x2 (w (x3+1))=some r))else(some (.tup [],[.box [L 1 (a.Vars.map ic),L 1 (a.Rows.map isc),L 1 (b.Vars.map ic),L 1 (b.Rows.map isc),.own 1,.t .nil],.arr 3 1 true (x.map ic)])=some r)))))else(0≤v3∧(∃e7,x1[v3.toNat]?=some e7∧(c.length+1≤68719476736∧(Zjm a b x (c++[e7]) x1 y x2 (w (x3+1))=some r))))))))))else(some (.tup [],[.box [L 1 (a.Vars.map ic),L 1 (a.Rows.map isc),L 1 (b.Vars.map ic),L 1 (b.Rows.map isc),.own 1,.own 2],.arr 3 1 true (x.map ic),.arr 30 1 true (([c]).map isc)])=some r))) ∧
 (∀⦃a b x a1 a2 r⦄,Im (Zgy a b x a1 a2=some r) (Zjm a b x ([]:List Int) a1 a2 (x.length:Int) 0=some r)) ∧
 (∀⦃a b x r⦄,Im (Zl7 a b x=some r) (some (.tup [.agg [.own 1,.t .nil],Bo true],[.box [L 1 (a.Vars.map ic),L 1 (a.Rows.map isc),L 1 (b.Vars.map ic),L 1 (b.Rows.map isc),.own 1,.t .nil],.arr 3 1 true (x.map ic)])=some r)):=by
 and_intros
 all_goals intros
 all_goals unfold Im
 all_goals try simp only[Zt4,Zl6,Zjl,Zjm,Zgy,Zl7,Zt3,Zc2,Zdo,Zcu,Zhq,Za.c_def,Zi9,Zt5,mpl,dfs]
 all_goals try simp only[itb]
 all_goals try simp only[itf,gS,kk]
 all_goals repeat' first|refine exI fun _=>?_|refine anJ fun _ _=>?_|refine anI fun _=>?_|refine orE2 ?_ ?_|exact False.elim
 all_goals (intro h;first|refine runM Zbqf rfl ?_|refine run Zbqg rfl ?_|refine run Zbqh rfl ?_|rw[Zf Zpr.eq_1]|refine runM Zbc2 rfl ?_|refine runM Zbc3 rfl ?_)
 all_goals (refine Yb ?_ h;clear h;simp +decide[*,kk,tI,tII,Z9q,Z9r,Z9s,Zz8,Zps,Zz9,Z0a])
abbrev Zbue:=Znq.1
abbrev Zbuf:=Znq.2.1
abbrev Zbug:=Znq.2.2.1
abbrev Zbd2:=Znq.2.2.2.1
abbrev Zbuh:=Znq.2.2.2.2.1
abbrev Zbd3:=Znq.2.2.2.2.2
theorem Zeq:(∀⦃a b x x1 c x2 y x3 x4 r⦄,Im (Zjn a b x x1 c x2 y x3 x4=some r) (if x4<x3 then(0≤x4∧(∃e1,x[x4.toNat]?=some e1∧(∃v1,Zc2 a.Vars e1=some (I v1,[])∧(∃v5,Zc2 b.Vars e1=some (I v5,[])∧(if v1<0 then(0≤v5∧(∃e4,y[v5.toNat]?=some e4∧(c.length+1≤68719476736∧(Zjn a b x x1 (c++[e4]) x2 y x3 (w (x4+1))=some r))))else(if 0≤v5 then(0≤v1∧(∃e5,x2[v1.toNat]?=some e5∧(∃e6,y[v5.toNat]?=some e6∧(if e5=e6 then(c.length+1≤68719476736∧(Zjn a b x x1 (c++[e5]) x2 y x3 (w (x4+1))=some r))else(some (.tup [],[.box [L 1 (a.Vars.map ic),L 1 (a.Rows.map isc),L 1 (b.Vars.map ic),L 1 (b.Rows.map isc),.own 1,.own 2],.arr 3 1 true (x.map ic),.arr 30 1 true (x1.map isc)])=some r)))))else(0≤v1∧(∃e7,x2[v1.toNat]?=some e7∧(c.length+1≤68719476736∧(Zjn a b x x1 (c++[e7]) x2 y x3 (w (x4+1))=some r))))))))))else(x1.length+1≤68719476736∧(some (.tup [],[.box [L 1 (a.Vars.map ic),L 1 (a.Rows.map isc),L 1 (b.Vars.map ic),L 1 (b.Rows.map isc),.own 1,.own 3],.arr 3 1 true (x.map ic),.dead,.arr 30 1 true ((x1++[c]).map isc)])=some r)))) ∧
 (∀⦃a b x x1 a1 a2 r⦄,Im (Zhw a b x x1 a1 a2=some r) (Zjn a b x x1 ([]:List Int) a1 a2 (x.length:Int) 0=some r)) ∧
 (∀⦃a b x x1 r⦄,Im (Zfe a b x x1=some r) (if 4096<(x1.length:Int)then(some (.tup [.agg [.t .nil,.t .nil],Bo false],[.box [L 1 (a.Vars.map ic),L 1 (a.Rows.map isc),L 1 (b.Vars.map ic),L 1 (b.Rows.map isc),.own 1,.own 2],.arr 3 1 true (x.map ic),.arr 30 1 true (x1.map isc)])=some r)else(some (.tup [.agg [.own 1,.own 2],Bo true],[.box [L 1 (a.Vars.map ic),L 1 (a.Rows.map isc),L 1 (b.Vars.map ic),L 1 (b.Rows.map isc),.own 1,.own 2],.arr 3 1 true (x.map ic),.arr 30 1 true (x1.map isc)])=some r))) ∧
 (∀⦃a a1 b x x1 x2 x3 r⦄,Im (Zpt a a1 b x x1 x2 x3=some r) (if x3<x2 then(0≤x3∧(∃e1,x1[x3.toNat]?=some e1∧(Zpu a a1 b x e1 x1 x2 x3 a.Rows (a.Rows.length:Int) 0=some r)))else(Zl7 a1 b x=some (.tup [.agg [.own 1,.t .nil],Bo true],[.box [L 1 (a1.Vars.map ic),L 1 (a1.Rows.map isc),L 1 (b.Vars.map ic),L 1 (b.Rows.map isc),.own 1,.t .nil],.arr 3 1 true (x.map ic)])∧(some (.tup [.agg [.own 0,.t .nil],Bo true],[.arr 3 1 true (x.map ic)])=some r)))) ∧
 (∀⦃a a1 b x y x1 x2 x3 x4 x5 x6 r⦄,Im (Zpu a a1 b x y x1 x2 x3 x4 x5 x6=some r) (if x6<x5 then(0≤x6∧(∃e1,x4[x6.toNat]?=some e1∧((∃(v1:Za) (v2:Za) (v3:List Int),Zgy a1 b x e1 y=some (.tup [],[.box [L 1 (v1.Vars.map ic),L 1 (v1.Rows.map isc),L 1 (v2.Vars.map ic),L 1 (v2.Rows.map isc),.own 1,.t .nil],.arr 3 1 true (v3.map ic)])∧(Zpu a v1 v2 v3 y x1 x2 x3 x4 x5 (w (x6+1))=some r))∨(∃(v5:Za) (v6:Za) (v7:List Int) (v8:List (List Int)),Zgy a1 b x e1 y=some (.tup [],[.box [L 1 (v5.Vars.map ic),L 1 (v5.Rows.map isc),L 1 (v6.Vars.map ic),L 1 (v6.Rows.map isc),.own 1,.own 2],.arr 3 1 true (v7.map ic),.arr 30 1 true (v8.map isc)])∧(Zjp a v5 v6 v7 v8 y x1 x2 x3 x4 x5 (w (x6+1))=some r)))))else(Zpt a a1 b x x1 x2 (w (x3+1))=some r))) ∧
 (∀⦃a a1 b x x1 y x2 x3 x4 x5 x6 x7 r⦄,Im (Zjp a a1 b x x1 y x2 x3 x4 x5 x6 x7=some r) (if x7<x6 then(0≤x7∧(∃e1,x5[x7.toNat]?=some e1∧((∃(v1:Za) (v2:Za) (v3:List Int) (v4:List (List Int)),Zhw a1 b x x1 e1 y=some (.tup [],[.box [L 1 (v1.Vars.map ic),L 1 (v1.Rows.map isc),L 1 (v2.Vars.map ic),L 1 (v2.Rows.map isc),.own 1,.own 2],.arr 3 1 true (v3.map ic),.arr 30 1 true (v4.map isc)])∧(Zjp a v1 v2 v3 v4 y x2 x3 x4 x5 x6 (w (x7+1))=some r))∨(∃(v5:Za) (v6:Za) (v7:List Int) (v8:List (List Int)),Zhw a1 b x x1 e1 y=some (.tup [],[.box [L 1 (v5.Vars.map ic),L 1 (v5.Rows.map isc),L 1 (v6.Vars.map ic),L 1 (v6.Rows.map isc),.own 1,.own 3],.arr 3 1 true (v7.map ic),.dead,.arr 30 1 true (v8.map isc)])∧(Zjp a v5 v6 v7 v8 y x2 x3 x4 x5 x6 (w (x7+1))=some r)))))else(if 4096<(x1.length:Int)then((Zfe a1 b x x1=some (.tup [.agg [.t .nil,.t .nil],Bo false],[.box [L 1 (a1.Vars.map ic),L 1 (a1.Rows.map isc),L 1 (b.Vars.map ic),L 1 (b.Rows.map isc),.own 1,.own 2],.arr 3 1 true (x.map ic),.arr 30 1 true (x1.map isc)])∧(some (.tup [.agg [.t .nil,.t .nil],Bo false],[])=some r))∨(Zfe a1 b x x1=some (.tup [.agg [.own 1,.own 2],Bo true],[.box [L 1 (a1.Vars.map ic),L 1 (a1.Rows.map isc),L 1 (b.Vars.map ic),L 1 (b.Rows.map isc),.own 1,.own 2],.arr 3 1 true (x.map ic),.arr 30 1 true (x1.map isc)])∧(some (.tup [.agg [.own 0,.own 1],Bo true],[.arr 3 1 true (x.map ic),.arr 30 1 true (x1.map isc)])=some r)))else(Zpv a a1 b x x1 x2 x3 (w (x4+1))=some r)))) ∧
 (∀⦃a a1 b x x1 x2 x3 x4 r⦄,Im (Zpv a a1 b x x1 x2 x3 x4=some r) (if x4<x3 then(0≤x4∧(∃e1,x2[x4.toNat]?=some e1∧(Zjp a a1 b x x1 e1 x2 x3 x4 a.Rows (a.Rows.length:Int) 0=some r)))else((Zfe a1 b x x1=some (.tup [.agg [.t .nil,.t .nil],Bo false],[.box [L 1 (a1.Vars.map ic),L 1 (a1.Rows.map isc),L 1 (b.Vars.map ic),L 1 (b.Rows.map isc),.own 1,.own 2],.arr 3 1 true (x.map ic),.arr 30 1 true (x1.map isc)])∧(some (.tup [.agg [.t .nil,.t .nil],Bo false],[])=some r))∨(Zfe a1 b x x1=some (.tup [.agg [.own 1,.own 2],Bo true],[.box [L 1 (a1.Vars.map ic),L 1 (a1.Rows.map isc),L 1 (b.Vars.map ic),L 1 (b.Rows.map isc),.own 1,.own 2],.arr 3 1 true (x.map ic),.arr 30 1 true (x1.map isc)])∧(some (.tup [.agg [.own 0,.own 1],Bo true],[.arr 3 1 true (x.map ic),.arr 30 1 true (x1.map isc)])=some r))))) ∧
 (∀⦃a a1 r⦄,Im (Zjo a a1=some r) (∃v,Zdo a=some (Bo v,[])∧(if v=true then(∃v1,Zdo a1=some (Bo v1,[])∧(if v1=true then(∃(v5:Za) (v6:Za) (v7:List Int),Zjl a a1=some (.ptr 0 0,[.box [L 1 (v5.Vars.map ic),L 1 (v5.Rows.map isc),L 1 (v6.Vars.map ic),L 1 (v6.Rows.map isc),.own 1,.t .nil],.arr 3 1 true (v7.map ic)])∧(Zpt a v5 v6 v7 a1.Rows (a1.Rows.length:Int) 0=some r))else(some (.tup [.agg [.t .nil,.t .nil],Bo false],[])=some r)))else(some (.tup [.agg [.t .nil,.t .nil],Bo false],[])=some r)))) ∧
 (∀⦃a a1 a2 r⦄,Im (Z0b a a1 a2=some r) (0≤a2∧(∃e1,a[a2.toNat]?=some e1∧(∃e2,a1[a2.toNat]?=some e2∧(some (I (w (e1-e2)),[])=some r))))) ∧
 (∀⦃x cc i r⦄,Im (Zpw x cc i=some r) (if 0<i then(0≤i∧(∃e1,x[i.toNat]?=some e1∧(0≤(w (i-1))∧(∃e2,x[(w (i-1)).toNat]?=some e2∧(∃v5,Z0b e1 e2 cc=some (I v5,[])∧(if v5<0 then(some (Bo false,[])=some r)else(Zpw x cc (w (i-1))=some r)))))))else(some (Bo true,[])=some r))) ∧
 (∀a a1 r,Im (Z0e a a1=some r) (Zpw a a1 (w ((a.length:Int)-1))=some r)) ∧
 (∀⦃a a1 r⦄,Im (Zma a a1=some r) (∃v,Zc2 a.Vars a1=some (I v,[])∧(if v<0 then(some (Bo false,[])=some r)else(∃v1,Zdo a=some (Bo v1,[])∧(if v1=true then(∃v5,Z0e a.Rows v=some (Bo v5,[])∧(some (Bo v5,[])=some r))else(some (Bo false,[])=some r)))))):=by
 and_intros
 all_goals intros
 all_goals unfold Im
 all_goals try simp only[Zjn,Zhw,Zfe,Zpt,Zpu,Zjp,Zpv,Zjo,Z0b,Zpw,Z0e,Zma,Zc2,Zl7,Za.c_def,Zgy,Zdo,Zjl,mpl,dfs]
 all_goals try simp only[itb]
 all_goals try simp only[itf,gS,kk]
 all_goals repeat' first|refine exI fun _=>?_|refine anJ fun _ _=>?_|refine anI fun _=>?_|refine orE2 ?_ ?_|exact False.elim
 all_goals (intro h;first|rw[Zf Zpr.eq_1]|refine runM Zbc2 rfl ?_|refine runM Zbc3 rfl ?_|rw[Zf Zl8.eq_1]|rw[Zf Zt6.eq_1]|refine run Zbqi rfl ?_|refine run Zbqj rfl ?_|rw[Zf Z0c.eq_1]|refine run Zbqk rfl ?_|refine run Zbql rfl ?_)
 all_goals (refine Yb ?_ h;clear h;simp +decide[*,kk,tI,tII,Zz8,Zps,Zz9,Z0a,Zl9,Zt8,Zt7,Z9t,Z9u,Z0d,Z9v,Z9w])
abbrev Zbd4:=Zeq.1
abbrev Zbui:=Zeq.2.1
abbrev Zbd5:=Zeq.2.2.1
abbrev Zbd6:=Zeq.2.2.2.1
abbrev Zbd7:=Zeq.2.2.2.2.1
abbrev Zbd8:=Zeq.2.2.2.2.2.1
abbrev Zbd9:=Zeq.2.2.2.2.2.2.1
abbrev Zbuj:=Zeq.2.2.2.2.2.2.2.1
abbrev Zbuk:=Zeq.2.2.2.2.2.2.2.2.1
abbrev Z3k:=Zeq.2.2.2.2.2.2.2.2.2.1
abbrev Zbul:=Zeq.2.2.2.2.2.2.2.2.2.2.1
abbrev Zbum:=Zeq.2.2.2.2.2.2.2.2.2.2.2
theorem Znr:(∀⦃b a b1 x x1 x2 x3 r⦄,Im (Zpx b a b1 x x1 x2 x3=some r) (if x3<x2 then(0≤x3∧(∃e1,x1[x3.toNat]?=some e1∧(Zpy b a b1 x e1 x1 x2 x3 b.Rows (b.Rows.length:Int) 0=some r)))else(Zl7 a b1 x=some (.tup [.agg [.own 1,.t .nil],Bo true],[.box [L 1 (a.Vars.map ic),L 1 (a.Rows.map isc),L 1 (b1.Vars.map ic),L 1 (b1.Rows.map isc),.own 1,.t .nil],.arr 3 1 true (x.map ic)])∧(some (.tup [.agg [.own 0,.t .nil],Bo true],[.arr 3 1 true (x.map ic)])=some r)))) ∧
 (∀⦃b a b1 x x1 x2 x3 x4 x5 x6 x7 r⦄,Im (Zpy b a b1 x x1 x2 x3 x4 x5 x6 x7=some r) (if x7<x6 then(0≤x7∧(∃e1,x5[x7.toNat]?=some e1∧((∃(v1:Za) (v2:Za) (v3:List Int),Zgy a b1 x x1 e1=some (.tup [],[.box [L 1 (v1.Vars.map ic),L 1 (v1.Rows.map isc),L 1 (v2.Vars.map ic),L 1 (v2.Rows.map isc),.own 1,.t .nil],.arr 3 1 true (v3.map ic)])∧(Zpy b v1 v2 v3 x1 x2 x3 x4 x5 x6 (w (x7+1))=some r))∨(∃(v5:Za) (v6:Za) (v7:List Int) (v8:List (List Int)),Zgy a b1 x x1 e1=some (.tup [],[.box [L 1 (v5.Vars.map ic),L 1 (v5.Rows.map isc),L 1 (v6.Vars.map ic),L 1 (v6.Rows.map isc),.own 1,.own 2],.arr 3 1 true (v7.map ic),.arr 30 1 true (v8.map isc)])∧(Zjq b v5 v6 v7 v8 x1 x2 x3 x4 x5 x6 (w (x7+1))=some r)))))else(Zpx b a b1 x x2 x3 (w (x4+1))=some r))) ∧
 (∀⦃b a b1 x x1 x2 x3 x4 x5 x6 x7 x8 r⦄,Im (Zjq b a b1 x x1 x2 x3 x4 x5 x6 x7 x8=some r) (if x8<x7 then(0≤x8∧(∃e1,x6[x8.toNat]?=some e1∧((∃(v1:Za) (v2:Za) (v3:List Int) (v4:List (List Int)),Zhw a b1 x x1 x2 e1=some (.tup [],[.box [L 1 (v1.Vars.map ic),L 1 (v1.Rows.map isc),L 1 (v2.Vars.map ic),L 1 (v2.Rows.map isc),.own 1,.own 2],.arr 3 1 true (v3.map ic),.arr 30 1 true (v4.map isc)])∧(Zjq b v1 v2 v3 v4 x2 x3 x4 x5 x6 x7 (w (x8+1))=some r))∨(∃(v5:Za) (v6:Za) (v7:List Int) (v8:List (List Int)),Zhw a b1 x x1 x2 e1=some (.tup [],[.box [L 1 (v5.Vars.map ic),L 1 (v5.Rows.map isc),L 1 (v6.Vars.map ic),L 1 (v6.Rows.map isc),.own 1,.own 3],.arr 3 1 true (v7.map ic),.dead,.arr 30 1 true (v8.map isc)])∧(Zjq b v5 v6 v7 v8 x2 x3 x4 x5 x6 x7 (w (x8+1))=some r)))))else(if 4096<(x1.length:Int)then((Zfe a b1 x x1=some (.tup [.agg [.t .nil,.t .nil],Bo false],[.box [L 1 (a.Vars.map ic),L 1 (a.Rows.map isc),L 1 (b1.Vars.map ic),L 1 (b1.Rows.map isc),.own 1,.own 2],.arr 3 1 true (x.map ic),.arr 30 1 true (x1.map isc)])∧(some (.tup [.agg [.t .nil,.t .nil],Bo false],[])=some r))∨(Zfe a b1 x x1=some (.tup [.agg [.own 1,.own 2],Bo true],[.box [L 1 (a.Vars.map ic),L 1 (a.Rows.map isc),L 1 (b1.Vars.map ic),L 1 (b1.Rows.map isc),.own 1,.own 2],.arr 3 1 true (x.map ic),.arr 30 1 true (x1.map isc)])∧(some (.tup [.agg [.own 0,.own 1],Bo true],[.arr 3 1 true (x.map ic),.arr 30 1 true (x1.map isc)])=some r)))else(Zpz b a b1 x x1 x3 x4 (w (x5+1))=some r)))) ∧
 (∀⦃b a b1 x x1 x2 x3 x4 r⦄,Im (Zpz b a b1 x x1 x2 x3 x4=some r) (if x4<x3 then(0≤x4∧(∃e1,x2[x4.toNat]?=some e1∧(Zjq b a b1 x x1 e1 x2 x3 x4 b.Rows (b.Rows.length:Int) 0=some r)))else((Zfe a b1 x x1=some (.tup [.agg [.t .nil,.t .nil],Bo false],[.box [L 1 (a.Vars.map ic),L 1 (a.Rows.map isc),L 1 (b1.Vars.map ic),L 1 (b1.Rows.map isc),.own 1,.own 2],.arr 3 1 true (x.map ic),.arr 30 1 true (x1.map isc)])∧(some (.tup [.agg [.t .nil,.t .nil],Bo false],[])=some r))∨(Zfe a b1 x x1=some (.tup [.agg [.own 1,.own 2],Bo true],[.box [L 1 (a.Vars.map ic),L 1 (a.Rows.map isc),L 1 (b1.Vars.map ic),L 1 (b1.Rows.map isc),.own 1,.own 2],.arr 3 1 true (x.map ic),.arr 30 1 true (x1.map isc)])∧(some (.tup [.agg [.own 0,.own 1],Bo true],[.arr 3 1 true (x.map ic),.arr 30 1 true (x1.map isc)])=some r))))) ∧
 (∀⦃a a1 r⦄,Im (Zf3 a a1=some r) (∃v,Zdo a=some (Bo v,[])∧(if v=true then(∃v1,Zdo a1=some (Bo v1,[])∧(if v1=true then(∃(v5:Za) (v6:Za) (v7:List Int),Zjl a a1=some (.ptr 0 0,[.box [L 1 (v5.Vars.map ic),L 1 (v5.Rows.map isc),L 1 (v6.Vars.map ic),L 1 (v6.Rows.map isc),.own 1,.t .nil],.arr 3 1 true (v7.map ic)])∧(Zpx a1 v5 v6 v7 a.Rows (a.Rows.length:Int) 0=some r))else(some (.tup [.agg [.t .nil,.t .nil],Bo false],[])=some r)))else(some (.tup [.agg [.t .nil,.t .nil],Bo false],[])=some r)))) ∧
 (∀⦃a a1 a2 r⦄,Im (Zjr a a1 a2=some r) (∃v,Zma a a2=some (Bo v,[])∧(if v=true then(∃v1,Zma a1 a2=some (Bo v1,[])∧(if v1=true then((Zf3 a a1=some (.tup [.agg [.t .nil,.t .nil],Bo false],[])∧(some (.tup [.agg [.t .nil,.t .nil],Bo false],[])=some r))∨(∃(v9:List Int),Zf3 a a1=some (.tup [.agg [.own 0,.t .nil],Bo true],[.arr 3 1 true (v9.map ic)])∧(some (.tup [.agg [.own 0,.t .nil],Bo true],[.arr 3 1 true (v9.map ic)])=some r))∨(∃(v10:List Int) (v11:List (List Int)),Zf3 a a1=some (.tup [.agg [.own 0,.own 1],Bo true],[.arr 3 1 true (v10.map ic),.arr 30 1 true (v11.map isc)])∧(some (.tup [.agg [.own 0,.own 1],Bo true],[.arr 3 1 true (v10.map ic),.arr 30 1 true (v11.map isc)])=some r)))else(some (.tup [.agg [.t .nil,.t .nil],Bo false],[])=some r)))else(some (.tup [.agg [.t .nil,.t .nil],Bo false],[])=some r)))):=by
 and_intros
 all_goals intros
 all_goals unfold Im
 all_goals try simp only[Zpx,Zpy,Zjq,Zpz,Zf3,Zjr,Zl7,Za.c_def,Zgy,Zhw,Zfe,Zdo,Zjl,Zma,mpl,dfs]
 all_goals try simp only[itb]
 all_goals try simp only[itf,gS,kk]
 all_goals repeat' first|refine exI fun _=>?_|refine anJ fun _ _=>?_|refine anI fun _=>?_|refine orE2 ?_ ?_|exact False.elim
 all_goals (intro h;first|rw[Zf Zmb.eq_1]|rw[Zf Zt9.eq_1]|refine run Zbqm rfl ?_|refine run Zbqn rfl ?_)
 all_goals (refine Yb ?_ h;clear h;simp +decide[*,kk,tI,tII,Zmc,Zub,Zua,Z9x,Z9y])
abbrev Zbea:=Znr.1
abbrev Zbeb:=Znr.2.1
abbrev Zbec:=Znr.2.2.1
abbrev Zbed:=Znr.2.2.2.1
abbrev Zbun:=Znr.2.2.2.2.1
abbrev Zbuo:=Znr.2.2.2.2.2
theorem Zer:(∀⦃db q cd fr cc x x1 x2 r⦄,Im (Zdp db q cd fr cc x x1 x2=some r) (if x2<x1 then(0≤x2∧(∃e1,x[x2.toNat]?=some e1∧(if e1.Kind=1 then((Zjc db q e1.Atom=some (.tup [.agg [.t .nil,.t .nil],Bo false],[])∧(some (.tup [.t .nil,.t .nil,Bo false],[])=some r))∨(∃(v2:List Int),Zjc db q e1.Atom=some (.tup [.agg [.own 0,.t .nil],Bo true],[.arr 3 1 true (v2.map ic)])∧(cc.length+1≤68719476736∧(Zdp db q cd fr (cc++[(⟨v2,[]⟩:Za)]) x x1 (w (x2+1))=some r)))∨(∃(v3:List Int) (v4:List (List Int)),Zjc db q e1.Atom=some (.tup [.agg [.own 0,.own 1],Bo true],[.arr 3 1 true (v3.map ic),.arr 30 1 true (v4.map isc)])∧(cc.length+1≤68719476736∧(Zdp db q cd fr (cc++[(⟨v3,v4⟩:Za)]) x x1 (w (x2+1))=some r))))else(if e1.Kind=2 then(∃e5,cd[x2.toNat]?=some e5∧(0≤e5.Left∧(∃e6,cc[e5.Left.toNat]?=some e6∧((Zl6 e6 e1.Order=some (.tup [.agg [.t .nil,.t .nil],Bo false],[])∧(some (.tup [.t .nil,.t .nil,Bo false],[])=some r))∨(∃(v5:List Int),∃v6,∃(v7:List (List Int)),Zl6 e6 e1.Order=some (.tup [.agg [.own 0,.own 1],Bo true],[.arr 3 1 true (v5.map ic),.arr 30 1 v6 (v7.map isc)])∧(cc.length+1≤68719476736∧(Zdp db q cd (fr && v6) (cc++[(⟨v5,v7⟩:Za)]) x x1 (w (x2+1))=some r)))))))else(if e1.Kind=3 then(∃e9,cd[x2.toNat]?=some e9∧(0≤e9.Left∧(∃e10,cc[e9.Left.toNat]?=some e10∧(0≤e9.Right∧(∃e11,cc[e9.Right.toNat]?=some e11∧((Zjo e10 e11=some (.tup [.agg [.t .nil,.t .nil],Bo false],[])∧(some (.tup [.t .nil,.t .nil,Bo false],[])=some r))∨(∃(v8:List Int),Zjo e10 e11=some (.tup [.agg [.own 0,.t .nil],Bo true],[.arr 3 1 true (v8.map ic)])∧(cc.length+1≤68719476736∧(Zdp db q cd fr (cc++[(⟨v8,[]⟩:Za)]) x x1 (w (x2+1))=some r)))∨(∃(v9:List Int) (v10:List (List Int)),Zjo e10 e11=some (.tup [.agg [.own 0,.own 1],Bo true],[.arr 3 1 true (v9.map ic),.arr 30 1 true (v10.map isc)])∧(cc.length+1≤68719476736∧(Zdp db q cd fr (cc++[(⟨v9,v10⟩:Za)]) x x1 (w (x2+1))=some r)))))))))else(if e1.Kind=4 then(∃e15,cd[x2.toNat]?=some e15∧(0≤e15.Left∧(∃e16,cc[e15.Left.toNat]?=some e16∧(0≤e15.Right∧(∃e17,cc[e15.Right.toNat]?=some e17∧((Zjr e16 e17 e1.Order=some (.tup [.agg [.t .nil,.t .nil],Bo false],[])∧(some (.tup [.t .nil,.t .nil,Bo false],[])=some r))∨(∃(v11:List Int),Zjr e16 e17 e1.Order=some (.tup [.agg [.own 0,.t .nil],Bo true],[.arr 3 1 true (v11.map ic)])∧(cc.length+1≤68719476736∧(Zdp db q cd fr (cc++[(⟨v11,[]⟩:Za)]) x x1 (w (x2+1))=some r)))∨(∃(v12:List Int) (v13:List (List Int)),Zjr e16 e17 e1.Order=some (.tup [.agg [.own 0,.own 1],Bo true],[.arr 3 1 true (v12.map ic),.arr 30 1 true (v13.map isc)])∧(cc.length+1≤68719476736∧(Zdp db q cd fr (cc++[(⟨v12,v13⟩:Za)]) x x1 (w (x2+1))=some r)))))))))else(∃e21,cd[x2.toNat]?=some e21∧(0≤e21.Left∧(∃e22,cc[e21.Left.toNat]?=some e22∧(0≤e21.Right∧(∃e23,cc[e21.Right.toNat]?=some e23∧((Zf3 e22 e23=some (.tup [.agg [.t .nil,.t .nil],Bo false],[])∧(some (.tup [.t .nil,.t .nil,Bo false],[])=some r))∨(∃(v14:List Int),Zf3 e22 e23=some (.tup [.agg [.own 0,.t .nil],Bo true],[.arr 3 1 true (v14.map ic)])∧(cc.length+1≤68719476736∧(Zdp db q cd fr (cc++[(⟨v14,[]⟩:Za)]) x x1 (w (x2+1))=some r)))∨(∃(v15:List Int) (v16:List (List Int)),Zf3 e22 e23=some (.tup [.agg [.own 0,.own 1],Bo true],[.arr 3 1 true (v15.map ic),.arr 30 1 true (v16.map isc)])∧(cc.length+1≤68719476736∧(Zdp db q cd fr (cc++[(⟨v15,v16⟩:Za)]) x x1 (w (x2+1))=some r)))))))))))))))else(some (.tup [.own 0,.own 1,Bo true],[.arr 209 4 true (cd.map Zb.c),.arr 199 2 fr (cc.map Za.c)])=some r))) ∧
 (∀⦃a a1 a2 r⦄,Im (Zjs a a1 a2=some r) ((Zct a1 a2=some (.tup [.t .nil,Bo false],[])∧(some (.tup [.t .nil,.t .nil,Bo false],[])=some r))∨(∃(v1:List Zb),Zct a1 a2=some (.tup [.own 0,Bo true],[.arr 209 4 true (v1.map Zb.c)])∧(∃v2,Zhs a a1=some (Bo v2,[])∧(if v2=true then(Zdp a a1 v1 true ([]:List Za) a2.Steps (a2.Steps.length:Int) 0=some r)else(some (.tup [.t .nil,.t .nil,Bo false],[])=some r)))))) ∧
 (∀⦃x r⦄,Im (Zei x=some r) (some (.bsl 1 5,[.box (x.c.map .t),.box [.ptr 0 0,.ptr 0 6,.ptr 0 12,.ptr 0 18,.ptr 0 24]])=some r)) ∧
 (∀⦃x r⦄,Im (Zuc x=some r) (some (.bsl 1 5,[.box (x.c.map .t),.box [.ptr 0 0,.ptr 0 1,.ptr 0 2,.ptr 0 3,.ptr 0 4]])=some r)) ∧
 (∀⦃o x x1 x2 r⦄,Im (Zhx o x x1 x2=some r) (if x2<x1 then(0≤x2∧(∃e1,x[x2.toNat]?=some e1∧(∃v1,Zz e1.Add (-99) 99=some (Bo v1,[])∧(if v1=true then(∃v2,Zz e1.From 1 8192=some (Bo v2,[])∧(if v2=true then(if 0<x2 then(0≤(w (x2-1))∧(∃e4,o.Steps[(w (x2-1)).toNat]?=some e4∧(if e1.From≤e4.From then(some (Bo false,[])=some r)else(Zhx o x x1 (w (x2+1))=some r))))else(Zhx o x x1 (w (x2+1))=some r))else(some (Bo false,[])=some r)))else(some (Bo false,[])=some r)))))else(some (Bo (decide ((o.Steps.length:Int)≤4)),[])=some r))) ∧
 (∀⦃a r⦄,Im (Zb9 a=some r) (Zuc a=some (.bsl 1 5,[.box (a.c.map .t),.box [.ptr 0 0,.ptr 0 1,.ptr 0 2,.ptr 0 3,.ptr 0 4]])∧(Zdq a 5 0=some r))) ∧
 (∀⦃cc a r⦄,Im (Zmd cc a=some r) (if a≤7 then(Zjt cc a 0=some r)else(some (.own 0,[.arr 30 1 true (cc.map isc)])=some r))) ∧
 (∀⦃cc a b r⦄,Im (Zjt cc a b=some r) (if b≤7 then(Zme cc a b 0=some r)else(Zmd cc (w (a+1))=some r))) ∧
 (∀⦃cc a b c r⦄,Im (Zme cc a b c=some r) (if c≤7 then(cc.length+1≤68719476736∧(Zme (cc++[[a,b,c]]) a b (w (c+1))=some r))else(Zjt cc a (w (b+1))=some r))) ∧
 (∀⦃r⦄,Im (Zdg=some r) (Zmd ([]:List (List Int)) 0=some r)) ∧
 (∀⦃a r⦄,Im (Zej a=some r) (∃v,Zz a 0 7=some (Bo v,[])∧(if v=true then(if a=0 then(some (I 0,[])=some r)else(¬(w (2*(w (a-1))))<0∧(some (I (shlI 1 (w (2*(w (a-1))))),[])=some r)))else(some (I (-1),[])=some r)))) ∧
 (∀⦃cn cl n x x1 x2 r⦄,Im (Zju cn cl n x x1 x2=some r) (if x2<x1 then(0≤x2∧(∃e1,x[x2.toNat]?=some e1∧(if e1.From≤(w (cn+cl))then(Zju cn cl (w (n+e1.Add)) x x1 (w (x2+1))=some r)else(Zju cn cl n x x1 (w (x2+1))=some r))))else(some (I n,[])=some r))):=by
 and_intros
 all_goals intros
 all_goals unfold Im
 all_goals try simp only[Zdp,Zjs,Zei,Zuc,Zhx,Zb9,Zmd,Zjt,Zme,Zdg,Zej,Zju,Zjc,Zl6,Zjo,Zjr,Zf3,Zl.c_def,Zd.c_def,Za.c_def,Zct,Zhs,Plan.c_def,Zz,Zm.c_def,Zdq,mpl,dfs]
 all_goals try simp only[itb]
 all_goals try simp only[itf,gS,kk]
 all_goals repeat' first|refine exI fun _=>?_|refine anJ fun _ _=>?_|refine anI fun _=>?_|refine orE2 ?_ ?_|exact False.elim
 all_goals (intro h;first|rw[Zf Z0f.eq_1]|refine run Zbqo rfl ?_|refine runM Zbqp rfl ?_|refine runM Zbqq rfl ?_|rw[Zf Z0i.eq_1]|refine run Zbqr rfl ?_|rw[Zf Zp0.eq_1]|rw[Zf Zud.eq_1]|rw[Zf Z0l.eq_1]|refine run Zbqs rfl ?_|refine run Zbqt rfl ?_|rw[Zf Z0n.eq_1])
 all_goals (refine Yb ?_ h;clear h;simp +decide[*,kk,tI,tII,Z9z,Z0g,Z90,Z91,Z92,Z0j,Z93,Zp1,Zue,Z0m,Z94,Z95,Z96,Z0o])
abbrev Zvg:=Zer.1
abbrev Z3l:=Zer.2.1
abbrev Zbee:=Zer.2.2.1
abbrev Zbup:=Zer.2.2.2.1
abbrev Zbef:=Zer.2.2.2.2.1
abbrev Zbuq:=Zer.2.2.2.2.2.1
abbrev Zbeg:=Zer.2.2.2.2.2.2.1
abbrev Zbeh:=Zer.2.2.2.2.2.2.2.1
abbrev Zbei:=Zer.2.2.2.2.2.2.2.2.1
abbrev Zbur:=Zer.2.2.2.2.2.2.2.2.2.1
abbrev Zbus:=Zer.2.2.2.2.2.2.2.2.2.2.1
abbrev Zbej:=Zer.2.2.2.2.2.2.2.2.2.2.2
theorem Zrm:(∀⦃a a1 a2 a3 r⦄,Im (Zhy a a1 a2 a3=some r) (Zju a1 a2 (w ((w ((w ((w (a.Fixed+(w (a.Z0*a1))))+(w (a.Z1*a2))))+(w (a.Z2*a3))))+(w ((w (a.Z3*a1))*a2)))) a.Steps (a.Steps.length:Int) 0=some r)) ∧
 (∀⦃a a1 r⦄,Im (Zff a a1=some r) (∃e1,a1[0]?=some e1∧(∃v1,Zej e1=some (I v1,[])∧(∃e3,a1[1]?=some e3∧(∃v2,Zej e3=some (I v2,[])∧(∃e5,a1[2]?=some e5∧(∃v4,Zej e5=some (I v4,[])∧(∃v5,Zhy a v1 v2 v4=some (I v5,[])∧(some (I v5,[])=some r))))))))) ∧
 (∀⦃o x x1 x2 r⦄,Im (Zhz o x x1 x2=some r) (if x2<x1 then(0≤x2∧(∃e1,x[x2.toNat]?=some e1∧(Zek o x e1 x1 x2 (e1.length:Int) 0=some r)))else(some (.tup [.t .nil,.t .nil,Bo false],[])=some r))) ∧
 (∀⦃o x t x1 x2 x3 x4 r⦄,Im (Zek o x t x1 x2 x3 x4=some r) (if x4<x3 then(0≤x4∧(∃e1,t[x4.toNat]?=some e1∧(if e1=7 then(Zek o x t x1 x2 x3 (w (x4+1))=some r)else(∃(v1:List Int),Zcu t=some (.own 0,[.arr 3 1 true (v1.map ic)])∧(∃e3,v1[x4.toNat]?=some e3∧(∃v2,Zff o (v1.set x4.toNat (w (e3+1)))=some (I v2,[])∧(∃v3,Zff o t=some (I v3,[])∧(if v2<v3 then(some (.tup [L 1 (t.map ic),.own 0,Bo true],[.arr 3 1 true ((v1.set x4.toNat (w (e3+1))).map ic)])=some r)else(Zek o x t x1 x2 x3 (w (x4+1))=some r)))))))))else(Zhz o x x1 (w (x2+1))=some r))) ∧
 (∀⦃a r⦄,Im (Zb0 a=some r) (∃v,Zb9 a=some (Bo v,[])∧(if v=true then(∃(v1:List (List Int)),Zdg=some (.own 0,[.arr 30 1 true (v1.map isc)])∧(Zhz a v1 (v1.length:Int) 0=some r))else(some (.tup [.t .nil,.t .nil,Bo false],[])=some r)))):=by
 and_intros
 all_goals intros
 all_goals unfold Im
 all_goals try simp only[Zhy,Zff,Zhz,Zek,Zb0,Zej,Zm.c_def,Zcu,Zb9,Zdg,Zju,mpl,dfs]
 all_goals try simp only[itb]
 all_goals try simp only[itf,gS,kk]
 all_goals repeat' first|refine exI fun _=>?_|refine anJ fun _ _=>?_|refine anI fun _=>?_|refine orE2 ?_ ?_|exact False.elim
 all_goals (intro h;first|refine run Zbqu rfl ?_|refine run Zbqv rfl ?_|rw[Zf Zuf.eq_1]|rw[Zf Z0p.eq_1]|refine run Zbqw rfl ?_)
 all_goals (refine Yb ?_ h;clear h;simp +decide[*,kk,tI,tII,Z97,Z98,Zug,Z99,Z0q,Zbaa])
abbrev Zbut:=Zrm.1
abbrev Zbuu:=Zrm.2.1
abbrev Zbek:=Zrm.2.2.1
abbrev Z3m:=Zrm.2.2.2.1
abbrev Zbuv:=Zrm.2.2.2.2
theorem Zns{o:Zm}{x x1:Int}{r:AV×List Blk}(h:(if x1<x then(if x1=0 then(∃(v:Bool),Zz o.Fixed (-99) 99=some (Bo v,[])∧(if v=true then(Zdq o x (w (x1+1))=some r)else(some (Bo false,[])=some r)))else(if x1=1 then(∃(v1:Bool),Zz o.Z0 (-99) 99=some (Bo v1,[])∧(if v1=true then(Zdq o x (w (x1+1))=some r)else(some (Bo false,[])=some r)))else(if x1=2 then(∃(v2:Bool),Zz o.Z1 (-99) 99=some (Bo v2,[])∧(if v2=true then(Zdq o x (w (x1+1))=some r)else(some (Bo false,[])=some r)))else(if x1=3 then(∃(v3:Bool),Zz o.Z2 (-99) 99=some (Bo v3,[])∧(if v3=true then(Zdq o x (w (x1+1))=some r)else(some (Bo false,[])=some r)))else(if x1=4 then(∃(v4:Bool),Zz o.Z3 (-99) 99=some (Bo v4,[])∧(if v4=true then(Zdq o x (w (x1+1))=some r)else(some (Bo false,[])=some r)))else False)))))else(Zhx o o.Steps (o.Steps.length:Int) 0=some r))):Zdq o x x1=some r:=by
 unfold Zdq;rw[Zf Z0h.eq_1];by_cases q1:x1<x
 ·rw[if_pos q1]at h;by_cases q2:x1=0
  ·rw[if_pos q2]at h;subst q2;obtain⟨v,q3,h⟩:=h;unfold Zz at q3
   try simp at q3
   by_cases q4:v=true
   ·rw[if_pos q4]at h;refine Yb ?_ h;clear h;simp +decide[*,tI,tII,Zdq]
   ·rw[if_neg q4]at h;refine Yb ?_ h;clear h;simp +decide[*,tI,tII]
  ·rw[if_neg q2]at h;replace q2:=eq_false q2;by_cases q5:x1=1
   ·rw[if_pos q5]at h;subst q5;obtain⟨v1,q6,h⟩:=h;unfold Zz at q6
    try simp at q6
    by_cases q7:v1=true
    ·rw[if_pos q7]at h;refine Yb ?_ h;clear h;simp +decide[*,tI,tII,Zdq]
    ·rw[if_neg q7]at h;refine Yb ?_ h;clear h;simp +decide[*,tI,tII]
   ·rw[if_neg q5]at h;replace q5:=eq_false q5;by_cases q8:x1=2
    ·rw[if_pos q8]at h;subst q8;obtain⟨v2,q9,h⟩:=h;unfold Zz at q9
     try simp at q9
     by_cases q10:v2=true
     ·rw[if_pos q10]at h;refine Yb ?_ h;clear h;simp +decide[*,tI,tII,Zdq]
     ·rw[if_neg q10]at h;refine Yb ?_ h;clear h;simp +decide[*,tI,tII]
    ·rw[if_neg q8]at h;replace q8:=eq_false q8;by_cases q11:x1=3
     ·rw[if_pos q11]at h;subst q11;obtain⟨v3,q12,h⟩:=h;unfold Zz at q12
      try simp at q12
      by_cases q13:v3=true
      ·rw[if_pos q13]at h;refine Yb ?_ h;clear h;simp +decide[*,tI,tII,Zdq]
      ·rw[if_neg q13]at h;refine Yb ?_ h;clear h;simp +decide[*,tI,tII]
     ·rw[if_neg q11]at h;replace q11:=eq_false q11;by_cases q14:x1=4
      ·rw[if_pos q14]at h;subst q14;obtain⟨v4,q15,h⟩:=h;unfold Zz at q15
       try simp at q15
       by_cases q16:v4=true
       ·rw[if_pos q16]at h;refine Yb ?_ h;clear h;simp +decide[*,tI,tII,Zdq]
       ·rw[if_neg q16]at h;refine Yb ?_ h;clear h;simp +decide[*,tI,tII]
      ·rw[if_neg q14]at h;replace q14:=eq_false q14;cases h
 ·rw[if_neg q1]at h;refine Yb ?_ h;clear h;simp +decide[*,tI,tII,Zhx,Z0k]
theorem Znt{x:Zk}{x1 x2:Int}{r:AV×List Blk}(h:(if x2<x1 then(if x2=0 then(∃(v:Bool),Zb9 x.Scan=some (Bo v,[])∧(if v=true then((Zb0 x.Scan=some (.tup [.t .nil,.t .nil,Bo false],[])∧(∃(v1:List (List Int)),Zdg=some (.own 0,[.arr 30 1 true (v1.map isc)])∧(Zh2 x v1 (w (1+x2)) x1 x2 (v1.length:Int) 0=some r)))∨(∃(v2:List Int) (v3:List Int),Zb0 x.Scan=some (.tup [L 1 (v3.map ic),.own 0,Bo true],[.arr 3 1 true (v2.map ic)])∧(some (.tup [I (w (1+x2)),L 1 (v3.map ic),.own 0],[.arr 3 1 true (v2.map ic)])=some r)))else(some (.tup [I (w (1+x2)),.t .nil,.t .nil],[])=some r)))else(if x2=1 then(∃(v4:Bool),Zb9 x.Sort_=some (Bo v4,[])∧(if v4=true then((Zb0 x.Sort_=some (.tup [.t .nil,.t .nil,Bo false],[])∧(∃(v5:List (List Int)),Zdg=some (.own 0,[.arr 30 1 true (v5.map isc)])∧(Zh3 x v5 (w (1+x2)) x1 x2 (v5.length:Int) 0=some r)))∨(∃(v6:List Int) (v7:List Int),Zb0 x.Sort_=some (.tup [L 1 (v7.map ic),.own 0,Bo true],[.arr 3 1 true (v6.map ic)])∧(some (.tup [I (w (1+x2)),L 1 (v7.map ic),.own 0],[.arr 3 1 true (v6.map ic)])=some r)))else(some (.tup [I (w (1+x2)),.t .nil,.t .nil],[])=some r)))else(if x2=2 then(∃(v8:Bool),Zb9 x.Hash=some (Bo v8,[])∧(if v8=true then((Zb0 x.Hash=some (.tup [.t .nil,.t .nil,Bo false],[])∧(∃(v9:List (List Int)),Zdg=some (.own 0,[.arr 30 1 true (v9.map isc)])∧(Zh4 x v9 (w (1+x2)) x1 x2 (v9.length:Int) 0=some r)))∨(∃(v10:List Int) (v11:List Int),Zb0 x.Hash=some (.tup [L 1 (v11.map ic),.own 0,Bo true],[.arr 3 1 true (v10.map ic)])∧(some (.tup [I (w (1+x2)),L 1 (v11.map ic),.own 0],[.arr 3 1 true (v10.map ic)])=some r)))else(some (.tup [I (w (1+x2)),.t .nil,.t .nil],[])=some r)))else(if x2=3 then(∃(v12:Bool),Zb9 x.Merge=some (Bo v12,[])∧(if v12=true then((Zb0 x.Merge=some (.tup [.t .nil,.t .nil,Bo false],[])∧(∃(v13:List (List Int)),Zdg=some (.own 0,[.arr 30 1 true (v13.map isc)])∧(Zh5 x v13 (w (1+x2)) x1 x2 (v13.length:Int) 0=some r)))∨(∃(v14:List Int) (v15:List Int),Zb0 x.Merge=some (.tup [L 1 (v15.map ic),.own 0,Bo true],[.arr 3 1 true (v14.map ic)])∧(some (.tup [I (w (1+x2)),L 1 (v15.map ic),.own 0],[.arr 3 1 true (v14.map ic)])=some r)))else(some (.tup [I (w (1+x2)),.t .nil,.t .nil],[])=some r)))else(if x2=4 then(∃(v16:Bool),Zb9 x.Nested=some (Bo v16,[])∧(if v16=true then((Zb0 x.Nested=some (.tup [.t .nil,.t .nil,Bo false],[])∧(∃(v17:List (List Int)),Zdg=some (.own 0,[.arr 30 1 true (v17.map isc)])∧(Zh6 x v17 (w (1+x2)) x1 x2 (v17.length:Int) 0=some r)))∨(∃(v18:List Int) (v19:List Int),Zb0 x.Nested=some (.tup [L 1 (v19.map ic),.own 0,Bo true],[.arr 3 1 true (v18.map ic)])∧(some (.tup [I (w (1+x2)),L 1 (v19.map ic),.own 0],[.arr 3 1 true (v18.map ic)])=some r)))else(some (.tup [I (w (1+x2)),.t .nil,.t .nil],[])=some r)))else False)))))else(some (.tup [I 0,.t .nil,.t .nil],[])=some r))):Zbn x x1 x2=some r:=by
 unfold Zbn;rw[Zf Zh0.eq_1];by_cases q1:x2<x1
 ·rw[if_pos q1]at h;by_cases q2:x2=0
  ·rw[if_pos q2]at h;subst q2;obtain⟨v,q3,h⟩:=h;unfold Zb9 at q3
   try simp at q3
   by_cases q4:v=true
   ·rw[if_pos q4]at h;rcases h with h|h
    ·obtain⟨q5,h⟩:=h;unfold Zb0 at q5
     try simp at q5
     obtain⟨v1,q6,h⟩:=h;unfold Zdg at q6
     try simp at q6
     refine Yb ?_ h;clear h;simp +decide[*,tI,tII,Zh2]
    ·obtain⟨v2,v3,q7,h⟩:=h;unfold Zb0 at q7
     try simp at q7
     refine Yb ?_ h;clear h;simp +decide[*,tI,tII]
   ·rw[if_neg q4]at h;refine Yb ?_ h;clear h;simp +decide[*,tI,tII]
  ·rw[if_neg q2]at h;replace q2:=eq_false q2;by_cases q8:x2=1
   ·rw[if_pos q8]at h;subst q8;obtain⟨v4,q9,h⟩:=h;unfold Zb9 at q9
    try simp at q9
    by_cases q10:v4=true
    ·rw[if_pos q10]at h;rcases h with h|h
     ·obtain⟨q11,h⟩:=h;unfold Zb0 at q11
      try simp at q11
      obtain⟨v5,q12,h⟩:=h;unfold Zdg at q12
      try simp at q12
      refine Yb ?_ h;clear h;simp +decide[*,tI,tII,Zh3]
     ·obtain⟨v6,v7,q13,h⟩:=h;unfold Zb0 at q13
      try simp at q13
      refine Yb ?_ h;clear h;simp +decide[*,tI,tII]
    ·rw[if_neg q10]at h;refine Yb ?_ h;clear h;simp +decide[*,tI,tII]
   ·rw[if_neg q8]at h;replace q8:=eq_false q8;by_cases q14:x2=2
    ·rw[if_pos q14]at h;subst q14;obtain⟨v8,q15,h⟩:=h;unfold Zb9 at q15
     try simp at q15
     by_cases q16:v8=true
     ·rw[if_pos q16]at h;rcases h with h|h
      ·obtain⟨q17,h⟩:=h;unfold Zb0 at q17
       try simp at q17
       obtain⟨v9,q18,h⟩:=h;unfold Zdg at q18
       try simp at q18
       refine Yb ?_ h;clear h;simp +decide[*,tI,tII,Zh4]
      ·obtain⟨v10,v11,q19,h⟩:=h;unfold Zb0 at q19
       try simp at q19
       refine Yb ?_ h;clear h;simp +decide[*,tI,tII]
     ·rw[if_neg q16]at h;refine Yb ?_ h;clear h;simp +decide[*,tI,tII]
    ·rw[if_neg q14]at h;replace q14:=eq_false q14;by_cases q20:x2=3
     ·rw[if_pos q20]at h;subst q20;obtain⟨v12,q21,h⟩:=h;unfold Zb9 at q21
      try simp at q21
      by_cases q22:v12=true
      ·rw[if_pos q22]at h;rcases h with h|h
       ·obtain⟨q23,h⟩:=h;unfold Zb0 at q23
        try simp at q23
        obtain⟨v13,q24,h⟩:=h;unfold Zdg at q24
        try simp at q24
        refine Yb ?_ h;clear h;simp +decide[*,tI,tII,Zh5]
       ·obtain⟨v14,v15,q25,h⟩:=h;unfold Zb0 at q25
        try simp at q25
        refine Yb ?_ h;clear h;simp +decide[*,tI,tII]
      ·rw[if_neg q22]at h;refine Yb ?_ h;clear h;simp +decide[*,tI,tII]
     ·rw[if_neg q20]at h;replace q20:=eq_false q20;by_cases q26:x2=4
      ·rw[if_pos q26]at h;subst q26;obtain⟨v16,q27,h⟩:=h;unfold Zb9 at q27
       try simp at q27
       by_cases q28:v16=true
       ·rw[if_pos q28]at h;rcases h with h|h
        ·obtain⟨q29,h⟩:=h;unfold Zb0 at q29
         try simp at q29
         obtain⟨v17,q30,h⟩:=h;unfold Zdg at q30
         try simp at q30
         refine Yb ?_ h;clear h;simp +decide[*,tI,tII,Zh6]
        ·obtain⟨v18,v19,q31,h⟩:=h;unfold Zb0 at q31
         try simp at q31
         refine Yb ?_ h;clear h;simp +decide[*,tI,tII]
       ·rw[if_neg q28]at h;refine Yb ?_ h;clear h;simp +decide[*,tI,tII]
      ·rw[if_neg q26]at h;replace q26:=eq_false q26;cases h
 ·rw[if_neg q1]at h;refine Yb ?_ h;clear h;simp +decide[*,tI,tII,Zh1]
theorem Zes:(∀⦃o x cc x1 x2 x3 x4 r⦄,Im (Zh2 o x cc x1 x2 x3 x4=some r) (if x4<x3 then(0≤x4∧(∃e1,x[x4.toNat]?=some e1∧(∃v3,Zff o.Scan e1=some (I v3,[])∧(if v3<1 then(some (.tup [I cc,L 1 (e1.map ic),.t .nil],[])=some r)else(Zh2 o x cc x1 x2 x3 (w (x4+1))=some r)))))else(Zbn o x1 (w (x2+1))=some r))) ∧
 (∀⦃o x cc x1 x2 x3 x4 r⦄,Im (Zh3 o x cc x1 x2 x3 x4=some r) (if x4<x3 then(0≤x4∧(∃e1,x[x4.toNat]?=some e1∧(∃v3,Zff o.Sort_ e1=some (I v3,[])∧(if v3<1 then(some (.tup [I cc,L 1 (e1.map ic),.t .nil],[])=some r)else(Zh3 o x cc x1 x2 x3 (w (x4+1))=some r)))))else(Zbn o x1 (w (x2+1))=some r))) ∧
 (∀⦃o x cc x1 x2 x3 x4 r⦄,Im (Zh4 o x cc x1 x2 x3 x4=some r) (if x4<x3 then(0≤x4∧(∃e1,x[x4.toNat]?=some e1∧(∃v3,Zff o.Hash e1=some (I v3,[])∧(if v3<1 then(some (.tup [I cc,L 1 (e1.map ic),.t .nil],[])=some r)else(Zh4 o x cc x1 x2 x3 (w (x4+1))=some r)))))else(Zbn o x1 (w (x2+1))=some r))) ∧
 (∀⦃o x cc x1 x2 x3 x4 r⦄,Im (Zh5 o x cc x1 x2 x3 x4=some r) (if x4<x3 then(0≤x4∧(∃e1,x[x4.toNat]?=some e1∧(∃v3,Zff o.Merge e1=some (I v3,[])∧(if v3<1 then(some (.tup [I cc,L 1 (e1.map ic),.t .nil],[])=some r)else(Zh5 o x cc x1 x2 x3 (w (x4+1))=some r)))))else(Zbn o x1 (w (x2+1))=some r))) ∧
 (∀⦃o x cc x1 x2 x3 x4 r⦄,Im (Zh6 o x cc x1 x2 x3 x4=some r) (if x4<x3 then(0≤x4∧(∃e1,x[x4.toNat]?=some e1∧(∃v3,Zff o.Nested e1=some (I v3,[])∧(if v3<1 then(some (.tup [I cc,L 1 (e1.map ic),.t .nil],[])=some r)else(Zh6 o x cc x1 x2 x3 (w (x4+1))=some r)))))else(Zbn o x1 (w (x2+1))=some r))) ∧
 (∀⦃a r⦄,Im (Zmf a=some r) (Zei a=some (.bsl 1 5,[.box (a.c.map .t),.box [.ptr 0 0,.ptr 0 6,.ptr 0 12,.ptr 0 18,.ptr 0 24]])∧(Zbn a 5 0=some r))) ∧
 (∀⦃a r⦄,Im (Zjx a=some r) ((∃(v:List Int),∃v1,∃(v2:List Int),Zmf a=some (.tup [I v1,L 1 (v2.map ic),.own 0],[.arr 3 1 true (v.map ic)])∧(some (Bo (decide (v1=0)),[])=some r))∨(∃v3,Zmf a=some (.tup [I v3,.t .nil,.t .nil],[])∧(some (Bo (decide (v3=0)),[])=some r))∨(∃v4,∃(v5:List Int),Zmf a=some (.tup [I v4,L 1 (v5.map ic),.t .nil],[])∧(some (Bo (decide (v4=0)),[])=some r)))) ∧
 (∀⦃n c r⦄,Im (Zp2 n c=some r) (∃v,Zej c=some (I v,[])∧(if n≤v then(some (I c,[])=some r)else(Zp2 n (w (c+1))=some r)))) ∧
 (∀⦃a r⦄,Im (Zh7 a=some r) (∃v,Zz a 0 4096=some (Bo v,[])∧(if v=true then(Zp2 a 0=some r)else(some (I (-1),[])=some r)))) ∧
 (∀⦃a r⦄,Im (Zjy a=some r) (∃v,Zh7 a=some (I v,[])∧(∃v3,Zej v=some (I v3,[])∧(some (I v3,[])=some r)))) ∧
 (∀⦃a a1 a2 r⦄,Im (Zgz a a1 a2=some r) (0≤a2∧(∃e1,a1[a2.toNat]?=some e1∧(∃v3,Zjy (e1.Rows.length:Int)=some (I v3,[])∧(∃e3,a[a2.toNat]?=some e3∧(if 0≤e3.Left then(∃e4,a1[e3.Left.toNat]?=some e4∧(∃v7,Zjy (e4.Rows.length:Int)=some (I v7,[])∧(if 0≤e3.Right then(∃e6,a1[e3.Right.toNat]?=some e6∧(∃v8,Zjy (e6.Rows.length:Int)=some (I v8,[])∧(some (.tup [I v7,I v8,I v3],[])=some r)))else(some (.tup [I v7,I 0,I v3],[])=some r))))else(if 0≤e3.Right then(∃e8,a1[e3.Right.toNat]?=some e8∧(∃v9,Zjy (e8.Rows.length:Int)=some (I v9,[])∧(some (.tup [I v3,I v9,I v3],[])=some r)))else(some (.tup [I v3,I 0,I v3],[])=some r)))))))) ∧
 (∀⦃a a1 a2 a3 r⦄,Im (Zd1 a a1 a2 a3=some r) (∃v,Zb9 a=some (Bo v,[])∧(if v=true then(∃v3,Zz a1 0 4096=some (Bo v3,[])∧(if v3=true then(∃v4,Zz a2 0 4096=some (Bo v4,[])∧(if v4=true then(∃v6,Zz a3 0 4096=some (Bo v6,[])∧(if v6=true then(∃v7,Zhy a a1 a2 a3=some (I v7,[])∧(some (I v7,[])=some r))else(some (I 0,[])=some r)))else(some (I 0,[])=some r)))else(some (I 0,[])=some r)))else(some (I 0,[])=some r)))):=by
 and_intros
 all_goals intros
 all_goals unfold Im
 all_goals try simp only[Zh2,Zh3,Zh4,Zh5,Zh6,Zmf,Zjx,Zp2,Zh7,Zjy,Zgz,Zd1,Zff,Zm.c_def,Zei,Zk.c_def,Zej,Zz,Zb9,Zhy,Zbn,mpl,dfs]
 all_goals try simp only[itb]
 all_goals try simp only[itf,gS,kk]
 all_goals repeat' first|refine exI fun _=>?_|refine anJ fun _ _=>?_|refine anI fun _=>?_|refine orE2 ?_ ?_|exact False.elim
 all_goals (intro h;first|rw[Zf Zjv.eq_1]|refine run Zbqx rfl ?_|refine run Zbqy rfl ?_|rw[Zf Z0r.eq_1]|refine run Zbqz rfl ?_|refine run Zbq0 rfl ?_|refine run Zbq1 rfl ?_|refine run Zbq2 rfl ?_)
 all_goals (refine Yb ?_ h;clear h;simp +decide[*,kk,tI,tII,Zjw,Zbab,Zbac,Zbad,Zbae,Zbah,Zbaf,Zbag,Zbai])
abbrev Zbel:=Zes.1
abbrev Zbem:=Zes.2.1
abbrev Zben:=Zes.2.2.1
abbrev Zbeo:=Zes.2.2.2.1
abbrev Zbep:=Zes.2.2.2.2.1
abbrev Zbuw:=Zes.2.2.2.2.2.1
abbrev Zbux:=Zes.2.2.2.2.2.2.1
abbrev Zij:=Zes.2.2.2.2.2.2.2.1
abbrev Zbuy:=Zes.2.2.2.2.2.2.2.2.1
abbrev Zbuz:=Zes.2.2.2.2.2.2.2.2.2.1
abbrev Zbu0:=Zes.2.2.2.2.2.2.2.2.2.2.1
abbrev Zbu1:=Zes.2.2.2.2.2.2.2.2.2.2.2
theorem Zbeq:(∀⦃o cd cc c k r⦄,Im (Zp3 o cd cc c k=some r) (if k≤7 then(∃v,Zej k=some (I v,[])∧(∃v1,Zhy o cd cc v=some (I v1,[])∧(if v1≤c then(Zp3 o cd cc c (w (k+1))=some r)else(some (I k,[])=some r))))else(some (I k,[])=some r))) ∧
 (∀⦃a a1 a2 a3 r⦄,Im (Zbu a a1 a2 a3=some r) (Zp3 a a1 a2 a3 0=some r)):=by
 and_intros
 all_goals intros
 all_goals unfold Im
 all_goals try simp only[Zp3,Zbu,Zej,Zhy,Zm.c_def,mpl,dfs]
 all_goals try simp only[itb]
 all_goals try simp only[itf,gS,kk]
 all_goals repeat' first|refine exI fun _=>?_|refine anJ fun _ _=>?_|refine anI fun _=>?_|refine orE2 ?_ ?_|exact False.elim
 all_goals (intro h;first|rw[Zf Z0s.eq_1]|refine run Zbq4 rfl ?_)
 all_goals (refine Yb ?_ h;clear h;simp +decide[*,kk,tI,tII,Z0t,Zbaj])
abbrev Zber:=Zbeq.1
abbrev Zbu2:=Zbeq.2
theorem Zbu3{a:Zk}{a1:Plan}{a2:List Zb}{a3:List Za}{a4:Int}{r:AV×List Blk}(h:(∃(v:Int) (v1:Int) (v2:Int),Zgz a2 a3 a4=some (.tup [I v,I v1,I v2],[])∧(Zei a=some (.bsl 1 5,[.box (a.c.map .t),.box [.ptr 0 0,.ptr 0 6,.ptr 0 12,.ptr 0 18,.ptr 0 24]])∧(0≤a4∧(∃(e3:Ze),a1.Steps[a4.toNat]?=some e3∧(if(w (e3.Kind-1))=0 then(∃(v3:Int),Zd1 a.Scan v v1 v2=some (I v3,[])∧(some (I v3,[])=some r))else(if(w (e3.Kind-1))=1 then(∃(v4:Int),Zd1 a.Sort_ v v1 v2=some (I v4,[])∧(some (I v4,[])=some r))else(if(w (e3.Kind-1))=2 then(∃(v5:Int),Zd1 a.Hash v v1 v2=some (I v5,[])∧(some (I v5,[])=some r))else(if(w (e3.Kind-1))=3 then(∃(v6:Int),Zd1 a.Merge v v1 v2=some (I v6,[])∧(some (I v6,[])=some r))else(if(w (e3.Kind-1))=4 then(∃(v7:Int),Zd1 a.Nested v v1 v2=some (I v7,[])∧(some (I v7,[])=some r))else False)))))))))):Zjz a a1 a2 a3 a4=some r:=by
 unfold Zjz;refine run Zbq3 rfl ?_;obtain⟨v,v1,v2,q1,h⟩:=h;unfold Zgz at q1
 try simp at q1
 obtain⟨q2,h⟩:=h;unfold Zei at q2
 try simp at q2
 obtain⟨q3,h⟩:=h;obtain⟨e3,q4,h⟩:=h;have gq4:=Zbz q4;have kq4:=Zb2 q4;by_cases q5:(w (e3.Kind-1))=0
 ·rw[if_pos q5]at h;obtain⟨v3,q6,h⟩:=h;unfold Zd1 at q6
  try simp at q6
  refine Yb ?_ h;clear h;simp +decide[*,Zmg,tI,tII]
 ·rw[if_neg q5]at h;replace q5:=eq_false q5;by_cases q7:(w (e3.Kind-1))=1
  ·rw[if_pos q7]at h;obtain⟨v4,q8,h⟩:=h;unfold Zd1 at q8
   try simp at q8
   refine Yb ?_ h;clear h;simp +decide[*,Zmg,tI,tII]
  ·rw[if_neg q7]at h;replace q7:=eq_false q7;by_cases q9:(w (e3.Kind-1))=2
   ·rw[if_pos q9]at h;obtain⟨v5,q10,h⟩:=h;unfold Zd1 at q10
    try simp at q10
    refine Yb ?_ h;clear h;simp +decide[*,Zmg,tI,tII]
   ·rw[if_neg q9]at h;replace q9:=eq_false q9;by_cases q11:(w (e3.Kind-1))=3
    ·rw[if_pos q11]at h;obtain⟨v6,q12,h⟩:=h;unfold Zd1 at q12
     try simp at q12
     refine Yb ?_ h;clear h;simp +decide[*,Zmg,tI,tII]
    ·rw[if_neg q11]at h;replace q11:=eq_false q11;by_cases q13:(w (e3.Kind-1))=4
     ·rw[if_pos q13]at h;obtain⟨v7,q14,h⟩:=h;unfold Zd1 at q14
      try simp at q14
      refine Yb ?_ h;clear h;simp +decide[*,Zmg,tI,tII]
     ·rw[if_neg q13]at h;replace q13:=eq_false q13;cases h
theorem Zvh:(∀⦃a r⦄,Im (Zuh a=some r) (∃(v:List (List Int)),Zhq a=some (.own 0,[.arr 30 1 true (v.map isc)])∧(∃(v1:List (List Int)),Z0u v=some (.tup [],[.arr 30 1 true (v1.map isc)])∧(∃(v4:List (List Int)),Z0v v1=some (.own 1,[.dead,.arr 30 1 true (v4.map isc)])∧(some (.own 0,[.arr 30 1 true (v4.map isc)])=some r))))) ∧
 (∀⦃a r⦄,Im (Zfg a=some r) (∃v,Zdo a=some (Bo v,[])∧(if v=true then(∃(v1:List Int),Zcu a.Vars=some (.own 0,[.arr 3 1 true (v1.map ic)])∧(∃(v4:List (List Int)),Zuh a.Rows=some (.own 0,[.arr 30 1 true (v4.map isc)])∧(some (.tup [.agg [.own 0,.own 1],Bo true],[.arr 3 1 true (v1.map ic),.arr 30 1 true (v4.map isc)])=some r)))else(some (.tup [.agg [.t .nil,.t .nil],Bo false],[])=some r)))) ∧
 (∀⦃a a1 a2 a3 a4 r⦄,Im (Zj1 a a1 a2 a3 a4=some r) ((Zjs a1 a2 a3=some (.tup [.t .nil,.t .nil,Bo false],[])∧(some (.tup [.agg [Bo false,I 0,I 0,.t .nil,.t .nil,.t .nil],Bo false],[])=some r))∨(∃(v1:List Zb),∃v2,∃(v3:List Za),Zjs a1 a2 a3=some (.tup [.own 0,.own 1,Bo true],[.arr 209 4 true (v1.map Zb.c),.arr 199 2 v2 (v3.map Za.c)])∧(∃v4,Zjx a=some (Bo v4,[])∧(if v4=true then(∃v8,Zz a4 0 1000000000000=some (Bo v8,[])∧(if v8=true then(Zj2 a a3 false 0 0 v1 v2 v3 false 0 0 a4 a3.Steps (a3.Steps.length:Int) 0=some r)else(some (.tup [.agg [Bo false,I 0,I 0,.t .nil,.t .nil,.t .nil],Bo false],[])=some r)))else(some (.tup [.agg [Bo false,I 0,I 0,.t .nil,.t .nil,.t .nil],Bo false],[])=some r)))))) ∧
 (∀⦃a a1 a2 a3 a4 a5 r⦄,Im (Zh8 a a1 a2 a3 a4 a5=some r) ((Zl0 a2 a3 a4=some (.tup [.agg [.t .nil],Bo false],[])∧(some (.tup [.agg [Bo false,I 0,I 0,.t .nil,.t .nil,.t .nil],Bo false],[])=some r))∨(∃(v1:List Ze),Zl0 a2 a3 a4=some (.tup [.agg [.own 0],Bo true],[.arr 194 3 true (v1.map Ze.c)])∧((∃v4 v5 v6 v7,Zj1 a a1 a2 (⟨v1⟩:Plan) a5=some (.tup [.agg [Bo v4,I v5,I v6,.t .nil,.t .nil,.t .nil],Bo v7],[])∧(some (.tup [.agg [Bo v4,I v5,I v6,.t .nil,.t .nil,.t .nil],Bo v7],[])=some r))∨(∃(v8:List Zg),∃v9,∃v10,∃v11,Zj1 a a1 a2 (⟨v1⟩:Plan) a5=some (.tup [.agg [Bo v9,I v10,I v11,.own 0,.t .nil,.t .nil],Bo true],[.arr 211 3 true (v8.map Zg.c)])∧(some (.tup [.agg [Bo v9,I v10,I v11,.own 0,.t .nil,.t .nil],Bo true],[.arr 211 3 true (v8.map Zg.c)])=some r))∨(∃(v12:List Int),∃(v13:List (List Int)),∃v14,∃v15,∃v16,Zj1 a a1 a2 (⟨v1⟩:Plan) a5=some (.tup [.agg [Bo v14,I v15,I v16,.t .nil,.own 0,.own 1],Bo true],[.arr 3 1 true (v12.map ic),.arr 30 1 true (v13.map isc)])∧(some (.tup [.agg [Bo v14,I v15,I v16,.t .nil,.own 0,.own 1],Bo true],[.arr 3 1 true (v12.map ic),.arr 30 1 true (v13.map isc)])=some r))∨(∃(v17:List Zg),∃(v18:List Int),∃(v19:List (List Int)),∃v20,∃v21,∃v22,Zj1 a a1 a2 (⟨v1⟩:Plan) a5=some (.tup [.agg [Bo v20,I v21,I v22,.own 0,.own 1,.own 2],Bo true],[.arr 211 3 true (v17.map Zg.c),.arr 3 1 true (v18.map ic),.arr 30 1 true (v19.map isc)])∧(some (.tup [.agg [Bo v20,I v21,I v22,.own 0,.own 1,.own 2],Bo true],[.arr 211 3 true (v17.map Zg.c),.arr 3 1 true (v18.map ic),.arr 30 1 true (v19.map isc)])=some r)))))):=by
 and_intros
 all_goals intros
 all_goals unfold Im
 all_goals try simp only[Zuh,Zfg,Zj1,Zh8,Zhq,Z0u,Z0v,Zdo,Zcu,Za.c_def,Zjs,Zjx,Zz,Zl.c_def,Zk.c_def,Zm.c_def,Plan.c_def,Zd.c_def,Zl0,Zj2,mpl,dfs]
 all_goals try simp only[itb]
 all_goals try simp only[itf,gS,kk]
 all_goals repeat' first|refine exI fun _=>?_|refine anJ fun _ _=>?_|refine anI fun _=>?_|refine orE2 ?_ ?_|exact False.elim
 all_goals (intro h;first|refine run Zbq5 rfl ?_|refine run Zbq6 rfl ?_|refine run Zbq7 rfl ?_|refine run Zbq8 rfl ?_)
 all_goals (refine Yb ?_ h;clear h;simp +decide[*,kk,tI,tII,Zbak,Zbal,Zbam,Zban])
abbrev Zbu4:=Zvh.1
abbrev Zbu5:=Zvh.2.1
abbrev Z3n:=Zvh.2.2.1
abbrev Zbu6:=Zvh.2.2.2
theorem Zbes{m:Zk}{p:Plan}{cv:Bool}{cu cp:Int}{co:List Zb}{fr:Bool}{l:List Za}{cn:Bool}{cl cd cc:Int}{x:List Ze}{x1 x2:Int}{r:AV×List Blk}(h:(if x2<x1 then(0≤x2∧(∃(e1:Ze),x[x2.toNat]?=some e1∧(∃(v:Int) (v1:Int) (v2:Int),Zgz co l x2=some (.tup [I v,I v1,I v2],[])∧(∃(v3:Int),Zjz m p co l x2=some (I v3,[])∧(if(w (cc-cl))<v3 then(if 3≤e1.Kind then(Zei m=some (.bsl 1 5,[.box (m.c.map .t),.box [.ptr 0 0,.ptr 0 6,.ptr 0 12,.ptr 0 18,.ptr 0 24]])∧(if(w (e1.Kind-1))=0 then(∃(v4:Int),Zbu m.Scan v v1 (w (cc-cl))=some (I v4,[])∧(∃(e6:Zb),co[x2.toNat]?=some e6∧(some (.tup [.agg [Bo cn,I cc,I cd,.own 0,.t .nil,.t .nil],Bo true],[.arr 211 3 true (([(⟨e6.Mask,v4,false⟩:Zg)]).map Zg.c)])=some r)))else(if(w (e1.Kind-1))=1 then(∃(v5:Int),Zbu m.Sort_ v v1 (w (cc-cl))=some (I v5,[])∧(∃(e8:Zb),co[x2.toNat]?=some e8∧(some (.tup [.agg [Bo cn,I cc,I cd,.own 0,.t .nil,.t .nil],Bo true],[.arr 211 3 true (([(⟨e8.Mask,v5,false⟩:Zg)]).map Zg.c)])=some r)))else(if(w (e1.Kind-1))=2 then(∃(v6:Int),Zbu m.Hash v v1 (w (cc-cl))=some (I v6,[])∧(∃(e10:Zb),co[x2.toNat]?=some e10∧(some (.tup [.agg [Bo cn,I cc,I cd,.own 0,.t .nil,.t .nil],Bo true],[.arr 211 3 true (([(⟨e10.Mask,v6,false⟩:Zg)]).map Zg.c)])=some r)))else(if(w (e1.Kind-1))=3 then(∃(v7:Int),Zbu m.Merge v v1 (w (cc-cl))=some (I v7,[])∧(∃(e12:Zb),co[x2.toNat]?=some e12∧(some (.tup [.agg [Bo cn,I cc,I cd,.own 0,.t .nil,.t .nil],Bo true],[.arr 211 3 true (([(⟨e12.Mask,v7,false⟩:Zg)]).map Zg.c)])=some r)))else(if(w (e1.Kind-1))=4 then(∃(v8:Int),Zbu m.Nested v v1 (w (cc-cl))=some (I v8,[])∧(∃(e14:Zb),co[x2.toNat]?=some e14∧(some (.tup [.agg [Bo cn,I cc,I cd,.own 0,.t .nil,.t .nil],Bo true],[.arr 211 3 true (([(⟨e14.Mask,v8,false⟩:Zg)]).map Zg.c)])=some r)))else False))))))else(some (.tup [.agg [Bo cn,I cc,I cd,.t .nil,.t .nil,.t .nil],Bo true],[])=some r))else(if 3≤e1.Kind then(∃(e15:Zb),co[x2.toNat]?=some e15∧(∃(e16:Za),l[x2.toNat]?=some e16∧(∃(v9:Int),Zh7 (e16.Rows.length:Int)=some (I v9,[])∧(Zg0 m p cv cu cp co fr l cn (w (cl+v3)) (w (cd+1)) ([(⟨e15.Mask,v9,true⟩:Zg)]) cc x x1 (w (x2+1))=some r))))else(Zj2 m p cv cu cp co fr l cn (w (cl+v3)) (w (cd+1)) cc x x1 (w (x2+1))=some r)))))))else(0≤(w ((l.length:Int)-1))∧(∃(e18:Za),l[(w ((l.length:Int)-1)).toNat]?=some e18∧((∃(v10:List Int) (v11:List (List Int)),Zfg e18=some (.tup [.agg [.own 0,.own 1],Bo true],[.arr 3 1 true (v10.map ic),.arr 30 1 true (v11.map isc)])∧(some (.tup [.agg [Bo true,I cl,I cd,.t .nil,.own 0,.own 1],Bo true],[.arr 3 1 true (v10.map ic),.arr 30 1 true (v11.map isc)])=some r))∨(Zfg e18=some (.tup [.agg [.t .nil,.t .nil],Bo false],[])∧(some (.tup [.agg [Bo true,I cl,I cd,.t .nil,.t .nil,.t .nil],Bo true],[])=some r))))))):Zj2 m p cv cu cp co fr l cn cl cd cc x x1 x2=some r:=by
 unfold Zj2;rw[Zf Zp5.eq_1];by_cases q1:x2<x1
 ·rw[if_pos q1]at h;obtain⟨q2,h⟩:=h;obtain⟨e1,q3,h⟩:=h;have gq3:=Zbz q3;have kq3:=Zb2 q3;obtain⟨v,v1,v2,q4,h⟩:=h;unfold Zgz at q4
  try simp at q4
  obtain⟨v3,q5,h⟩:=h;unfold Zjz at q5
  try simp at q5
  by_cases q6:(w (cc-cl))<v3
  ·rw[if_pos q6]at h;by_cases q7:3≤e1.Kind
   ·rw[if_pos q7]at h;obtain⟨q8,h⟩:=h;unfold Zei at q8
    try simp at q8
    by_cases q9:(w (e1.Kind-1))=0
    ·rw[if_pos q9]at h;obtain⟨v4,q10,h⟩:=h;unfold Zbu at q10
     try simp at q10
     obtain⟨e6,q11,h⟩:=h;have gq11:=Zbz q11;have kq11:=Zb2 q11;refine Yb ?_ h;clear h;simp +decide[*,tI,tII,Zd2]
    ·rw[if_neg q9]at h;replace q9:=eq_false q9;by_cases q12:(w (e1.Kind-1))=1
     ·rw[if_pos q12]at h;obtain⟨v5,q13,h⟩:=h;unfold Zbu at q13
      try simp at q13
      obtain⟨e8,q14,h⟩:=h;have gq14:=Zbz q14;have kq14:=Zb2 q14;refine Yb ?_ h;clear h;simp +decide[*,tI,tII,Zd2]
     ·rw[if_neg q12]at h;replace q12:=eq_false q12;by_cases q15:(w (e1.Kind-1))=2
      ·rw[if_pos q15]at h;obtain⟨v6,q16,h⟩:=h;unfold Zbu at q16
       try simp at q16
       obtain⟨e10,q17,h⟩:=h;have gq17:=Zbz q17;have kq17:=Zb2 q17;refine Yb ?_ h;clear h;simp +decide[*,tI,tII,Zd2]
      ·rw[if_neg q15]at h;replace q15:=eq_false q15;by_cases q18:(w (e1.Kind-1))=3
       ·rw[if_pos q18]at h;obtain⟨v7,q19,h⟩:=h;unfold Zbu at q19
        try simp at q19
        obtain⟨e12,q20,h⟩:=h;have gq20:=Zbz q20;have kq20:=Zb2 q20;refine Yb ?_ h;clear h;simp +decide[*,tI,tII,Zd2]
       ·rw[if_neg q18]at h;replace q18:=eq_false q18;by_cases q21:(w (e1.Kind-1))=4
        ·rw[if_pos q21]at h;obtain⟨v8,q22,h⟩:=h;unfold Zbu at q22
         try simp at q22
         obtain⟨e14,q23,h⟩:=h;have gq23:=Zbz q23;have kq23:=Zb2 q23;refine Yb ?_ h;clear h;simp +decide[*,tI,tII,Zd2]
        ·rw[if_neg q21]at h;replace q21:=eq_false q21;cases h
   ·rw[if_neg q7]at h;refine Yb ?_ h;clear h;simp +decide[*,tI,tII,Zd2]
  ·rw[if_neg q6]at h;by_cases q24:3≤e1.Kind
   ·rw[if_pos q24]at h;obtain⟨e15,q25,h⟩:=h;have gq25:=Zbz q25;have kq25:=Zb2 q25;obtain⟨e16,q26,h⟩:=h;have gq26:=Zbz q26;have kq26:=Zb2 q26;obtain⟨v9,q27,h⟩:=h;unfold Zh7 at q27
    try simp at q27
    refine Yb ?_ h;clear h;simp +decide[*,tI,tII,Zg0,Zp4]
   ·rw[if_neg q24]at h;refine Yb ?_ h;clear h;simp +decide[*,tI,tII,Zj2,Zp4]
 ·rw[if_neg q1]at h;obtain⟨q28,h⟩:=h;have zq28:=q28;try simp at zq28
  obtain⟨e18,q29,h⟩:=h;have gq29:=Zbz q29;have kq29:=Zb2 q29;rcases h with h|h
  ·obtain⟨v10,v11,q30,h⟩:=h;unfold Zfg at q30
   try simp at q30
   refine Yb ?_ h;clear h;simp +decide[*,tI,tII,Zj0]
  ·obtain⟨q31,h⟩:=h;unfold Zfg at q31
   try simp at q31
   refine Yb ?_ h;clear h;simp +decide[*,tI,tII,Zj0]
theorem Zbet{m:Zk}{p:Plan}{cv:Bool}{cu cp:Int}{co:List Zb}{fr:Bool}{l:List Za}{cn:Bool}{cl cd:Int}{x:List Zg}{cc:Int}{x1:List Ze}{x2 x3:Int}{r:AV×List Blk}(h:(if x3<x2 then(0≤x3∧(∃(e1:Ze),x1[x3.toNat]?=some e1∧(∃(v:Int) (v1:Int) (v2:Int),Zgz co l x3=some (.tup [I v,I v1,I v2],[])∧(∃(v3:Int),Zjz m p co l x3=some (I v3,[])∧(if(w (cc-cl))<v3 then(if 3≤e1.Kind then(Zei m=some (.bsl 1 5,[.box (m.c.map .t),.box [.ptr 0 0,.ptr 0 6,.ptr 0 12,.ptr 0 18,.ptr 0 24]])∧(if(w (e1.Kind-1))=0 then(∃(v4:Int),Zbu m.Scan v v1 (w (cc-cl))=some (I v4,[])∧(∃(e6:Zb),co[x3.toNat]?=some e6∧(x.length+1≤68719476736∧(some (.tup [.agg [Bo cn,I cc,I cd,.own 0,.t .nil,.t .nil],Bo true],[.arr 211 3 true ((x++[(⟨e6.Mask,v4,false⟩:Zg)]).map Zg.c)])=some r))))else(if(w (e1.Kind-1))=1 then(∃(v5:Int),Zbu m.Sort_ v v1 (w (cc-cl))=some (I v5,[])∧(∃(e8:Zb),co[x3.toNat]?=some e8∧(x.length+1≤68719476736∧(some (.tup [.agg [Bo cn,I cc,I cd,.own 0,.t .nil,.t .nil],Bo true],[.arr 211 3 true ((x++[(⟨e8.Mask,v5,false⟩:Zg)]).map Zg.c)])=some r))))else(if(w (e1.Kind-1))=2 then(∃(v6:Int),Zbu m.Hash v v1 (w (cc-cl))=some (I v6,[])∧(∃(e10:Zb),co[x3.toNat]?=some e10∧(x.length+1≤68719476736∧(some (.tup [.agg [Bo cn,I cc,I cd,.own 0,.t .nil,.t .nil],Bo true],[.arr 211 3 true ((x++[(⟨e10.Mask,v6,false⟩:Zg)]).map Zg.c)])=some r))))else(if(w (e1.Kind-1))=3 then(∃(v7:Int),Zbu m.Merge v v1 (w (cc-cl))=some (I v7,[])∧(∃(e12:Zb),co[x3.toNat]?=some e12∧(x.length+1≤68719476736∧(some (.tup [.agg [Bo cn,I cc,I cd,.own 0,.t .nil,.t .nil],Bo true],[.arr 211 3 true ((x++[(⟨e12.Mask,v7,false⟩:Zg)]).map Zg.c)])=some r))))else(if(w (e1.Kind-1))=4 then(∃(v8:Int),Zbu m.Nested v v1 (w (cc-cl))=some (I v8,[])∧(∃(e14:Zb),co[x3.toNat]?=some e14∧(x.length+1≤68719476736∧(some (.tup [.agg [Bo cn,I cc,I cd,.own 0,.t .nil,.t .nil],Bo true],[.arr 211 3 true ((x++[(⟨e14.Mask,v8,false⟩:Zg)]).map Zg.c)])=some r))))else False))))))else(some (.tup [.agg [Bo cn,I cc,I cd,.own 0,.t .nil,.t .nil],Bo true],[.arr 211 3 true (x.map Zg.c)])=some r))else(if 3≤e1.Kind then(∃(e15:Zb),co[x3.toNat]?=some e15∧(∃(e16:Za),l[x3.toNat]?=some e16∧(∃(v9:Int),Zh7 (e16.Rows.length:Int)=some (I v9,[])∧(x.length+1≤68719476736∧(Zg0 m p cv cu cp co fr l cn (w (cl+v3)) (w (cd+1)) (x++[(⟨e15.Mask,v9,true⟩:Zg)]) cc x1 x2 (w (x3+1))=some r)))))else(Zg0 m p cv cu cp co fr l cn (w (cl+v3)) (w (cd+1)) x cc x1 x2 (w (x3+1))=some r)))))))else(0≤(w ((l.length:Int)-1))∧(∃(e18:Za),l[(w ((l.length:Int)-1)).toNat]?=some e18∧((∃(v10:List Int) (v11:List (List Int)),Zfg e18=some (.tup [.agg [.own 0,.own 1],Bo true],[.arr 3 1 true (v10.map ic),.arr 30 1 true (v11.map isc)])∧(some (.tup [.agg [Bo true,I cl,I cd,.own 0,.own 1,.own 2],Bo true],[.arr 211 3 true (x.map Zg.c),.arr 3 1 true (v10.map ic),.arr 30 1 true (v11.map isc)])=some r))∨(Zfg e18=some (.tup [.agg [.t .nil,.t .nil],Bo false],[])∧(some (.tup [.agg [Bo true,I cl,I cd,.own 0,.t .nil,.t .nil],Bo true],[.arr 211 3 true (x.map Zg.c)])=some r))))))):Zg0 m p cv cu cp co fr l cn cl cd x cc x1 x2 x3=some r:=by
 unfold Zg0;rw[Zf Zp5.eq_1];by_cases q1:x3<x2
 ·rw[if_pos q1]at h;obtain⟨q2,h⟩:=h;obtain⟨e1,q3,h⟩:=h;have gq3:=Zbz q3;have kq3:=Zb2 q3;obtain⟨v,v1,v2,q4,h⟩:=h;unfold Zgz at q4
  try simp at q4
  obtain⟨v3,q5,h⟩:=h;unfold Zjz at q5
  try simp at q5
  by_cases q6:(w (cc-cl))<v3
  ·rw[if_pos q6]at h;by_cases q7:3≤e1.Kind
   ·rw[if_pos q7]at h;obtain⟨q8,h⟩:=h;unfold Zei at q8
    try simp at q8
    by_cases q9:(w (e1.Kind-1))=0
    ·rw[if_pos q9]at h;obtain⟨v4,q10,h⟩:=h;unfold Zbu at q10
     try simp at q10
     obtain⟨e6,q11,h⟩:=h;have gq11:=Zbz q11;have kq11:=Zb2 q11;obtain⟨q12,h⟩:=h;have rq12:=roomA (b:=24) q12 (by omega);have sq12:=roomB q12
     try simp[*]at rq12
     try simp[*]at sq12
     refine Yb ?_ h;clear h;simp +decide[*,tI,tII,Zd2]
    ·rw[if_neg q9]at h;replace q9:=eq_false q9;by_cases q13:(w (e1.Kind-1))=1
     ·rw[if_pos q13]at h;obtain⟨v5,q14,h⟩:=h;unfold Zbu at q14
      try simp at q14
      obtain⟨e8,q15,h⟩:=h;have gq15:=Zbz q15;have kq15:=Zb2 q15;obtain⟨q16,h⟩:=h;have rq16:=roomA (b:=24) q16 (by omega);have sq16:=roomB q16
      try simp[*]at rq16
      try simp[*]at sq16
      refine Yb ?_ h;clear h;simp +decide[*,tI,tII,Zd2]
     ·rw[if_neg q13]at h;replace q13:=eq_false q13;by_cases q17:(w (e1.Kind-1))=2
      ·rw[if_pos q17]at h;obtain⟨v6,q18,h⟩:=h;unfold Zbu at q18
       try simp at q18
       obtain⟨e10,q19,h⟩:=h;have gq19:=Zbz q19;have kq19:=Zb2 q19;obtain⟨q20,h⟩:=h;have rq20:=roomA (b:=24) q20 (by omega);have sq20:=roomB q20
       try simp[*]at rq20
       try simp[*]at sq20
       refine Yb ?_ h;clear h;simp +decide[*,tI,tII,Zd2]
      ·rw[if_neg q17]at h;replace q17:=eq_false q17;by_cases q21:(w (e1.Kind-1))=3
       ·rw[if_pos q21]at h;obtain⟨v7,q22,h⟩:=h;unfold Zbu at q22
        try simp at q22
        obtain⟨e12,q23,h⟩:=h;have gq23:=Zbz q23;have kq23:=Zb2 q23;obtain⟨q24,h⟩:=h;have rq24:=roomA (b:=24) q24 (by omega);have sq24:=roomB q24
        try simp[*]at rq24
        try simp[*]at sq24
        refine Yb ?_ h;clear h;simp +decide[*,tI,tII,Zd2]
       ·rw[if_neg q21]at h;replace q21:=eq_false q21;by_cases q25:(w (e1.Kind-1))=4
        ·rw[if_pos q25]at h;obtain⟨v8,q26,h⟩:=h;unfold Zbu at q26
         try simp at q26
         obtain⟨e14,q27,h⟩:=h;have gq27:=Zbz q27;have kq27:=Zb2 q27;obtain⟨q28,h⟩:=h;have rq28:=roomA (b:=24) q28 (by omega);have sq28:=roomB q28
         try simp[*]at rq28
         try simp[*]at sq28
         refine Yb ?_ h;clear h;simp +decide[*,tI,tII,Zd2]
        ·rw[if_neg q25]at h;replace q25:=eq_false q25;cases h
   ·rw[if_neg q7]at h;refine Yb ?_ h;clear h;simp +decide[*,tI,tII,Zd2]
  ·rw[if_neg q6]at h;by_cases q29:3≤e1.Kind
   ·rw[if_pos q29]at h;obtain⟨e15,q30,h⟩:=h;have gq30:=Zbz q30;have kq30:=Zb2 q30;obtain⟨e16,q31,h⟩:=h;have gq31:=Zbz q31;have kq31:=Zb2 q31;obtain⟨v9,q32,h⟩:=h;unfold Zh7 at q32
    try simp at q32
    obtain⟨q33,h⟩:=h;have rq33:=roomA (b:=24) q33 (by omega);have sq33:=roomB q33
    try simp[*]at rq33
    try simp[*]at sq33
    refine Yb ?_ h;clear h;simp +decide[*,tI,tII,Zg0,Zp4]
   ·rw[if_neg q29]at h;refine Yb ?_ h;clear h;simp +decide[*,tI,tII,Zg0,Zp4]
 ·rw[if_neg q1]at h;obtain⟨q34,h⟩:=h;have zq34:=q34;try simp at zq34
  obtain⟨e18,q35,h⟩:=h;have gq35:=Zbz q35;have kq35:=Zb2 q35;rcases h with h|h
  ·obtain⟨v10,v11,q36,h⟩:=h;unfold Zfg at q36
   try simp at q36
   refine Yb ?_ h;clear h;simp +decide[*,tI,tII,Zj0]
  ·obtain⟨q37,h⟩:=h;unfold Zfg at q37
   try simp at q37
   refine Yb ?_ h;clear h;simp +decide[*,tI,tII,Zj0]
theorem Zet:(∀⦃a a1 a2 r⦄,Im (Z9 a a1 a2=some r) (if a1≤a then(some (Bo (decide (a≤a2)),[])=some r)else(some (Bo false,[])=some r))) ∧
 (∀⦃a r⦄,Im (Zmh a=some r) (if(a.size:Int)=1 then(∃b1,a[0]?=some b1∧(if 97≤(b1.toNat:Int)then(some (Bo (decide ((b1.toNat:Int)≤122)),[])=some r)else(some (Bo false,[])=some r)))else(some (Bo false,[])=some r))) ∧
 (∀⦃l x i r⦄,Im (Zp6 l x i=some r) (if i<(l.length:Int)then(0≤i∧(∃e1,l[i.toNat]?=some e1∧(if e1=x then(some (Bo true,[])=some r)else(Zp6 l x (w (i+1))=some r))))else(some (Bo false,[])=some r))) ∧
 (∀⦃a a1 r⦄,Im (Zj3 a a1=some r) (Zp6 a a1 0=some r)) ∧
 (∀⦃q cd i r⦄,Im (Zmi q cd i=some r) (if i<(q.Atoms.length:Int)then(0≤i∧(∃e1,q.Atoms[i.toNat]?=some e1∧(∃v2,Zmh e1.Name=some (Bo v2,[])∧(if v2=true then(∃v3,Z9 (e1.Vars.length:Int) 1 3=some (Bo v3,[])∧(if v3=true then(Zp7 q e1 cd i 0=some r)else(some (Bo false,[])=some r)))else(some (Bo false,[])=some r)))))else(¬q.Zi<0∧(some (Bo (decide (cd=(w ((shlI 1 q.Zi)-1)))),[])=some r)))) ∧
 (∀⦃q a cd i k r⦄,Im (Zp7 q a cd i k=some r) (if k<(a.Vars.length:Int)then(0≤k∧(∃e1,a.Vars[k.toNat]?=some e1∧(∃v2,Z9 e1 0 (w (q.Zi-1))=some (Bo v2,[])∧(if v2=true then(k.toNat≤a.Vars.length∧(∃v3,Zj3 (a.Vars.take k.toNat) e1=some (Bo v3,[])∧(if v3=true then(some (Bo false,[])=some r)else(¬e1<0∧(Zp7 q a (orI cd (shlI 1 e1)) i (w (k+1))=some r)))))else(some (Bo false,[])=some r)))))else(Zmi q cd (w (i+1))=some r))) ∧
 (∀⦃a r⦄,Im (Zf4 a=some r) (∃v1,Z9 a.Zi 1 4=some (Bo v1,[])∧(if v1=true then(∃v2,Z9 (a.Atoms.length:Int) 1 4=some (Bo v2,[])∧(if v2=true then(Zmi a 0 0=some r)else(some (Bo false,[])=some r)))else(some (Bo false,[])=some r)))) ∧
 (∀⦃q cc x i r⦄,Im (Zj4 q cc x i=some r) (if i<(q.Atoms.length:Int)then(Zmj q cc x i 0=some r)else(some (I x,[])=some r))) ∧
 (∀⦃q cc x i k r⦄,Im (Zmj q cc x i k=some r) (0≤i∧(∃e1,q.Atoms[i.toNat]?=some e1∧(if k<(e1.Vars.length:Int)then(¬i<0∧(if(andI (shrI cc i) 1)=1 then(0≤k∧(∃e2,e1.Vars[k.toNat]?=some e2∧(¬e2<0∧(Zmj q cc (orI x (shlI 1 e2)) i (w (k+1))=some r))))else(Zj4 q cc x (w (i+1))=some r)))else(Zj4 q cc x (w (i+1))=some r))))) ∧
 (∀⦃a a1 r⦄,Im (Zd3 a a1=some r) (Zj4 a a1 0 0=some r)) ∧
 (∀⦃a a1 r⦄,Im (Zj5 a a1=some r) (∃v1,Z9 a1 0 3=some (Bo v1,[])∧(if v1=true then(¬a1<0∧(some (Bo (decide ((andI (shrI a a1) 1)=1)),[])=some r))else(some (Bo false,[])=some r)))) ∧
 (∀⦃x x1 x2 a b y v r⦄,Im (Zj8 x x1 x2 a b y v=some r) (if x1.Kind=4 then(∃v1,Zj5 v x1.Order=some (Bo v1,[])∧(if v1=true then(if a.Order=x1.Order then(if b.Order=x1.Order then(some (.tup [.agg [I y.Mask,I x1.Order,I y.Left,I y.Right],I 2],[])=some r)else(some (.tup [.agg [I 0,I 0,I 0,I 0],I (-1)],[])=some r))else(some (.tup [.agg [I 0,I 0,I 0,I 0],I (-1)],[])=some r))else(some (.tup [.agg [I 0,I 0,I 0,I 0],I (-1)],[])=some r)))else(some (.tup [.agg (y.c.map .t),I 2],[])=some r))):=by
 and_intros
 all_goals intros
 all_goals unfold Im
 all_goals try simp only[Z9,Zmh,Zp6,Zj3,Zmi,Zp7,Zf4,Zj4,Zmj,Zd3,Zj5,Zj8,mpl,dfs]
 all_goals try simp only[itb]
 all_goals try simp only[itf,gS,kk]
 all_goals repeat' first|refine exI fun _=>?_|refine anJ fun _ _=>?_|refine anI fun _=>?_|refine orE2 ?_ ?_|exact False.elim
 all_goals (intro h;first|refine run Zbq9 rfl ?_|refine run Zbra rfl ?_|rw[Zf Z0w.eq_1]|refine run Zbrb rfl ?_|rw[Zf Zui.eq_1]|rw[Zf Z0y.eq_1]|refine run Zbrc rfl ?_|rw[Zf Zuk.eq_1]|rw[Zf Z00.eq_1]|refine run Zbrd rfl ?_|refine run Zbre rfl ?_|rw[Ev_eq Zp8.eq_1])
 all_goals (refine Yb ?_ h;clear h;simp +decide[*,kk,tI,tII,Zbao,Zbap,Z0x,Zbaq,Zuj,Z0z,Zbar,Zul,Z01,Zbas,Zbat,Z02])
abbrev Zbu7:=Zet.1
abbrev Zbu8:=Zet.2.1
abbrev Zbeu:=Zet.2.2.1
abbrev Zbu9:=Zet.2.2.2.1
abbrev Zbev:=Zet.2.2.2.2.1
abbrev Zbew:=Zet.2.2.2.2.2.1
abbrev Zbva:=Zet.2.2.2.2.2.2.1
abbrev Zbex:=Zet.2.2.2.2.2.2.2.1
abbrev Z3o:=Zet.2.2.2.2.2.2.2.2.1
abbrev Zbvb:=Zet.2.2.2.2.2.2.2.2.2.1
abbrev Zbvc:=Zet.2.2.2.2.2.2.2.2.2.2.1
abbrev Zbvd:=Zet.2.2.2.2.2.2.2.2.2.2.2
theorem Znu:(∀⦃x x1 x2 a b y v x3 r⦄,Im (Zh9 x x1 x2 a b y v x3=some r) (if x1.Kind=4 then(∃v1,Zj5 v x1.Order=some (Bo v1,[])∧(if v1=true then(if a.Order=x1.Order then(if b.Order=x1.Order then(some (.tup [.agg [I y.Mask,I x1.Order,I y.Left,I y.Right],I 2],[])=some r)else(some (.tup [.agg [I 0,I 0,I 0,I 0],I (-1)],[])=some r))else(some (.tup [.agg [I 0,I 0,I 0,I 0],I (-1)],[])=some r))else(some (.tup [.agg [I 0,I 0,I 0,I 0],I (-1)],[])=some r)))else(some (.tup [.agg (y.c.map .t),I 2],[])=some r))) ∧
 (∀⦃a a1 a2 a3 r⦄,Im (Zj6 a a1 a2 a3=some r) (if a1.Kind=1 then(∃v1,Z9 a1.Atom 0 (w ((a.Atoms.length:Int)-1))=some (Bo v1,[])∧(if v1=true then(if a1.Order=0 then(¬a1.Atom<0∧(0≤a1.Atom∧(∃e2,a.Atoms[a1.Atom.toNat]?=some e2∧(∃e3,e2.Vars[0]?=some e3∧(some (.tup [.agg [I (shlI 1 a1.Atom),I e3,I (-1),I (-1)],I 0],[])=some r)))))else(some (.tup [.agg [I 0,I 0,I 0,I 0],I (-1)],[])=some r))else(some (.tup [.agg [I 0,I 0,I 0,I 0],I (-1)],[])=some r)))else(if a1.Kind=2 then(if a1.Atom=0 then(if(a3.length:Int)<1 then(some (.tup [.agg [I 0,I 0,I 0,I 0],I (-1)],[])=some r)else(0≤(w ((a3.length:Int)-1))∧(∃e4,a3[(w ((a3.length:Int)-1)).toNat]?=some e4∧(0≤e4∧(∃e5,a2[e4.toNat]?=some e5∧(if e5.Order=a1.Order then(some (.tup [.agg [I 0,I 0,I 0,I 0],I (-1)],[])=some r)else(∃v4,Zd3 a e5.Mask=some (I v4,[])∧(∃v5,Zj5 v4 a1.Order=some (Bo v5,[])∧(if v5=true then(some (.tup [.agg [I e5.Mask,I a1.Order,I e4,I (-1)],I 1],[])=some r)else(some (.tup [.agg [I 0,I 0,I 0,I 0],I (-1)],[])=some r))))))))))else(some (.tup [.agg [I 0,I 0,I 0,I 0],I (-1)],[])=some r))else(if a1.Kind=3 then(Zj7 a a1 (⟨0,0,0,0⟩:Zb) a2 a3 (a3.length:Int) a1.Kind true=some r)else(if a1.Kind=4 then(Zj7 a a1 (⟨0,0,0,0⟩:Zb) a2 a3 (a3.length:Int) a1.Kind true=some r)else(if a1.Kind=5 then(if a1.Atom=0 then(if(a3.length:Int)<2 then(some (.tup [.agg [I 0,I 0,I 0,I 0],I (-1)],[])=some r)else(0≤(w ((a3.length:Int)-2))∧(∃e8,a3[(w ((a3.length:Int)-2)).toNat]?=some e8∧(0≤e8∧(∃e9,a2[e8.toNat]?=some e9∧(0≤(w ((a3.length:Int)-1))∧(∃e10,a3[(w ((a3.length:Int)-1)).toNat]?=some e10∧(0≤e10∧(∃e11,a2[e10.toNat]?=some e11∧(∃v6,Zd3 a e9.Mask=some (I v6,[])∧(∃v7,Zd3 a e11.Mask=some (I v7,[])∧(if(andI e9.Mask e11.Mask)=0 then(if(andI v6 v7)=0 then(some (.tup [.agg [I 0,I 0,I 0,I 0],I (-1)],[])=some r)else(if a1.Order=0 then(Zj8 a a1 (⟨0,0,0,0⟩:Zb) e9 e11 (⟨(orI e9.Mask e11.Mask),e9.Order,e8,e10⟩:Zb) (andI v6 v7)=some r)else(some (.tup [.agg [I 0,I 0,I 0,I 0],I (-1)],[])=some r)))else(some (.tup [.agg [I 0,I 0,I 0,I 0],I (-1)],[])=some r)))))))))))))else(some (.tup [.agg [I 0,I 0,I 0,I 0],I (-1)],[])=some r))else(some (.tup [.agg [I 0,I 0,I 0,I 0],I (-1)],[])=some r))))))) ∧
 (∀⦃q p cd cc i r⦄,Im (Zp9 q p cd cc i=some r) (if i<(p.Steps.length:Int)then(0≤i∧(∃e1,p.Steps[i.toNat]?=some e1∧(∃(v2:Zb),∃v3,Zj6 q e1 cd cc=some (.tup [.agg (v2.c.map .t),I v3],[])∧(if v3<0 then(some (.tup [.own 0,Bo false],[.arr 209 4 true (([]:List Zb).map Zb.c)])=some r)else(cd.length+1≤68719476736∧(0≤(w ((cc.length:Int)-v3))∧((w ((cc.length:Int)-v3)).toNat≤cc.length∧((w ((cc.length:Int)-v3)).toNat≤68719476736∧((w ((cc.length:Int)-v3)).toNat+1≤68719476736∧(Zp9 q p (cd++[v2]) ((cc.take ((w ((cc.length:Int)-v3)).toNat))++[i]) (w (i+1))=some r))))))))))else(if(cc.length:Int)=1 then(some (.tup [.own 0,Bo true],[.arr 209 4 true (cd.map Zb.c)])=some r)else(some (.tup [.own 0,Bo false],[.arr 209 4 true (([]:List Zb).map Zb.c)])=some r)))) ∧
 (∀⦃a a1 r⦄,Im (Zd4 a a1=some r) (∃v1,Zf4 a=some (Bo v1,[])∧(if v1=true then(∃v2,Z9 (a1.Steps.length:Int) 1 14=some (Bo v2,[])∧(if v2=true then(Zp9 a a1 ([]:List Zb) ([]:List Int) 0=some r)else(some (.tup [.own 0,Bo false],[.arr 209 4 true (([]:List Zb).map Zb.c)])=some r)))else(some (.tup [.own 0,Bo false],[.arr 209 4 true (([]:List Zb).map Zb.c)])=some r)))) ∧
 (∀⦃cd i r⦄,Im (Zqb cd i=some r) (0≤i∧(∃e1,cd[i.toNat]?=some e1∧(if 0≤e1.Left then(Zqb cd e1.Left=some r)else(some (I i,[])=some r))))) ∧
 (∀⦃a a1 r⦄,Im (Zqa a a1=some r) (Zqb a a1=some r)):=by
 and_intros
 all_goals intros
 all_goals unfold Im
 all_goals try simp only[Zj6,Zp9,Zd4,Zqb,Zqa,Zj5,Z9,Zd3,Zd.c_def,Ze.c_def,Zb.c_def,Zf4,Zj7,Zj8,Zh9,mpl,dfs]
 all_goals try simp only[itb]
 all_goals try simp only[itf,gS,kk]
 all_goals repeat' first|refine exI fun _=>?_|refine anJ fun _ _=>?_|refine anI fun _=>?_|refine orE2 ?_ ?_|exact False.elim
 all_goals (intro h;first|rw[Ev_eq Zp8.eq_1]|refine run Zbrf rfl ?_|rw[Zf Z03.eq_1]|refine run Zbrg rfl ?_|rw[Zf Z05.eq_1]|refine run Zbrh rfl ?_)
 all_goals (refine Yb ?_ h;clear h;simp +decide[*,kk,tI,tII,Z02,Zbau,Zum,Z04,Zbav,Z06,Zbaw])
abbrev Z3p:=Znu.1
abbrev Zga:=Znu.2.1
abbrev Zbey:=Znu.2.2.1
abbrev Zbve:=Znu.2.2.2.1
abbrev Zbvf:=Znu.2.2.2.2.1
abbrev Zbvg:=Znu.2.2.2.2.2
theorem Zrn{q:Zd}{x:Ze}{x1:Zb}{cc:List Zb}{c:List Int}{n x2:Int}{x3:Bool}{r:AV×List Blk}(h:(if x3=true then(if x.Atom=0 then(if n<2 then(some (.tup [.agg [I 0,I 0,I 0,I 0],I (-1)],[])=some r)else(0≤(w (n-2))∧(∃(e1:Int),c[(w (n-2)).toNat]?=some e1∧(0≤e1∧(∃(e2:Zb),cc[e1.toNat]?=some e2∧(0≤(w (n-1))∧(∃(e3:Int),c[(w (n-1)).toNat]?=some e3∧(0≤e3∧(∃(e4:Zb),cc[e3.toNat]?=some e4∧(∃(v:Int),Zd3 q e2.Mask=some (I v,[])∧(∃(v1:Int),Zd3 q e4.Mask=some (I v1,[])∧(if(andI e2.Mask e4.Mask)=0 then(if(andI v v1)=0 then(some (.tup [.agg [I 0,I 0,I 0,I 0],I (-1)],[])=some r)else(if x.Kind=4 then(Zh9 q x x1 e2 e4 (⟨(orI e2.Mask e4.Mask),(-1),e1,e3⟩:Zb) (andI v v1) false=some r)else(if x.Order=0 then(if x.Kind=5 then(Zj8 q x x1 e2 e4 (⟨(orI e2.Mask e4.Mask),e2.Order,e1,e3⟩:Zb) (andI v v1)=some r)else(Zh9 q x x1 e2 e4 (⟨(orI e2.Mask e4.Mask),(-1),e1,e3⟩:Zb) (andI v v1) false=some r))else(some (.tup [.agg [I 0,I 0,I 0,I 0],I (-1)],[])=some r))))else(some (.tup [.agg [I 0,I 0,I 0,I 0],I (-1)],[])=some r)))))))))))))else(some (.tup [.agg [I 0,I 0,I 0,I 0],I (-1)],[])=some r))else(some (.tup [.agg [I 0,I 0,I 0,I 0],I (-1)],[])=some r))):Zj7 q x x1 cc c n x2 x3=some r:=by
 unfold Zj7;rw[Ev_eq Zum.eq_1];by_cases q1:x3=true
 ·rw[if_pos q1]at h;by_cases q2:x.Atom=0
  ·rw[if_pos q2]at h;replace q2:=eq_true q2;by_cases q3:n<2
   ·rw[if_pos q3]at h;refine Yb ?_ h;clear h;simp +decide[*,tI,tII]
   ·rw[if_neg q3]at h;obtain⟨q4,h⟩:=h;obtain⟨e1,q5,h⟩:=h;have gq5:=Zbz q5;have kq5:=Zb2 q5;obtain⟨q6,h⟩:=h;obtain⟨e2,q7,h⟩:=h;have gq7:=Zbz q7;have kq7:=Zb2 q7;obtain⟨q8,h⟩:=h;obtain⟨e3,q9,h⟩:=h;have gq9:=Zbz q9;have kq9:=Zb2 q9;obtain⟨q10,h⟩:=h;obtain⟨e4,q11,h⟩:=h;have gq11:=Zbz q11;have kq11:=Zb2 q11;obtain⟨v,q12,h⟩:=h;unfold Zd3 at q12
    try simp at q12
    obtain⟨v1,q13,h⟩:=h;unfold Zd3 at q13
    try simp at q13
    by_cases q14:(andI e2.Mask e4.Mask)=0
    ·rw[if_pos q14]at h;replace q14:=eq_true q14;by_cases q15:(andI v v1)=0
     ·rw[if_pos q15]at h;replace q15:=eq_true q15;refine Yb ?_ h;clear h;simp +decide[*,tI,tII]
     ·rw[if_neg q15]at h;replace q15:=eq_false q15;by_cases q16:x.Kind=4
      ·rw[if_pos q16]at h;replace q16:=eq_true q16;have q17:(x.Kind=5)=False:=eq_false (by intro hh;simp_all);refine Yb ?_ h;clear h;simp +decide[*,tI,tII,Zh9]
      ·rw[if_neg q16]at h;replace q16:=eq_false q16;by_cases q18:x.Order=0
       ·rw[if_pos q18]at h;replace q18:=eq_true q18;by_cases q19:x.Kind=5
        ·rw[if_pos q19]at h;replace q19:=eq_true q19;refine Yb ?_ h;clear h;simp +decide[*,tI,tII,Zj8]
        ·rw[if_neg q19]at h;replace q19:=eq_false q19;refine Yb ?_ h;clear h;simp +decide[*,tI,tII,Zh9]
       ·rw[if_neg q18]at h;replace q18:=eq_false q18;refine Yb ?_ h;clear h;simp +decide[*,tI,tII]
    ·rw[if_neg q14]at h;replace q14:=eq_false q14;refine Yb ?_ h;clear h;simp +decide[*,tI,tII]
  ·rw[if_neg q2]at h;replace q2:=eq_false q2;refine Yb ?_ h;clear h;simp +decide[*,tI,tII]
 ·rw[if_neg q1]at h;refine Yb ?_ h;clear h;simp +decide[*,tI,tII]
theorem Zbvh{a:Zd}{a1:Plan}{a2:Int}{r:AV×List Blk}(h:(∃(v:List Zb) (v1:Bool),Zd4 a a1=some (.tup [.own 0,Bo v1],[.arr 209 4 true (v.map Zb.c)])∧(if v1=true then(∃(v2:Bool),Z9 a2 0 (w ((v.length:Int)-1))=some (Bo v2,[])∧(if v2=true then(∃(v3:Int),Zqa v a2=some (I v3,[])∧(0≤v3∧(0≤(w (a2+1))∧(v3.toNat≤(w (a2+1)).toNat∧((w (a2+1)).toNat≤a1.Steps.length∧(((a1.Steps.take ((w (a2+1)).toNat)).drop v3.toNat).length≤68719476736∧(some (.tup [.agg [.own 0],Bo true],[.arr 194 3 true (((a1.Steps.take ((w (a2+1)).toNat)).drop v3.toNat).map Ze.c)])=some r)))))))else(some (.tup [.agg [.t .nil],Bo false],[])=some r)))else(some (.tup [.agg [.t .nil],Bo false],[])=some r)))):Zmk a a1 a2=some r:=by
 unfold Zmk;refine run Zbri rfl ?_;obtain⟨v,v1,q1,h⟩:=h;unfold Zd4 at q1
 try simp at q1
 by_cases q2:v1=true
 ·rw[if_pos q2]at h;obtain⟨v2,q3,h⟩:=h;unfold Z9 at q3
  try simp at q3
  by_cases q4:v2=true
  ·rw[if_pos q4]at h;obtain⟨v3,q5,h⟩:=h;unfold Zqa at q5
   try simp at q5
   obtain⟨q6,h⟩:=h;obtain⟨q7,h⟩:=h;obtain⟨q8,h⟩:=h;have zq8:=q8;try simp at zq8
   obtain⟨q9,h⟩:=h;have zq9:=q9;try simp at zq9
   obtain⟨q10,h⟩:=h;have rq10:=roomA (b:=24) q10 (by omega);have sq10:=roomB q10
   try simp[*]at rq10
   try simp[*]at sq10
   refine Yb ?_ h;clear h;simp +decide[*,Zun,tI,tII]
  ·rw[if_neg q4]at h;refine Yb ?_ h;clear h;simp +decide[*,Zun,tI,tII]
 ·rw[if_neg q2]at h;refine Yb ?_ h;clear h;simp +decide[*,Zun,tI,tII]
theorem Zeu:(∀⦃q p cd cn is i r⦄,Im (Zmm q p cd cn is i=some r) (if i<(cd.length:Int)then(if is=true then(0≤i∧(∃e1,cd[i.toNat]?=some e1∧(if 0≤e1.Right then(if e1.Mask=cn then((∃(v2:List Ze),Zmk q p i=some (.tup [.agg [.own 0],Bo true],[.arr 194 3 true (v2.map Ze.c)])∧(some (.tup [.agg [.own 0],Bo true],[.arr 194 3 true (v2.map Ze.c)])=some r))∨(Zmk q p i=some (.tup [.agg [.t .nil],Bo false],[])∧(some (.tup [.agg [.t .nil],Bo false],[])=some r)))else(Zmm q p cd cn true (w (i+1))=some r))else(Zmm q p cd cn true (w (i+1))=some r))))else(some (.tup [.agg [.t .nil],Bo false],[])=some r))else(some (.tup [.agg [.t .nil],Bo false],[])=some r))) ∧
 (∀⦃a a1 a2 r⦄,Im (Zml a a1 a2=some r) (∃(v:List Zb),∃v1,Zd4 a a1=some (.tup [.own 0,Bo v1],[.arr 209 4 true (v.map Zb.c)])∧(Zmm a a1 v a2 v1 0=some r))) ∧
 (∀⦃co n i r⦄,Im (Zqc co n i=some r) (if i<(co.length:Int)then(0≤i∧(∃e1,co[i.toNat]?=some e1∧(∃v2,Z9 e1 0 9=some (Bo v2,[])∧(if v2=true then(Zqc co n (w (i+1))=some r)else(some (Bo false,[])=some r)))))else(some (Bo (decide ((co.length:Int)=n)),[])=some r))) ∧
 (∀⦃a a1 r⦄,Im (Zmn a a1=some r) (Zqc a a1 0=some r)) ∧
 (∀⦃a b i r⦄,Im (Zqd a b i=some r) (if i<(a.length:Int)then(if i<(b.length:Int)then(0≤i∧(∃e1,a[i.toNat]?=some e1∧(∃e2,b[i.toNat]?=some e2∧(if e1<e2 then(some (I (-1),[])=some r)else(if e2<e1 then(some (I 1,[])=some r)else(Zqd a b (w (i+1))=some r))))))else(Zqe a b i false=some r))else(Zqe a b i false=some r))) ∧
 (∀⦃a b i x r⦄,Im (Zqe a b i x=some r) (if(a.length:Int)<(b.length:Int)then(some (I (-1),[])=some r)else(if(b.length:Int)<(a.length:Int)then(some (I 1,[])=some r)else(some (I 0,[])=some r)))) ∧
 (∀⦃a a1 r⦄,Im (Zmo a a1=some r) (Zqd a a1 0=some r)) ∧
 (∀⦃t i r⦄,Im (Zmp t i=some r) (if i<(t.Rows.length:Int)then(0≤i∧(∃e1,t.Rows[i.toNat]?=some e1∧(∃v2,Zmn e1 t.Arity=some (Bo v2,[])∧(if v2=true then(if 0<i then(0≤(w (i-1))∧(∃e3,t.Rows[(w (i-1)).toNat]?=some e3∧(∃v3,Zmo e3 e1=some (I v3,[])∧(if 0≤v3 then(some (Bo false,[])=some r)else(Zmp t (w (i+1))=some r)))))else(Zmp t (w (i+1))=some r))else(some (Bo false,[])=some r)))))else(some (Bo true,[])=some r))) ∧
 (∀⦃a r⦄,Im (Zup a=some r) (∃v,Zmh a.Name=some (Bo v,[])∧(if v=true then(∃v2,Z9 a.Arity 1 3=some (Bo v2,[])∧(if v2=true then(if 8<(a.Rows.length:Int)then(some (Bo false,[])=some r)else(Zmp a 0=some r))else(some (Bo false,[])=some r)))else(some (Bo false,[])=some r)))) ∧
 (∀⦃d i r⦄,Im (Zmq d i=some r) (if i<(d.Tables.length:Int)then(0≤i∧(∃e1,d.Tables[i.toNat]?=some e1∧(∃v2,Zup e1=some (Bo v2,[])∧(if v2=true then(if 0<i then(0≤(w (i-1))∧(∃e3,d.Tables[(w (i-1)).toNat]?=some e3∧(if(Op.bytesLess e3.Name.toList e1.Name.toList)=true then(Zmq d (w (i+1))=some r)else(some (Bo false,[])=some r))))else(Zmq d (w (i+1))=some r))else(some (Bo false,[])=some r)))))else(some (Bo (decide ((d.Tables.length:Int)≤6)),[])=some r))) ∧
 (∀⦃a r⦄,Im (Zqf a=some r) (Zmq a 0=some r)) ∧
 (∀⦃t cu cp cl cc i r⦄,Im (Zuq t cu cp cl cc i=some r) (if i<(t.Rows.length:Int)then(0≤i∧(∃e1,t.Rows[i.toNat]?=some e1∧(e1.length≤68719476736∧(Zmr t cu cp cl cc ([e1]) (w (i+1))=some r))))else(some (.agg [.t (.str cl),I cc,.t .nil],[])=some r))):=by
 and_intros
 all_goals intros
 all_goals unfold Im
 all_goals try simp only[Zmm,Zml,Zqc,Zmn,Zqd,Zmo,Zmp,Zup,Zmq,Zqf,Zuq,Zmk,Plan.c_def,Zd.c_def,Zd4,Z9,Zmh,Zj.c_def,Zqe,Zmr,mpl,dfs]
 all_goals try simp only[itb]
 all_goals try simp only[itf,gS,kk]
 all_goals repeat' first|refine exI fun _=>?_|refine anJ fun _ _=>?_|refine anI fun _=>?_|refine orE2 ?_ ?_|exact False.elim
 all_goals (intro h;first|rw[Zf Z07.eq_1]|refine run Zbrj rfl ?_|rw[Zf Z09.eq_1]|refine run Zbrk rfl ?_|rw[Zf Z1b.eq_1]|rw[Ev_eq Zuo.eq_1]|refine run Zbrl rfl ?_|rw[Zf Z1c.eq_1]|refine run Zbrm rfl ?_|rw[Zf Z1e.eq_1]|refine run Zbrn rfl ?_|rw[Zf Zqg.eq_1])
 all_goals (refine Yb ?_ h;clear h;simp +decide[*,kk,tI,tII,Z08,Zbax,Z1a,Zbay,Zbaz,Z1d,Zba0,Z1f,Zba1,Zqh])
abbrev Z3q:=Zeu.1
abbrev Zbvi:=Zeu.2.1
abbrev Zbez:=Zeu.2.2.1
abbrev Zbvj:=Zeu.2.2.2.1
abbrev Zbe0:=Zeu.2.2.2.2.1
abbrev Zbvk:=Zeu.2.2.2.2.2.1
abbrev Zbvl:=Zeu.2.2.2.2.2.2.1
abbrev Zbe1:=Zeu.2.2.2.2.2.2.2.1
abbrev Zbvm:=Zeu.2.2.2.2.2.2.2.2.1
abbrev Zbe2:=Zeu.2.2.2.2.2.2.2.2.2.1
abbrev Zbvn:=Zeu.2.2.2.2.2.2.2.2.2.2.1
abbrev Zbvo:=Zeu.2.2.2.2.2.2.2.2.2.2.2
theorem Zev:(∀⦃t cd c cl cc x i r⦄,Im (Zmr t cd c cl cc x i=some r) (if i<(t.Rows.length:Int)then(0≤i∧(∃e1,t.Rows[i.toNat]?=some e1∧(e1.length≤68719476736∧(x.length+1≤68719476736∧(Zmr t cd c cl cc (x++[e1]) (w (i+1))=some r)))))else(some (.agg [.t (.str cl),I cc,.own 0],[.arr 30 1 true (x.map isc)])=some r))) ∧
 (∀⦃a r⦄,Im (Zqi a=some r) (Zuq a ⟨#[]⟩ 0 a.Name a.Arity 0=some r)) ∧
 (∀⦃d cd c cp i r⦄,Im (Zqj d cd c cp i=some r) (if i<(d.Tables.length:Int)then(∃v1,Zqf d=some (Bo v1,[])∧(if v1=true then(0≤i∧(∃e2,d.Tables[i.toNat]?=some e2∧(if e2.Name=cp then((∃v5 v6,Zqi e2=some (.agg [.t (.str v5),I v6,.t .nil],[])∧(some (.tup [.agg [.t (.str v5),I v6,.t .nil],Bo true],[])=some r))∨(∃(v8:List (List Int)),∃v9,∃v10,Zqi e2=some (.agg [.t (.str v9),I v10,.own 0],[.arr 30 1 true (v8.map isc)])∧(some (.tup [.agg [.t (.str v9),I v10,.own 0],Bo true],[.arr 30 1 true (v8.map isc)])=some r)))else(Zqj d cd c cp (w (i+1))=some r))))else(some (.tup [.agg [.t (.str ⟨#[]⟩),I 0,.t .nil],Bo false],[])=some r)))else(some (.tup [.agg [.t (.str ⟨#[]⟩),I 0,.t .nil],Bo false],[])=some r))) ∧
 (∀⦃a a1 r⦄,Im (Zia a a1=some r) (Zqj a ⟨#[]⟩ 0 a1 0=some r)) ∧
 (∀⦃d q i r⦄,Im (Zms d q i=some r) (if i<(q.Atoms.length:Int)then(0≤i∧(∃e1,q.Atoms[i.toNat]?=some e1∧((∃v2 v3 v4,Zia d e1.Name=some (.tup [.agg [.t (.str v2),I v3,.t .nil],Bo v4],[])∧(if v4=true then(if v3=(e1.Vars.length:Int)then(Zms d q (w (i+1))=some r)else(some (Bo false,[])=some r))else(some (Bo false,[])=some r)))∨(∃(v5:List (List Int)),∃v6,∃v7,Zia d e1.Name=some (.tup [.agg [.t (.str v6),I v7,.own 0],Bo true],[.arr 30 1 true (v5.map isc)])∧(if v7=(e1.Vars.length:Int)then(Zms d q (w (i+1))=some r)else(some (Bo false,[])=some r))))))else(some (Bo true,[])=some r))) ∧
 (∀⦃a a1 r⦄,Im (Zg1 a a1=some r) (∃v1,Zf4 a1=some (Bo v1,[])∧(if v1=true then(Zms a a1 0=some r)else(some (Bo false,[])=some r)))) ∧
 (∀⦃a a1 r⦄,Im (Z1k a a1=some r) (∃v1,Zf4 a=some (Bo v1,[])∧(if v1=true then(¬(a.Atoms.length:Int)<0∧(∃v2,Z9 a1 0 (w ((shlI 1 (a.Atoms.length:Int))-1))=some (Bo v2,[])∧(some (Bo v2,[])=some r)))else(some (Bo false,[])=some r)))) ∧
 (∀⦃co cn v r⦄,Im (Zmt co cn v=some r) (if v<4 then(¬v<0∧(if(andI (shrI cn v) 1)=1 then(co.length+1≤68719476736∧(Zmt (co++[v]) cn (w (v+1))=some r))else(Zmt co cn (w (v+1))=some r)))else(some (.own 0,[.arr 3 1 true (co.map ic)])=some r))) ∧
 (∀⦃a r⦄,Im (Z1n a=some r) (Zmt ([]:List Int) a 0=some r)) ∧
 (∀⦃a a1 r⦄,Im (Zmu a a1=some r) (∃v1,Z1k a a1=some (Bo v1,[])∧(if v1=true then(∃v2,Zd3 a a1=some (I v2,[])∧(∃(v5:List Int),Z1n v2=some (.own 0,[.arr 3 1 true (v5.map ic)])∧(some (.own 0,[.arr 3 1 true (v5.map ic)])=some r)))else(some (.own 0,[.arr 3 1 true (([]:List Int).map ic)])=some r)))) ∧
 (∀⦃a v k r⦄,Im (Zqk a v k=some r) (if k<(a.Vars.length:Int)then(0≤k∧(∃e1,a.Vars[k.toNat]?=some e1∧(if e1=v then(some (I k,[])=some r)else(Zqk a v (w (k+1))=some r))))else(some (I (-1),[])=some r))) ∧
 (∀⦃a a1 r⦄,Im (Zmv a a1=some r) (Zqk a a1 0=some r)):=by
 and_intros
 all_goals intros
 all_goals unfold Im
 all_goals try simp only[Zmr,Zqi,Zqj,Zia,Zms,Zg1,Z1k,Zmt,Z1n,Zmu,Zqk,Zmv,Zqf,Zl.c_def,Zj.c_def,Zf4,Zd.c_def,Z9,Zd3,Zuq,mpl,dfs]
 all_goals try simp only[itb]
 all_goals try simp only[itf,gS,kk]
 all_goals repeat' first|refine exI fun _=>?_|refine anJ fun _ _=>?_|refine anI fun _=>?_|refine orE2 ?_ ?_|exact False.elim
 all_goals (intro h;first|rw[Zf Zqg.eq_1]|refine run Zbro rfl ?_|rw[Zf Z1g.eq_1]|refine run Zbrp rfl ?_|rw[Zf Z1i.eq_1]|refine run Zbrq rfl ?_|refine run Zbrr rfl ?_|rw[Zf Z1l.eq_1]|refine run Zbrs rfl ?_|refine run Zbrt rfl ?_|rw[Zf Z1o.eq_1]|refine run Zbru rfl ?_)
 all_goals (refine Yb ?_ h;clear h;simp +decide[*,kk,tI,tII,Zqh,Zba2,Z1h,Zba3,Z1j,Zba4,Zba5,Zba6,Z1m,Zba7,Zba8,Z1p,Zba9])
abbrev Zbe3:=Zev.1
abbrev Zbvp:=Zev.2.1
abbrev Zbe4:=Zev.2.2.1
abbrev Zbvq:=Zev.2.2.2.1
abbrev Zbe5:=Zev.2.2.2.2.1
abbrev Zbvr:=Zev.2.2.2.2.2.1
abbrev Zbvs:=Zev.2.2.2.2.2.2.1
abbrev Zbe6:=Zev.2.2.2.2.2.2.2.1
abbrev Zbvt:=Zev.2.2.2.2.2.2.2.2.1
abbrev Zbvu:=Zev.2.2.2.2.2.2.2.2.2.1
abbrev Zbe7:=Zev.2.2.2.2.2.2.2.2.2.2.1
abbrev Zbvv:=Zev.2.2.2.2.2.2.2.2.2.2.2
theorem Zew:(∀⦃q cc c x i k r⦄,Im (Z1q q cc c x i k=some r) (if k<0 then(Zbbb q cc c x ([]:List Int) i k 0=some r)else(some (.tup [.agg [.own 0,.t .nil],Bo true],[.arr 3 1 true (x.map ic)])=some r))) ∧
 (∀⦃q cc c x x1 i k r⦄,Im (Z1r q cc c x x1 i k=some r) (if k<(x.length:Int)then(Zqo q cc c x x1 ([]:List Int) i k 0=some r)else(some (.tup [.agg [.own 0,.t .nil],Bo true],[.arr 3 1 true (x1.map ic)])=some r))) ∧
 (∀⦃q cc c x x1 cd i k j r⦄,Im (Zqo q cc c x x1 cd i k j=some r) (if j<(x1.length:Int)then(0≤k∧(∃e1,x[k.toNat]?=some e1∧(0≤i∧(∃e2,q.Atoms[i.toNat]?=some e2∧(0≤j∧(∃e3,x1[j.toNat]?=some e3∧(∃v3,Zmv e2 e3=some (I v3,[])∧(0≤v3∧(∃e5,e1[v3.toNat]?=some e5∧(cd.length+1≤68719476736∧(Zqo q cc c x x1 (cd++[e5]) i k (w (j+1))=some r)))))))))))else(Zka q cc c x x1 ([cd]) i (w (k+1))=some r))) ∧
 (∀⦃q cc c x x1 x2 i k r⦄,Im (Zka q cc c x x1 x2 i k=some r) (if k<(x.length:Int)then(Zqp q cc c x x1 x2 ([]:List Int) i k 0=some r)else(some (.tup [.agg [.own 0,.own 1],Bo true],[.arr 3 1 true (x1.map ic),.arr 30 1 true (x2.map isc)])=some r))) ∧
 (∀⦃q cc c x x1 x2 cd i k j r⦄,Im (Zqp q cc c x x1 x2 cd i k j=some r) (if j<(x1.length:Int)then(0≤k∧(∃e1,x[k.toNat]?=some e1∧(0≤i∧(∃e2,q.Atoms[i.toNat]?=some e2∧(0≤j∧(∃e3,x1[j.toNat]?=some e3∧(∃v3,Zmv e2 e3=some (I v3,[])∧(0≤v3∧(∃e5,e1[v3.toNat]?=some e5∧(cd.length+1≤68719476736∧(Zqp q cc c x x1 x2 (cd++[e5]) i k (w (j+1))=some r)))))))))))else(x2.length+1≤68719476736∧(Zka q cc c x x1 (x2++[cd]) i (w (k+1))=some r)))) ∧
 (∀⦃a a1 a2 r⦄,Im (Zj9 a a1 a2=some r) (∃v1,Zg1 a a1=some (Bo v1,[])∧(if v1=true then(∃v2,Z9 a2 0 (w ((a1.Atoms.length:Int)-1))=some (Bo v2,[])∧(if v2=true then(0≤a2∧(∃e3,a1.Atoms[a2.toNat]?=some e3∧((∃v3 v4 v5,Zia a e3.Name=some (.tup [.agg [.t (.str v3),I v4,.t .nil],Bo v5],[])∧(¬a2<0∧(∃(v6:List Int),Zmu a1 (shlI 1 a2)=some (.own 0,[.arr 3 1 true (v6.map ic)])∧(Z1q a1 v3 v4 v6 a2 0=some r))))∨(∃(v7:List (List Int)),∃v8,∃v9,Zia a e3.Name=some (.tup [.agg [.t (.str v8),I v9,.own 0],Bo true],[.arr 30 1 true (v7.map isc)])∧(¬a2<0∧(∃(v10:List Int),Zmu a1 (shlI 1 a2)=some (.own 0,[.arr 3 1 true (v10.map ic)])∧(Z1r a1 v8 v9 v7 v10 a2 0=some r)))))))else(some (.tup [.agg [.t .nil,.t .nil],Bo false],[])=some r)))else(some (.tup [.agg [.t .nil,.t .nil],Bo false],[])=some r)))) ∧
 (∀⦃l v i r⦄,Im (Zqq l v i=some r) (if i<(l.length:Int)then(0≤i∧(∃e1,l[i.toNat]?=some e1∧(if e1=v then(some (I i,[])=some r)else(Zqq l v (w (i+1))=some r))))else(some (I (-1),[])=some r))) ∧
 (∀⦃a a1 r⦄,Im (Zdr a a1=some r) (Zqq a a1 0=some r)) ∧
 (∀⦃s i r⦄,Im (Zmw s i=some r) (if i<(s.Vars.length:Int)then(0≤i∧(∃e1,s.Vars[i.toNat]?=some e1∧(∃v2,Z9 e1 0 3=some (Bo v2,[])∧(if v2=true then(if 0<i then(0≤(w (i-1))∧(∃e3,s.Vars[(w (i-1)).toNat]?=some e3∧(if e1≤e3 then(some (Bo false,[])=some r)else(Zmw s (w (i+1))=some r))))else(Zmw s (w (i+1))=some r))else(some (Bo false,[])=some r)))))else(Zqr s 0=some r))) ∧
 (∀⦃s i r⦄,Im (Zqr s i=some r) (if i<(s.Rows.length:Int)then(0≤i∧(∃e1,s.Rows[i.toNat]?=some e1∧(∃v2,Zmn e1 (s.Vars.length:Int)=some (Bo v2,[])∧(if v2=true then(Zqr s (w (i+1))=some r)else(some (Bo false,[])=some r)))))else(some (Bo (decide ((s.Rows.length:Int)≤4096)),[])=some r))) ∧
 (∀⦃a r⦄,Im (Zd5 a=some r) (Zmw a 0=some r)) ∧
 (∀⦃s x x1 cl r⦄,Im (Zmx s x x1 cl=some r) (if cl≤9 then(Zmy s x x1 cl 0=some r)else(some (.tup [.agg [.own 0,.t .nil],Bo true],[.arr 3 1 true (x.map ic)])=some r))):=by
 and_intros
 all_goals intros
 all_goals unfold Im
 all_goals try simp only[Z1q,Z1r,Zqo,Zka,Zqp,Zj9,Zqq,Zdr,Zmw,Zqr,Zd5,Zmx,Zmv,Atom.c_def,Zg1,Z9,Zia,Zmu,Zl.c_def,Zd.c_def,Zmn,Zbbb,Zmy,mpl,dfs]
 all_goals try simp only[itb]
 all_goals try simp only[itf,gS,kk]
 all_goals repeat' first|refine exI fun _=>?_|refine anJ fun _ _=>?_|refine anI fun _=>?_|refine orE2 ?_ ?_|exact False.elim
 all_goals (intro h;first|rw[Zf Zib.eq_1]|rw[Zf Zql.eq_1]|refine run Zbrv rfl ?_|rw[Zf Z1s.eq_1]|refine run Zbrw rfl ?_|rw[Zf Z1u.eq_1]|rw[Zf Z1v.eq_1]|refine run Zbrx rfl ?_|rw[Zf Zkb.eq_1])
 all_goals (refine Yb ?_ h;clear h;simp +decide[*,kk,tI,tII,Zic,Zqn,Zqm,Zbba,Z1t,Zbbc,Z1x,Z1w,Zbbd,Zkc])
abbrev Zbvw:=Zew.1
abbrev Zbvx:=Zew.2.1
abbrev Zbe8:=Zew.2.2.1
abbrev Zbe9:=Zew.2.2.2.1
abbrev Zbfa:=Zew.2.2.2.2.1
abbrev Zbvy:=Zew.2.2.2.2.2.1
abbrev Zbfb:=Zew.2.2.2.2.2.2.1
abbrev Zbvz:=Zew.2.2.2.2.2.2.2.1
abbrev Zbfc:=Zew.2.2.2.2.2.2.2.2.1
abbrev Zbfd:=Zew.2.2.2.2.2.2.2.2.2.1
abbrev Zbv0:=Zew.2.2.2.2.2.2.2.2.2.2.1
abbrev Zbfe:=Zew.2.2.2.2.2.2.2.2.2.2.2
theorem Zgb:(∀⦃s x x1 c i r⦄,Im (Zmy s x x1 c i=some r) (if i<(s.Rows.length:Int)then(0≤i∧(∃e1,s.Rows[i.toNat]?=some e1∧(0≤x1∧(∃e2,e1[x1.toNat]?=some e2∧(if e2=c then(e1.length≤68719476736∧(Zid s x ([e1]) x1 c (w (i+1))=some r))else(Zmy s x x1 c (w (i+1))=some r))))))else(Zmx s x x1 (w (c+1))=some r))) ∧
 (∀⦃s x x1 x2 c i r⦄,Im (Zid s x x1 x2 c i=some r) (if i<(s.Rows.length:Int)then(0≤i∧(∃e1,s.Rows[i.toNat]?=some e1∧(0≤x2∧(∃e2,e1[x2.toNat]?=some e2∧(if e2=c then(e1.length≤68719476736∧(x1.length+1≤68719476736∧(Zid s x (x1++[e1]) x2 c (w (i+1))=some r)))else(Zid s x x1 x2 c (w (i+1))=some r))))))else(Zut s x x1 x2 (w (c+1))=some r))) ∧
 (∀⦃s x x1 x2 c r⦄,Im (Zut s x x1 x2 c=some r) (if c≤9 then(Zid s x x1 x2 c 0=some r)else(some (.tup [.agg [.own 0,.own 1],Bo true],[.arr 3 1 true (x.map ic),.arr 30 1 true (x1.map isc)])=some r))) ∧
 (∀⦃a a1 r⦄,Im (Zkd a a1=some r) (∃v1,Zdr a.Vars a1=some (I v1,[])∧(∃v2,Zd5 a=some (Bo v2,[])∧(if v2=true then(if v1<0 then(some (.tup [.agg [.t .nil,.t .nil],Bo false],[])=some r)else(a.Vars.length≤68719476736∧(Zmx a a.Vars v1 0=some r)))else(some (.tup [.agg [.t .nil,.t .nil],Bo false],[])=some r))))) ∧
 (∀⦃cc a b v r⦄,Im (Zke cc a b v=some r) (if v<4 then(∃v1,Zj3 a v=some (Bo v1,[])∧(if v1=true then(cc.length+1≤68719476736∧(Zke (cc++[v]) a b (w (v+1))=some r))else(∃v2,Zj3 b v=some (Bo v2,[])∧(if v2=true then(cc.length+1≤68719476736∧(Zke (cc++[v]) a b (w (v+1))=some r))else(Zke cc a b (w (v+1))=some r)))))else(some (.own 0,[.arr 3 1 true (cc.map ic)])=some r))) ∧
 (∀⦃a a1 r⦄,Im (Zie a a1=some r) (Zke ([]:List Int) a a1 0=some r)) ∧
 (∀⦃a x b y i r⦄,Im (Zmz a x b y i=some r) (if i<(a.length:Int)then(0≤i∧(∃e1,a[i.toNat]?=some e1∧(∃v2,Zdr b e1=some (I v2,[])∧(if 0≤v2 then(∃e3,x[i.toNat]?=some e3∧(∃e4,y[v2.toNat]?=some e4∧(if e3=e4 then(Zmz a x b y (w (i+1))=some r)else(some (Bo false,[])=some r))))else(Zmz a x b y (w (i+1))=some r)))))else(some (Bo true,[])=some r))) ∧
 (∀⦃a a1 a2 a3 r⦄,Im (Zbr a a1 a2 a3=some r) (Zmz a a1 a2 a3 0=some r)) ∧
 (∀⦃cl cd a x b y i r⦄,Im (Zm0 cl cd a x b y i=some r) (if i<(cd.length:Int)then(0≤i∧(∃e1,cd[i.toNat]?=some e1∧(∃v2,Zdr a e1=some (I v2,[])∧(if 0≤v2 then(∃e3,x[v2.toNat]?=some e3∧(cl.length+1≤68719476736∧(Zm0 (cl++[e3]) cd a x b y (w (i+1))=some r)))else(∃v3,Zdr b e1=some (I v3,[])∧(0≤v3∧(∃e5,y[v3.toNat]?=some e5∧(cl.length+1≤68719476736∧(Zm0 (cl++[e5]) cd a x b y (w (i+1))=some r)))))))))else(some (.own 0,[.arr 3 1 true (cl.map ic)])=some r))) ∧
 (∀⦃a a1 a2 a3 a4 r⦄,Im (Zbs a a1 a2 a3 a4=some r) (Zm0 ([]:List Int) a a1 a2 a3 a4 0=some r)):=by
 and_intros
 all_goals intros
 all_goals unfold Im
 all_goals try simp only[Zmy,Zid,Zut,Zkd,Zke,Zie,Zmz,Zbr,Zm0,Zbs,Zdr,Zd5,Za.c_def,Zj3,Zmx,mpl,dfs]
 all_goals try simp only[itb]
 all_goals try simp only[itf,gS,kk]
 all_goals repeat' first|refine exI fun _=>?_|refine anJ fun _ _=>?_|refine anI fun _=>?_|refine orE2 ?_ ?_|exact False.elim
 all_goals (intro h;first|rw[Zf Zur.eq_1]|rw[Zf Zkb.eq_1]|refine run Zbry rfl ?_|rw[Zf Z1y.eq_1]|refine run Zbrz rfl ?_|rw[Zf Z10.eq_1]|refine run Zbr0 rfl ?_|rw[Zf Z12.eq_1]|refine run Zbr1 rfl ?_)
 all_goals (refine Yb ?_ h;clear h;simp +decide[*,kk,tI,tII,Zbbe,Zus,Zkc,Zbbf,Zbbg,Z1z,Zbbh,Z11,Zbbi,Zbbj,Z13,Zbbk])
abbrev Zbff:=Zgb.1
abbrev Zvi:=Zgb.2.1
abbrev Zbfg:=Zgb.2.2.1
abbrev Zbv1:=Zgb.2.2.2.1
abbrev Zbfh:=Zgb.2.2.2.2.1
abbrev Zbv2:=Zgb.2.2.2.2.2.1
abbrev Zbfi:=Zgb.2.2.2.2.2.2.1
abbrev Zbv3:=Zgb.2.2.2.2.2.2.2.1
abbrev Zbfj:=Zgb.2.2.2.2.2.2.2.2.1
abbrev Zbv4:=Zgb.2.2.2.2.2.2.2.2.2
end Go.Proofs.YtgnfoghkbpkgjaaGreat
