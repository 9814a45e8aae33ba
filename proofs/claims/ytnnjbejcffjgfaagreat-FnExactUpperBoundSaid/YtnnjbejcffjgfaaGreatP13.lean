/-
  Parts of the proofs for this seat: G1 G2 G3 G4 G5.
-/
import Derived.Test.YtnnjbejcffjgfaaGreatP11
import Derived.Test.YtnnjbejcffjgfaaGreatP12
set_option linter.unusedSimpArgs false
set_option linter.unusedVariables false
set_option maxRecDepth 100000
set_option maxHeartbeats 4000000
namespace Go.Proofs.YtnnjbejcffjgfaaGreat
open Go.AM
theorem Zcw:((((∀⦃a a1 a2 r⦄,Im (Z4 a a1 a2=some r) (if a1<=a then(some (Bo (decide (a<=a2)),[])=some r)else(some (Bo false,[])=some r)))/\
 (∀⦃cn c x x1 x2 r⦄,Im (Zqf cn c x x1 x2=some r) (if x2<x1 then(0<=x2/\(∃e1,x[x2.toNat]?=some e1/\(∃v1,Z4 e1 0 9=some (Bo v1,[])/\(if v1=true then(Zqf cn c x x1 (w (x2+1))=some r)else(some (Bo false,[])=some r)))))else(some (Bo (decide ((cn.length:Int)=c)),[])=some r))))/\
 ((∀⦃a a1 r⦄,Im (Zwm a a1=some r) (Zqf a a1 a (a.length:Int) 0=some r))/\
 (∀⦃a r⦄,Im (Zmm a=some r) (if(a.size:Int)=1 then(∃b1,a[0]?=some b1/\(if 97<=(b1.toNat:Int)then(some (Bo (decide ((b1.toNat:Int)<=122)),[])=some r)else(some (Bo false,[])=some r)))else(some (Bo false,[])=some r)))))/\
 (((∀⦃a r⦄,Im (Zwn a=some r) (some (Bo (!(decide (a=a))),[])=some r))/\
 (∀⦃a a1 r⦄,Im (Zwo a a1=some r) (∃v,Zwn a=some (Bo v,[])/\(∃v1,Zwn a1=some (Bo v1,[])/\(if v=true then(if v1=true then(some (I 0,[])=some r)else(some (I (-1),[])=some r))else(if v1=true then(some (I 1,[])=some r)else(if a<a1 then(some (I (-1),[])=some r)else(if a1<a then(some (I 1,[])=some r)else(some (I 0,[])=some r)))))))))/\
 ((∀⦃s1 s2 x x1 x2 r⦄,Im (Zqg s1 s2 x x1 x2=some r) (if x2<x1 then(0<=x2/\(∃e1,x[x2.toNat]?=some e1/\(if(s2.length:Int)<=x2 then(some (I 1,[])=some r)else(∃e2,s2[x2.toNat]?=some e2/\(∃v2,Zwo e1 e2=some (I v2,[])/\(if v2=0 then(Zqg s1 s2 x x1 (w (x2+1))=some r)else(some (I v2,[])=some r)))))))else(if(s1.length:Int)<(s2.length:Int)then(some (I (-1),[])=some r)else(some (I 0,[])=some r))))/\
 ((∀⦃a a1 r⦄,Im (Z27 a a1=some r) (Zqg a a1 a (a.length:Int) 0=some r))/\
 (∀⦃a a1 r⦄,Im (Zwp a a1=some r) (∃v,Z27 a a1=some (I v,[])/\(some (I v,[])=some r)))))))/\
 ((((∀⦃cl i r⦄,Im (Zqh cl i=some r) (if i<(cl.length:Int)then(0<=(w (i-1))/\(∃e1,cl[(w (i-1)).toNat]?=some e1/\(0<=i/\(∃e2,cl[i.toNat]?=some e2/\(∃v2,Zwp e1 e2=some (I v2,[])/\(if 0<=v2 then(some (Bo false,[])=some r)else(Zqh cl (w (i+1))=some r)))))))else(some (Bo true,[])=some r)))/\
 (∀⦃a r⦄,Im (Zwq a=some r) (Zqh a 1=some r)))/\
 ((∀⦃t x x1 x2 r⦄,Im (Zqi t x x1 x2=some r) (if x2<x1 then(0<=x2/\(∃e1,x[x2.toNat]?=some e1/\(∃v1,Zwm e1 t.Arity=some (Bo v1,[])/\(if v1=true then(Zqi t x x1 (w (x2+1))=some r)else(some (Bo false,[])=some r)))))else(∃v2,Zmm t.Name=some (Bo v2,[])/\(if v2=true then(∃v3,Z4 t.Arity 1 3=some (Bo v3,[])/\(if v3=true then(if(t.Rows.length:Int)<=8 then(∃v4,Zwq t.Rows=some (Bo v4,[])/\(some (Bo v4,[])=some r))else(some (Bo false,[])=some r))else(some (Bo false,[])=some r)))else(some (Bo false,[])=some r)))))/\
 (∀⦃a r⦄,Im (Zgn a=some r) (Zqi a a.Rows (a.Rows.length:Int) 0=some r))))/\
 (((∀⦃db x x1 x2 r⦄,Im (Zmo db x x1 x2=some r) (if x2<x1 then(0<=x2/\(∃e1,x[x2.toNat]?=some e1/\(∃v1,Zgn e1=some (Bo v1,[])/\(if v1=true then(if 0<x2 then(0<=(w (x2-1))/\(∃e3,db.Tables[(w (x2-1)).toNat]?=some e3/\(if(Op.bytesLess e3.Name.toList e1.Name.toList)=true then(Zmo db x x1 (w (x2+1))=some r)else(some (Bo false,[])=some r))))else(Zmo db x x1 (w (x2+1))=some r))else(some (Bo false,[])=some r)))))else(some (Bo (decide ((db.Tables.length:Int)<=6)),[])=some r)))/\
 (∀⦃a r⦄,Im (Zmn a=some r) (Zmo a a.Tables (a.Tables.length:Int) 0=some r)))/\
 ((∀⦃cc cd i r⦄,Im (Zmp cc cd i=some r) (¬i<0/\(if(shrI cd i)=0 then(some (.own 0,[.arr 3 1 true (cc.map ic)])=some r)else(if(andI (shrI cd i) 1)=1 then(cc.length+1<=68719476736/\(Zmp (cc++[i]) cd (w (i+1))=some r))else(Zmp cc cd (w (i+1))=some r)))))/\
 ((∀⦃a r⦄,Im (Zed a=some r) (Zmp ([]:List Int) a 0=some r))/\
 (∀⦃cc c cd r⦄,Im (Ziu cc c cd=some r) (¬c<0/\(if cd<(shlI 1 c)then(∃(v:List Int),Zed cd=some (.own 0,[.arr 3 1 true (v.map ic)])/\(cc.length+1<=68719476736/\(Ziu (cc++[v]) c (w (cd+1))=some r)))else(some (.own 0,[.arr 56 1 true (cc.map isc)])=some r)))))))):=by
 and_intros
 all_goals intros
 all_goals unfold Im
 all_goals try simp only[Z4,Zqf,Zwm,Zmm,Zwn,Zwo,Zqg,Z27,Zwp,Zqh,Zwq,Zqi,Zgn,Zmo,Zmn,Zmp,Zed,Ziu,Zc.c_def,mpl,dfs]
 all_goals try simp only[itb]
 all_goals try simp only[itf,gS,kk]
 all_goals repeat' first|refine exI λ_=>?_|refine anJ λ_ _=>?_|refine anI λ_=>?_|refine orE2 ?_ ?_|exact False.elim
 all_goals (intro h;first|refine run Zb2j rfl ?_|rw[Ze Z23.eq_1]|refine run Zb2k rfl ?_|refine run Zb2l rfl ?_|refine run Zb2m rfl ?_|refine run Zb2n rfl ?_|rw[Ze Z25.eq_1]|refine run Zb2o rfl ?_|refine run Zb2p rfl ?_|rw[Ze Z28.eq_1]|refine run Zb2q rfl ?_|rw[Ze Z3a.eq_1]|refine run Zb2r rfl ?_|rw[Ze Z3c.eq_1]|refine run Zb2s rfl ?_|rw[Ze Z3e.eq_1]|refine run Zb2t rfl ?_|rw[Ze Z3g.eq_1])
 all_goals (refine Yf ?_ h;clear h;simp +decide[*,kk,tI,tII,Zbf0,Z24,Zbf1,Zbf2,Zbf3,Zbf4,Z26,Zbf5,Zbf6,Z29,Zbf7,Z3b,Zbf8,Z3d,Zbf9,Z3f,Zbga,Zbgb,Z3h])
abbrev Zb74:=Zcw.1.1.1.1
abbrev Zbnw:=Zcw.1.1.1.2
abbrev Zb75:=Zcw.1.1.2.1
abbrev Zb76:=Zcw.1.1.2.2
abbrev Zbnx:=Zcw.1.2.1.1
abbrev Zb77:=Zcw.1.2.1.2
abbrev Zbny:=Zcw.1.2.2.1
abbrev Zb78:=Zcw.1.2.2.2.1
abbrev Zb79:=Zcw.1.2.2.2.2
abbrev Zban:=Zcw.2.1.1.1
abbrev Zb8a:=Zcw.2.1.1.2
abbrev Zbnz:=Zcw.2.1.2.1
abbrev Zb8b:=Zcw.2.1.2.2
abbrev Zbn0:=Zcw.2.2.1.1
abbrev Zb8c:=Zcw.2.2.1.2
abbrev Zhu:=Zcw.2.2.2.1
abbrev Zji:=Zcw.2.2.2.2.1
abbrev Zbn1:=Zcw.2.2.2.2.2
theorem Zeg:(((∀⦃a r⦄,Im (Zmq a=some r) (∃v,Z4 a 1 3=some (Bo v,[])/\(if v=true then(Ziu ([]:List (List Int)) a 1=some r)else(some (.t .nil,[])=some r))))/\
 ((∀⦃cd cn x x1 x2 r⦄,Im (Zms cd cn x x1 x2=some r) (if x2<x1 then(0<=x2/\(∃e1,x[x2.toNat]?=some e1/\(∃v1,Z4 e1 0 (w (cn-1))=some (Bo v1,[])/\(if v1=true then(if 0<x2 then(0<=(w (x2-1))/\(∃e3,cd[(w (x2-1)).toNat]?=some e3/\(if e1<=e3 then(some (Bo false,[])=some r)else(Zms cd cn x x1 (w (x2+1))=some r))))else(Zms cd cn x x1 (w (x2+1))=some r))else(some (Bo false,[])=some r)))))else(some (Bo true,[])=some r)))/\
 (∀⦃a a1 r⦄,Im (Zmr a a1=some r) (Zms a a1 a (a.length:Int) 0=some r))))/\
 (((∀⦃cl co x x1 x2 r⦄,Im (Zqj cl co x x1 x2=some r) (if x2<x1 then(0<=x2/\(∃e1,x[x2.toNat]?=some e1/\(∃v1,Z4 e1 0 (w ((co.length:Int)-1))=some (Bo v1,[])/\(if v1=true then(0<=e1/\(∃e3,co[e1.toNat]?=some e3/\(cl.length+1<=68719476736/\(Zqj (cl++[e3]) co x x1 (w (x2+1))=some r))))else(some (.tup [.t .nil,Bo false],[])=some r)))))else(some (.tup [.own 0,Bo true],[.arr 3 1 true (cl.map ic)])=some r)))/\
 (∀⦃a a1 r⦄,Im (Zcv a a1=some r) (Zqj ([]:List Int) a a1 (a1.length:Int) 0=some r)))/\
 ((∀⦃a r⦄,Im (Zex a=some r) (a.length<=68719476736/\(some (.own 0,[.arr 3 1 true (a.map ic)])=some r)))/\
 (∀⦃cl x x1 x2 r⦄,Im (Zmt cl x x1 x2=some r) (if x2<x1 then(0<=x2/\(∃e1,x[x2.toNat]?=some e1/\(∃(v1:List Int),Zex e1=some (.own 0,[.arr 3 1 true (v1.map ic)])/\(cl.length+1<=68719476736/\(Zmt (cl++[v1]) x x1 (w (x2+1))=some r)))))else(some (.own 0,[.arr 56 1 true (cl.map isc)])=some r))))))/\
 (((∀⦃a r⦄,Im (Zgo a=some r) (Zmt ([]:List (List Int)) a (a.length:Int) 0=some r))/\
 ((∀⦃a r⦄,Im (Zqk a=some r) (∃(v:List (List Int)),Zgo a=some (.own 0,[.arr 56 1 true (v.map isc)])/\(∃(v1:List (List Int)),Z3o v=some (.tup [],[.arr 56 1 true (v1.map isc)])/\(∃(v2:List (List Int)),Z3p v1=some (.own 1,[.dead,.arr 56 1 true (v2.map isc)])/\(some (.own 0,[.arr 56 1 true (v2.map isc)])=some r)))))/\
 (∀⦃s1 s2 x x1 r⦄,Im (Zql s1 s2 x x1=some r) (if x1<x then(0<=x1/\(∃e1,s1[x1.toNat]?=some e1/\(∃e2,s2[x1.toNat]?=some e2/\(if e1=e2 then(Zql s1 s2 x (w (x1+1))=some r)else(some (Bo false,[])=some r)))))else(some (Bo true,[])=some r)))))/\
 (((∀⦃a a1 r⦄,Im (Zhf a a1=some r) (if(a.length:Int)=(a1.length:Int)then(Zql a a1 (a.length:Int) 0=some r)else(some (Bo false,[])=some r)))/\
 (∀⦃all cc c x x1 r⦄,Im (Zkb all cc c x x1=some r) (if x1<x then(0<=x1/\(∃e1,cc[x1.toNat]?=some e1/\(Zmu all cc c x1 e1 x x1 (all.length:Int) 0=some r)))else(some (.tup [.own 0,.own 1],[.arr 56 1 true (cc.map isc),.arr 3 1 true (c.map ic)])=some r))))/\
 ((∀⦃all cc c i g x x1 x2 x3 r⦄,Im (Zmu all cc c i g x x1 x2 x3=some r) (if x3<x2 then(0<=x3/\(∃e1,all[x3.toNat]?=some e1/\(∃v1,Zhf g e1=some (Bo v1,[])/\(if v1=true then(0<=i/\(∃e3,c[i.toNat]?=some e3/\(Zmu all cc (c.set i.toNat (w (e3+1))) i g x x1 x2 (w (x3+1))=some r)))else(Zmu all cc c i g x x1 x2 (w (x3+1))=some r)))))else(Zkb all cc c x (w (x1+1))=some r)))/\
 (∀⦃a a1 r⦄,Im (Zf2 a a1=some r) (∃v,Zgn a=some (Bo v,[])/\(if v=true then(∃v1,Zmr a1 a.Arity=some (Bo v1,[])/\(if v1=true then(Zhg ([]:List (List Int)) a1 a.Rows (a.Rows.length:Int) 0=some r)else(some (.tup [.t .nil,.t .nil],[])=some r)))else(some (.tup [.t .nil,.t .nil],[])=some r))))))):=by
 and_intros
 all_goals intros
 all_goals unfold Im
 all_goals try simp only[Zmq,Zms,Zmr,Zqj,Zcv,Zex,Zmt,Zgo,Zqk,Zql,Zhf,Zkb,Zmu,Zf2,Z4,Z3o,Z3p,Zgn,Zc.c_def,Ziu,Zhg,mpl,dfs]
 all_goals try simp only[itb]
 all_goals try simp only[itf,gS,kk]
 all_goals repeat' first|refine exI λ_=>?_|refine anJ λ_ _=>?_|refine anI λ_=>?_|refine orE2 ?_ ?_|exact False.elim
 all_goals (intro h;first|refine run Zb2u rfl ?_|rw[Ze Z3i.eq_1]|refine run Zb2v rfl ?_|rw[Ze Z3k.eq_1]|refine run Zb2w rfl ?_|refine run Zb2x rfl ?_|rw[Ze Z3m.eq_1]|refine run Zb2y rfl ?_|refine run Zb2z rfl ?_|rw[Ze Z3q.eq_1]|refine run Zb20 rfl ?_|rw[Ze Zwr.eq_1]|rw[Ze Z3t.eq_1]|refine run Zb21 rfl ?_)
 all_goals (refine Yf ?_ h;clear h;simp +decide[*,kk,tI,tII,Zbgc,Z3j,Zbgd,Z3l,Zbge,Zbgf,Z3n,Zbgg,Zbgh,Z3r,Zbgi,Zws,Zbgj,Z3u,Zbgk])
abbrev Zb8d:=Zeg.1.1.1
abbrev Zbn2:=Zeg.1.1.2.1
abbrev Zb8e:=Zeg.1.1.2.2
abbrev Zbn3:=Zeg.1.2.1.1
abbrev Zb8f:=Zeg.1.2.1.2
abbrev Zbn4:=Zeg.1.2.2.1
abbrev Zz0:=Zeg.1.2.2.2
abbrev Zbn5:=Zeg.2.1.1
abbrev Zb8g:=Zeg.2.1.2.1
abbrev Zbn6:=Zeg.2.1.2.2
abbrev Zb8h:=Zeg.2.2.1.1
abbrev Zbn7:=Zeg.2.2.1.2
abbrev Zbn8:=Zeg.2.2.2.1
abbrev Zb8i:=Zeg.2.2.2.2
theorem Zbn9{all:List (List Int)}{c:List Int}{x:List (List Int)}{x1 x2:Int}{r:AV×List Blk}(h:(if x2<x1 then(0<=x2/\(∃(e1:List Int),x[x2.toNat]?=some e1/\((Zcv e1 c=some (.tup [.t .nil,Bo false],[])/\(all.length+1<=68719476736/\(Zhg (all++[[]]) c x x1 (w (x2+1))=some r)))\/(∃(v:List Int),Zcv e1 c=some (.tup [.own 0,Bo true],[.arr 3 1 true (v.map ic)])/\(all.length+1<=68719476736/\(Zhg (all++[v]) c x x1 (w (x2+1))=some r))))))else(∃(v1:List (List Int)),Zqk all=some (.own 0,[.arr 56 1 true (v1.map isc)])/\(0<=(v1.length:Int)/\((v1.length:Int)<=(v1.length:Int)/\((v1.length:Int).toNat*8<=room/\((v1.length:Int)<=140737488355328/\(Zkb all v1 (List.replicate ((v1.length:Int)).toNat 0) (v1.length:Int) 0=some r)))))))):Zhg all c x x1 x2=some r:=by
 unfold Zhg;rw[Ze Z3s.eq_1];by_cases q1:x2<x1
 .rw[if_pos q1]at h;obtain⟨q2,h⟩:=h;obtain⟨e1,q3,h⟩:=h;have gq3:=Zhe q3;have kq3:=Zir q3;rcases h with h|h
  .obtain⟨q4,h⟩:=h;unfold Zcv at q4
   try simp at q4
   obtain⟨q5,h⟩:=h;have rq5:=Zet (b:=24) q5 (by omega);have sq5:=Zeu q5
   try simp[*]at rq5
   try simp[*]at sq5
   refine Yf ?_ h;clear h;simp +decide[*,tI,tII,Zhg]
  .obtain⟨v,q6,h⟩:=h;unfold Zcv at q6
   try simp at q6
   obtain⟨q7,h⟩:=h;have rq7:=Zet (b:=24) q7 (by omega);have sq7:=Zeu q7
   try simp[*]at rq7
   try simp[*]at sq7
   refine Yf ?_ h;clear h;simp +decide[*,tI,tII,Zhg]
 .rw[if_neg q1]at h;obtain⟨v1,q8,h⟩:=h;unfold Zqk at q8
  try simp at q8
  obtain⟨q9,h⟩:=h;have zq9:=q9;try simp at zq9
  obtain⟨q10,h⟩:=h;have zq10:=q10;try simp at zq10
  obtain⟨q11,h⟩:=h;have zq11:=q11;try simp at zq11
  obtain⟨q12,h⟩:=h;have zq12:=q12;try simp at zq12
  refine Yf ?_ h;clear h;simp +decide[*,tI,tII,Zkb,Z3v]
theorem Zcx:((((∀⦃t cv cu cn cp co cc x x1 x2 r⦄,Im (Z3w t cv cu cn cp co cc x x1 x2=some r) (if x2<x1 then(0<=x2/\(∃e1,x[x2.toNat]?=some e1/\((Zf2 t e1=some (.tup [.t .nil,.t .nil],[])/\(Zkc t cv cu cn cp co cc false ([(⟨e1,[],[]⟩:Zf)]) x x1 (w (x2+1))=some r))\/(∃(v6:List (List Int)) (v7:List Int),Zf2 t e1=some (.tup [.own 0,.own 1],[.arr 56 1 true (v6.map isc),.arr 3 1 true (v7.map ic)])/\(Zkc t cv cu cn cp co cc false ([(⟨e1,v6,v7⟩:Zf)]) x x1 (w (x2+1))=some r)))))else(some (.agg [.t (.str cp),I co,I cc,.t .nil],[])=some r)))/\
 (∀⦃t cv cu cn cp co cc fr x x1 x2 x3 r⦄,Im (Zkc t cv cu cn cp co cc fr x x1 x2 x3=some r) (if x3<x2 then(0<=x3/\(∃e1,x1[x3.toNat]?=some e1/\((Zf2 t e1=some (.tup [.t .nil,.t .nil],[])/\(x.length+1<=68719476736/\(Zkc t cv cu cn cp co cc false (x++[(⟨e1,[],[]⟩:Zf)]) x1 x2 (w (x3+1))=some r)))\/(∃(v6:List (List Int)) (v7:List Int),Zf2 t e1=some (.tup [.own 0,.own 1],[.arr 56 1 true (v6.map isc),.arr 3 1 true (v7.map ic)])/\(x.length+1<=68719476736/\(Zkc t cv cu cn cp co cc false (x++[(⟨e1,v6,v7⟩:Zf)]) x1 x2 (w (x3+1))=some r))))))else(some (.agg [.t (.str cp),I co,I cc,.own 0],[.arr 200 3 fr (x.map Zf.c)])=some r))))/\
 ((∀⦃a r⦄,Im (Zgp a=some r) (∃v1,Zgn a=some (Bo v1,[])/\(if v1=true then((Zmq a.Arity=some (.t .nil,[])/\(Zbgm a (⟨#[]⟩:ByteArray) 0 0 a.Name a.Arity (a.Rows.length:Int) 0 0=some r))\/(∃(v6:List (List Int)),Zmq a.Arity=some (.own 0,[.arr 56 1 true (v6.map isc)])/\(Z3w a (⟨#[]⟩:ByteArray) 0 0 a.Name a.Arity (a.Rows.length:Int) v6 (v6.length:Int) 0=some r)))else(some (.agg [.t (.str (⟨#[]⟩:ByteArray)),I 0,I 0,.t .nil],[])=some r))))/\
 (∀⦃cl cd x x1 x2 r⦄,Im (Z3x cl cd x x1 x2=some r) (if x2<x1 then(0<=x2/\(∃e1,x[x2.toNat]?=some e1/\((∃v3 v4 v5,Zgp e1=some (.agg [.t (.str v3),I v4,I v5,.t .nil],[])/\(Zkd cl cd true ([(⟨v3,v4,v5,[]⟩:Zd)]) x x1 (w (x2+1))=some r))\/(∃v6,∃(v7:List Zf),∃v8,∃v9,∃v10,Zgp e1=some (.agg [.t (.str v8),I v9,I v10,.own 0],[.arr 200 3 v6 (v7.map Zf.c)])/\(Zkd cl cd v6 ([(⟨v8,v9,v10,v7⟩:Zd)]) x x1 (w (x2+1))=some r)))))else(some (.tup [.agg [I cd,.t .nil],Bo true],[])=some r)))))/\
 (((∀⦃cl cd fr x x1 x2 x3 r⦄,Im (Zkd cl cd fr x x1 x2 x3=some r) (if x3<x2 then(0<=x3/\(∃e1,x1[x3.toNat]?=some e1/\((∃v3 v4 v5,Zgp e1=some (.agg [.t (.str v3),I v4,I v5,.t .nil],[])/\(x.length+1<=68719476736/\(Zkd cl cd fr (x++[(⟨v3,v4,v5,[]⟩:Zd)]) x1 x2 (w (x3+1))=some r)))\/(∃v6,∃(v7:List Zf),∃v8,∃v9,∃v10,Zgp e1=some (.agg [.t (.str v8),I v9,I v10,.own 0],[.arr 200 3 v6 (v7.map Zf.c)])/\(x.length+1<=68719476736/\(Zkd cl cd (fr && v6) (x++[(⟨v8,v9,v10,v7⟩:Zd)]) x1 x2 (w (x3+1))=some r))))))else(some (.tup [.agg [I cd,.own 0],Bo true],[.arr 141 4 fr (x.map Zd.c)])=some r)))/\
 (∀⦃a a1 r⦄,Im (Zmv a a1=some r) (∃v1,Zmn a=some (Bo v1,[])/\(if v1=true then(∃v3,Z4 a1 1 999=some (Bo v3,[])/\(if v3=true then(Z3x 0 a1 a.Tables (a.Tables.length:Int) 0=some r)else(some (.tup [.agg [I 0,.t .nil],Bo false],[])=some r)))else(some (.tup [.agg [I 0,.t .nil],Bo false],[])=some r)))))/\
 ((∀⦃s2 x x1 r⦄,Im (Z30 s2 x x1=some r) (if x1<x then False else(some (Bo true,[])=some r)))/\
 ((∀⦃a r⦄,Im (Z3z a=some r) (if 0=(a.length:Int)then(Z30 a 0 0=some r)else(some (Bo false,[])=some r)))/\
 (∀⦃cl a r⦄,Im (Zqq cl a=some r) (if cl=a.Version then(∃v1,Z3z a.Tables=some (Bo v1,[])/\(some (Bo v1,[])=some r))else(some (Bo false,[])=some r)))))))/\
 ((((∀⦃a a1 r⦄,Im (Z32 a a1=some r) (some (Bo (decide (a.Name=a1)),[])=some r))/\
 (∀⦃s f x x1 r⦄,Im (Zqr s f x x1=some r) (if x1<x then(0<=x1/\(∃e1,s[x1.toNat]?=some e1/\(∃v3,Z32 e1 f=some (Bo v3,[])/\(if v3=true then(some (I x1,[])=some r)else(Zqr s f x (w (x1+1))=some r)))))else(some (I (-1),[])=some r))))/\
 ((∀⦃a a1 r⦄,Im (Z35 a a1=some r) (Zqr a a1 (a.length:Int) 0=some r))/\
 (∀⦃a r⦄,Im (Z36 a=some r) (∃(v1:List (List Int)),Zgo a.Rows=some (.own 0,[.arr 56 1 true (v1.map isc)])/\(some (.agg [.t (.str a.Name),I a.Arity,.own 0],[.arr 56 1 true (v1.map isc)])=some r)))))/\
 (((∀⦃a a1 r⦄,Im (Zbw a a1=some r) (∃v1,Z35 a.Tables a1=some (I v1,[])/\(if v1<0 then(some (.tup [.agg [.t (.str (⟨#[]⟩:ByteArray)),I 0,.t .nil],Bo false],[])=some r)else(∃v3,Zmn a=some (Bo v3,[])/\(if v3=true then(0<=v1/\(∃e3,a.Tables[v1.toNat]?=some e3/\(∃(v11:List (List Int)),∃v12,∃v13,Z36 e3=some (.agg [.t (.str v12),I v13,.own 0],[.arr 56 1 true (v11.map isc)])/\(some (.tup [.agg [.t (.str v12),I v13,.own 0],Bo true],[.arr 56 1 true (v11.map isc)])=some r))))else(some (.tup [.agg [.t (.str (⟨#[]⟩:ByteArray)),I 0,.t .nil],Bo false],[])=some r))))))/\
 (∀⦃s v x x1 r⦄,Im (Zqs s v x x1=some r) (if x1<x then(0<=x1/\(∃e1,s[x1.toNat]?=some e1/\(if v=e1 then(some (I x1,[])=some r)else(Zqs s v x (w (x1+1))=some r))))else(some (I (-1),[])=some r))))/\
 ((∀⦃a a1 r⦄,Im (Zwv a a1=some r) (Zqs a a1 (a.length:Int) 0=some r))/\
 ((∀⦃a a1 r⦄,Im (Zey a a1=some r) (∃v1,Zwv a a1=some (I v1,[])/\(some (Bo (decide (0<=v1)),[])=some r)))/\
 (∀⦃a a1 r⦄,Im (Zmw a a1=some r) ((∃v1 v2,Zbw a a1.Name=some (.tup [.agg [.t (.str v1),I v2,.t .nil],Bo false],[])/\(some (Bo false,[])=some r))\/(∃(v3:List (List Int)),∃v4,∃v5,Zbw a a1.Name=some (.tup [.agg [.t (.str v4),I v5,.own 0],Bo true],[.arr 56 1 true (v3.map isc)])/\(∃v6,Zmr a1.From v5=some (Bo v6,[])/\(if v6=true then(∃v11,Z4 a1.To 0 (w (v5-1))=some (Bo v11,[])/\(if v11=true then(∃v14,Zey a1.From a1.To=some (Bo v14,[])/\(some (Bo (!v14),[])=some r))else(some (Bo false,[])=some r)))else(some (Bo false,[])=some r)))))))))):=by
 and_intros
 all_goals intros
 all_goals unfold Im
 all_goals try simp only[Z3w,Zkc,Zgp,Z3x,Zkd,Zmv,Z30,Z3z,Zqq,Z32,Zqr,Z35,Z36,Zbw,Zqs,Zwv,Zey,Zmw,Zf2,Zc.c_def,Zgn,Zmq,Zmn,Z4,Zh.c_def,Zd.c_def,Zgo,Zmr,Zbgm,mpl,dfs]
 all_goals try simp only[itb]
 all_goals try simp only[itf,gS,kk]
 all_goals repeat' first|refine exI λ_=>?_|refine anJ λ_ _=>?_|refine anI λ_=>?_|refine orE2 ?_ ?_|exact False.elim
 all_goals (intro h;first|rw[Ze Zqm.eq_1]|refine run Zb22 rfl ?_|rw[Ze Zwt.eq_1]|refine run Zb23 rfl ?_|rw[Ze Zqo.eq_1]|refine run Zbnq rfl ?_|refine run Zbnr rfl ?_|refine run Zb24 rfl ?_|rw[Ze Z33.eq_1]|refine run Zb25 rfl ?_|refine run Zb26 rfl ?_|refine run Zb27 rfl ?_|rw[Ze Z37.eq_1]|refine run Zb28 rfl ?_|refine run Zb29 rfl ?_|refine run Zb3a rfl ?_)
 all_goals (refine Yf ?_ h;clear h;simp +decide[*,kk,tI,tII,Zqn,Zbgl,Zwu,Zbgn,Zqp,Z3y,Z31,Zbgo,Z34,Zbgp,Zbgq,Zbgr,Z38,Zbgs,Zbgt,Zbgu])
abbrev Zb8j:=Zcx.1.1.1.1
abbrev Zboa:=Zcx.1.1.1.2
abbrev Zb8k:=Zcx.1.1.2.1
abbrev Zb8l:=Zcx.1.1.2.2
abbrev Zbob:=Zcx.1.2.1.1
abbrev Zb8m:=Zcx.1.2.1.2
abbrev Zb8n:=Zcx.1.2.2.1
abbrev Zb8o:=Zcx.1.2.2.2.1
abbrev Zb8p:=Zcx.1.2.2.2.2
abbrev Zb8q:=Zcx.2.1.1.1
abbrev Zboc:=Zcx.2.1.1.2
abbrev Zb8r:=Zcx.2.1.2.1
abbrev Zb8s:=Zcx.2.1.2.2
abbrev Zb8t:=Zcx.2.2.1.1
abbrev Zbod:=Zcx.2.2.1.2
abbrev Zb8u:=Zcx.2.2.2.1
abbrev Zb8v:=Zcx.2.2.2.2.1
abbrev Zb8w:=Zcx.2.2.2.2.2
theorem Zde:((((∀⦃f t x x1 x2 r⦄,Im (Zmx f t x x1 x2=some r) (if x2<x1 then(0<=x2/\(∃e1,x[x2.toNat]?=some e1/\(x2.toNat<=t.Rows.length/\(Zd4 f t x2 e1 x x1 x2 (t.Rows.take x2.toNat) ((t.Rows.take x2.toNat).length:Int) 0=some r))))else(some (.t .nil,[])=some r)))/\
 (∀⦃f t k y x x1 x2 x3 x4 x5 r⦄,Im (Zd4 f t k y x x1 x2 x3 x4 x5=some r) (if x5<x4 then(0<=x5/\(∃e1,x3[x5.toNat]?=some e1/\((Zcv e1 f.From=some (.tup [.t .nil,Bo false],[])/\((Zcv y f.From=some (.tup [.t .nil,Bo false],[])/\(∃v7,Zbgv=some (Bo v7,[])/\(if v7=true then(0<=f.To/\(∃e5,e1[f.To.toNat]?=some e5/\(∃e6,y[f.To.toNat]?=some e6/\(if e5=e6 then(Zd4 f t k y x x1 x2 x3 x4 (w (x5+1))=some r)else(some (.own 0,[.arr 3 1 true (([x5,k]).map ic)])=some r)))))else(Zd4 f t k y x x1 x2 x3 x4 (w (x5+1))=some r))))\/(∃(v16:List Int),Zcv y f.From=some (.tup [.own 0,Bo true],[.arr 3 1 true (v16.map ic)])/\(∃v19,Zbgw v16=some (Bo v19,[])/\(if v19=true then(0<=f.To/\(∃e9,e1[f.To.toNat]?=some e9/\(∃e10,y[f.To.toNat]?=some e10/\(if e9=e10 then(Zd4 f t k y x x1 x2 x3 x4 (w (x5+1))=some r)else(some (.own 0,[.arr 3 1 true (([x5,k]).map ic)])=some r)))))else(Zd4 f t k y x x1 x2 x3 x4 (w (x5+1))=some r))))))\/(∃(v20:List Int),Zcv e1 f.From=some (.tup [.own 0,Bo true],[.arr 3 1 true (v20.map ic)])/\((Zcv y f.From=some (.tup [.t .nil,Bo false],[])/\(∃v21,Zbgx v20=some (Bo v21,[])/\(if v21=true then(0<=f.To/\(∃e14,e1[f.To.toNat]?=some e14/\(∃e15,y[f.To.toNat]?=some e15/\(if e14=e15 then(Zd4 f t k y x x1 x2 x3 x4 (w (x5+1))=some r)else(some (.own 0,[.arr 3 1 true (([x5,k]).map ic)])=some r)))))else(Zd4 f t k y x x1 x2 x3 x4 (w (x5+1))=some r))))\/(∃(v22:List Int),Zcv y f.From=some (.tup [.own 0,Bo true],[.arr 3 1 true (v22.map ic)])/\(∃v23,Zhf v20 v22=some (Bo v23,[])/\(if v23=true then(0<=f.To/\(∃e18,e1[f.To.toNat]?=some e18/\(∃e19,y[f.To.toNat]?=some e19/\(if e18=e19 then(Zd4 f t k y x x1 x2 x3 x4 (w (x5+1))=some r)else(some (.own 0,[.arr 3 1 true (([x5,k]).map ic)])=some r)))))else(Zd4 f t k y x x1 x2 x3 x4 (w (x5+1))=some r)))))))))else(Zmx f t x x1 (w (x2+1))=some r))))/\
 ((∀⦃a a1 r⦄,Im (Zqv a a1=some r) (∃v,Zmw a a1=some (Bo v,[])/\(if v=true then((∃v2 v3,Zbw a a1.Name=some (.tup [.agg [.t (.str v2),I v3,.t .nil],Bo false],[])/\(Zbgz a1 v2 v3 0 0=some r))\/(∃(v4:List (List Int)),∃v5,∃v6,Zbw a a1.Name=some (.tup [.agg [.t (.str v5),I v6,.own 0],Bo true],[.arr 56 1 true (v4.map isc)])/\(Zmx a1 (⟨v5,v6,v4⟩:Zc) v4 (v4.length:Int) 0=some r)))else(some (.t .nil,[])=some r))))/\
 (∀⦃a a1 r⦄,Im (Zww a a1=some r) (∃v,Zmw a a1=some (Bo v,[])/\(if v=true then((Zqv a a1=some (.t .nil,[])/\(some (Bo true,[])=some r))\/(∃(v4:List Int),Zqv a a1=some (.own 0,[.arr 3 1 true (v4.map ic)])/\(some (Bo (decide ((v4.length:Int)=0)),[])=some r)))else(some (Bo false,[])=some r))))))/\
 (((∀⦃a a1 r⦄,Im (Zqw a a1=some r) ((∃v v1,Zbw a a1.Name=some (.tup [.agg [.t (.str v),I v1,.t .nil],Bo false],[])/\((∃v2 v3,Zbw a a1.Into=some (.tup [.agg [.t (.str v2),I v3,.t .nil],Bo false],[])/\(some (Bo false,[])=some r))\/(∃(v4:List (List Int)),∃v5,∃v6,Zbw a a1.Into=some (.tup [.agg [.t (.str v5),I v6,.own 0],Bo true],[.arr 56 1 true (v4.map isc)])/\(some (Bo false,[])=some r))))\/(∃(v7:List (List Int)),∃v8,∃v9,Zbw a a1.Name=some (.tup [.agg [.t (.str v8),I v9,.own 0],Bo true],[.arr 56 1 true (v7.map isc)])/\((∃v10 v11,Zbw a a1.Into=some (.tup [.agg [.t (.str v10),I v11,.t .nil],Bo false],[])/\(some (Bo false,[])=some r))\/(∃(v13:List (List Int)),∃v14,∃v15,Zbw a a1.Into=some (.tup [.agg [.t (.str v14),I v15,.own 0],Bo true],[.arr 56 1 true (v13.map isc)])/\(∃v16,Z4 a1.Column 0 (w (v9-1))=some (Bo v16,[])/\(if v16=true then(∃v19,Z4 a1.IntoColumn 0 (w (v15-1))=some (Bo v19,[])/\(some (Bo v19,[])=some r))else(some (Bo false,[])=some r))))))))/\
 (∀⦃x co cn x1 cd x2 x3 x4 r⦄,Im (Zqy x co cn x1 cd x2 x3 x4=some r) (if x4<x3 then(0<=x4/\(∃e1,x2[x4.toNat]?=some e1/\(0<=x.IntoColumn/\(∃e2,e1[x.IntoColumn.toNat]?=some e2/\(cd.length+1<=68719476736/\(Zqy x co cn x1 (cd++[e2]) x2 x3 (w (x4+1))=some r))))))else(Zm0 x cd ([]:List Int) x1 (x1.length:Int) 0=some r))))/\
 ((∀⦃x cd cl x1 x2 x3 r⦄,Im (Zm0 x cd cl x1 x2 x3=some r) (if x3<x2 then(0<=x3/\(∃e1,x1[x3.toNat]?=some e1/\(0<=x.Column/\(∃e2,e1[x.Column.toNat]?=some e2/\(∃v4,Zey cd e2=some (Bo v4,[])/\(if v4=true then(Zm0 x cd cl x1 x2 (w (x3+1))=some r)else(cl.length+1<=68719476736/\(Zm0 x cd (cl++[e2]) x1 x2 (w (x3+1))=some r))))))))else(∃(v7:List Int),Zke cl=some (.tup [],[.arr 3 1 true (v7.map ic)])/\(∃(v10:List Int),Zwx v7=some (.own 1,[.dead,.arr 3 1 true (v10.map ic)])/\(some (.own 0,[.arr 3 1 true (v10.map ic)])=some r)))))/\
 (∀⦃a a1 r⦄,Im (Zqx a a1=some r) (∃v,Zqw a a1=some (Bo v,[])/\(if v=true then((∃v2 v3,Zbw a a1.Name=some (.tup [.agg [.t (.str v2),I v3,.t .nil],Bo false],[])/\((∃v4 v5,Zbw a a1.Into=some (.tup [.agg [.t (.str v4),I v5,.t .nil],Bo false],[])/\(Zbg4 a1 v2 v3 ([]:List Int) 0 0=some r))\/(∃(v7:List (List Int)),∃v8,∃v9,Zbw a a1.Into=some (.tup [.agg [.t (.str v8),I v9,.own 0],Bo true],[.arr 56 1 true (v7.map isc)])/\(Zbg5 a1 v2 v3 ([]:List Int) v7 (v7.length:Int) 0=some r))))\/(∃(v10:List (List Int)),∃v11,∃v12,Zbw a a1.Name=some (.tup [.agg [.t (.str v11),I v12,.own 0],Bo true],[.arr 56 1 true (v10.map isc)])/\((∃v13 v14,Zbw a a1.Into=some (.tup [.agg [.t (.str v13),I v14,.t .nil],Bo false],[])/\(Zbg6 a1 v11 v12 v10 ([]:List Int) 0 0=some r))\/(∃(v16:List (List Int)),∃v17,∃v18,Zbw a a1.Into=some (.tup [.agg [.t (.str v17),I v18,.own 0],Bo true],[.arr 56 1 true (v16.map isc)])/\(Zqy a1 v11 v12 v10 ([]:List Int) v16 (v16.length:Int) 0=some r)))))else(some (.t .nil,[])=some r)))))))/\
 ((((∀⦃a a1 r⦄,Im (Zwy a a1=some r) (∃v,Zqw a a1=some (Bo v,[])/\(if v=true then((Zqx a a1=some (.t .nil,[])/\(some (Bo true,[])=some r))\/(∃(v4:List Int),Zqx a a1=some (.own 0,[.arr 3 1 true (v4.map ic)])/\(some (Bo (decide ((v4.length:Int)=0)),[])=some r)))else(some (Bo false,[])=some r))))/\
 (∀⦃db cc c x x1 x2 r⦄,Im (Zqz db cc c x x1 x2=some r) (if x2<x1 then(0<=x2/\(∃e1,x[x2.toNat]?=some e1/\(∃v2,Zww db e1=some (Bo v2,[])/\(if v2=true then(Zqz db cc c x x1 (w (x2+1))=some r)else(some (Bo false,[])=some r)))))else(Zq0 db cc c c (c.length:Int) 0=some r))))/\
 ((∀⦃db cc c x x1 x2 r⦄,Im (Zq0 db cc c x x1 x2=some r) (if x2<x1 then(0<=x2/\(∃e1,x[x2.toNat]?=some e1/\(∃v2,Zwy db e1=some (Bo v2,[])/\(if v2=true then(Zq0 db cc c x x1 (w (x2+1))=some r)else(some (Bo false,[])=some r)))))else(if(cc.length:Int)<=8 then(some (Bo (decide ((c.length:Int)<=8)),[])=some r)else(some (Bo false,[])=some r))))/\
 (∀⦃a a1 a2 r⦄,Im (Zm1 a a1 a2=some r) (Zqz a a1 a2 a1 (a1.length:Int) 0=some r))))/\
 (((∀⦃a a1 r⦄,Im (Z4h a a1=some r) (∃v,Zhf a a1=some (Bo v,[])/\(some (Bo v,[])=some r)))/\
 (∀⦃s2 x x1 x2 r⦄,Im (Zq1 s2 x x1 x2=some r) (if x2<x1 then(0<=x2/\(∃e1,x[x2.toNat]?=some e1/\(∃e2,s2[x2.toNat]?=some e2/\(∃v4,Z4h e1 e2=some (Bo v4,[])/\(if v4=true then(Zq1 s2 x x1 (w (x2+1))=some r)else(some (Bo false,[])=some r))))))else(some (Bo true,[])=some r))))/\
 ((∀⦃a a1 r⦄,Im (Z4k a a1=some r) (if(a.length:Int)=(a1.length:Int)then(Zq1 a1 a (a.length:Int) 0=some r)else(some (Bo false,[])=some r)))/\
 ((∀⦃a a1 r⦄,Im (Zwz a a1=some r) (∃v,Z4k a a1=some (Bo v,[])/\(some (Bo v,[])=some r)))/\
 (∀⦃a a1 r⦄,Im (Zq2 a a1=some r) (∃v,Zhf a.Columns a1.Columns=some (Bo v,[])/\(if v=true then(∃v2,Zwz a.Values a1.Values=some (Bo v2,[])/\(if v2=true then(∃v4,Zhf a.Counts a1.Counts=some (Bo v4,[])/\(some (Bo v4,[])=some r))else(some (Bo false,[])=some r)))else(some (Bo false,[])=some r)))))))):=by
 and_intros
 all_goals intros
 all_goals unfold Im
 all_goals try simp only[Zmx,Zd4,Zqv,Zww,Zqw,Zqy,Zm0,Zqx,Zwy,Zqz,Zq0,Zm1,Z4h,Zq1,Z4k,Zwz,Zq2,Zcv,Zbgv,Zbgw,Zbgx,Zhf,Zmw,Zbw,Zh.c_def,Zm.c_def,Z4,Zey,Zke,Zwx,Zi.c_def,Zbgz,Zbg4,Zbg5,Zbg6,mpl,dfs]
 all_goals try simp only[itb]
 all_goals try simp only[itf,gS,kk]
 all_goals repeat' first|refine exI λ_=>?_|refine anJ λ_ _=>?_|refine anI λ_=>?_|refine orE2 ?_ ?_|exact False.elim
 all_goals (intro h;first|rw[Ze Zqt.eq_1]|rw[Ze Z39.eq_1]|refine run Zb3b rfl ?_|refine run Zb3c rfl ?_|refine run Zb3d rfl ?_|rw[Ze Zmy.eq_1]|rw[Ze Z4b.eq_1]|refine run Zb3e rfl ?_|refine run Zb3f rfl ?_|rw[Ze Z4d.eq_1]|rw[Ze Z4e.eq_1]|refine run Zb3g rfl ?_|refine run Zb3h rfl ?_|rw[Ze Z4i.eq_1]|refine run Zb3i rfl ?_|refine run Zb3j rfl ?_|refine run Zb3k rfl ?_)
 all_goals (refine Yf ?_ h;clear h;simp +decide[*,kk,tI,tII,Zqu,Z4a,Zbgy,Zbg0,Zbg1,Zmz,Zbg2,Z4c,Zbg3,Zbg7,Z4g,Z4f,Zbg8,Zbg9,Z4j,Zbha,Zbhb,Zbhc])
abbrev Zboe:=Zde.1.1.1.1
abbrev Zbof:=Zde.1.1.1.2
abbrev Zb8x:=Zde.1.1.2.1
abbrev Zb8y:=Zde.1.1.2.2
abbrev Zb8z:=Zde.1.2.1.1
abbrev Zbog:=Zde.1.2.1.2
abbrev Zboh:=Zde.1.2.2.1
abbrev Zb80:=Zde.1.2.2.2
abbrev Zb81:=Zde.2.1.1.1
abbrev Zboi:=Zde.2.1.1.2
abbrev Zboj:=Zde.2.1.2.1
abbrev Zb82:=Zde.2.1.2.2
abbrev Zb83:=Zde.2.2.1.1
abbrev Zbok:=Zde.2.2.1.2
abbrev Zb84:=Zde.2.2.2.1
abbrev Zb85:=Zde.2.2.2.2.1
abbrev Zb86:=Zde.2.2.2.2.2
theorem Zcy:((((∀⦃s2 x x1 x2 r⦄,Im (Zq3 s2 x x1 x2=some r) (if x2<x1 then(0<=x2/\(∃e1,x[x2.toNat]?=some e1/\(∃e2,s2[x2.toNat]?=some e2/\(∃v5,Zq2 e1 e2=some (Bo v5,[])/\(if v5=true then(Zq3 s2 x x1 (w (x2+1))=some r)else(some (Bo false,[])=some r))))))else(some (Bo true,[])=some r)))/\
 (∀⦃a a1 r⦄,Im (Z4n a a1=some r) (if(a.length:Int)=(a1.length:Int)then(Zq3 a1 a (a.length:Int) 0=some r)else(some (Bo false,[])=some r))))/\
 ((∀⦃a a1 r⦄,Im (Zkf a a1=some r) (if a.Name=a1.Name then(if a.Arity=a1.Arity then(if a.RowCount=a1.RowCount then(∃v1,Z4n a.Groups a1.Groups=some (Bo v1,[])/\(some (Bo v1,[])=some r))else(some (Bo false,[])=some r))else(some (Bo false,[])=some r))else(some (Bo false,[])=some r)))/\
 (∀⦃s2 x x1 x2 r⦄,Im (Zq4 s2 x x1 x2=some r) (if x2<x1 then(0<=x2/\(∃e1,x[x2.toNat]?=some e1/\(∃e2,s2[x2.toNat]?=some e2/\(∃v5,Zkf e1 e2=some (Bo v5,[])/\(if v5=true then(Zq4 s2 x x1 (w (x2+1))=some r)else(some (Bo false,[])=some r))))))else(some (Bo true,[])=some r)))))/\
 (((∀⦃a a1 r⦄,Im (Z4o a a1=some r) (if(a.length:Int)=(a1.length:Int)then(Zq4 a1 a (a.length:Int) 0=some r)else(some (Bo false,[])=some r)))/\
 (∀⦃a a1 r⦄,Im (Zw0 a a1=some r) (if a.Version=a1.Version then(∃v1,Z4o a.Tables a1.Tables=some (Bo v1,[])/\(some (Bo v1,[])=some r))else(some (Bo false,[])=some r))))/\
 ((∀⦃a r⦄,Im (Zm2 a=some r) ((∃v1 v2,Zmv a.Zh a.Zn.Version=some (.tup [.agg [I v1,.t .nil],Bo v2],[])/\(if v2=true then(∃v3,Zqq v1 a.Zn=some (Bo v3,[])/\(if v3=true then(∃v5,Zm1 a.Zh a.Dependencies a.Inclusions=some (Bo v5,[])/\(some (Bo v5,[])=some r))else(some (Bo false,[])=some r)))else(some (Bo false,[])=some r)))\/(∃v8,∃(v9:List Zd),∃v10,Zmv a.Zh a.Zn.Version=some (.tup [.agg [I v10,.own 0],Bo true],[.arr 141 4 v8 (v9.map Zd.c)])/\(∃v11,Zw0 (⟨v10,v9⟩:Zn) a.Zn=some (Bo v11,[])/\(if v11=true then(∃v12,Zm1 a.Zh a.Dependencies a.Inclusions=some (Bo v12,[])/\(some (Bo v12,[])=some r))else(some (Bo false,[])=some r))))))/\
 ((∀⦃s v x x1 r⦄,Im (Zq5 s v x x1=some r) (if x1<x then(0<=x1/\(∃e1,s[x1.toNat]?=some e1/\(if v=e1 then(some (I x1,[])=some r)else(Zq5 s v x (w (x1+1))=some r))))else(some (I (-1),[])=some r)))/\
 (∀⦃a a1 r⦄,Im (Zw1 a a1=some r) (Zq5 a a1 (a.length:Int) 0=some r))))))/\
 ((((∀⦃a a1 r⦄,Im (Zw2 a a1=some r) (∃v1,Zw1 a a1=some (I v1,[])/\(some (Bo (decide (0<=v1)),[])=some r)))/\
 (∀⦃q cc x x1 x2 r⦄,Im (Zkg q cc x x1 x2=some r) (if x2<x1 then(0<=x2/\(∃e1,x[x2.toNat]?=some e1/\(∃v3,Zmm e1.Name=some (Bo v3,[])/\(if v3=true then(∃v5,Z4 (e1.Vars.length:Int) 1 3=some (Bo v5,[])/\(if v5=true then(Zq6 q cc e1 x x1 x2 e1.Vars (e1.Vars.length:Int) 0=some r)else(some (Bo false,[])=some r)))else(some (Bo false,[])=some r)))))else(∃v8,Zw2 cc false=some (Bo v8,[])/\(some (Bo (!v8),[])=some r)))))/\
 ((∀⦃q cc a x x1 x2 x3 x4 x5 r⦄,Im (Zq6 q cc a x x1 x2 x3 x4 x5=some r) (if x5<x4 then(0<=x5/\(∃e1,x3[x5.toNat]?=some e1/\(∃v3,Z4 e1 0 (w (q.Zt-1))=some (Bo v3,[])/\(if v3=true then(x5.toNat<=a.Vars.length/\(∃v5,Zey (a.Vars.take x5.toNat) e1=some (Bo v5,[])/\(if v5=true then(some (Bo false,[])=some r)else(0<=e1/\(∃e4,cc[e1.toNat]?=some e4/\(Zq6 q (cc.set e1.toNat true) a x x1 x2 x3 x4 (w (x5+1))=some r))))))else(some (Bo false,[])=some r)))))else(Zkg q cc x x1 (w (x2+1))=some r)))/\
 (∀⦃db x x1 x2 r⦄,Im (Zq7 db x x1 x2=some r) (if x2<x1 then(0<=x2/\(∃e1,x[x2.toNat]?=some e1/\((∃v3 v4,Zbw db e1.Name=some (.tup [.agg [.t (.str v3),I v4,.t .nil],Bo false],[])/\(some (Bo false,[])=some r))\/(∃(v5:List (List Int)),∃v6,∃v7,Zbw db e1.Name=some (.tup [.agg [.t (.str v6),I v7,.own 0],Bo true],[.arr 56 1 true (v5.map isc)])/\(if v7=(e1.Vars.length:Int)then(Zq7 db x x1 (w (x2+1))=some r)else(some (Bo false,[])=some r))))))else(some (Bo true,[])=some r)))))/\
 (((∀⦃a a1 r⦄,Im (Zm3 a a1=some r) (∃v1,Ziv a1=some (Bo v1,[])/\(if v1=true then(Zq7 a a1.Atoms (a1.Atoms.length:Int) 0=some r)else(some (Bo false,[])=some r))))/\
 (∀⦃a r⦄,Im (Zm4 a=some r) (∃v1,Ziv a=some (Bo v1,[])/\(if v1=true then(¬(a.Atoms.length:Int)<0/\(some (I (w ((shlI 1 (a.Atoms.length:Int))-1)),[])=some r))else(some (I 0,[])=some r)))))/\
 ((∀⦃a a1 a2 r⦄,Im (Zfj a a1 a2=some r) (∃v1,Zm2 a=some (Bo v1,[])/\(if v1=true then(∃v3,Zm3 a.Zh a1=some (Bo v3,[])/\(if v3=true then(∃v5,Zm4 a1=some (I v5,[])/\(∃v8,Z4 a2 1 v5=some (Bo v8,[])/\(some (Bo v8,[])=some r)))else(some (Bo false,[])=some r)))else(some (Bo false,[])=some r))))/\
 ((∀⦃cl cd i r⦄,Im (Zm5 cl cd i=some r) (if i<4 then(¬i<0/\(if(andI (shrI cd i) 1)=1 then(cl.length+1<=68719476736/\(Zm5 (cl++[i]) cd (w (i+1))=some r))else(Zm5 cl cd (w (i+1))=some r)))else(some (.own 0,[.arr 3 1 true (cl.map ic)])=some r)))/\
 (∀⦃a r⦄,Im (Zdd a=some r) (∃v1,Z4 a 0 15=some (Bo v1,[])/\(if v1=true then(Zm5 ([]:List Int) a 0=some r)else(some (.t .nil,[])=some r)))))))):=by
 and_intros
 all_goals intros
 all_goals unfold Im
 all_goals try simp only[Zq3,Z4n,Zkf,Zq4,Z4o,Zw0,Zm2,Zq5,Zw1,Zw2,Zkg,Zq6,Zq7,Zm3,Zm4,Zfj,Zm5,Zdd,Zq2,Zf.c_def,Zd.c_def,Zmv,Zqq,Zm1,Zn.c_def,Zh.c_def,Zm.c_def,Zi.c_def,Zmm,Z4,Zey,Zbw,Ziv,Zg.c_def,Zj.c_def,mpl,dfs]
 all_goals try simp only[itb]
 all_goals try simp only[itf,gS,kk]
 all_goals repeat' first|refine exI λ_=>?_|refine anJ λ_ _=>?_|refine anI λ_=>?_|refine orE2 ?_ ?_|exact False.elim
 all_goals (intro h;first|rw[Ze Z4l.eq_1]|refine run Zb3l rfl ?_|refine run Zb3m rfl ?_|rw[Ze Zqo.eq_1]|refine run Zbnq rfl ?_|refine run Zbnr rfl ?_|refine run Zb3n rfl ?_|rw[Ze Z4p.eq_1]|refine run Zb3o rfl ?_|refine run Zb3p rfl ?_|rw[Ze Zw3.eq_1]|rw[Ze Z4r.eq_1]|rw[Ze Z4t.eq_1]|refine run Zb3r rfl ?_|refine run Zb3s rfl ?_|refine run Zb3t rfl ?_|rw[Ze Z4v.eq_1]|refine run Zb3u rfl ?_)
 all_goals (refine Yf ?_ h;clear h;simp +decide[*,kk,tI,tII,Z4m,Zbhd,Zbhe,Zqp,Z3y,Z31,Zbhf,Z4q,Zbhg,Zbhh,Zw4,Z4s,Z4u,Zbhi,Zbhj,Zbhk,Zbhl,Z4w,Zbhm])
abbrev Zbol:=Zcy.1.1.1.1
abbrev Zb87:=Zcy.1.1.1.2
abbrev Zb88:=Zcy.1.1.2.1
abbrev Zbom:=Zcy.1.1.2.2
abbrev Zb89:=Zcy.1.2.1.1
abbrev Zb9a:=Zcy.1.2.1.2
abbrev Zb9b:=Zcy.1.2.2.1
abbrev Zbon:=Zcy.1.2.2.2.1
abbrev Zb9c:=Zcy.1.2.2.2.2
abbrev Zb9d:=Zcy.2.1.1.1
abbrev Zboo:=Zcy.2.1.1.2
abbrev Zbop:=Zcy.2.1.2.1
abbrev Zboq:=Zcy.2.1.2.2
abbrev Zb9e:=Zcy.2.2.1.1
abbrev Zb9f:=Zcy.2.2.1.2
abbrev Zb9g:=Zcy.2.2.2.1
abbrev Zbor:=Zcy.2.2.2.2.1
abbrev Zb9h:=Zcy.2.2.2.2.2
theorem Zb9i{a:Zg}{r:AV×List Blk}(h:(∃(v:Bool),Z4 a.Zt 1 4=some (Bo v,[])/\(if v=true then(∃(v1:Bool),Z4 (a.Atoms.length:Int) 1 4=some (Bo v1,[])/\(if v1=true then(0<=a.Zt/\(a.Zt.toNat*1<=room/\(a.Zt<=140737488355328/\(Zkg a (List.replicate (a.Zt).toNat false) a.Atoms (a.Atoms.length:Int) 0=some r))))else(some (Bo false,[])=some r)))else(some (Bo false,[])=some r)))):Ziv a=some r:=by
 unfold Ziv;refine run Zb3q rfl ?_;obtain⟨v,q1,h⟩:=h;unfold Z4 at q1
 try simp at q1
 by_cases q2:v=true
 .rw[if_pos q2]at h;obtain⟨v1,q3,h⟩:=h;unfold Z4 at q3
  try simp at q3
  by_cases q4:v1=true
  .rw[if_pos q4]at h;obtain⟨q5,h⟩:=h;obtain⟨q6,h⟩:=h;have zq6:=q6;try simp at zq6
   obtain⟨q7,h⟩:=h;refine Yf ?_ h;clear h;simp +decide[*,Zw5,tI,tII,Zkg]
  .rw[if_neg q4]at h;refine Yf ?_ h;clear h;simp +decide[*,Zw5,tI,tII]
 .rw[if_neg q2]at h;refine Yf ?_ h;clear h;simp +decide[*,Zw5,tI,tII]
theorem Zeh:(((∀⦃a r⦄,Im (Ziw a=some r) (if 0<(a.Groups.length:Int)then(0<=(w ((a.Groups.length:Int)-1))/\(∃e1,a.Groups[(w ((a.Groups.length:Int)-1)).toNat]?=some e1/\(∃(v3:List (List Int)),Zgo e1.Values=some (.own 0,[.arr 56 1 true (v3.map isc)])/\(∃v8,Zgn (⟨a.Name,a.Arity,v3⟩:Zc)=some (Bo v8,[])/\(if v8=true then((∃v12 v13 v14,Zgp (⟨a.Name,a.Arity,v3⟩:Zc)=some (.agg [.t (.str v12),I v13,I v14,.t .nil],[])/\(∃v15,Z4x v12 v13 v14 a=some (Bo v15,[])/\(some (.tup [.agg [.t (.str a.Name),I a.Arity,L 1 (v3.map isc)],Bo v15],[])=some r)))\/(∃v16,∃(v17:List Zf),∃v18,∃v19,∃v20,Zgp (⟨a.Name,a.Arity,v3⟩:Zc)=some (.agg [.t (.str v18),I v19,I v20,.own 0],[.arr 200 3 v16 (v17.map Zf.c)])/\(∃v21,Zkf (⟨v18,v19,v20,v17⟩:Zd) a=some (Bo v21,[])/\(some (.tup [.agg [.t (.str a.Name),I a.Arity,L 1 (v3.map isc)],Bo v21],[])=some r))))else(some (.tup [.agg [.t (.str a.Name),I a.Arity,L 1 (v3.map isc)],Bo false],[])=some r))))))else(∃v22,Zbhn a.Name a.Arity=some (Bo v22,[])/\(if v22=true then((∃v23 v24 v25,Z4y a.Name a.Arity=some (.agg [.t (.str v23),I v24,I v25,.t .nil],[])/\(∃v26,Z4x v23 v24 v25 a=some (Bo v26,[])/\(some (.tup [.agg [.t (.str a.Name),I a.Arity,.t .nil],Bo v26],[])=some r)))\/(∃v27,∃(v28:List Zf),∃v29,∃v30,∃v31,Z4y a.Name a.Arity=some (.agg [.t (.str v29),I v30,I v31,.own 0],[.arr 200 3 v27 (v28.map Zf.c)])/\(∃v32,Zkf (⟨v29,v30,v31,v28⟩:Zd) a=some (Bo v32,[])/\(some (.tup [.agg [.t (.str a.Name),I a.Arity,.t .nil],Bo v32],[])=some r))))else(some (.tup [.agg [.t (.str a.Name),I a.Arity,.t .nil],Bo false],[])=some r)))))/\
 ((∀⦃a r⦄,Im (Zm6 a=some r) ((∃(v1:Zc),∃v2,Ziw a=some (.tup [.agg (v1.c.map .t),Bo v2],[])/\(some (Bo v2,[])=some r))\/(∃v3 v4 v5,Ziw a=some (.tup [.agg [.t (.str v3),I v4,.t .nil],Bo v5],[])/\(some (Bo v5,[])=some r))))/\
 (∀⦃s cu co cc cp x x1 x2 r⦄,Im (Zq8 s cu co cc cp x x1 x2=some r) (if x2<x1 then(0<=x2/\(∃e1,x[x2.toNat]?=some e1/\(∃(v3:List Int),Zex e1.Columns=some (.own 0,[.arr 3 1 true (v3.map ic)])/\(∃(v8:List (List Int)),Zgo e1.Values=some (.own 0,[.arr 56 1 true (v8.map isc)])/\(∃(v12:List Int),Zex e1.Counts=some (.own 0,[.arr 3 1 true (v12.map ic)])/\(cp.length+1<=68719476736/\(Zq8 s cu co cc (cp++[(⟨v3,v8,v12⟩:Zf)]) x x1 (w (x2+1))=some r)))))))else(some (.agg [.t (.str s.Name),I s.Arity,I s.RowCount,.own 0],[.arr 200 3 true (cp.map Zf.c)])=some r)))))/\
 (((∀⦃a r⦄,Im (Zw6 a=some r) (Zq8 a (⟨#[]⟩:ByteArray) 0 0 ([]:List Zf) a.Groups (a.Groups.length:Int) 0=some r))/\
 (∀⦃cu co cc cv x x1 x2 r⦄,Im (Zm8 cu co cc cv x x1 x2=some r) (if x2<x1 then(0<=x2/\(∃e1,x[x2.toNat]?=some e1/\(if e1.Name=cv then(∃v3,Zm6 e1=some (Bo v3,[])/\(if v3=true then(∃(v8:List Zf),∃v9,∃v10,∃v11,Zw6 e1=some (.agg [.t (.str v9),I v10,I v11,.own 0],[.arr 200 3 true (v8.map Zf.c)])/\(some (.tup [.agg [.t (.str v9),I v10,I v11,.own 0],Bo true],[.arr 200 3 true (v8.map Zf.c)])=some r))else(Zm8 cu co cc cv x x1 (w (x2+1))=some r)))else(Zm8 cu co cc cv x x1 (w (x2+1))=some r))))else(some (.tup [.agg [.t (.str (⟨#[]⟩:ByteArray)),I 0,I 0,.own 0],Bo false],[.arr 200 3 true (([]:List Zf).map Zf.c)])=some r))))/\
 ((∀⦃a a1 r⦄,Im (Zm7 a a1=some r) (Zm8 (⟨#[]⟩:ByteArray) 0 0 a1 a.Tables (a.Tables.length:Int) 0=some r))/\
 (∀⦃a a1 a2 r⦄,Im (Zhh a a1 a2=some r) (0<=a2/\(∃e1,a1.Atoms[a2.toNat]?=some e1/\(∃(v3:List Zf),∃v4,∃v5,∃v6,∃v7,Zm7 a.Zn e1.Name=some (.tup [.agg [.t (.str v4),I v5,I v6,.own 0],Bo v7],[.arr 200 3 true (v3.map Zf.c)])/\(some (.agg [.t (.str v4),I v5,I v6,.own 0],[.arr 200 3 true (v3.map Zf.c)])=some r))))))))/\
 (((∀⦃s q x n x1 x2 r⦄,Im (Zra s q x n x1 x2=some r) (if x2<x1 then(0<=x2/\(∃e1,x[x2.toNat]?=some e1/\(∃(v3:List Zf),∃v4,∃v5,∃v6,Zhh s q e1=some (.agg [.t (.str v4),I v5,I v6,.own 0],[.arr 200 3 true (v3.map Zf.c)])/\(Zra s q x (w (n*v6)) x1 (w (x2+1))=some r))))else(some (I n,[])=some r)))/\
 ((∀⦃a a1 a2 r⦄,Im (Zq9 a a1 a2=some r) (∃v1,Zfj a a1 a2=some (Bo v1,[])/\(if v1=true then((Zdd a2=some (.t .nil,[])/\(Zbhv a a1 1 0 0=some r))\/(∃(v8:List Int),Zdd a2=some (.own 0,[.arr 3 1 true (v8.map ic)])/\(Zra a a1 v8 1 (v8.length:Int) 0=some r)))else(some (I (-1),[])=some r))))/\
 (∀⦃q cd cn v r⦄,Im (Zkh q cd cn v=some r) (if v<q.Zt then(Zna q cd cn v q.Atoms (q.Atoms.length:Int) 0=some r)else(some (.own 0,[.arr 3 1 true (cd.map ic)])=some r)))))/\
 (((∀⦃q cd cn v x x1 x2 r⦄,Im (Zna q cd cn v x x1 x2=some r) (if x2<x1 then(0<=x2/\(∃e1,x[x2.toNat]?=some e1/\(¬x2<0/\(if(andI (shrI cn x2) 1)=1 then(∃v3,Zey e1.Vars v=some (Bo v3,[])/\(if v3=true then(cd.length+1<=68719476736/\(Zkh q (cd++[v]) cn (w (v+1))=some r))else(Zna q cd cn v x x1 (w (x2+1))=some r)))else(Zna q cd cn v x x1 (w (x2+1))=some r)))))else(Zkh q cd cn (w (v+1))=some r)))/\
 (∀⦃a a1 r⦄,Im (Zm9 a a1=some r) (Zkh a ([]:List Int) a1 0=some r)))/\
 ((∀⦃cd cl x x1 x2 r⦄,Im (Znb cd cl x x1 x2=some r) (if x2<x1 then(0<=x2/\(∃e1,x[x2.toNat]?=some e1/\(∃v3,Zey cl e1=some (Bo v3,[])/\(if v3=true then(cd.length+1<=68719476736/\(Znb (cd++[x2]) cl x x1 (w (x2+1))=some r))else(Znb cd cl x x1 (w (x2+1))=some r)))))else(some (.own 0,[.arr 3 1 true (cd.map ic)])=some r)))/\
 (∀⦃a a1 r⦄,Im (Zix a a1=some r) (Znb ([]:List Int) a1 a.Vars (a.Vars.length:Int) 0=some r))))):=by
 and_intros
 all_goals intros
 all_goals unfold Im
 all_goals try simp only[Ziw,Zm6,Zq8,Zw6,Zm8,Zm7,Zhh,Zra,Zq9,Zkh,Zna,Zm9,Znb,Zix,Zgo,Zgn,Zgp,Z4x,Zkf,Zbhn,Z4y,Zc.c_def,Zd.c_def,Zex,Zn.c_def,Zh.c_def,Zg.c_def,Zj.c_def,Zfj,Zdd,Zey,Zbhv,mpl,dfs]
 all_goals try simp only[itb]
 all_goals try simp only[itf,gS,kk]
 all_goals repeat' first|refine exI λ_=>?_|refine anJ λ_ _=>?_|refine anI λ_=>?_|refine orE2 ?_ ?_|exact False.elim
 all_goals (intro h;first|refine run Zb3v rfl ?_|refine run Zb3w rfl ?_|rw[Ze Z4z.eq_1]|refine run Zb3x rfl ?_|rw[Ze Z41.eq_1]|refine run Zb3y rfl ?_|refine run Zb3z rfl ?_|rw[Ze Zw7.eq_1]|refine run Zb30 rfl ?_|rw[Ze Zw9.eq_1]|rw[Ze Z43.eq_1]|refine run Zb31 rfl ?_|rw[Ze Z45.eq_1]|refine run Zb32 rfl ?_)
 all_goals (refine Yf ?_ h;clear h;simp +decide[*,kk,tI,tII,Zbhp,Zbho,Zbhq,Z40,Zbhr,Z42,Zbhs,Zbht,Zw8,Zbhu,Zxa,Z44,Zbhw,Zbhx,Z46,Zbhy])
abbrev Zb9j:=Zeh.1.1.1
abbrev Zb9k:=Zeh.1.1.2.1
abbrev Zbos:=Zeh.1.1.2.2
abbrev Zb9l:=Zeh.1.2.1.1
abbrev Zb9m:=Zeh.1.2.1.2
abbrev Zb9n:=Zeh.1.2.2.1
abbrev Zb9o:=Zeh.1.2.2.2
abbrev Zbot:=Zeh.2.1.1
abbrev Zb9p:=Zeh.2.1.2.1
abbrev Zbou:=Zeh.2.1.2.2
abbrev Zbov:=Zeh.2.2.1.1
abbrev Zb9q:=Zeh.2.2.1.2
abbrev Zbow:=Zeh.2.2.2.1
abbrev Zb9r:=Zeh.2.2.2.2
end Go.Proofs.YtnnjbejcffjgfaaGreat
