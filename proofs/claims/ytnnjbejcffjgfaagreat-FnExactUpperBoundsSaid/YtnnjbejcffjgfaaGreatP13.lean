/-
  Parts of the proofs for this seat: G1 G2 G3 G4.
-/
import Derived.Test.YtnnjbejcffjgfaaGreatP11
import Derived.Test.YtnnjbejcffjgfaaGreatP12
set_option linter.unusedSectionVars false
set_option linter.unusedSimpArgs false
set_option linter.unusedVariables false
set_option maxRecDepth 100000
set_option maxHeartbeats 4000000
namespace Go.Proofs.YtnnjbejcffjgfaaGreat
open Go.AM
theorem Zc8:((((∀⦃a a1 a2 r⦄,Im (Z7 a a1 a2=some r) (if a1<=a then(some (Bo (decide (a<=a2)),[])=some r)else(some (Bo false,[])=some r)))/\
 (∀⦃cn c x x1 x2 r⦄,Im (Zti cn c x x1 x2=some r) (if x2<x1 then(0<=x2/\(∃e1,x[x2.toNat]?=some e1/\(∃v1,Z7 e1 0 9=some (Bo v1,[])/\(if v1=true then(Zti cn c x x1 (w (x2+1))=some r)else(some (Bo false,[])=some r)))))else(some (Bo (decide ((cn.length:Int)=c)),[])=some r))))/\
 ((∀⦃a a1 r⦄,Im (Z0x a a1=some r) (Zti a a1 a (a.length:Int) 0=some r))/\
 (∀⦃a r⦄,Im (Zo1 a=some r) (if(a.size:Int)=1 then(∃b1,a[0]?=some b1/\(if 97<=(b1.toNat:Int)then(some (Bo (decide ((b1.toNat:Int)<=122)),[])=some r)else(some (Bo false,[])=some r)))else(some (Bo false,[])=some r)))))/\
 (((∀⦃a r⦄,Im (Z0y a=some r) (some (Bo (!(decide (a=a))),[])=some r))/\
 (∀⦃a a1 r⦄,Im (Z0z a a1=some r) (∃v,Z0y a=some (Bo v,[])/\(∃v1,Z0y a1=some (Bo v1,[])/\(if v=true then(if v1=true then(some (I 0,[])=some r)else(some (I (-1),[])=some r))else(if v1=true then(some (I 1,[])=some r)else(if a<a1 then(some (I (-1),[])=some r)else(if a1<a then(some (I 1,[])=some r)else(some (I 0,[])=some r)))))))))/\
 ((∀⦃s1 s2 x x1 x2 r⦄,Im (Ztj s1 s2 x x1 x2=some r) (if x2<x1 then(0<=x2/\(∃e1,x[x2.toNat]?=some e1/\(if(s2.length:Int)<=x2 then(some (I 1,[])=some r)else(∃e2,s2[x2.toNat]?=some e2/\(∃v2,Z0z e1 e2=some (I v2,[])/\(if v2=0 then(Ztj s1 s2 x x1 (w (x2+1))=some r)else(some (I v2,[])=some r)))))))else(if(s1.length:Int)<(s2.length:Int)then(some (I (-1),[])=some r)else(some (I 0,[])=some r))))/\
 ((∀⦃a a1 r⦄,Im (Z9b a a1=some r) (Ztj a a1 a (a.length:Int) 0=some r))/\
 (∀⦃a a1 r⦄,Im (Z00 a a1=some r) (∃v,Z9b a a1=some (I v,[])/\(some (I v,[])=some r)))))))/\
 ((((∀⦃cl i r⦄,Im (Ztk cl i=some r) (if i<(cl.length:Int)then(0<=(w (i-1))/\(∃e1,cl[(w (i-1)).toNat]?=some e1/\(0<=i/\(∃e2,cl[i.toNat]?=some e2/\(∃v2,Z00 e1 e2=some (I v2,[])/\(if 0<=v2 then(some (Bo false,[])=some r)else(Ztk cl (w (i+1))=some r)))))))else(some (Bo true,[])=some r)))/\
 (∀⦃a r⦄,Im (Z01 a=some r) (Ztk a 1=some r)))/\
 ((∀⦃t x x1 x2 r⦄,Im (Ztl t x x1 x2=some r) (if x2<x1 then(0<=x2/\(∃e1,x[x2.toNat]?=some e1/\(∃v1,Z0x e1 t.Arity=some (Bo v1,[])/\(if v1=true then(Ztl t x x1 (w (x2+1))=some r)else(some (Bo false,[])=some r)))))else(∃v2,Zo1 t.Name=some (Bo v2,[])/\(if v2=true then(∃v3,Z7 t.Arity 1 3=some (Bo v3,[])/\(if v3=true then(if(t.Rows.length:Int)<=8 then(∃v4,Z01 t.Rows=some (Bo v4,[])/\(some (Bo v4,[])=some r))else(some (Bo false,[])=some r))else(some (Bo false,[])=some r)))else(some (Bo false,[])=some r)))))/\
 (∀⦃a r⦄,Im (Zhm a=some r) (Ztl a a.Rows (a.Rows.length:Int) 0=some r))))/\
 (((∀⦃db x x1 x2 r⦄,Im (Zo3 db x x1 x2=some r) (if x2<x1 then(0<=x2/\(∃e1,x[x2.toNat]?=some e1/\(∃v1,Zhm e1=some (Bo v1,[])/\(if v1=true then(if 0<x2 then(0<=(w (x2-1))/\(∃e3,db.Tables[(w (x2-1)).toNat]?=some e3/\(if(Op.bytesLess e3.Name.toList e1.Name.toList)=true then(Zo3 db x x1 (w (x2+1))=some r)else(some (Bo false,[])=some r))))else(Zo3 db x x1 (w (x2+1))=some r))else(some (Bo false,[])=some r)))))else(some (Bo (decide ((db.Tables.length:Int)<=6)),[])=some r)))/\
 (∀⦃a r⦄,Im (Zo2 a=some r) (Zo3 a a.Tables (a.Tables.length:Int) 0=some r)))/\
 ((∀⦃cc cd i r⦄,Im (Zo4 cc cd i=some r) (¬i<0/\(if(shrI cd i)=0 then(some (.own 0,[.arr 3 1 true (cc.map ic)])=some r)else(if(andI (shrI cd i) 1)=1 then(cc.length+1<=68719476736/\(Zo4 (cc++[i]) cd (w (i+1))=some r))else(Zo4 cc cd (w (i+1))=some r)))))/\
 ((∀⦃a r⦄,Im (Ze4 a=some r) (Zo4 ([]:List Int) a 0=some r))/\
 (∀⦃cc c cd r⦄,Im (Zkd cc c cd=some r) (¬c<0/\(if cd<(shlI 1 c)then(∃(v:List Int),Ze4 cd=some (.own 0,[.arr 3 1 true (v.map ic)])/\(cc.length+1<=68719476736/\(Zkd (cc++[v]) c (w (cd+1))=some r)))else(some (.own 0,[.arr 56 1 true (cc.map isc)])=some r)))))))):=by
 and_intros
 all_goals intros
 all_goals unfold Im
 all_goals try simp only[Z7,Zti,Z0x,Zo1,Z0y,Z0z,Ztj,Z9b,Z00,Ztk,Z01,Ztl,Zhm,Zo3,Zo2,Zo4,Ze4,Zkd,Ze.c_def,mpl,dfs]
 all_goals try simp only[itb]
 all_goals try simp only[itf,gS,kk]
 all_goals repeat' first|refine exI λ_=>?_|refine anJ λ_ _=>?_|refine anI λ_=>?_|refine orE2 ?_ ?_|exact False.elim
 all_goals (intro h;first|refine run Zcfu rfl ?_|rw[Zd Z86.eq_1]|refine run Zcfv rfl ?_|refine run Zcfw rfl ?_|refine run Zcfx rfl ?_|refine run Zcfy rfl ?_|rw[Zd Z89.eq_1]|refine run Zcfz rfl ?_|refine run Zcf0 rfl ?_|rw[Zd Z9d.eq_1]|refine run Zcf1 rfl ?_|rw[Zd Z9g.eq_1]|refine run Zcf2 rfl ?_|rw[Zd Z9j.eq_1]|refine run Zcf3 rfl ?_|rw[Zd Z9l.eq_1]|refine run Zcf4 rfl ?_|rw[Zd Z9o.eq_1])
 all_goals (refine Yf ?_ h;clear h;simp +decide[*,kk,tI,tII,Zbpu,Z87,Zbpv,Zbpw,Zbpx,Zbpy,Z9a,Zbpz,Zbp0,Z9e,Zbp1,Z9h,Zbp2,Z9k,Zbp3,Z9m,Zbp4,Zbp5,Z9p])
abbrev Zcl6:=Zc8.1.1.1.1
abbrev Zbyy:=Zc8.1.1.1.2
abbrev Zcl7:=Zc8.1.1.2.1
abbrev Zcl8:=Zc8.1.1.2.2
abbrev Zbyz:=Zc8.1.2.1.1
abbrev Zcl9:=Zc8.1.2.1.2
abbrev Zby0:=Zc8.1.2.2.1
abbrev Zcma:=Zc8.1.2.2.2.1
abbrev Zcmb:=Zc8.1.2.2.2.2
abbrev Zbjj:=Zc8.2.1.1.1
abbrev Zcmc:=Zc8.2.1.1.2
abbrev Zby1:=Zc8.2.1.2.1
abbrev Zcmd:=Zc8.2.1.2.2
abbrev Zby2:=Zc8.2.2.1.1
abbrev Zcme:=Zc8.2.2.1.2
abbrev Zi5:=Zc8.2.2.2.1
abbrev Zla:=Zc8.2.2.2.2.1
abbrev Zby3:=Zc8.2.2.2.2.2
theorem Ze9:(((∀⦃a r⦄,Im (Zo5 a=some r) (∃v,Z7 a 1 3=some (Bo v,[])/\(if v=true then(Zkd ([]:List (List Int)) a 1=some r)else(some (.t .nil,[])=some r))))/\
 ((∀⦃cd cn x x1 x2 r⦄,Im (Zo7 cd cn x x1 x2=some r) (if x2<x1 then(0<=x2/\(∃e1,x[x2.toNat]?=some e1/\(∃v1,Z7 e1 0 (w (cn-1))=some (Bo v1,[])/\(if v1=true then(if 0<x2 then(0<=(w (x2-1))/\(∃e3,cd[(w (x2-1)).toNat]?=some e3/\(if e1<=e3 then(some (Bo false,[])=some r)else(Zo7 cd cn x x1 (w (x2+1))=some r))))else(Zo7 cd cn x x1 (w (x2+1))=some r))else(some (Bo false,[])=some r)))))else(some (Bo true,[])=some r)))/\
 (∀⦃a a1 r⦄,Im (Zo6 a a1=some r) (Zo7 a a1 a (a.length:Int) 0=some r))))/\
 (((∀⦃cl co x x1 x2 r⦄,Im (Ztm cl co x x1 x2=some r) (if x2<x1 then(0<=x2/\(∃e1,x[x2.toNat]?=some e1/\(∃v1,Z7 e1 0 (w ((co.length:Int)-1))=some (Bo v1,[])/\(if v1=true then(0<=e1/\(∃e3,co[e1.toNat]?=some e3/\(cl.length+1<=68719476736/\(Ztm (cl++[e3]) co x x1 (w (x2+1))=some r))))else(some (.tup [.t .nil,Bo false],[])=some r)))))else(some (.tup [.own 0,Bo true],[.arr 3 1 true (cl.map ic)])=some r)))/\
 (∀⦃a a1 r⦄,Im (Zc7 a a1=some r) (Ztm ([]:List Int) a a1 (a1.length:Int) 0=some r)))/\
 ((∀⦃a r⦄,Im (Zep a=some r) (a.length<=68719476736/\(some (.own 0,[.arr 3 1 true (a.map ic)])=some r)))/\
 (∀⦃cl x x1 x2 r⦄,Im (Zo8 cl x x1 x2=some r) (if x2<x1 then(0<=x2/\(∃e1,x[x2.toNat]?=some e1/\(∃(v1:List Int),Zep e1=some (.own 0,[.arr 3 1 true (v1.map ic)])/\(cl.length+1<=68719476736/\(Zo8 (cl++[v1]) x x1 (w (x2+1))=some r)))))else(some (.own 0,[.arr 56 1 true (cl.map isc)])=some r))))))/\
 (((∀⦃a r⦄,Im (Zhn a=some r) (Zo8 ([]:List (List Int)) a (a.length:Int) 0=some r))/\
 ((∀⦃a r⦄,Im (Ztn a=some r) (∃(v:List (List Int)),Zhn a=some (.own 0,[.arr 56 1 true (v.map isc)])/\(∃(v1:List (List Int)),Z9z v=some (.tup [],[.arr 56 1 true (v1.map isc)])/\(∃(v2:List (List Int)),Z90 v1=some (.own 1,[.dead,.arr 56 1 true (v2.map isc)])/\(some (.own 0,[.arr 56 1 true (v2.map isc)])=some r)))))/\
 (∀⦃s1 s2 x x1 r⦄,Im (Zto s1 s2 x x1=some r) (if x1<x then(0<=x1/\(∃e1,s1[x1.toNat]?=some e1/\(∃e2,s2[x1.toNat]?=some e2/\(if e1=e2 then(Zto s1 s2 x (w (x1+1))=some r)else(some (Bo false,[])=some r)))))else(some (Bo true,[])=some r)))))/\
 (((∀⦃a a1 r⦄,Im (Zin a a1=some r) (if(a.length:Int)=(a1.length:Int)then(Zto a a1 (a.length:Int) 0=some r)else(some (Bo false,[])=some r)))/\
 (∀⦃all cc c x x1 r⦄,Im (Zma all cc c x x1=some r) (if x1<x then(0<=x1/\(∃e1,cc[x1.toNat]?=some e1/\(Zo9 all cc c x1 e1 x x1 (all.length:Int) 0=some r)))else(some (.tup [.own 0,.own 1],[.arr 56 1 true (cc.map isc),.arr 3 1 true (c.map ic)])=some r))))/\
 ((∀⦃all cc c i g x x1 x2 x3 r⦄,Im (Zo9 all cc c i g x x1 x2 x3=some r) (if x3<x2 then(0<=x3/\(∃e1,all[x3.toNat]?=some e1/\(∃v1,Zin g e1=some (Bo v1,[])/\(if v1=true then(0<=i/\(∃e3,c[i.toNat]?=some e3/\(Zo9 all cc (c.set i.toNat (w (e3+1))) i g x x1 x2 (w (x3+1))=some r)))else(Zo9 all cc c i g x x1 x2 (w (x3+1))=some r)))))else(Zma all cc c x (w (x1+1))=some r)))/\
 (∀⦃a a1 r⦄,Im (Zgx a a1=some r) (∃v,Zhm a=some (Bo v,[])/\(if v=true then(∃v1,Zo6 a1 a.Arity=some (Bo v1,[])/\(if v1=true then(Zio ([]:List (List Int)) a1 a.Rows (a.Rows.length:Int) 0=some r)else(some (.tup [.t .nil,.t .nil],[])=some r)))else(some (.tup [.t .nil,.t .nil],[])=some r))))))):=by
 and_intros
 all_goals intros
 all_goals unfold Im
 all_goals try simp only[Zo5,Zo7,Zo6,Ztm,Zc7,Zep,Zo8,Zhn,Ztn,Zto,Zin,Zma,Zo9,Zgx,Z7,Z9z,Z90,Zhm,Ze.c_def,Zkd,Zio,mpl,dfs]
 all_goals try simp only[itb]
 all_goals try simp only[itf,gS,kk]
 all_goals repeat' first|refine exI λ_=>?_|refine anJ λ_ _=>?_|refine anI λ_=>?_|refine orE2 ?_ ?_|exact False.elim
 all_goals (intro h;first|refine run Zcf5 rfl ?_|rw[Zd Z9r.eq_1]|refine run Zcf6 rfl ?_|rw[Zd Z9u.eq_1]|refine run Zcf7 rfl ?_|refine run Zcf8 rfl ?_|rw[Zd Z9x.eq_1]|refine run Zcf9 rfl ?_|refine run Zcga rfl ?_|rw[Zd Z92.eq_1]|refine run Zcgb rfl ?_|rw[Zd Z03.eq_1]|rw[Zd Z95.eq_1]|refine run Zcgc rfl ?_)
 all_goals (refine Yf ?_ h;clear h;simp +decide[*,kk,tI,tII,Zbp6,Z9s,Zbp7,Z9v,Zbp8,Zbp9,Z9y,Zbqa,Zbqb,Z93,Zbqc,Z04,Zbqd,Z96,Zbqe])
abbrev Zcmf:=Ze9.1.1.1
abbrev Zby4:=Ze9.1.1.2.1
abbrev Zcmg:=Ze9.1.1.2.2
abbrev Zby5:=Ze9.1.2.1.1
abbrev Zcmh:=Ze9.1.2.1.2
abbrev Zby6:=Ze9.1.2.2.1
abbrev Z5p:=Ze9.1.2.2.2
abbrev Zby7:=Ze9.2.1.1
abbrev Zcmi:=Ze9.2.1.2.1
abbrev Zby8:=Ze9.2.1.2.2
abbrev Zcmj:=Ze9.2.2.1.1
abbrev Zby9:=Ze9.2.2.1.2
abbrev Zbza:=Ze9.2.2.2.1
abbrev Zcmk:=Ze9.2.2.2.2
theorem Zbzb{all:List (List Int)}{c:List Int}{x:List (List Int)}{x1 x2:Int}{r:AV×List Blk}(h:(if x2<x1 then(0<=x2/\(∃(e1:List Int),x[x2.toNat]?=some e1/\((Zc7 e1 c=some (.tup [.t .nil,Bo false],[])/\(all.length+1<=68719476736/\(Zio (all++[[]]) c x x1 (w (x2+1))=some r)))\/(∃(v:List Int),Zc7 e1 c=some (.tup [.own 0,Bo true],[.arr 3 1 true (v.map ic)])/\(all.length+1<=68719476736/\(Zio (all++[v]) c x x1 (w (x2+1))=some r))))))else(∃(v1:List (List Int)),Ztn all=some (.own 0,[.arr 56 1 true (v1.map isc)])/\(0<=(v1.length:Int)/\((v1.length:Int)<=(v1.length:Int)/\((v1.length:Int).toNat*8<=room/\((v1.length:Int)<=140737488355328/\(Zma all v1 (List.replicate ((v1.length:Int)).toNat 0) (v1.length:Int) 0=some r)))))))):Zio all c x x1 x2=some r:=by
 unfold Zio;rw[Zd Z94.eq_1];by_cases q1:x2<x1
 .rw[if_pos q1]at h;obtain⟨q2,h⟩:=h;obtain⟨e1,q3,h⟩:=h;have gq3:=Zil q3;have kq3:=Zj9 q3;rcases h with h|h
  .obtain⟨q4,h⟩:=h;unfold Zc7 at q4
   try simp at q4
   obtain⟨q5,h⟩:=h;have rq5:=Zfm (b:=24) q5 (by omega);have sq5:=Zfn q5
   try simp[*]at rq5
   try simp[*]at sq5
   refine Yf ?_ h;clear h;simp +decide[*,tI,tII,Zio]
  .obtain⟨v,q6,h⟩:=h;unfold Zc7 at q6
   try simp at q6
   obtain⟨q7,h⟩:=h;have rq7:=Zfm (b:=24) q7 (by omega);have sq7:=Zfn q7
   try simp[*]at rq7
   try simp[*]at sq7
   refine Yf ?_ h;clear h;simp +decide[*,tI,tII,Zio]
 .rw[if_neg q1]at h;obtain⟨v1,q8,h⟩:=h;unfold Ztn at q8
  try simp at q8
  obtain⟨q9,h⟩:=h;have zq9:=q9;try simp at zq9
  obtain⟨q10,h⟩:=h;have zq10:=q10;try simp at zq10
  obtain⟨q11,h⟩:=h;have zq11:=q11;try simp at zq11
  obtain⟨q12,h⟩:=h;have zq12:=q12;try simp at zq12
  refine Yf ?_ h;clear h;simp +decide[*,tI,tII,Zma,Z97]
theorem Zc9:((((∀⦃t cv cu cn cp co cc x x1 x2 r⦄,Im (Z99 t cv cu cn cp co cc x x1 x2=some r) (if x2<x1 then(0<=x2/\(∃e1,x[x2.toNat]?=some e1/\((Zgx t e1=some (.tup [.t .nil,.t .nil],[])/\(Zmb t cv cu cn cp co cc false ([(⟨e1,[],[]⟩:Zh)]) x x1 (w (x2+1))=some r))\/(∃(v6:List (List Int)) (v7:List Int),Zgx t e1=some (.tup [.own 0,.own 1],[.arr 56 1 true (v6.map isc),.arr 3 1 true (v7.map ic)])/\(Zmb t cv cu cn cp co cc false ([(⟨e1,v6,v7⟩:Zh)]) x x1 (w (x2+1))=some r)))))else(some (.agg [.t (.str cp),I co,I cc,.t .nil],[])=some r)))/\
 (∀⦃t cv cu cn cp co cc fr x x1 x2 x3 r⦄,Im (Zmb t cv cu cn cp co cc fr x x1 x2 x3=some r) (if x3<x2 then(0<=x3/\(∃e1,x1[x3.toNat]?=some e1/\((Zgx t e1=some (.tup [.t .nil,.t .nil],[])/\(x.length+1<=68719476736/\(Zmb t cv cu cn cp co cc false (x++[(⟨e1,[],[]⟩:Zh)]) x1 x2 (w (x3+1))=some r)))\/(∃(v6:List (List Int)) (v7:List Int),Zgx t e1=some (.tup [.own 0,.own 1],[.arr 56 1 true (v6.map isc),.arr 3 1 true (v7.map ic)])/\(x.length+1<=68719476736/\(Zmb t cv cu cn cp co cc false (x++[(⟨e1,v6,v7⟩:Zh)]) x1 x2 (w (x3+1))=some r))))))else(some (.agg [.t (.str cp),I co,I cc,.own 0],[.arr 200 3 fr (x.map Zh.c)])=some r))))/\
 ((∀⦃a r⦄,Im (Zho a=some r) (∃v1,Zhm a=some (Bo v1,[])/\(if v1=true then((Zo5 a.Arity=some (.t .nil,[])/\(Zbqg a (⟨#[]⟩:ByteArray) 0 0 a.Name a.Arity (a.Rows.length:Int) 0 0=some r))\/(∃(v6:List (List Int)),Zo5 a.Arity=some (.own 0,[.arr 56 1 true (v6.map isc)])/\(Z99 a (⟨#[]⟩:ByteArray) 0 0 a.Name a.Arity (a.Rows.length:Int) v6 (v6.length:Int) 0=some r)))else(some (.agg [.t (.str (⟨#[]⟩:ByteArray)),I 0,I 0,.t .nil],[])=some r))))/\
 (∀⦃cl cd x x1 x2 r⦄,Im (Zbab cl cd x x1 x2=some r) (if x2<x1 then(0<=x2/\(∃e1,x[x2.toNat]?=some e1/\((∃v3 v4 v5,Zho e1=some (.agg [.t (.str v3),I v4,I v5,.t .nil],[])/\(Zmc cl cd true ([(⟨v3,v4,v5,[]⟩:Zg)]) x x1 (w (x2+1))=some r))\/(∃v6,∃(v7:List Zh),∃v8,∃v9,∃v10,Zho e1=some (.agg [.t (.str v8),I v9,I v10,.own 0],[.arr 200 3 v6 (v7.map Zh.c)])/\(Zmc cl cd v6 ([(⟨v8,v9,v10,v7⟩:Zg)]) x x1 (w (x2+1))=some r)))))else(some (.tup [.agg [I cd,.t .nil],Bo true],[])=some r)))))/\
 (((∀⦃cl cd fr x x1 x2 x3 r⦄,Im (Zmc cl cd fr x x1 x2 x3=some r) (if x3<x2 then(0<=x3/\(∃e1,x1[x3.toNat]?=some e1/\((∃v3 v4 v5,Zho e1=some (.agg [.t (.str v3),I v4,I v5,.t .nil],[])/\(x.length+1<=68719476736/\(Zmc cl cd fr (x++[(⟨v3,v4,v5,[]⟩:Zg)]) x1 x2 (w (x3+1))=some r)))\/(∃v6,∃(v7:List Zh),∃v8,∃v9,∃v10,Zho e1=some (.agg [.t (.str v8),I v9,I v10,.own 0],[.arr 200 3 v6 (v7.map Zh.c)])/\(x.length+1<=68719476736/\(Zmc cl cd (fr && v6) (x++[(⟨v8,v9,v10,v7⟩:Zg)]) x1 x2 (w (x3+1))=some r))))))else(some (.tup [.agg [I cd,.own 0],Bo true],[.arr 141 4 fr (x.map Zg.c)])=some r)))/\
 (∀⦃a a1 r⦄,Im (Zpa a a1=some r) (∃v1,Zo2 a=some (Bo v1,[])/\(if v1=true then(∃v3,Z7 a1 1 999=some (Bo v3,[])/\(if v3=true then(Zbab 0 a1 a.Tables (a.Tables.length:Int) 0=some r)else(some (.tup [.agg [I 0,.t .nil],Bo false],[])=some r)))else(some (.tup [.agg [I 0,.t .nil],Bo false],[])=some r)))))/\
 ((∀⦃s2 x x1 r⦄,Im (Zbaf s2 x x1=some r) (if x1<x then False else(some (Bo true,[])=some r)))/\
 ((∀⦃a r⦄,Im (Zbae a=some r) (if 0=(a.length:Int)then(Zbaf a 0 0=some r)else(some (Bo false,[])=some r)))/\
 (∀⦃cl a r⦄,Im (Ztt cl a=some r) (if cl=a.Version then(∃v1,Zbae a.Tables=some (Bo v1,[])/\(some (Bo v1,[])=some r))else(some (Bo false,[])=some r)))))))/\
 ((((∀⦃a a1 r⦄,Im (Zbah a a1=some r) (some (Bo (decide (a.Name=a1)),[])=some r))/\
 (∀⦃s f x x1 r⦄,Im (Ztu s f x x1=some r) (if x1<x then(0<=x1/\(∃e1,s[x1.toNat]?=some e1/\(∃v3,Zbah e1 f=some (Bo v3,[])/\(if v3=true then(some (I x1,[])=some r)else(Ztu s f x (w (x1+1))=some r)))))else(some (I (-1),[])=some r))))/\
 ((∀⦃a a1 r⦄,Im (Zbal a a1=some r) (Ztu a a1 (a.length:Int) 0=some r))/\
 (∀⦃a r⦄,Im (Zbam a=some r) (∃(v1:List (List Int)),Zhn a.Rows=some (.own 0,[.arr 56 1 true (v1.map isc)])/\(some (.agg [.t (.str a.Name),I a.Arity,.own 0],[.arr 56 1 true (v1.map isc)])=some r)))))/\
 (((∀⦃a a1 r⦄,Im (Zb1 a a1=some r) (∃v1,Zbal a.Tables a1=some (I v1,[])/\(if v1<0 then(some (.tup [.agg [.t (.str (⟨#[]⟩:ByteArray)),I 0,.t .nil],Bo false],[])=some r)else(∃v3,Zo2 a=some (Bo v3,[])/\(if v3=true then(0<=v1/\(∃e3,a.Tables[v1.toNat]?=some e3/\(∃(v11:List (List Int)),∃v12,∃v13,Zbam e3=some (.agg [.t (.str v12),I v13,.own 0],[.arr 56 1 true (v11.map isc)])/\(some (.tup [.agg [.t (.str v12),I v13,.own 0],Bo true],[.arr 56 1 true (v11.map isc)])=some r))))else(some (.tup [.agg [.t (.str (⟨#[]⟩:ByteArray)),I 0,.t .nil],Bo false],[])=some r))))))/\
 (∀⦃s v x x1 r⦄,Im (Ztv s v x x1=some r) (if x1<x then(0<=x1/\(∃e1,s[x1.toNat]?=some e1/\(if v=e1 then(some (I x1,[])=some r)else(Ztv s v x (w (x1+1))=some r))))else(some (I (-1),[])=some r))))/\
 ((∀⦃a a1 r⦄,Im (Zmd a a1=some r) (Ztv a a1 (a.length:Int) 0=some r))/\
 ((∀⦃a a1 r⦄,Im (Zfo a a1=some r) (∃v1,Zmd a a1=some (I v1,[])/\(some (Bo (decide (0<=v1)),[])=some r)))/\
 (∀⦃a a1 r⦄,Im (Zpb a a1=some r) ((∃v1 v2,Zb1 a a1.Name=some (.tup [.agg [.t (.str v1),I v2,.t .nil],Bo false],[])/\(some (Bo false,[])=some r))\/(∃(v3:List (List Int)),∃v4,∃v5,Zb1 a a1.Name=some (.tup [.agg [.t (.str v4),I v5,.own 0],Bo true],[.arr 56 1 true (v3.map isc)])/\(∃v6,Zo6 a1.From v5=some (Bo v6,[])/\(if v6=true then(∃v11,Z7 a1.To 0 (w (v5-1))=some (Bo v11,[])/\(if v11=true then(∃v14,Zfo a1.From a1.To=some (Bo v14,[])/\(some (Bo (!v14),[])=some r))else(some (Bo false,[])=some r)))else(some (Bo false,[])=some r)))))))))):=by
 and_intros
 all_goals intros
 all_goals unfold Im
 all_goals try simp only[Z99,Zmb,Zho,Zbab,Zmc,Zpa,Zbaf,Zbae,Ztt,Zbah,Ztu,Zbal,Zbam,Zb1,Ztv,Zmd,Zfo,Zpb,Zgx,Ze.c_def,Zhm,Zo5,Zo2,Z7,Zi.c_def,Zg.c_def,Zhn,Zo6,Zbqg,mpl,dfs]
 all_goals try simp only[itb]
 all_goals try simp only[itf,gS,kk]
 all_goals repeat' first|refine exI λ_=>?_|refine anJ λ_ _=>?_|refine anI λ_=>?_|refine orE2 ?_ ?_|exact False.elim
 all_goals (intro h;first|rw[Zd Ztp.eq_1]|refine run Zcgd rfl ?_|rw[Zd Z05.eq_1]|refine run Zcge rfl ?_|rw[Zd Ztr.eq_1]|refine run Zbys rfl ?_|refine run Zbyt rfl ?_|refine run Zcgf rfl ?_|rw[Zd Zbaj.eq_1]|refine run Zcgg rfl ?_|refine run Zcgh rfl ?_|refine run Zcgi rfl ?_|rw[Zd Zbao.eq_1]|refine run Zcgj rfl ?_|refine run Zcgk rfl ?_|refine run Zcgl rfl ?_)
 all_goals (refine Yf ?_ h;clear h;simp +decide[*,kk,tI,tII,Ztq,Zbqf,Z06,Zbqh,Zts,Zbad,Zbag,Zbqi,Zbak,Zbqj,Zbqk,Zbql,Zbap,Zbqm,Zbqn,Zbqo])
abbrev Zcml:=Zc9.1.1.1.1
abbrev Zbzc:=Zc9.1.1.1.2
abbrev Zcmm:=Zc9.1.1.2.1
abbrev Zcmn:=Zc9.1.1.2.2
abbrev Zbzd:=Zc9.1.2.1.1
abbrev Zcmo:=Zc9.1.2.1.2
abbrev Zcmp:=Zc9.1.2.2.1
abbrev Zcmq:=Zc9.1.2.2.2.1
abbrev Zcmr:=Zc9.1.2.2.2.2
abbrev Zcms:=Zc9.2.1.1.1
abbrev Zbze:=Zc9.2.1.1.2
abbrev Zcmt:=Zc9.2.1.2.1
abbrev Zcmu:=Zc9.2.1.2.2
abbrev Zcmv:=Zc9.2.2.1.1
abbrev Zbzf:=Zc9.2.2.1.2
abbrev Zcmw:=Zc9.2.2.2.1
abbrev Zcmx:=Zc9.2.2.2.2.1
abbrev Zcmy:=Zc9.2.2.2.2.2
theorem Zds:((((∀⦃f t x x1 x2 r⦄,Im (Zpc f t x x1 x2=some r) (if x2<x1 then(0<=x2/\(∃e1,x[x2.toNat]?=some e1/\(x2.toNat<=t.Rows.length/\(Zeq f t x2 e1 x x1 x2 (t.Rows.take x2.toNat) ((t.Rows.take x2.toNat).length:Int) 0=some r))))else(some (.t .nil,[])=some r)))/\
 (∀⦃f t k y x x1 x2 x3 x4 x5 r⦄,Im (Zeq f t k y x x1 x2 x3 x4 x5=some r) (if x5<x4 then(0<=x5/\(∃e1,x3[x5.toNat]?=some e1/\((Zc7 e1 f.From=some (.tup [.t .nil,Bo false],[])/\((Zc7 y f.From=some (.tup [.t .nil,Bo false],[])/\(∃v7,Zbqp=some (Bo v7,[])/\(if v7=true then(0<=f.To/\(∃e5,e1[f.To.toNat]?=some e5/\(∃e6,y[f.To.toNat]?=some e6/\(if e5=e6 then(Zeq f t k y x x1 x2 x3 x4 (w (x5+1))=some r)else(some (.own 0,[.arr 3 1 true (([x5,k]).map ic)])=some r)))))else(Zeq f t k y x x1 x2 x3 x4 (w (x5+1))=some r))))\/(∃(v16:List Int),Zc7 y f.From=some (.tup [.own 0,Bo true],[.arr 3 1 true (v16.map ic)])/\(∃v19,Zbqq v16=some (Bo v19,[])/\(if v19=true then(0<=f.To/\(∃e9,e1[f.To.toNat]?=some e9/\(∃e10,y[f.To.toNat]?=some e10/\(if e9=e10 then(Zeq f t k y x x1 x2 x3 x4 (w (x5+1))=some r)else(some (.own 0,[.arr 3 1 true (([x5,k]).map ic)])=some r)))))else(Zeq f t k y x x1 x2 x3 x4 (w (x5+1))=some r))))))\/(∃(v20:List Int),Zc7 e1 f.From=some (.tup [.own 0,Bo true],[.arr 3 1 true (v20.map ic)])/\((Zc7 y f.From=some (.tup [.t .nil,Bo false],[])/\(∃v21,Zbqr v20=some (Bo v21,[])/\(if v21=true then(0<=f.To/\(∃e14,e1[f.To.toNat]?=some e14/\(∃e15,y[f.To.toNat]?=some e15/\(if e14=e15 then(Zeq f t k y x x1 x2 x3 x4 (w (x5+1))=some r)else(some (.own 0,[.arr 3 1 true (([x5,k]).map ic)])=some r)))))else(Zeq f t k y x x1 x2 x3 x4 (w (x5+1))=some r))))\/(∃(v22:List Int),Zc7 y f.From=some (.tup [.own 0,Bo true],[.arr 3 1 true (v22.map ic)])/\(∃v23,Zin v20 v22=some (Bo v23,[])/\(if v23=true then(0<=f.To/\(∃e18,e1[f.To.toNat]?=some e18/\(∃e19,y[f.To.toNat]?=some e19/\(if e18=e19 then(Zeq f t k y x x1 x2 x3 x4 (w (x5+1))=some r)else(some (.own 0,[.arr 3 1 true (([x5,k]).map ic)])=some r)))))else(Zeq f t k y x x1 x2 x3 x4 (w (x5+1))=some r)))))))))else(Zpc f t x x1 (w (x2+1))=some r))))/\
 ((∀⦃a a1 r⦄,Im (Ztz a a1=some r) (∃v,Zpb a a1=some (Bo v,[])/\(if v=true then((∃v2 v3,Zb1 a a1.Name=some (.tup [.agg [.t (.str v2),I v3,.t .nil],Bo false],[])/\(Zbqt a1 v2 v3 0 0=some r))\/(∃(v4:List (List Int)),∃v5,∃v6,Zb1 a a1.Name=some (.tup [.agg [.t (.str v5),I v6,.own 0],Bo true],[.arr 56 1 true (v4.map isc)])/\(Zpc a1 (⟨v5,v6,v4⟩:Ze) v4 (v4.length:Int) 0=some r)))else(some (.t .nil,[])=some r))))/\
 (∀⦃a a1 r⦄,Im (Z07 a a1=some r) (∃v,Zpb a a1=some (Bo v,[])/\(if v=true then((Ztz a a1=some (.t .nil,[])/\(some (Bo true,[])=some r))\/(∃(v4:List Int),Ztz a a1=some (.own 0,[.arr 3 1 true (v4.map ic)])/\(some (Bo (decide ((v4.length:Int)=0)),[])=some r)))else(some (Bo false,[])=some r))))))/\
 (((∀⦃a a1 r⦄,Im (Zt0 a a1=some r) ((∃v v1,Zb1 a a1.Name=some (.tup [.agg [.t (.str v),I v1,.t .nil],Bo false],[])/\((∃v2 v3,Zb1 a a1.Into=some (.tup [.agg [.t (.str v2),I v3,.t .nil],Bo false],[])/\(some (Bo false,[])=some r))\/(∃(v4:List (List Int)),∃v5,∃v6,Zb1 a a1.Into=some (.tup [.agg [.t (.str v5),I v6,.own 0],Bo true],[.arr 56 1 true (v4.map isc)])/\(some (Bo false,[])=some r))))\/(∃(v7:List (List Int)),∃v8,∃v9,Zb1 a a1.Name=some (.tup [.agg [.t (.str v8),I v9,.own 0],Bo true],[.arr 56 1 true (v7.map isc)])/\((∃v10 v11,Zb1 a a1.Into=some (.tup [.agg [.t (.str v10),I v11,.t .nil],Bo false],[])/\(some (Bo false,[])=some r))\/(∃(v13:List (List Int)),∃v14,∃v15,Zb1 a a1.Into=some (.tup [.agg [.t (.str v14),I v15,.own 0],Bo true],[.arr 56 1 true (v13.map isc)])/\(∃v16,Z7 a1.Column 0 (w (v9-1))=some (Bo v16,[])/\(if v16=true then(∃v19,Z7 a1.IntoColumn 0 (w (v15-1))=some (Bo v19,[])/\(some (Bo v19,[])=some r))else(some (Bo false,[])=some r))))))))/\
 (∀⦃x co cn x1 cd x2 x3 x4 r⦄,Im (Zt2 x co cn x1 cd x2 x3 x4=some r) (if x4<x3 then(0<=x4/\(∃e1,x2[x4.toNat]?=some e1/\(0<=x.IntoColumn/\(∃e2,e1[x.IntoColumn.toNat]?=some e2/\(cd.length+1<=68719476736/\(Zt2 x co cn x1 (cd++[e2]) x2 x3 (w (x4+1))=some r))))))else(Zpg x cd ([]:List Int) x1 (x1.length:Int) 0=some r))))/\
 ((∀⦃x cd cl x1 x2 x3 r⦄,Im (Zpg x cd cl x1 x2 x3=some r) (if x3<x2 then(0<=x3/\(∃e1,x1[x3.toNat]?=some e1/\(0<=x.Column/\(∃e2,e1[x.Column.toNat]?=some e2/\(∃v4,Zfo cd e2=some (Bo v4,[])/\(if v4=true then(Zpg x cd cl x1 x2 (w (x3+1))=some r)else(cl.length+1<=68719476736/\(Zpg x cd (cl++[e2]) x1 x2 (w (x3+1))=some r))))))))else(∃(v7:List Int),Zme cl=some (.tup [],[.arr 3 1 true (v7.map ic)])/\(∃(v10:List Int),Z08 v7=some (.own 1,[.dead,.arr 3 1 true (v10.map ic)])/\(some (.own 0,[.arr 3 1 true (v10.map ic)])=some r)))))/\
 (∀⦃a a1 r⦄,Im (Zt1 a a1=some r) (∃v,Zt0 a a1=some (Bo v,[])/\(if v=true then((∃v2 v3,Zb1 a a1.Name=some (.tup [.agg [.t (.str v2),I v3,.t .nil],Bo false],[])/\((∃v4 v5,Zb1 a a1.Into=some (.tup [.agg [.t (.str v4),I v5,.t .nil],Bo false],[])/\(Zbqy a1 v2 v3 ([]:List Int) 0 0=some r))\/(∃(v7:List (List Int)),∃v8,∃v9,Zb1 a a1.Into=some (.tup [.agg [.t (.str v8),I v9,.own 0],Bo true],[.arr 56 1 true (v7.map isc)])/\(Zbqz a1 v2 v3 ([]:List Int) v7 (v7.length:Int) 0=some r))))\/(∃(v10:List (List Int)),∃v11,∃v12,Zb1 a a1.Name=some (.tup [.agg [.t (.str v11),I v12,.own 0],Bo true],[.arr 56 1 true (v10.map isc)])/\((∃v13 v14,Zb1 a a1.Into=some (.tup [.agg [.t (.str v13),I v14,.t .nil],Bo false],[])/\(Zbq0 a1 v11 v12 v10 ([]:List Int) 0 0=some r))\/(∃(v16:List (List Int)),∃v17,∃v18,Zb1 a a1.Into=some (.tup [.agg [.t (.str v17),I v18,.own 0],Bo true],[.arr 56 1 true (v16.map isc)])/\(Zt2 a1 v11 v12 v10 ([]:List Int) v16 (v16.length:Int) 0=some r)))))else(some (.t .nil,[])=some r)))))))/\
 ((((∀⦃a a1 r⦄,Im (Z09 a a1=some r) (∃v,Zt0 a a1=some (Bo v,[])/\(if v=true then((Zt1 a a1=some (.t .nil,[])/\(some (Bo true,[])=some r))\/(∃(v4:List Int),Zt1 a a1=some (.own 0,[.arr 3 1 true (v4.map ic)])/\(some (Bo (decide ((v4.length:Int)=0)),[])=some r)))else(some (Bo false,[])=some r))))/\
 (∀⦃db cc c x x1 x2 r⦄,Im (Zt4 db cc c x x1 x2=some r) (if x2<x1 then(0<=x2/\(∃e1,x[x2.toNat]?=some e1/\(∃v2,Z07 db e1=some (Bo v2,[])/\(if v2=true then(Zt4 db cc c x x1 (w (x2+1))=some r)else(some (Bo false,[])=some r)))))else(Zt5 db cc c c (c.length:Int) 0=some r))))/\
 ((∀⦃db cc c x x1 x2 r⦄,Im (Zt5 db cc c x x1 x2=some r) (if x2<x1 then(0<=x2/\(∃e1,x[x2.toNat]?=some e1/\(∃v2,Z09 db e1=some (Bo v2,[])/\(if v2=true then(Zt5 db cc c x x1 (w (x2+1))=some r)else(some (Bo false,[])=some r)))))else(if(cc.length:Int)<=8 then(some (Bo (decide ((c.length:Int)<=8)),[])=some r)else(some (Bo false,[])=some r))))/\
 (∀⦃a a1 a2 r⦄,Im (Zph a a1 a2=some r) (Zt4 a a1 a2 a1 (a1.length:Int) 0=some r))))/\
 (((∀⦃a a1 r⦄,Im (Zbay a a1=some r) (∃v,Zin a a1=some (Bo v,[])/\(some (Bo v,[])=some r)))/\
 (∀⦃s2 x x1 x2 r⦄,Im (Zt6 s2 x x1 x2=some r) (if x2<x1 then(0<=x2/\(∃e1,x[x2.toNat]?=some e1/\(∃e2,s2[x2.toNat]?=some e2/\(∃v4,Zbay e1 e2=some (Bo v4,[])/\(if v4=true then(Zt6 s2 x x1 (w (x2+1))=some r)else(some (Bo false,[])=some r))))))else(some (Bo true,[])=some r))))/\
 ((∀⦃a a1 r⦄,Im (Zba2 a a1=some r) (if(a.length:Int)=(a1.length:Int)then(Zt6 a1 a (a.length:Int) 0=some r)else(some (Bo false,[])=some r)))/\
 ((∀⦃a a1 r⦄,Im (Z1a a a1=some r) (∃v,Zba2 a a1=some (Bo v,[])/\(some (Bo v,[])=some r)))/\
 (∀⦃a a1 r⦄,Im (Zt7 a a1=some r) (∃v,Zin a.Columns a1.Columns=some (Bo v,[])/\(if v=true then(∃v2,Z1a a.Values a1.Values=some (Bo v2,[])/\(if v2=true then(∃v4,Zin a.Counts a1.Counts=some (Bo v4,[])/\(some (Bo v4,[])=some r))else(some (Bo false,[])=some r)))else(some (Bo false,[])=some r)))))))):=by
 and_intros
 all_goals intros
 all_goals unfold Im
 all_goals try simp only[Zpc,Zeq,Ztz,Z07,Zt0,Zt2,Zpg,Zt1,Z09,Zt4,Zt5,Zph,Zbay,Zt6,Zba2,Z1a,Zt7,Zc7,Zbqp,Zbqq,Zbqr,Zin,Zpb,Zb1,Zi.c_def,Zk.c_def,Z7,Zfo,Zme,Z08,Zj.c_def,Zbqt,Zbqy,Zbqz,Zbq0,mpl,dfs]
 all_goals try simp only[itb]
 all_goals try simp only[itf,gS,kk]
 all_goals repeat' first|refine exI λ_=>?_|refine anJ λ_ _=>?_|refine anI λ_=>?_|refine orE2 ?_ ?_|exact False.elim
 all_goals (intro h;first|rw[Zd Ztx.eq_1]|rw[Zd Zbaq.eq_1]|refine run Zcgm rfl ?_|refine run Zcgn rfl ?_|refine run Zcgo rfl ?_|rw[Zd Zpe.eq_1]|rw[Zd Zbas.eq_1]|refine run Zcgp rfl ?_|refine run Zcgq rfl ?_|rw[Zd Zbau.eq_1]|rw[Zd Zbav.eq_1]|refine run Zcgr rfl ?_|refine run Zcgs rfl ?_|rw[Zd Zba0.eq_1]|refine run Zcgt rfl ?_|refine run Zcgu rfl ?_|refine run Zcgv rfl ?_)
 all_goals (refine Yf ?_ h;clear h;simp +decide[*,kk,tI,tII,Zty,Zbar,Zbqs,Zbqu,Zbqv,Zpf,Zbqw,Zbat,Zbqx,Zbq1,Zbax,Zbaw,Zbq2,Zbq3,Zba1,Zbq4,Zbq5,Zbq6])
abbrev Zbzg:=Zds.1.1.1.1
abbrev Zbzh:=Zds.1.1.1.2
abbrev Zcmz:=Zds.1.1.2.1
abbrev Zcm0:=Zds.1.1.2.2
abbrev Zcm1:=Zds.1.2.1.1
abbrev Zbzi:=Zds.1.2.1.2
abbrev Zbzj:=Zds.1.2.2.1
abbrev Zcm2:=Zds.1.2.2.2
abbrev Zcm3:=Zds.2.1.1.1
abbrev Zbzk:=Zds.2.1.1.2
abbrev Zbzl:=Zds.2.1.2.1
abbrev Zcm4:=Zds.2.1.2.2
abbrev Zcm5:=Zds.2.2.1.1
abbrev Zbzm:=Zds.2.2.1.2
abbrev Zcm6:=Zds.2.2.2.1
abbrev Zcm7:=Zds.2.2.2.2.1
abbrev Zcm8:=Zds.2.2.2.2.2
theorem Zda:((((∀⦃s2 x x1 x2 r⦄,Im (Zt8 s2 x x1 x2=some r) (if x2<x1 then(0<=x2/\(∃e1,x[x2.toNat]?=some e1/\(∃e2,s2[x2.toNat]?=some e2/\(∃v5,Zt7 e1 e2=some (Bo v5,[])/\(if v5=true then(Zt8 s2 x x1 (w (x2+1))=some r)else(some (Bo false,[])=some r))))))else(some (Bo true,[])=some r)))/\
 (∀⦃a a1 r⦄,Im (Zba6 a a1=some r) (if(a.length:Int)=(a1.length:Int)then(Zt8 a1 a (a.length:Int) 0=some r)else(some (Bo false,[])=some r))))/\
 ((∀⦃a a1 r⦄,Im (Zmf a a1=some r) (if a.Name=a1.Name then(if a.Arity=a1.Arity then(if a.RowCount=a1.RowCount then(∃v1,Zba6 a.Groups a1.Groups=some (Bo v1,[])/\(some (Bo v1,[])=some r))else(some (Bo false,[])=some r))else(some (Bo false,[])=some r))else(some (Bo false,[])=some r)))/\
 (∀⦃s2 x x1 x2 r⦄,Im (Zt9 s2 x x1 x2=some r) (if x2<x1 then(0<=x2/\(∃e1,x[x2.toNat]?=some e1/\(∃e2,s2[x2.toNat]?=some e2/\(∃v5,Zmf e1 e2=some (Bo v5,[])/\(if v5=true then(Zt9 s2 x x1 (w (x2+1))=some r)else(some (Bo false,[])=some r))))))else(some (Bo true,[])=some r)))))/\
 (((∀⦃a a1 r⦄,Im (Zba7 a a1=some r) (if(a.length:Int)=(a1.length:Int)then(Zt9 a1 a (a.length:Int) 0=some r)else(some (Bo false,[])=some r)))/\
 (∀⦃a a1 r⦄,Im (Z1b a a1=some r) (if a.Version=a1.Version then(∃v1,Zba7 a.Tables a1.Tables=some (Bo v1,[])/\(some (Bo v1,[])=some r))else(some (Bo false,[])=some r))))/\
 ((∀⦃a r⦄,Im (Zpi a=some r) ((∃v1 v2,Zpa a.Zi a.Zl.Version=some (.tup [.agg [I v1,.t .nil],Bo v2],[])/\(if v2=true then(∃v3,Ztt v1 a.Zl=some (Bo v3,[])/\(if v3=true then(∃v5,Zph a.Zi a.Dependencies a.Inclusions=some (Bo v5,[])/\(some (Bo v5,[])=some r))else(some (Bo false,[])=some r)))else(some (Bo false,[])=some r)))\/(∃v8,∃(v9:List Zg),∃v10,Zpa a.Zi a.Zl.Version=some (.tup [.agg [I v10,.own 0],Bo true],[.arr 141 4 v8 (v9.map Zg.c)])/\(∃v11,Z1b (⟨v10,v9⟩:Zl) a.Zl=some (Bo v11,[])/\(if v11=true then(∃v12,Zph a.Zi a.Dependencies a.Inclusions=some (Bo v12,[])/\(some (Bo v12,[])=some r))else(some (Bo false,[])=some r))))))/\
 ((∀⦃s v x x1 r⦄,Im (Zua s v x x1=some r) (if x1<x then(0<=x1/\(∃e1,s[x1.toNat]?=some e1/\(if v=e1 then(some (I x1,[])=some r)else(Zua s v x (w (x1+1))=some r))))else(some (I (-1),[])=some r)))/\
 (∀⦃a a1 r⦄,Im (Z1c a a1=some r) (Zua a a1 (a.length:Int) 0=some r))))))/\
 ((((∀⦃a a1 r⦄,Im (Z1d a a1=some r) (∃v1,Z1c a a1=some (I v1,[])/\(some (Bo (decide (0<=v1)),[])=some r)))/\
 (∀⦃q cc x x1 x2 r⦄,Im (Zmg q cc x x1 x2=some r) (if x2<x1 then(0<=x2/\(∃e1,x[x2.toNat]?=some e1/\(∃v3,Zo1 e1.Name=some (Bo v3,[])/\(if v3=true then(∃v5,Z7 (e1.Vars.length:Int) 1 3=some (Bo v5,[])/\(if v5=true then(Zuc q cc e1 x x1 x2 e1.Vars (e1.Vars.length:Int) 0=some r)else(some (Bo false,[])=some r)))else(some (Bo false,[])=some r)))))else(∃v8,Z1d cc false=some (Bo v8,[])/\(some (Bo (!v8),[])=some r)))))/\
 ((∀⦃q cc a x x1 x2 x3 x4 x5 r⦄,Im (Zuc q cc a x x1 x2 x3 x4 x5=some r) (if x5<x4 then(0<=x5/\(∃e1,x3[x5.toNat]?=some e1/\(∃v3,Z7 e1 0 (w (q.Zp-1))=some (Bo v3,[])/\(if v3=true then(x5.toNat<=a.Vars.length/\(∃v5,Zfo (a.Vars.take x5.toNat) e1=some (Bo v5,[])/\(if v5=true then(some (Bo false,[])=some r)else(0<=e1/\(∃e4,cc[e1.toNat]?=some e4/\(Zuc q (cc.set e1.toNat true) a x x1 x2 x3 x4 (w (x5+1))=some r))))))else(some (Bo false,[])=some r)))))else(Zmg q cc x x1 (w (x2+1))=some r)))/\
 (∀⦃db x x1 x2 r⦄,Im (Zud db x x1 x2=some r) (if x2<x1 then(0<=x2/\(∃e1,x[x2.toNat]?=some e1/\((∃v3 v4,Zb1 db e1.Name=some (.tup [.agg [.t (.str v3),I v4,.t .nil],Bo false],[])/\(some (Bo false,[])=some r))\/(∃(v5:List (List Int)),∃v6,∃v7,Zb1 db e1.Name=some (.tup [.agg [.t (.str v6),I v7,.own 0],Bo true],[.arr 56 1 true (v5.map isc)])/\(if v7=(e1.Vars.length:Int)then(Zud db x x1 (w (x2+1))=some r)else(some (Bo false,[])=some r))))))else(some (Bo true,[])=some r)))))/\
 (((∀⦃a a1 r⦄,Im (Zpj a a1=some r) (∃v1,Zkf a1=some (Bo v1,[])/\(if v1=true then(Zud a a1.Atoms (a1.Atoms.length:Int) 0=some r)else(some (Bo false,[])=some r))))/\
 (∀⦃a r⦄,Im (Ze5 a=some r) (∃v1,Zkf a=some (Bo v1,[])/\(if v1=true then(¬(a.Atoms.length:Int)<0/\(some (I (w ((shlI 1 (a.Atoms.length:Int))-1)),[])=some r))else(some (I 0,[])=some r)))))/\
 ((∀⦃a a1 a2 r⦄,Im (Zcu a a1 a2=some r) (∃v1,Zpi a=some (Bo v1,[])/\(if v1=true then(∃v3,Zpj a.Zi a1=some (Bo v3,[])/\(if v3=true then(∃v5,Ze5 a1=some (I v5,[])/\(∃v8,Z7 a2 1 v5=some (Bo v8,[])/\(some (Bo v8,[])=some r)))else(some (Bo false,[])=some r)))else(some (Bo false,[])=some r))))/\
 ((∀⦃cl cd i r⦄,Im (Zpk cl cd i=some r) (if i<4 then(¬i<0/\(if(andI (shrI cd i) 1)=1 then(cl.length+1<=68719476736/\(Zpk (cl++[i]) cd (w (i+1))=some r))else(Zpk cl cd (w (i+1))=some r)))else(some (.own 0,[.arr 3 1 true (cl.map ic)])=some r)))/\
 (∀⦃a r⦄,Im (Zca a=some r) (∃v1,Z7 a 0 15=some (Bo v1,[])/\(if v1=true then(Zpk ([]:List Int) a 0=some r)else(some (.t .nil,[])=some r)))))))):=by
 and_intros
 all_goals intros
 all_goals unfold Im
 all_goals try simp only[Zt8,Zba6,Zmf,Zt9,Zba7,Z1b,Zpi,Zua,Z1c,Z1d,Zmg,Zuc,Zud,Zpj,Ze5,Zcu,Zpk,Zca,Zt7,Zh.c_def,Zg.c_def,Zpa,Ztt,Zph,Zl.c_def,Zi.c_def,Zk.c_def,Zj.c_def,Zo1,Z7,Zfo,Zb1,Zkf,Zb.c_def,Zf.c_def,mpl,dfs]
 all_goals try simp only[itb]
 all_goals try simp only[itf,gS,kk]
 all_goals repeat' first|refine exI λ_=>?_|refine anJ λ_ _=>?_|refine anI λ_=>?_|refine orE2 ?_ ?_|exact False.elim
 all_goals (intro h;first|rw[Zd Zba4.eq_1]|refine run Zcgw rfl ?_|refine run Zcgx rfl ?_|rw[Zd Ztr.eq_1]|refine run Zbys rfl ?_|refine run Zbyt rfl ?_|refine run Zcgy rfl ?_|rw[Zd Zba9.eq_1]|refine run Zcgz rfl ?_|refine run Zcg0 rfl ?_|rw[Zd Z1e.eq_1]|rw[Zd Zbbb.eq_1]|rw[Zd Zbbe.eq_1]|refine run Zcg2 rfl ?_|refine run Zcg3 rfl ?_|refine run Zcg4 rfl ?_|rw[Zd Zbbg.eq_1]|refine run Zcg5 rfl ?_)
 all_goals (refine Yf ?_ h;clear h;simp +decide[*,kk,tI,tII,Zba5,Zbq7,Zbq8,Zts,Zbad,Zbag,Zbq9,Zbba,Zbra,Zbrb,Z1f,Zbbc,Zbbf,Zbrc,Zbrd,Zbre,Zbrf,Zbbh,Zbrg])
abbrev Zbzn:=Zda.1.1.1.1
abbrev Zcm9:=Zda.1.1.1.2
abbrev Zcna:=Zda.1.1.2.1
abbrev Zbzo:=Zda.1.1.2.2
abbrev Zcnb:=Zda.1.2.1.1
abbrev Zcnc:=Zda.1.2.1.2
abbrev Zcnd:=Zda.1.2.2.1
abbrev Zbzp:=Zda.1.2.2.2.1
abbrev Zcne:=Zda.1.2.2.2.2
abbrev Zcnf:=Zda.2.1.1.1
abbrev Zbzq:=Zda.2.1.1.2
abbrev Zbzr:=Zda.2.1.2.1
abbrev Zbzs:=Zda.2.1.2.2
abbrev Zcng:=Zda.2.2.1.1
abbrev Zcnh:=Zda.2.2.1.2
abbrev Zcni:=Zda.2.2.2.1
abbrev Zbzt:=Zda.2.2.2.2.1
abbrev Zcnj:=Zda.2.2.2.2.2
theorem Zcnk{a:Zb}{r:AV×List Blk}(h:(∃(v:Bool),Z7 a.Zp 1 4=some (Bo v,[])/\(if v=true then(∃(v1:Bool),Z7 (a.Atoms.length:Int) 1 4=some (Bo v1,[])/\(if v1=true then(0<=a.Zp/\(a.Zp.toNat*1<=room/\(a.Zp<=140737488355328/\(Zmg a (List.replicate (a.Zp).toNat false) a.Atoms (a.Atoms.length:Int) 0=some r))))else(some (Bo false,[])=some r)))else(some (Bo false,[])=some r)))):Zkf a=some r:=by
 unfold Zkf;refine run Zcg1 rfl ?_;obtain⟨v,q1,h⟩:=h;unfold Z7 at q1
 try simp at q1
 by_cases q2:v=true
 .rw[if_pos q2]at h;obtain⟨v1,q3,h⟩:=h;unfold Z7 at q3
  try simp at q3
  by_cases q4:v1=true
  .rw[if_pos q4]at h;obtain⟨q5,h⟩:=h;obtain⟨q6,h⟩:=h;have zq6:=q6;try simp at zq6
   obtain⟨q7,h⟩:=h;refine Yf ?_ h;clear h;simp +decide[*,Z1g,tI,tII,Zmg]
  .rw[if_neg q4]at h;refine Yf ?_ h;clear h;simp +decide[*,Z1g,tI,tII]
 .rw[if_neg q2]at h;refine Yf ?_ h;clear h;simp +decide[*,Z1g,tI,tII]
end Go.Proofs.YtnnjbejcffjgfaaGreat
