/-
  Parts of the proofs for this seat: G1 G2 G3 G4 G5.
-/
import Derived.Test.YtnnjbejcffjgfaaGreatP11
import Derived.Test.YtnnjbejcffjgfaaGreatP12
set_option linter.unusedSectionVars false
set_option linter.unusedSimpArgs false
set_option linter.unusedVariables false
set_option maxRecDepth 100000
set_option maxHeartbeats 4000000
namespace Go.Proofs.YtnnjbejcffjgfaaGreat
open Go.AM
theorem Zc7:((((∀a a1 a2 r,Im (Z7 a a1 a2=some r) (if a1<=a then qb (decide (a<=a2)) r else qb false r))/\
 (∀cn c x x1 x2 r,Im (Ztc cn c x x1 x2=some r) (if x2<x1 then qG x x2 (λe1=>qB (Z7 e1 0 9) (Ztc cn c x x1 (w (x2+1))=some r) (qb false r))else qb (decide ((cn.length:Int)=c)) r)))/\
 ((∀a a1 r,Im (Z0t a a1=some r) (Ztc a a1 a (a.length:Int) 0=some r))/\
 (∀a r,Im (Zoz a=some r) (if(a.size:Int)=1 then ∃b1,a[0]?=some b1/\if 97<=(b1.toNat:Int)then qb (decide ((b1.toNat:Int)<=122)) r else qb false r else qb false r))))/\
 (((∀a r,Im (Z0u a=some r) (qb (!(decide (a=a))) r))/\
 (∀a a1 r,Im (Z0v a a1=some r) (qV (Z0u a) (λv=>qV (Z0u a1) (λv1=>if v=true then if v1=true then qi 0 r else qi (-1) r else if v1=true then qi 1 r else if a<a1 then qi (-1) r else if a1<a then qi 1 r else qi 0 r)))))/\
 ((∀s1 s2 x x1 x2 r,Im (Ztd s1 s2 x x1 x2=some r) (if x2<x1 then qG x x2 (λe1=>if(s2.length:Int)<=x2 then qi 1 r else qH s2 x2 (λe2=>qI (Z0v e1 e2) (λv2=>if v2=0 then Ztd s1 s2 x x1 (w (x2+1))=some r else qi v2 r)))else if(s1.length:Int)<(s2.length:Int)then qi (-1) r else qi 0 r))/\
 ((∀a a1 r,Im (Z80 a a1=some r) (Ztd a a1 a (a.length:Int) 0=some r))/\
 (∀a a1 r,Im (Z0w a a1=some r) (qI (Z80 a a1) (λv=>qi v r)))))))/\
 ((((∀cl i r,Im (Zte cl i=some r) (if i<(cl.length:Int)then 0<=(w (i-1))/\∃e1,cl[(w (i-1)).toNat]?=some e1/\qG cl i (λe2=>qI (Z0w e1 e2) (λv2=>if 0<=v2 then qb false r else Zte cl (w (i+1))=some r))else qb true r))/\
 (∀a r,Im (Z0x a=some r) (Zte a 1=some r)))/\
 ((∀t x x1 x2 r,Im (Ztf t x x1 x2=some r) (if x2<x1 then qG x x2 (λe1=>qB (Z0t e1 t.Arity) (Ztf t x x1 (w (x2+1))=some r) (qb false r))else qB (Zoz t.Name) (qB (Z7 t.Arity 1 3) (if(t.Rows.length:Int)<=8 then qV (Z0x t.Rows) (λv3=>qb v3 r)else qb false r) (qb false r)) (qb false r)))/\
 (∀a r,Im (Zhj a=some r) (Ztf a a.Rows (a.Rows.length:Int) 0=some r))))/\
 (((∀db x x1 x2 r,Im (Zo1 db x x1 x2=some r) (if x2<x1 then qG x x2 (λe1=>qB (Zhj e1) (if 0<x2 then 0<=(w (x2-1))/\∃e3,db.Tables[(w (x2-1)).toNat]?=some e3/\if(Op.bytesLess e3.Name.toList e1.Name.toList)=true then Zo1 db x x1 (w (x2+1))=some r else qb false r else Zo1 db x x1 (w (x2+1))=some r) (qb false r))else qb (decide ((db.Tables.length:Int)<=6)) r))/\
 (∀a r,Im (Zo0 a=some r) (Zo1 a a.Tables (a.Tables.length:Int) 0=some r)))/\
 ((∀cc cd i r,Im (Zo2 cc cd i=some r) (¬i<0/\if(shrI cd i)=0 then some (.own 0,[.arr 3 1 true (cc.map ic)])=some r else if(andI (shrI cd i) 1)=1 then cc.length+1<=68719476736/\Zo2 (cc++[i]) cd (w (i+1))=some r else Zo2 cc cd (w (i+1))=some r))/\
 ((∀a r,Im (Ze3 a=some r) (Zo2 ([]:List Int) a 0=some r))/\
 (∀cc c cd r,Im (Zj8 cc c cd=some r) (¬c<0/\if cd<(shlI 1 c)then qO 3 1 ic (Ze3 cd) (λv=>cc.length+1<=68719476736/\Zj8 (cc++[v]) c (w (cd+1))=some r)else some (.own 0,[.arr 56 1 true (cc.map isc)])=some r)))))):=by
 and_intros
 all_goals(intros;unfold Im;(try simp only[Z7,Ztc,Z0t,Zoz,Z0u,Z0v,Ztd,Z80,Z0w,Zte,Z0x,Ztf,Zhj,Zo1,Zo0,Zo2,Ze3,Zj8,Ze.c_def,mpl,dfs,qs]);(try simp only[itb]);(try simp only[itf,gS,kk]))
 all_goals(repeat' first|refine exI λ_=>?_|refine anJ λ_ _=>?_|refine anI λ_=>?_|refine orE2 ?_ ?_|exact False.elim)
 all_goals(intro h;first|refine run Zce4 rfl ?_|rw[Zd Z8v.eq_1]|refine run Zce5 rfl ?_|refine run Zce6 rfl ?_|refine run Zce7 rfl ?_|refine run Zce8 rfl ?_|rw[Zd Z8y.eq_1]|refine run Zce9 rfl ?_|refine run Zcfa rfl ?_|rw[Zd Z82.eq_1]|refine run Zcfb rfl ?_|rw[Zd Z85.eq_1]|refine run Zcfc rfl ?_|rw[Zd Z88.eq_1]|refine run Zcfd rfl ?_|rw[Zd Z9a.eq_1]|refine run Zcfe rfl ?_|rw[Zd Z9d.eq_1])
 all_goals (refine Yf ?_ h;clear h;simp +decide[*,kk,tI,tII,Zbpe,Z8w,Zbpf,Zbpg,Zbph,Zbpi,Z8z,Zbpj,Zbpk,Z83,Zbpl,Z86,Zbpm,Z89,Zbpn,Z9b,Zbpo,Zbpp,Z9e])
abbrev Zcle:=uq Zc7.1.1.1.1
abbrev Zbyg:=uq Zc7.1.1.1.2
abbrev Zclf:=uq Zc7.1.1.2.1
abbrev Zclg:=uq Zc7.1.1.2.2
abbrev Zbyh:=uq Zc7.1.2.1.1
abbrev Zclh:=uq Zc7.1.2.1.2
abbrev Zbyi:=uq Zc7.1.2.2.1
abbrev Zcli:=uq Zc7.1.2.2.2.1
abbrev Zclj:=uq Zc7.1.2.2.2.2
abbrev Zbi8:=uq Zc7.2.1.1.1
abbrev Zclk:=uq Zc7.2.1.1.2
abbrev Zbyj:=uq Zc7.2.1.2.1
abbrev Zcll:=uq Zc7.2.1.2.2
abbrev Zbyk:=uq Zc7.2.2.1.1
abbrev Zclm:=uq Zc7.2.2.1.2
abbrev Zi1:=uq Zc7.2.2.2.1
abbrev Zk6:=uq Zc7.2.2.2.2.1
abbrev Zbyl:=uq Zc7.2.2.2.2.2
theorem Ze8:(((∀a r,Im (Zo3 a=some r) (qB (Z7 a 1 3) (Zj8 ([]:List (List Int)) a 1=some r) (some (.t .nil,[])=some r)))/\
 ((∀cd cn x x1 x2 r,Im (Zo5 cd cn x x1 x2=some r) (if x2<x1 then qG x x2 (λe1=>qB (Z7 e1 0 (w (cn-1))) (if 0<x2 then 0<=(w (x2-1))/\∃e3,cd[(w (x2-1)).toNat]?=some e3/\if e1<=e3 then qb false r else Zo5 cd cn x x1 (w (x2+1))=some r else Zo5 cd cn x x1 (w (x2+1))=some r) (qb false r))else qb true r))/\
 (∀a a1 r,Im (Zo4 a a1=some r) (Zo5 a a1 a (a.length:Int) 0=some r))))/\
 (((∀cl co x x1 x2 r,Im (Ztg cl co x x1 x2=some r) (if x2<x1 then qG x x2 (λe1=>qB (Z7 e1 0 (w ((co.length:Int)-1))) (qG co e1 (λe3=>cl.length+1<=68719476736/\Ztg (cl++[e3]) co x x1 (w (x2+1))=some r)) (some (.tup [.t .nil,Bo false],[])=some r))else some (.tup [.own 0,Bo true],[.arr 3 1 true (cl.map ic)])=some r))/\
 (∀a a1 r,Im (Zc5 a a1=some r) (Ztg ([]:List Int) a a1 (a1.length:Int) 0=some r)))/\
 ((∀a r,Im (Zeo a=some r) (a.length<=68719476736/\some (.own 0,[.arr 3 1 true (a.map ic)])=some r))/\
 (∀cl x x1 x2 r,Im (Zo6 cl x x1 x2=some r) (if x2<x1 then qG x x2 (λe1=>qO 3 1 ic (Zeo e1) (λv1=>cl.length+1<=68719476736/\Zo6 (cl++[v1]) x x1 (w (x2+1))=some r))else some (.own 0,[.arr 56 1 true (cl.map isc)])=some r)))))/\
 (((∀a r,Im (Zhk a=some r) (Zo6 ([]:List (List Int)) a (a.length:Int) 0=some r))/\
 ((∀a r,Im (Zth a=some r) (qO 56 1 isc (Zhk a) (λv=>∃(v1:List (List Int)),Z9o v=some (.tup [],[.arr 56 1 true (v1.map isc)])/\∃(v2:List (List Int)),Z9p v1=some (.own 1,[.dead,.arr 56 1 true (v2.map isc)])/\some (.own 0,[.arr 56 1 true (v2.map isc)])=some r)))/\
 (∀s1 s2 x x1 r,Im (Zti s1 s2 x x1=some r) (if x1<x then qG s1 x1 (λe1=>qH s2 x1 (λe2=>if e1=e2 then Zti s1 s2 x (w (x1+1))=some r else qb false r))else qb true r))))/\
 (((∀a a1 r,Im (Zik a a1=some r) (if(a.length:Int)=(a1.length:Int)then Zti a a1 (a.length:Int) 0=some r else qb false r))/\
 (∀all cc c x x1 r,Im (Zl6 all cc c x x1=some r) (if x1<x then qG cc x1 (λe1=>Zo7 all cc c x1 e1 x x1 (all.length:Int) 0=some r)else some (.tup [.own 0,.own 1],[.arr 56 1 true (cc.map isc),.arr 3 1 true (c.map ic)])=some r)))/\
 ((∀all cc c i g x x1 x2 x3 r,Im (Zo7 all cc c i g x x1 x2 x3=some r) (if x3<x2 then qG all x3 (λe1=>qB (Zik g e1) (qG c i (λe3=>Zo7 all cc (c.set i.toNat (w (e3+1))) i g x x1 x2 (w (x3+1))=some r)) (Zo7 all cc c i g x x1 x2 (w (x3+1))=some r))else Zl6 all cc c x (w (x1+1))=some r))/\
 (∀a a1 r,Im (Zgv a a1=some r) (qB (Zhj a) (qB (Zo4 a1 a.Arity) (Zil ([]:List (List Int)) a1 a.Rows (a.Rows.length:Int) 0=some r) (some (.tup [.t .nil,.t .nil],[])=some r)) (some (.tup [.t .nil,.t .nil],[])=some r)))))):=by
 and_intros
 all_goals(intros;unfold Im;(try simp only[Zo3,Zo5,Zo4,Ztg,Zc5,Zeo,Zo6,Zhk,Zth,Zti,Zik,Zl6,Zo7,Zgv,Z7,Z9o,Z9p,Zhj,Ze.c_def,Zj8,Zil,mpl,dfs,qs]);(try simp only[itb]);(try simp only[itf,gS,kk]))
 all_goals(repeat' first|refine exI λ_=>?_|refine anJ λ_ _=>?_|refine anI λ_=>?_|refine orE2 ?_ ?_|exact False.elim)
 all_goals(intro h;first|refine run Zcff rfl ?_|rw[Zd Z9g.eq_1]|refine run Zcfg rfl ?_|rw[Zd Z9j.eq_1]|refine run Zcfh rfl ?_|refine run Zcfi rfl ?_|rw[Zd Z9m.eq_1]|refine run Zcfj rfl ?_|refine run Zcfk rfl ?_|rw[Zd Z9r.eq_1]|refine run Zcfl rfl ?_|rw[Zd Z0z.eq_1]|rw[Zd Z9u.eq_1]|refine run Zcfm rfl ?_)
 all_goals (refine Yf ?_ h;clear h;simp +decide[*,kk,tI,tII,Zbpq,Z9h,Zbpr,Z9k,Zbps,Zbpt,Z9n,Zbpu,Zbpv,Z9s,Zbpw,Z00,Zbpx,Z9v,Zbpy])
abbrev Zcln:=uq Ze8.1.1.1
abbrev Zbym:=uq Ze8.1.1.2.1
abbrev Zclo:=uq Ze8.1.1.2.2
abbrev Zbyn:=uq Ze8.1.2.1.1
abbrev Zclp:=uq Ze8.1.2.1.2
abbrev Zbyo:=uq Ze8.1.2.2.1
abbrev Z5j:=uq Ze8.1.2.2.2
abbrev Zbyp:=uq Ze8.2.1.1
abbrev Zclq:=uq Ze8.2.1.2.1
abbrev Zbyq:=uq Ze8.2.1.2.2
abbrev Zclr:=uq Ze8.2.2.1.1
abbrev Zbyr:=uq Ze8.2.2.1.2
abbrev Zbys:=uq Ze8.2.2.2.1
abbrev Zcls:=uq Ze8.2.2.2.2
theorem Zbyt{all:List (List Int)}{c:List Int}{x:List (List Int)}{x1 x2:Int}{r:AV×List Blk}(h:(if x2<x1 then(0<=x2/\(∃(e1:List Int),x[x2.toNat]?=some e1/\((Zc5 e1 c=some (.tup [.t .nil,Bo false],[])/\(all.length+1<=68719476736/\(Zil (all++[[]]) c x x1 (w (x2+1))=some r)))\/(∃(v:List Int),Zc5 e1 c=some (.tup [.own 0,Bo true],[.arr 3 1 true (v.map ic)])/\(all.length+1<=68719476736/\(Zil (all++[v]) c x x1 (w (x2+1))=some r))))))else(∃(v1:List (List Int)),Zth all=some (.own 0,[.arr 56 1 true (v1.map isc)])/\(0<=(v1.length:Int)/\((v1.length:Int)<=(v1.length:Int)/\((v1.length:Int).toNat*8<=room/\((v1.length:Int)<=140737488355328/\(Zl6 all v1 (List.replicate ((v1.length:Int)).toNat 0) (v1.length:Int) 0=some r)))))))):Zil all c x x1 x2=some r:=by
 unfold Zil;rw[Zd Z9t.eq_1];by_cases q1:x2<x1
 .rw[if_pos q1]at h;obtain⟨q2,h⟩:=h;obtain⟨e1,q3,h⟩:=h;have gq3:=Zii q3;have kq3:=Zj4 q3;rcases h with h|h
  .obtain⟨q4,h⟩:=h;unfold Zc5 at q4
   try simp at q4
   obtain⟨q5,h⟩:=h;have rq5:=Zfm (b:=24) q5 (by omega);have sq5:=Zfn q5
   try simp[*]at rq5
   try simp[*]at sq5
   refine Yf ?_ h;clear h;simp +decide[*,tI,tII,Zil]
  .obtain⟨v,q6,h⟩:=h;unfold Zc5 at q6
   try simp at q6
   obtain⟨q7,h⟩:=h;have rq7:=Zfm (b:=24) q7 (by omega);have sq7:=Zfn q7
   try simp[*]at rq7
   try simp[*]at sq7
   refine Yf ?_ h;clear h;simp +decide[*,tI,tII,Zil]
 .rw[if_neg q1]at h;obtain⟨v1,q8,h⟩:=h;unfold Zth at q8
  try simp at q8
  obtain⟨q9,h⟩:=h;have zq9:=q9;try simp at zq9
  obtain⟨q10,h⟩:=h;have zq10:=q10;try simp at zq10
  obtain⟨q11,h⟩:=h;have zq11:=q11;try simp at zq11
  obtain⟨q12,h⟩:=h;have zq12:=q12;try simp at zq12
  refine Yf ?_ h;clear h;simp +decide[*,tI,tII,Zl6,Z9w]
theorem Zc8:((((∀t cv cu cn cp co cc x x1 x2 r,Im (Z9y t cv cu cn cp co cc x x1 x2=some r) (if x2<x1 then qG x x2 (λe1=>(Zgv t e1=some (.tup [.t .nil,.t .nil],[])/\Zl7 t cv cu cn cp co cc false ([(⟨e1,[],[]⟩:Zg)]) x x1 (w (x2+1))=some r)\/(∃(v6:List (List Int)) (v7:List Int),Zgv t e1=some (.tup [.own 0,.own 1],[.arr 56 1 true (v6.map isc),.arr 3 1 true (v7.map ic)])/\Zl7 t cv cu cn cp co cc false ([(⟨e1,v6,v7⟩:Zg)]) x x1 (w (x2+1))=some r))else some (.agg [.t (.str cp),I co,I cc,.t .nil],[])=some r))/\
 (∀t cv cu cn cp co cc fr x x1 x2 x3 r,Im (Zl7 t cv cu cn cp co cc fr x x1 x2 x3=some r) (if x3<x2 then qG x1 x3 (λe1=>(Zgv t e1=some (.tup [.t .nil,.t .nil],[])/\x.length+1<=68719476736/\Zl7 t cv cu cn cp co cc false (x++[(⟨e1,[],[]⟩:Zg)]) x1 x2 (w (x3+1))=some r)\/(∃(v6:List (List Int)) (v7:List Int),Zgv t e1=some (.tup [.own 0,.own 1],[.arr 56 1 true (v6.map isc),.arr 3 1 true (v7.map ic)])/\x.length+1<=68719476736/\Zl7 t cv cu cn cp co cc false (x++[(⟨e1,v6,v7⟩:Zg)]) x1 x2 (w (x3+1))=some r))else some (.agg [.t (.str cp),I co,I cc,.own 0],[.arr 200 3 fr (x.map Zg.c)])=some r)))/\
 ((∀a r,Im (Zhl a=some r) (qB (Zhj a) ((Zo3 a.Arity=some (.t .nil,[])/\Zbp0 a (⟨#[]⟩:ByteArray) 0 0 a.Name a.Arity (a.Rows.length:Int) 0 0=some r)\/(qO 56 1 isc (Zo3 a.Arity) (λv6=>Z9y a (⟨#[]⟩:ByteArray) 0 0 a.Name a.Arity (a.Rows.length:Int) v6 (v6.length:Int) 0=some r))) (some (.agg [.t (.str (⟨#[]⟩:ByteArray)),I 0,I 0,.t .nil],[])=some r)))/\
 (∀cl cd x x1 x2 r,Im (Z90 cl cd x x1 x2=some r) (if x2<x1 then qG x x2 (λe1=>(∃v3 v4 v5,Zhl e1=some (.agg [.t (.str v3),I v4,I v5,.t .nil],[])/\Zl8 cl cd true ([(⟨v3,v4,v5,[]⟩:Zf)]) x x1 (w (x2+1))=some r)\/(∃v6,∃(v7:List Zg),∃v8,∃v9,∃v10,Zhl e1=some (.agg [.t (.str v8),I v9,I v10,.own 0],[.arr 200 3 v6 (v7.map Zg.c)])/\Zl8 cl cd v6 ([(⟨v8,v9,v10,v7⟩:Zf)]) x x1 (w (x2+1))=some r))else some (.tup [.agg [I cd,.t .nil],Bo true],[])=some r))))/\
 (((∀cl cd fr x x1 x2 x3 r,Im (Zl8 cl cd fr x x1 x2 x3=some r) (if x3<x2 then qG x1 x3 (λe1=>(∃v3 v4 v5,Zhl e1=some (.agg [.t (.str v3),I v4,I v5,.t .nil],[])/\x.length+1<=68719476736/\Zl8 cl cd fr (x++[(⟨v3,v4,v5,[]⟩:Zf)]) x1 x2 (w (x3+1))=some r)\/(∃v6,∃(v7:List Zg),∃v8,∃v9,∃v10,Zhl e1=some (.agg [.t (.str v8),I v9,I v10,.own 0],[.arr 200 3 v6 (v7.map Zg.c)])/\x.length+1<=68719476736/\Zl8 cl cd (fr && v6) (x++[(⟨v8,v9,v10,v7⟩:Zf)]) x1 x2 (w (x3+1))=some r))else some (.tup [.agg [I cd,.own 0],Bo true],[.arr 141 4 fr (x.map Zf.c)])=some r))/\
 (∀a a1 r,Im (Zo8 a a1=some r) (qB (Zo0 a) (qB (Z7 a1 1 999) (Z90 0 a1 a.Tables (a.Tables.length:Int) 0=some r) (some (.tup [.agg [I 0,.t .nil],Bo false],[])=some r)) (some (.tup [.agg [I 0,.t .nil],Bo false],[])=some r))))/\
 ((∀s2 x x1 r,Im (Z94 s2 x x1=some r) (if x1<x then False else qb true r))/\
 ((∀a r,Im (Z93 a=some r) (if 0=(a.length:Int)then Z94 a 0 0=some r else qb false r))/\
 (∀cl a r,Im (Ztn cl a=some r) (if cl=a.Version then qV (Z93 a.Tables) (λv1=>qb v1 r)else qb false r))))))/\
 ((((∀a a1 r,Im (Z96 a a1=some r) (qb (decide (a.Name=a1)) r))/\
 (∀s f x x1 r,Im (Zto s f x x1=some r) (if x1<x then qG s x1 (λe1=>qB (Z96 e1 f) (qi x1 r) (Zto s f x (w (x1+1))=some r))else qi (-1) r)))/\
 ((∀a a1 r,Im (Zbaa a a1=some r) (Zto a a1 (a.length:Int) 0=some r))/\
 (∀a r,Im (Zbab a=some r) (qO 56 1 isc (Zhk a.Rows) (λv1=>some (.agg [.t (.str a.Name),I a.Arity,.own 0],[.arr 56 1 true (v1.map isc)])=some r)))))/\
 (((∀a a1 r,Im (Zb0 a a1=some r) (qI (Zbaa a.Tables a1) (λv1=>if v1<0 then some (.tup [.agg [.t (.str (⟨#[]⟩:ByteArray)),I 0,.t .nil],Bo false],[])=some r else qB (Zo0 a) (qG a.Tables v1 (λe3=>∃(v11:List (List Int)),∃v12,∃v13,Zbab e3=some (.agg [.t (.str v12),I v13,.own 0],[.arr 56 1 true (v11.map isc)])/\some (.tup [.agg [.t (.str v12),I v13,.own 0],Bo true],[.arr 56 1 true (v11.map isc)])=some r)) (some (.tup [.agg [.t (.str (⟨#[]⟩:ByteArray)),I 0,.t .nil],Bo false],[])=some r))))/\
 (∀s v x x1 r,Im (Ztp s v x x1=some r) (if x1<x then qG s x1 (λe1=>if v=e1 then qi x1 r else Ztp s v x (w (x1+1))=some r)else qi (-1) r)))/\
 ((∀a a1 r,Im (Zl9 a a1=some r) (Ztp a a1 (a.length:Int) 0=some r))/\
 ((∀a a1 r,Im (Zfo a a1=some r) (qI (Zl9 a a1) (λv1=>qb (decide (0<=v1)) r)))/\
 (∀a a1 r,Im (Zo9 a a1=some r) ((∃v1 v2,Zb0 a a1.Name=some (.tup [.agg [.t (.str v1),I v2,.t .nil],Bo false],[])/\qb false r)\/(∃(v3:List (List Int)),∃v4,∃v5,Zb0 a a1.Name=some (.tup [.agg [.t (.str v4),I v5,.own 0],Bo true],[.arr 56 1 true (v3.map isc)])/\qB (Zo4 a1.From v5) (qB (Z7 a1.To 0 (w (v5-1))) (qV (Zfo a1.From a1.To) (λv14=>qb (!v14) r)) (qb false r)) (qb false r)))))))):=by
 and_intros
 all_goals(intros;unfold Im;(try simp only[Z9y,Zl7,Zhl,Z90,Zl8,Zo8,Z94,Z93,Ztn,Z96,Zto,Zbaa,Zbab,Zb0,Ztp,Zl9,Zfo,Zo9,Zgv,Ze.c_def,Zhj,Zo3,Zo0,Z7,Zi.c_def,Zf.c_def,Zhk,Zo4,Zbp0,mpl,dfs,qs]);(try simp only[itb]);(try simp only[itf,gS,kk]))
 all_goals(repeat' first|refine exI λ_=>?_|refine anJ λ_ _=>?_|refine anI λ_=>?_|refine orE2 ?_ ?_|exact False.elim)
 all_goals(intro h;first|rw[Zd Ztj.eq_1]|refine run Zcfn rfl ?_|rw[Zd Z01.eq_1]|refine run Zcfo rfl ?_|rw[Zd Ztl.eq_1]|refine run Zbya rfl ?_|refine run Zbyb rfl ?_|refine run Zcfp rfl ?_|rw[Zd Z98.eq_1]|refine run Zcfq rfl ?_|refine run Zcfr rfl ?_|refine run Zcfs rfl ?_|rw[Zd Zbad.eq_1]|refine run Zcft rfl ?_|refine run Zcfu rfl ?_|refine run Zcfv rfl ?_)
 all_goals (refine Yf ?_ h;clear h;simp +decide[*,kk,tI,tII,Ztk,Zbpz,Z02,Zbp1,Ztm,Z92,Z95,Zbp2,Z99,Zbp3,Zbp4,Zbp5,Zbae,Zbp6,Zbp7,Zbp8])
abbrev Zclt:=uq Zc8.1.1.1.1
abbrev Zbyu:=uq Zc8.1.1.1.2
abbrev Zclu:=uq Zc8.1.1.2.1
abbrev Zclv:=uq Zc8.1.1.2.2
abbrev Zbyv:=uq Zc8.1.2.1.1
abbrev Zclw:=uq Zc8.1.2.1.2
abbrev Zclx:=uq Zc8.1.2.2.1
abbrev Zcly:=uq Zc8.1.2.2.2.1
abbrev Zclz:=uq Zc8.1.2.2.2.2
abbrev Zcl0:=uq Zc8.2.1.1.1
abbrev Zbyw:=uq Zc8.2.1.1.2
abbrev Zcl1:=uq Zc8.2.1.2.1
abbrev Zcl2:=uq Zc8.2.1.2.2
abbrev Zcl3:=uq Zc8.2.2.1.1
abbrev Zbyx:=uq Zc8.2.2.1.2
abbrev Zcl4:=uq Zc8.2.2.2.1
abbrev Zcl5:=uq Zc8.2.2.2.2.1
abbrev Zcl6:=uq Zc8.2.2.2.2.2
theorem Zdr:((((∀f t x x1 x2 r,Im (Zpa f t x x1 x2=some r) (if x2<x1 then qG x x2 (λe1=>x2.toNat<=t.Rows.length/\Zep f t x2 e1 x x1 x2 (t.Rows.take x2.toNat) ((t.Rows.take x2.toNat).length:Int) 0=some r)else some (.t .nil,[])=some r))/\
 (∀f t k y x x1 x2 x3 x4 x5 r,Im (Zep f t k y x x1 x2 x3 x4 x5=some r) (if x5<x4 then qG x3 x5 (λe1=>(Zc5 e1 f.From=some (.tup [.t .nil,Bo false],[])/\((Zc5 y f.From=some (.tup [.t .nil,Bo false],[])/\qB Zbp9 (qG e1 f.To (λe5=>qH y f.To (λe6=>if e5=e6 then Zep f t k y x x1 x2 x3 x4 (w (x5+1))=some r else some (.own 0,[.arr 3 1 true (([x5,k]).map ic)])=some r))) (Zep f t k y x x1 x2 x3 x4 (w (x5+1))=some r))\/(∃(v16:List Int),Zc5 y f.From=some (.tup [.own 0,Bo true],[.arr 3 1 true (v16.map ic)])/\qB (Zbqa v16) (qG e1 f.To (λe9=>qH y f.To (λe10=>if e9=e10 then Zep f t k y x x1 x2 x3 x4 (w (x5+1))=some r else some (.own 0,[.arr 3 1 true (([x5,k]).map ic)])=some r))) (Zep f t k y x x1 x2 x3 x4 (w (x5+1))=some r))))\/(∃(v20:List Int),Zc5 e1 f.From=some (.tup [.own 0,Bo true],[.arr 3 1 true (v20.map ic)])/\((Zc5 y f.From=some (.tup [.t .nil,Bo false],[])/\qB (Zbqb v20) (qG e1 f.To (λe14=>qH y f.To (λe15=>if e14=e15 then Zep f t k y x x1 x2 x3 x4 (w (x5+1))=some r else some (.own 0,[.arr 3 1 true (([x5,k]).map ic)])=some r))) (Zep f t k y x x1 x2 x3 x4 (w (x5+1))=some r))\/(∃(v21:List Int),Zc5 y f.From=some (.tup [.own 0,Bo true],[.arr 3 1 true (v21.map ic)])/\qB (Zik v20 v21) (qG e1 f.To (λe18=>qH y f.To (λe19=>if e18=e19 then Zep f t k y x x1 x2 x3 x4 (w (x5+1))=some r else some (.own 0,[.arr 3 1 true (([x5,k]).map ic)])=some r))) (Zep f t k y x x1 x2 x3 x4 (w (x5+1))=some r)))))else Zpa f t x x1 (w (x2+1))=some r)))/\
 ((∀a a1 r,Im (Ztt a a1=some r) (qB (Zo9 a a1) ((∃v2 v3,Zb0 a a1.Name=some (.tup [.agg [.t (.str v2),I v3,.t .nil],Bo false],[])/\Zbqd a1 v2 v3 0 0=some r)\/(∃(v4:List (List Int)),∃v5,∃v6,Zb0 a a1.Name=some (.tup [.agg [.t (.str v5),I v6,.own 0],Bo true],[.arr 56 1 true (v4.map isc)])/\Zpa a1 (⟨v5,v6,v4⟩:Ze) v4 (v4.length:Int) 0=some r)) (some (.t .nil,[])=some r)))/\
 (∀a a1 r,Im (Z03 a a1=some r) (qB (Zo9 a a1) ((Ztt a a1=some (.t .nil,[])/\qb true r)\/(qO 3 1 ic (Ztt a a1) (λv4=>qb (decide ((v4.length:Int)=0)) r))) (qb false r)))))/\
 (((∀a a1 r,Im (Ztu a a1=some r) ((∃v v1,Zb0 a a1.Name=some (.tup [.agg [.t (.str v),I v1,.t .nil],Bo false],[])/\((∃v2 v3,Zb0 a a1.Into=some (.tup [.agg [.t (.str v2),I v3,.t .nil],Bo false],[])/\qb false r)\/(∃(v4:List (List Int)),∃v5,∃v6,Zb0 a a1.Into=some (.tup [.agg [.t (.str v5),I v6,.own 0],Bo true],[.arr 56 1 true (v4.map isc)])/\qb false r)))\/(∃(v7:List (List Int)),∃v8,∃v9,Zb0 a a1.Name=some (.tup [.agg [.t (.str v8),I v9,.own 0],Bo true],[.arr 56 1 true (v7.map isc)])/\((∃v10 v11,Zb0 a a1.Into=some (.tup [.agg [.t (.str v10),I v11,.t .nil],Bo false],[])/\qb false r)\/(∃(v13:List (List Int)),∃v14,∃v15,Zb0 a a1.Into=some (.tup [.agg [.t (.str v14),I v15,.own 0],Bo true],[.arr 56 1 true (v13.map isc)])/\qB (Z7 a1.Column 0 (w (v9-1))) (qV (Z7 a1.IntoColumn 0 (w (v15-1))) (λv19=>qb v19 r)) (qb false r))))))/\
 (∀x co cn x1 cd x2 x3 x4 r,Im (Ztw x co cn x1 cd x2 x3 x4=some r) (if x4<x3 then qG x2 x4 (λe1=>qG e1 x.IntoColumn (λe2=>cd.length+1<=68719476736/\Ztw x co cn x1 (cd++[e2]) x2 x3 (w (x4+1))=some r))else Zpe x cd ([]:List Int) x1 (x1.length:Int) 0=some r)))/\
 ((∀x cd cl x1 x2 x3 r,Im (Zpe x cd cl x1 x2 x3=some r) (if x3<x2 then qG x1 x3 (λe1=>qG e1 x.Column (λe2=>qB (Zfo cd e2) (Zpe x cd cl x1 x2 (w (x3+1))=some r) (cl.length+1<=68719476736/\Zpe x cd (cl++[e2]) x1 x2 (w (x3+1))=some r)))else ∃(v7:List Int),Zma cl=some (.tup [],[.arr 3 1 true (v7.map ic)])/\∃(v10:List Int),Z04 v7=some (.own 1,[.dead,.arr 3 1 true (v10.map ic)])/\some (.own 0,[.arr 3 1 true (v10.map ic)])=some r))/\
 (∀a a1 r,Im (Ztv a a1=some r) (qB (Ztu a a1) ((∃v2 v3,Zb0 a a1.Name=some (.tup [.agg [.t (.str v2),I v3,.t .nil],Bo false],[])/\((∃v4 v5,Zb0 a a1.Into=some (.tup [.agg [.t (.str v4),I v5,.t .nil],Bo false],[])/\Zbqi a1 v2 v3 ([]:List Int) 0 0=some r)\/(∃(v7:List (List Int)),∃v8,∃v9,Zb0 a a1.Into=some (.tup [.agg [.t (.str v8),I v9,.own 0],Bo true],[.arr 56 1 true (v7.map isc)])/\Zbqj a1 v2 v3 ([]:List Int) v7 (v7.length:Int) 0=some r)))\/(∃(v10:List (List Int)),∃v11,∃v12,Zb0 a a1.Name=some (.tup [.agg [.t (.str v11),I v12,.own 0],Bo true],[.arr 56 1 true (v10.map isc)])/\((∃v13 v14,Zb0 a a1.Into=some (.tup [.agg [.t (.str v13),I v14,.t .nil],Bo false],[])/\Zbqk a1 v11 v12 v10 ([]:List Int) 0 0=some r)\/(∃(v16:List (List Int)),∃v17,∃v18,Zb0 a a1.Into=some (.tup [.agg [.t (.str v17),I v18,.own 0],Bo true],[.arr 56 1 true (v16.map isc)])/\Ztw a1 v11 v12 v10 ([]:List Int) v16 (v16.length:Int) 0=some r)))) (some (.t .nil,[])=some r))))))/\
 ((((∀a a1 r,Im (Z05 a a1=some r) (qB (Ztu a a1) ((Ztv a a1=some (.t .nil,[])/\qb true r)\/(qO 3 1 ic (Ztv a a1) (λv4=>qb (decide ((v4.length:Int)=0)) r))) (qb false r)))/\
 (∀db cc c x x1 x2 r,Im (Zty db cc c x x1 x2=some r) (if x2<x1 then qG x x2 (λe1=>qB (Z03 db e1) (Zty db cc c x x1 (w (x2+1))=some r) (qb false r))else Ztz db cc c c (c.length:Int) 0=some r)))/\
 ((∀db cc c x x1 x2 r,Im (Ztz db cc c x x1 x2=some r) (if x2<x1 then qG x x2 (λe1=>qB (Z05 db e1) (Ztz db cc c x x1 (w (x2+1))=some r) (qb false r))else if(cc.length:Int)<=8 then qb (decide ((c.length:Int)<=8)) r else qb false r))/\
 (∀a a1 a2 r,Im (Zpf a a1 a2=some r) (Zty a a1 a2 a1 (a1.length:Int) 0=some r))))/\
 (((∀a a1 r,Im (Zban a a1=some r) (qV (Zik a a1) (λv=>qb v r)))/\
 (∀s2 x x1 x2 r,Im (Zt0 s2 x x1 x2=some r) (if x2<x1 then qG x x2 (λe1=>qH s2 x2 (λe2=>qB (Zban e1 e2) (Zt0 s2 x x1 (w (x2+1))=some r) (qb false r)))else qb true r)))/\
 ((∀a a1 r,Im (Zbar a a1=some r) (if(a.length:Int)=(a1.length:Int)then Zt0 a1 a (a.length:Int) 0=some r else qb false r))/\
 ((∀a a1 r,Im (Z06 a a1=some r) (qV (Zbar a a1) (λv=>qb v r)))/\
 (∀a a1 r,Im (Zt1 a a1=some r) (qB (Zik a.Columns a1.Columns) (qB (Z06 a.Values a1.Values) (qV (Zik a.Counts a1.Counts) (λv4=>qb v4 r)) (qb false r)) (qb false r))))))):=by
 and_intros
 all_goals(intros;unfold Im;(try simp only[Zpa,Zep,Ztt,Z03,Ztu,Ztw,Zpe,Ztv,Z05,Zty,Ztz,Zpf,Zban,Zt0,Zbar,Z06,Zt1,Zc5,Zbp9,Zbqa,Zbqb,Zik,Zo9,Zb0,Zi.c_def,Zk.c_def,Z7,Zfo,Zma,Z04,Zj.c_def,Zbqd,Zbqi,Zbqj,Zbqk,mpl,dfs,qs]);(try simp only[itb]);(try simp only[itf,gS,kk]))
 all_goals(repeat' first|refine exI λ_=>?_|refine anJ λ_ _=>?_|refine anI λ_=>?_|refine orE2 ?_ ?_|exact False.elim)
 all_goals(intro h;first|rw[Zd Ztr.eq_1]|rw[Zd Zbaf.eq_1]|refine run Zcfw rfl ?_|refine run Zcfx rfl ?_|refine run Zcfy rfl ?_|rw[Zd Zpc.eq_1]|rw[Zd Zbah.eq_1]|refine run Zcfz rfl ?_|refine run Zcf0 rfl ?_|rw[Zd Zbaj.eq_1]|rw[Zd Zbak.eq_1]|refine run Zcf1 rfl ?_|refine run Zcf2 rfl ?_|rw[Zd Zbap.eq_1]|refine run Zcf3 rfl ?_|refine run Zcf4 rfl ?_|refine run Zcf5 rfl ?_)
 all_goals (refine Yf ?_ h;clear h;simp +decide[*,kk,tI,tII,Zts,Zbag,Zbqc,Zbqe,Zbqf,Zpd,Zbqg,Zbai,Zbqh,Zbql,Zbam,Zbal,Zbqm,Zbqn,Zbaq,Zbqo,Zbqp,Zbqq])
abbrev Zbyy:=uq Zdr.1.1.1.1
abbrev Zbyz:=uq Zdr.1.1.1.2
abbrev Zcl7:=uq Zdr.1.1.2.1
abbrev Zcl8:=uq Zdr.1.1.2.2
abbrev Zcl9:=uq Zdr.1.2.1.1
abbrev Zby0:=uq Zdr.1.2.1.2
abbrev Zby1:=uq Zdr.1.2.2.1
abbrev Zcma:=uq Zdr.1.2.2.2
abbrev Zcmb:=uq Zdr.2.1.1.1
abbrev Zby2:=uq Zdr.2.1.1.2
abbrev Zby3:=uq Zdr.2.1.2.1
abbrev Zcmc:=uq Zdr.2.1.2.2
abbrev Zcmd:=uq Zdr.2.2.1.1
abbrev Zby4:=uq Zdr.2.2.1.2
abbrev Zcme:=uq Zdr.2.2.2.1
abbrev Zcmf:=uq Zdr.2.2.2.2.1
abbrev Zcmg:=uq Zdr.2.2.2.2.2
theorem Zc9:((((∀s2 x x1 x2 r,Im (Zt2 s2 x x1 x2=some r) (if x2<x1 then qG x x2 (λe1=>qH s2 x2 (λe2=>qB (Zt1 e1 e2) (Zt2 s2 x x1 (w (x2+1))=some r) (qb false r)))else qb true r))/\
 (∀a a1 r,Im (Zbav a a1=some r) (if(a.length:Int)=(a1.length:Int)then Zt2 a1 a (a.length:Int) 0=some r else qb false r)))/\
 ((∀a a1 r,Im (Zmb a a1=some r) (if a.Name=a1.Name then if a.Arity=a1.Arity then if a.RowCount=a1.RowCount then qV (Zbav a.Groups a1.Groups) (λv1=>qb v1 r)else qb false r else qb false r else qb false r))/\
 (∀s2 x x1 x2 r,Im (Zt3 s2 x x1 x2=some r) (if x2<x1 then qG x x2 (λe1=>qH s2 x2 (λe2=>qB (Zmb e1 e2) (Zt3 s2 x x1 (w (x2+1))=some r) (qb false r)))else qb true r))))/\
 (((∀a a1 r,Im (Zbaw a a1=some r) (if(a.length:Int)=(a1.length:Int)then Zt3 a1 a (a.length:Int) 0=some r else qb false r))/\
 (∀a a1 r,Im (Z07 a a1=some r) (if a.Version=a1.Version then qV (Zbaw a.Tables a1.Tables) (λv1=>qb v1 r)else qb false r)))/\
 ((∀a r,Im (Zpg a=some r) ((∃v1 v2,Zo8 a.Zi a.Zl.Version=some (.tup [.agg [I v1,.t .nil],Bo v2],[])/\if v2=true then qB (Ztn v1 a.Zl) (qV (Zpf a.Zi a.Dependencies a.Inclusions) (λv5=>qb v5 r)) (qb false r)else qb false r)\/(∃v8,∃(v9:List Zf),∃v10,Zo8 a.Zi a.Zl.Version=some (.tup [.agg [I v10,.own 0],Bo true],[.arr 141 4 v8 (v9.map Zf.c)])/\qB (Z07 (⟨v10,v9⟩:Zl) a.Zl) (qV (Zpf a.Zi a.Dependencies a.Inclusions) (λv11=>qb v11 r)) (qb false r))))/\
 ((∀s v x x1 r,Im (Zt4 s v x x1=some r) (if x1<x then qG s x1 (λe1=>if v=e1 then qi x1 r else Zt4 s v x (w (x1+1))=some r)else qi (-1) r))/\
 (∀a a1 r,Im (Z08 a a1=some r) (Zt4 a a1 (a.length:Int) 0=some r))))))/\
 ((((∀a a1 r,Im (Z09 a a1=some r) (qI (Z08 a a1) (λv1=>qb (decide (0<=v1)) r)))/\
 (∀q cc x x1 x2 r,Im (Zmc q cc x x1 x2=some r) (if x2<x1 then qG x x2 (λe1=>qB (Zoz e1.Name) (qB (Z7 (e1.Vars.length:Int) 1 3) (Zt6 q cc e1 x x1 x2 e1.Vars (e1.Vars.length:Int) 0=some r) (qb false r)) (qb false r))else qV (Z09 cc false) (λv8=>qb (!v8) r))))/\
 ((∀q cc a x x1 x2 x3 x4 x5 r,Im (Zt6 q cc a x x1 x2 x3 x4 x5=some r) (if x5<x4 then qG x3 x5 (λe1=>qB (Z7 e1 0 (w (q.Zp-1))) (x5.toNat<=a.Vars.length/\qB (Zfo (a.Vars.take x5.toNat) e1) (qb false r) (qG cc e1 (λe4=>Zt6 q (cc.set e1.toNat true) a x x1 x2 x3 x4 (w (x5+1))=some r))) (qb false r))else Zmc q cc x x1 (w (x2+1))=some r))/\
 (∀db x x1 x2 r,Im (Zt7 db x x1 x2=some r) (if x2<x1 then qG x x2 (λe1=>(∃v3 v4,Zb0 db e1.Name=some (.tup [.agg [.t (.str v3),I v4,.t .nil],Bo false],[])/\qb false r)\/(∃(v5:List (List Int)),∃v6,∃v7,Zb0 db e1.Name=some (.tup [.agg [.t (.str v6),I v7,.own 0],Bo true],[.arr 56 1 true (v5.map isc)])/\if v7=(e1.Vars.length:Int)then Zt7 db x x1 (w (x2+1))=some r else qb false r))else qb true r))))/\
 (((∀a a1 r,Im (Zph a a1=some r) (qB (Zka a1) (Zt7 a a1.Atoms (a1.Atoms.length:Int) 0=some r) (qb false r)))/\
 (∀a r,Im (Ze4 a=some r) (qB (Zka a) (¬(a.Atoms.length:Int)<0/\qi (w ((shlI 1 (a.Atoms.length:Int))-1)) r) (qi 0 r))))/\
 ((∀a a1 a2 r,Im (Zc6 a a1 a2=some r) (qB (Zpg a) (qB (Zph a.Zi a1) (qI (Ze4 a1) (λv5=>qV (Z7 a2 1 v5) (λv8=>qb v8 r))) (qb false r)) (qb false r)))/\
 ((∀cl cd i r,Im (Zpi cl cd i=some r) (if i<4 then ¬i<0/\if(andI (shrI cd i) 1)=1 then cl.length+1<=68719476736/\Zpi (cl++[i]) cd (w (i+1))=some r else Zpi cl cd (w (i+1))=some r else some (.own 0,[.arr 3 1 true (cl.map ic)])=some r))/\
 (∀a r,Im (Zb9 a=some r) (qB (Z7 a 0 15) (Zpi ([]:List Int) a 0=some r) (some (.t .nil,[])=some r))))))):=by
 and_intros
 all_goals(intros;unfold Im;(try simp only[Zt2,Zbav,Zmb,Zt3,Zbaw,Z07,Zpg,Zt4,Z08,Z09,Zmc,Zt6,Zt7,Zph,Ze4,Zc6,Zpi,Zb9,Zt1,Zg.c_def,Zf.c_def,Zo8,Ztn,Zpf,Zl.c_def,Zi.c_def,Zk.c_def,Zj.c_def,Zoz,Z7,Zfo,Zb0,Zka,Zc.c_def,Zh.c_def,mpl,dfs,qs]);(try simp only[itb]);(try simp only[itf,gS,kk]))
 all_goals(repeat' first|refine exI λ_=>?_|refine anJ λ_ _=>?_|refine anI λ_=>?_|refine orE2 ?_ ?_|exact False.elim)
 all_goals(intro h;first|rw[Zd Zbat.eq_1]|refine run Zcf6 rfl ?_|refine run Zcf7 rfl ?_|rw[Zd Ztl.eq_1]|refine run Zbya rfl ?_|refine run Zbyb rfl ?_|refine run Zcf8 rfl ?_|rw[Zd Zbay.eq_1]|refine run Zcf9 rfl ?_|refine run Zcga rfl ?_|rw[Zd Z1a.eq_1]|rw[Zd Zba0.eq_1]|rw[Zd Zba3.eq_1]|refine run Zcgc rfl ?_|refine run Zcgd rfl ?_|refine run Zcge rfl ?_|rw[Zd Zba5.eq_1]|refine run Zcgf rfl ?_)
 all_goals (refine Yf ?_ h;clear h;simp +decide[*,kk,tI,tII,Zbau,Zbqr,Zbqs,Ztm,Z92,Z95,Zbqt,Zbaz,Zbqu,Zbqv,Z1b,Zba1,Zba4,Zbqw,Zbqx,Zbqy,Zbqz,Zba6,Zbq0])
abbrev Zby5:=uq Zc9.1.1.1.1
abbrev Zcmh:=uq Zc9.1.1.1.2
abbrev Zcmi:=uq Zc9.1.1.2.1
abbrev Zby6:=uq Zc9.1.1.2.2
abbrev Zcmj:=uq Zc9.1.2.1.1
abbrev Zcmk:=uq Zc9.1.2.1.2
abbrev Zcml:=uq Zc9.1.2.2.1
abbrev Zby7:=uq Zc9.1.2.2.2.1
abbrev Zcmm:=uq Zc9.1.2.2.2.2
abbrev Zcmn:=uq Zc9.2.1.1.1
abbrev Zby8:=uq Zc9.2.1.1.2
abbrev Zby9:=uq Zc9.2.1.2.1
abbrev Zbza:=uq Zc9.2.1.2.2
abbrev Zcmo:=uq Zc9.2.2.1.1
abbrev Zcmp:=uq Zc9.2.2.1.2
abbrev Zcmq:=uq Zc9.2.2.2.1
abbrev Zbzb:=uq Zc9.2.2.2.2.1
abbrev Zcmr:=uq Zc9.2.2.2.2.2
theorem Zcms{a:Zc}{r:AV×List Blk}(h:(∃(v:Bool),Z7 a.Zp 1 4=some (Bo v,[])/\(if v=true then(∃(v1:Bool),Z7 (a.Atoms.length:Int) 1 4=some (Bo v1,[])/\(if v1=true then(0<=a.Zp/\(a.Zp.toNat*1<=room/\(a.Zp<=140737488355328/\(Zmc a (List.replicate (a.Zp).toNat false) a.Atoms (a.Atoms.length:Int) 0=some r))))else(some (Bo false,[])=some r)))else(some (Bo false,[])=some r)))):Zka a=some r:=by
 unfold Zka;refine run Zcgb rfl ?_;obtain⟨v,q1,h⟩:=h;unfold Z7 at q1
 try simp at q1
 by_cases q2:v=true
 .rw[if_pos q2]at h;obtain⟨v1,q3,h⟩:=h;unfold Z7 at q3
  try simp at q3
  by_cases q4:v1=true
  .rw[if_pos q4]at h;obtain⟨q5,h⟩:=h;obtain⟨q6,h⟩:=h;have zq6:=q6;try simp at zq6
   obtain⟨q7,h⟩:=h;refine Yf ?_ h;clear h;simp +decide[*,Z1c,tI,tII,Zmc]
  .rw[if_neg q4]at h;refine Yf ?_ h;clear h;simp +decide[*,Z1c,tI,tII]
 .rw[if_neg q2]at h;refine Yf ?_ h;clear h;simp +decide[*,Z1c,tI,tII]
theorem Ze9:(((∀a r,Im (Zkb a=some r) (if 0<(a.Groups.length:Int)then 0<=(w ((a.Groups.length:Int)-1))/\∃e1,a.Groups[(w ((a.Groups.length:Int)-1)).toNat]?=some e1/\qO 56 1 isc (Zhk e1.Values) (λv3=>qB (Zhj (⟨a.Name,a.Arity,v3⟩:Ze)) ((∃v12 v13 v14,Zhl (⟨a.Name,a.Arity,v3⟩:Ze)=some (.agg [.t (.str v12),I v13,I v14,.t .nil],[])/\qV (Zba7 v12 v13 v14 a) (λv15=>some (.tup [.agg [.t (.str a.Name),I a.Arity,L 1 (v3.map isc)],Bo v15],[])=some r))\/(∃v16,∃(v17:List Zg),∃v18,∃v19,∃v20,Zhl (⟨a.Name,a.Arity,v3⟩:Ze)=some (.agg [.t (.str v18),I v19,I v20,.own 0],[.arr 200 3 v16 (v17.map Zg.c)])/\qV (Zmb (⟨v18,v19,v20,v17⟩:Zf) a) (λv21=>some (.tup [.agg [.t (.str a.Name),I a.Arity,L 1 (v3.map isc)],Bo v21],[])=some r))) (some (.tup [.agg [.t (.str a.Name),I a.Arity,L 1 (v3.map isc)],Bo false],[])=some r))else qB (Zbq1 a.Name a.Arity) ((∃v22 v23 v24,Zba8 a.Name a.Arity=some (.agg [.t (.str v22),I v23,I v24,.t .nil],[])/\qV (Zba7 v22 v23 v24 a) (λv25=>some (.tup [.agg [.t (.str a.Name),I a.Arity,.t .nil],Bo v25],[])=some r))\/(∃v26,∃(v27:List Zg),∃v28,∃v29,∃v30,Zba8 a.Name a.Arity=some (.agg [.t (.str v28),I v29,I v30,.own 0],[.arr 200 3 v26 (v27.map Zg.c)])/\qV (Zmb (⟨v28,v29,v30,v27⟩:Zf) a) (λv31=>some (.tup [.agg [.t (.str a.Name),I a.Arity,.t .nil],Bo v31],[])=some r))) (some (.tup [.agg [.t (.str a.Name),I a.Arity,.t .nil],Bo false],[])=some r)))/\
 ((∀a r,Im (Zpj a=some r) ((qS Ze.c (Zkb a) (λv1 v2=>qb v2 r))\/(∃v3 v4 v5,Zkb a=some (.tup [.agg [.t (.str v3),I v4,.t .nil],Bo v5],[])/\qb v5 r)))/\
 (∀s cu co cc cp x x1 x2 r,Im (Zt8 s cu co cc cp x x1 x2=some r) (if x2<x1 then qG x x2 (λe1=>qO 3 1 ic (Zeo e1.Columns) (λv3=>qO 56 1 isc (Zhk e1.Values) (λv8=>qO 3 1 ic (Zeo e1.Counts) (λv12=>cp.length+1<=68719476736/\Zt8 s cu co cc (cp++[(⟨v3,v8,v12⟩:Zg)]) x x1 (w (x2+1))=some r))))else some (.agg [.t (.str s.Name),I s.Arity,I s.RowCount,.own 0],[.arr 200 3 true (cp.map Zg.c)])=some r))))/\
 (((∀a r,Im (Z1e a=some r) (Zt8 a (⟨#[]⟩:ByteArray) 0 0 ([]:List Zg) a.Groups (a.Groups.length:Int) 0=some r))/\
 (∀cu co cc cv x x1 x2 r,Im (Zpl cu co cc cv x x1 x2=some r) (if x2<x1 then qG x x2 (λe1=>if e1.Name=cv then qB (Zpj e1) (∃(v8:List Zg),∃v9,∃v10,∃v11,Z1e e1=some (.agg [.t (.str v9),I v10,I v11,.own 0],[.arr 200 3 true (v8.map Zg.c)])/\some (.tup [.agg [.t (.str v9),I v10,I v11,.own 0],Bo true],[.arr 200 3 true (v8.map Zg.c)])=some r) (Zpl cu co cc cv x x1 (w (x2+1))=some r)else Zpl cu co cc cv x x1 (w (x2+1))=some r)else some (.tup [.agg [.t (.str (⟨#[]⟩:ByteArray)),I 0,I 0,.own 0],Bo false],[.arr 200 3 true (([]:List Zg).map Zg.c)])=some r)))/\
 ((∀a a1 r,Im (Zpk a a1=some r) (Zpl (⟨#[]⟩:ByteArray) 0 0 a1 a.Tables (a.Tables.length:Int) 0=some r))/\
 (∀a a1 a2 r,Im (Zgb a a1 a2=some r) (qG a1.Atoms a2 (λe1=>∃(v3:List Zg),∃v4,∃v5,∃v6,∃v7,Zpk a.Zl e1.Name=some (.tup [.agg [.t (.str v4),I v5,I v6,.own 0],Bo v7],[.arr 200 3 true (v3.map Zg.c)])/\some (.agg [.t (.str v4),I v5,I v6,.own 0],[.arr 200 3 true (v3.map Zg.c)])=some r))))))/\
 (((∀s q x n x1 x2 r,Im (Zua s q x n x1 x2=some r) (if x2<x1 then qG x x2 (λe1=>∃(v3:List Zg),∃v4,∃v5,∃v6,Zgb s q e1=some (.agg [.t (.str v4),I v5,I v6,.own 0],[.arr 200 3 true (v3.map Zg.c)])/\Zua s q x (w (n*v6)) x1 (w (x2+1))=some r)else qi n r))/\
 ((∀a a1 a2 r,Im (Zt9 a a1 a2=some r) (qB (Zc6 a a1 a2) ((Zb9 a2=some (.t .nil,[])/\Zbra a a1 1 0 0=some r)\/(qO 3 1 ic (Zb9 a2) (λv8=>Zua a a1 v8 1 (v8.length:Int) 0=some r))) (qi (-1) r)))/\
 (∀q cd cn v r,Im (Zmd q cd cn v=some r) (if v<q.Zp then Zpm q cd cn v q.Atoms (q.Atoms.length:Int) 0=some r else some (.own 0,[.arr 3 1 true (cd.map ic)])=some r))))/\
 (((∀q cd cn v x x1 x2 r,Im (Zpm q cd cn v x x1 x2=some r) (if x2<x1 then qG x x2 (λe1=>¬x2<0/\if(andI (shrI cn x2) 1)=1 then qB (Zfo e1.Vars v) (cd.length+1<=68719476736/\Zmd q (cd++[v]) cn (w (v+1))=some r) (Zpm q cd cn v x x1 (w (x2+1))=some r)else Zpm q cd cn v x x1 (w (x2+1))=some r)else Zmd q cd cn (w (v+1))=some r))/\
 (∀a a1 r,Im (Zhm a a1=some r) (Zmd a ([]:List Int) a1 0=some r)))/\
 ((∀cd cl x x1 x2 r,Im (Zpn cd cl x x1 x2=some r) (if x2<x1 then qG x x2 (λe1=>qB (Zfo cl e1) (cd.length+1<=68719476736/\Zpn (cd++[x2]) cl x x1 (w (x2+1))=some r) (Zpn cd cl x x1 (w (x2+1))=some r))else some (.own 0,[.arr 3 1 true (cd.map ic)])=some r))/\
 (∀a a1 r,Im (Zkc a a1=some r) (Zpn ([]:List Int) a1 a.Vars (a.Vars.length:Int) 0=some r))))):=by
 and_intros
 all_goals(intros;unfold Im;(try simp only[Zkb,Zpj,Zt8,Z1e,Zpl,Zpk,Zgb,Zua,Zt9,Zmd,Zpm,Zhm,Zpn,Zkc,Zhk,Zhj,Zhl,Zba7,Zmb,Zbq1,Zba8,Ze.c_def,Zf.c_def,Zeo,Zl.c_def,Zi.c_def,Zc.c_def,Zh.c_def,Zc6,Zb9,Zfo,Zbra,mpl,dfs,qs]);(try simp only[itb]);(try simp only[itf,gS,kk]))
 all_goals(repeat' first|refine exI λ_=>?_|refine anJ λ_ _=>?_|refine anI λ_=>?_|refine orE2 ?_ ?_|exact False.elim)
 all_goals(intro h;first|refine run Zcgg rfl ?_|refine run Zcgh rfl ?_|rw[Zd Zbba.eq_1]|refine run Zcgi rfl ?_|rw[Zd Zbbd.eq_1]|refine run Zcgj rfl ?_|refine run Zcgk rfl ?_|rw[Zd Z1f.eq_1]|refine run Zcgl rfl ?_|rw[Zd Z1h.eq_1]|rw[Zd Zbbg.eq_1]|refine run Zcgm rfl ?_|rw[Zd Zbbi.eq_1]|refine run Zcgn rfl ?_)
 all_goals (refine Yf ?_ h;clear h;simp +decide[*,kk,tI,tII,Zbq4,Zbq3,Zbq5,Zbbb,Zbq6,Zbbe,Zbq7,Zbq8,Z1g,Zbq9,Z1i,Zbbh,Zbrb,Zbrc,Zbbj,Zbrd])
abbrev Zcmt:=uq Ze9.1.1.1
abbrev Zcmu:=uq Ze9.1.1.2.1
abbrev Zbzc:=uq Ze9.1.1.2.2
abbrev Zcmv:=uq Ze9.1.2.1.1
abbrev Zcmw:=uq Ze9.1.2.1.2
abbrev Zcmx:=uq Ze9.1.2.2.1
abbrev Zcmy:=uq Ze9.1.2.2.2
abbrev Zbzd:=uq Ze9.2.1.1
abbrev Zcmz:=uq Ze9.2.1.2.1
abbrev Zbze:=uq Ze9.2.1.2.2
abbrev Zbzf:=uq Ze9.2.2.1.1
abbrev Zcm0:=uq Ze9.2.2.1.2
abbrev Zbzg:=uq Ze9.2.2.2.1
abbrev Zcm1:=uq Ze9.2.2.2.2
end Go.Proofs.YtnnjbejcffjgfaaGreat
