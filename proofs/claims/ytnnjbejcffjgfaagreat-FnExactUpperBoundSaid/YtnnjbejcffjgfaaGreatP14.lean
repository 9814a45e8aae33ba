/-
  Parts of the proofs for this seat: G6 G7 G8 G9 G10.
-/
import Derived.Test.YtnnjbejcffjgfaaGreatP11
import Derived.Test.YtnnjbejcffjgfaaGreatP12
set_option linter.unusedSimpArgs false
set_option linter.unusedVariables false
set_option maxRecDepth 100000
set_option maxHeartbeats 4000000
namespace Go.Proofs.YtnnjbejcffjgfaaGreat
open Go.AM
theorem Zcz:((((∀⦃s i j r⦄,Im (Zrc s i j=some r) (if i<j then(0<=j/\(∃e1,s[j.toNat]?=some e1/\(0<=i/\(∃e2,s[i.toNat]?=some e2/\(∃e3,(s.set i.toNat e1)[j.toNat]?=some e3/\(Zrc ((s.set i.toNat e1).set j.toNat e2) (w (i+1)) (w (j-1))=some r))))))else(some (.tup [],[.arr 3 1 true (s.map ic)])=some r)))/\
 (∀⦃x r⦄,Im (Zrb x=some r) (Zrc x 0 (w ((x.length:Int)-1))=some r)))/\
 ((∀⦃a a1 r⦄,Im (Zxb a a1=some r) ((Zf2 a a1=some (.tup [.t .nil,.t .nil],[])/\(∃(v4:List Int),Zbhz=some (.own 0,[.arr 3 1 true (v4.map ic)])/\(∃(v5:List Int),Zke v4=some (.tup [],[.arr 3 1 true (v5.map ic)])/\(∃(v8:List Int),Zrb v5=some (.tup [],[.arr 3 1 true (v8.map ic)])/\(some (.own 0,[.arr 3 1 true (v8.map ic)])=some r)))))\/(∃(v9:List (List Int)) (v10:List Int),Zf2 a a1=some (.tup [.own 0,.own 1],[.arr 56 1 true (v9.map isc),.arr 3 1 true (v10.map ic)])/\(∃(v11:List Int),Zex v10=some (.own 0,[.arr 3 1 true (v11.map ic)])/\(∃(v12:List Int),Zke v11=some (.tup [],[.arr 3 1 true (v12.map ic)])/\(∃(v13:List Int),Zrb v12=some (.tup [],[.arr 3 1 true (v13.map ic)])/\(some (.own 0,[.arr 3 1 true (v13.map ic)])=some r)))))))/\
 (∀⦃a a1 r⦄,Im (Zki a a1=some r) ((∃(v:Zc),∃v1,Ziw a=some (.tup [.agg (v.c.map .t),Bo v1],[])/\(if v1=true then(∃(v4:List Int),Zxb v a1=some (.own 0,[.arr 3 1 true (v4.map ic)])/\(some (.own 0,[.arr 3 1 true (v4.map ic)])=some r))else(some (.own 0,[.arr 3 1 true (([]:List Int).map ic)])=some r)))\/(∃v5 v6 v7,Ziw a=some (.tup [.agg [.t (.str v5),I v6,.t .nil],Bo v7],[])/\(if v7=true then(∃(v8:List Int),Zbh2 v5 v6 a1=some (.own 0,[.arr 3 1 true (v8.map ic)])/\(some (.own 0,[.arr 3 1 true (v8.map ic)])=some r))else(some (.own 0,[.arr 3 1 true (([]:List Int).map ic)])=some r)))))))/\
 (((∀⦃a a1 r⦄,Im (Zkj a a1=some r) (∃(v:List Int),Zki a a1=some (.own 0,[.arr 3 1 true (v.map ic)])/\(if(v.length:Int)=0 then(some (I 0,[])=some r)else(∃e2,v[0]?=some e2/\(some (I e2,[])=some r)))))/\
 (∀⦃a a1 a2 a3 r⦄,Im (Zxc a a1 a2 a3=some r) (∃(v:List Zf),∃v1,∃v2,∃v3,Zhh a a1 a2=some (.agg [.t (.str v1),I v2,I v3,.own 0],[.arr 200 3 true (v.map Zf.c)])/\(0<=a2/\(∃e2,a1.Atoms[a2.toNat]?=some e2/\(∃(v5:List Int),Zix e2 a3=some (.own 0,[.arr 3 1 true (v5.map ic)])/\(∃v8,Zkj (⟨v1,v2,v3,v⟩:Zd) v5=some (I v8,[])/\(some (I v8,[])=some r))))))))/\
 ((∀⦃s q x cd cc cn x1 x2 r⦄,Im (Zkk s q x cd cc cn x1 x2=some r) (if x2<x1 then(0<=x2/\(∃e1,x[x2.toNat]?=some e1/\(∃(v4:List Int),Zm9 q cd=some (.own 0,[.arr 3 1 true (v4.map ic)])/\(∃v5,Zxc s q e1 v4=some (I v5,[])/\(¬e1<0/\(∃v8,Znc s q (orI cd (shlI 1 e1)) (Z3 cc (shlI 1 e1))=some (I v8,[])/\(if cn<0 then(Zkk s q x cd cc (w (v5*v8)) x1 (w (x2+1))=some r)else(if(w (v5*v8))<cn then(Zkk s q x cd cc (w (v5*v8)) x1 (w (x2+1))=some r)else(Zkk s q x cd cc cn x1 (w (x2+1))=some r)))))))))else(some (I cn,[])=some r)))/\
 ((∀⦃a a1 a2 a3 r⦄,Im (Znc a a1 a2 a3=some r) (if a3=0 then(some (I 1,[])=some r)else((Zdd a3=some (.t .nil,[])/\(Zbh8 a a1 a2 a3 (-1) 0 0=some r))\/(∃(v4:List Int),Zdd a3=some (.own 0,[.arr 3 1 true (v4.map ic)])/\(Zkk a a1 v4 a2 a3 (-1) (v4.length:Int) 0=some r)))))/\
 (∀⦃a a1 a2 r⦄,Im (Zrd a a1 a2=some r) (∃v,Zfj a a1 a2=some (Bo v,[])/\(if v=true then(∃v4,Znc a a1 0 a2=some (I v4,[])/\(some (I v4,[])=some r))else(some (I (-1),[])=some r))))))))/\
 ((((∀⦃a a1 r⦄,Im (Zxf a a1=some r) (∃v,Ziv a=some (Bo v,[])/\(if v=true then(¬(a.Atoms.length:Int)<0/\(∃v4,Z4 a1 0 (w ((shlI 1 (a.Atoms.length:Int))-1))=some (Bo v4,[])/\(some (Bo v4,[])=some r)))else(some (Bo false,[])=some r))))/\
 (∀⦃a a1 r⦄,Im (Zfk a a1=some r) (∃v,Zxf a a1=some (Bo v,[])/\(if v=true then(∃(v4:List Int),Zm9 a a1=some (.own 0,[.arr 3 1 true (v4.map ic)])/\(some (.own 0,[.arr 3 1 true (v4.map ic)])=some r))else(some (.t .nil,[])=some r)))))/\
 ((∀⦃co b x x1 x2 r⦄,Im (Znd co b x x1 x2=some r) (if x2<x1 then(0<=x2/\(∃e1,x[x2.toNat]?=some e1/\(∃v4,Zey b e1=some (Bo v4,[])/\(if v4=true then(co.length+1<=68719476736/\(Znd (co++[e1]) b x x1 (w (x2+1))=some r))else(Znd co b x x1 (w (x2+1))=some r)))))else(some (.own 0,[.arr 3 1 true (co.map ic)])=some r)))/\
 (∀⦃a a1 r⦄,Im (Zxg a a1=some r) (Znd ([]:List Int) a1 a (a.length:Int) 0=some r))))/\
 (((∀⦃a a1 a2 r⦄,Im (Zre a a1 a2=some r) ((∃(v:List Int),Zfk a a1=some (.own 0,[.arr 3 1 true (v.map ic)])/\((∃(v4:List Int),Zfk a a2=some (.own 0,[.arr 3 1 true (v4.map ic)])/\(∃(v5:List Int),Zxg v v4=some (.own 0,[.arr 3 1 true (v5.map ic)])/\(some (.own 0,[.arr 3 1 true (v5.map ic)])=some r)))\/(Zfk a a2=some (.t .nil,[])/\(∃(v9:List Int),Zbie v=some (.own 0,[.arr 3 1 true (v9.map ic)])/\(some (.own 0,[.arr 3 1 true (v9.map ic)])=some r)))))\/(Zfk a a1=some (.t .nil,[])/\((∃(v12:List Int),Zfk a a2=some (.own 0,[.arr 3 1 true (v12.map ic)])/\(∃(v13:List Int),Zbif v12=some (.own 0,[.arr 3 1 true (v13.map ic)])/\(some (.own 0,[.arr 3 1 true (v13.map ic)])=some r)))\/(Zfk a a2=some (.t .nil,[])/\(∃(v14:List Int),Zbig=some (.own 0,[.arr 3 1 true (v14.map ic)])/\(some (.own 0,[.arr 3 1 true (v14.map ic)])=some r)))))))/\
 (∀⦃cl cc x x1 x2 r⦄,Im (Zne cl cc x x1 x2=some r) (if x2<x1 then(0<=x2/\(∃e1,x[x2.toNat]?=some e1/\(∃v4,Z4 e1 1 cc=some (Bo v4,[])/\(if v4=true then(if 0<x2 then(0<=(w (x2-1))/\(∃e3,cl[(w (x2-1)).toNat]?=some e3/\(if e3<e1 then(some (Bo false,[])=some r)else(Zne cl (w (cc-e1)) x x1 (w (x2+1))=some r))))else(Zne cl (w (cc-e1)) x x1 (w (x2+1))=some r))else(some (Bo false,[])=some r)))))else(some (Bo true,[])=some r))))/\
 ((∀⦃a r⦄,Im (Zrf a=some r) (Zne a 8 a (a.length:Int) 0=some r))/\
 ((∀⦃a b n i r⦄,Im (Zrh a b n i=some r) (if i<(a.length:Int)then(if i<(b.length:Int)then(0<=i/\(∃e1,a[i.toNat]?=some e1/\(∃e2,b[i.toNat]?=some e2/\(Zrh a b (w (n+(w (e1*e2)))) (w (i+1))=some r))))else(some (I n,[])=some r))else(some (I n,[])=some r)))/\
 (∀⦃a a1 r⦄,Im (Zrg a a1=some r) (∃v,Zrf a=some (Bo v,[])/\(if v=true then(∃v4,Zrf a1=some (Bo v4,[])/\(if v4=true then(Zrh a a1 0 0=some r)else(some (I 0,[])=some r)))else(some (I 0,[])=some r)))))))):=by
 and_intros
 all_goals intros
 all_goals unfold Im
 all_goals try simp only[Zrc,Zrb,Zxb,Zki,Zkj,Zxc,Zkk,Znc,Zrd,Zxf,Zfk,Znd,Zxg,Zre,Zne,Zrf,Zrh,Zrg,Zf2,Zbhz,Zke,Zex,Zc.c_def,Ziw,Zbh2,Zd.c_def,Zhh,Zix,Atom.c_def,Zn.c_def,Zh.c_def,Zg.c_def,Zj.c_def,Zm9,Zdd,Zfj,Ziv,Z4,Zey,Zbie,Zbif,Zbig,Zbh8,mpl,dfs]
 all_goals try simp only[itb]
 all_goals try simp only[itf,gS,kk]
 all_goals repeat' first|refine exI λ_=>?_|refine anJ λ_ _=>?_|refine anI λ_=>?_|refine orE2 ?_ ?_|exact False.elim
 all_goals (intro h;first|rw[Ze Z47.eq_1]|refine runM Zb33 rfl ?_|refine run Zb34 rfl ?_|refine run Zb35 rfl ?_|refine run Zb36 rfl ?_|refine run Zb37 rfl ?_|rw[Ze Zxd.eq_1]|refine run Zb38 rfl ?_|refine run Zb39 rfl ?_|refine run Zb4a rfl ?_|refine run Zb4b rfl ?_|rw[Ze Z48.eq_1]|refine run Zb4c rfl ?_|refine run Zb4d rfl ?_|rw[Ze Z5a.eq_1]|refine run Zb4e rfl ?_|rw[Ze Z5c.eq_1]|refine run Zb4f rfl ?_)
 all_goals (refine Yf ?_ h;clear h;simp +decide[*,kk,tI,tII,Zbh0,Zbh1,Zbh3,Zbh4,Zbh5,Zbh6,Zxe,Zbh7,Zbh9,Zbia,Zbib,Zbic,Z49,Zbid,Zbih,Z5b,Zbii,Z5d,Zbij])
abbrev Zb9s:=Zcz.1.1.1.1
abbrev Zb9t:=Zcz.1.1.1.2
abbrev Zb9u:=Zcz.1.1.2.1
abbrev Zb9v:=Zcz.1.1.2.2
abbrev Zb9w:=Zcz.1.2.1.1
abbrev Zb9x:=Zcz.1.2.1.2
abbrev Zbox:=Zcz.1.2.2.1
abbrev Zboy:=Zcz.1.2.2.2.1
abbrev Zb9y:=Zcz.1.2.2.2.2
abbrev Zb9z:=Zcz.2.1.1.1
abbrev Zb90:=Zcz.2.1.1.2
abbrev Zboz:=Zcz.2.1.2.1
abbrev Zb91:=Zcz.2.1.2.2
abbrev Zb92:=Zcz.2.2.1.1
abbrev Zbo0:=Zcz.2.2.1.2
abbrev Zb93:=Zcz.2.2.2.1
abbrev Zbo1:=Zcz.2.2.2.2.1
abbrev Zb94:=Zcz.2.2.2.2.2
theorem Zb95:∀⦃a a1 a2 a3 r⦄,Im (Zri a a1 a2 a3=some r) (∃v,Zfj a a1 1=some (Bo v,[])/\(if v=true then(∃v1,Z4 a2 0 (w ((a1.Atoms.length:Int)-1))=some (Bo v1,[])/\(if v1=true then(∃v2,Z4 a3 0 (w ((a1.Atoms.length:Int)-1))=some (Bo v2,[])/\(if v2=true then(if a2=a3 then(some (I (-1),[])=some r)else(¬a2<0/\(¬a3<0/\(∃(v3:List Int),Zre a1 (shlI 1 a2) (shlI 1 a3)=some (.own 0,[.arr 3 1 true (v3.map ic)])/\(∃(v4:List Zf),∃v5,∃v6,∃v7,Zhh a a1 a2=some (.agg [.t (.str v5),I v6,I v7,.own 0],[.arr 200 3 true (v4.map Zf.c)])/\(0<=a2/\(∃e6,a1.Atoms[a2.toNat]?=some e6/\(∃(v8:List Int),Zix e6 v3=some (.own 0,[.arr 3 1 true (v8.map ic)])/\(∃(v9:List Int),Zki (⟨v5,v6,v7,v4⟩:Zd) v8=some (.own 0,[.arr 3 1 true (v9.map ic)])/\(∃(v10:List Zf),∃v11,∃v12,∃v13,Zhh a a1 a3=some (.agg [.t (.str v11),I v12,I v13,.own 0],[.arr 200 3 true (v10.map Zf.c)])/\(0<=a3/\(∃e10,a1.Atoms[a3.toNat]?=some e10/\(∃(v14:List Int),Zix e10 v3=some (.own 0,[.arr 3 1 true (v14.map ic)])/\(∃(v15:List Int),Zki (⟨v11,v12,v13,v10⟩:Zd) v14=some (.own 0,[.arr 3 1 true (v15.map ic)])/\(∃v16,Zrg v9 v15=some (I v16,[])/\(some (I v16,[])=some r))))))))))))))))else(some (I (-1),[])=some r)))else(some (I (-1),[])=some r)))else(some (I (-1),[])=some r))):=by
 all_goals intros
 all_goals unfold Im
 all_goals try simp only[Zri,Zfj,Z4,Zre,Zhh,Zix,Zki,Zrg,Atom.c_def,Zn.c_def,Zh.c_def,Zg.c_def,Zj.c_def,Zd.c_def,mpl,dfs]
 all_goals try simp only[itb]
 all_goals try simp only[itf,gS,kk]
 all_goals repeat' first|refine exI λ_=>?_|refine anJ λ_ _=>?_|refine anI λ_=>?_|refine orE2 ?_ ?_|exact False.elim
 all_goals (intro h;first|refine run Zb4g rfl ?_)
 all_goals (refine Yf ?_ h;clear h;simp +decide[*,kk,tI,tII,Zbik])
abbrev Zb96:=Zb95
theorem Zc0:((((∀⦃s q x x1 x2 r⦄,Im (Zrk s q x x1 x2=some r) (if x2<x1 then(0<=x2/\(∃e1,x[x2.toNat]?=some e1/\(0<=e1/\(∃e2,q.Atoms[e1.toNat]?=some e2/\((∃v6 v7,Zbw s.Zh e2.Name=some (.tup [.agg [.t (.str v6),I v7,.t .nil],Bo false],[])/\(some (Bo true,[])=some r))\/(∃(v11:List (List Int)),∃v12,∃v13,Zbw s.Zh e2.Name=some (.tup [.agg [.t (.str v12),I v13,.own 0],Bo true],[.arr 56 1 true (v11.map isc)])/\(if(v11.length:Int)=0 then(some (Bo true,[])=some r)else(Zrk s q x x1 (w (x2+1))=some r))))))))else(some (Bo false,[])=some r)))/\
 (∀⦃a a1 a2 r⦄,Im (Zrj a a1 a2=some r) ((Zdd a2=some (.t .nil,[])/\(Zbim a a1 0 0=some r))\/(∃(v4:List Int),Zdd a2=some (.own 0,[.arr 3 1 true (v4.map ic)])/\(Zrk a a1 v4 (v4.length:Int) 0=some r)))))/\
 ((∀⦃cd x x1 x2 r⦄,Im (Zng cd x x1 x2=some r) (if x2<x1 then(0<=x2/\(∃e1,x[x2.toNat]?=some e1/\(∃v4,Z4 e1 0 3=some (Bo v4,[])/\(if v4=true then(¬e1<0/\(Zng (orI cd (shlI 1 e1)) x x1 (w (x2+1))=some r))else(Zng cd x x1 (w (x2+1))=some r)))))else(some (I cd,[])=some r)))/\
 (∀⦃a r⦄,Im (Znf a=some r) (Zng 0 a (a.length:Int) 0=some r))))/\
 (((∀⦃n b r⦄,Im (Zrm n b=some r) (¬b<0/\(if(shlI 1 b)<n then(Zrm n (w (b+1))=some r)else(some (I b,[])=some r))))/\
 (∀⦃a r⦄,Im (Zrl a=some r) (∃v,Z4 a 1 4096=some (Bo v,[])/\(if v=true then(Zrm a 0=some r)else(some (I (-1),[])=some r)))))/\
 ((∀⦃s cn cc cd r⦄,Im (Znh s cn cc cd=some r) (¬s.Arity<0/\(if cd<(w ((shlI 1 s.Arity)-1))then(∃(v:List Int),Zed cd=some (.own 0,[.arr 3 1 true (v.map ic)])/\((Zcv cn.Vars v=some (.tup [.t .nil,Bo false],[])/\(∃v6,Zbip=some (I v6,[])/\(∃v11,Znf cn.Vars=some (I v11,[])/\(∃v14,Zkj s v=some (I v14,[])/\(∃v15,Zrl v14=some (I v15,[])/\(cc.length+1<=68719476736/\(Znh s cn (cc++[(⟨v6,v11,v15⟩:Zk)]) (w (cd+1))=some r)))))))\/(∃(v16:List Int),Zcv cn.Vars v=some (.tup [.own 0,Bo true],[.arr 3 1 true (v16.map ic)])/\(∃v17,Znf v16=some (I v17,[])/\(∃v18,Znf cn.Vars=some (I v18,[])/\(∃v19,Zkj s v=some (I v19,[])/\(∃v20,Zrl v19=some (I v20,[])/\(cc.length+1<=68719476736/\(Znh s cn (cc++[(⟨v17,v18,v20⟩:Zk)]) (w (cd+1))=some r)))))))))else(some (.own 0,[.arr 251 3 true (cc.map Zk.c)])=some r))))/\
 ((∀⦃a a1 r⦄,Im (Zrn a a1=some r) (∃v,Zm6 a=some (Bo v,[])/\(if v=true then(if a.RowCount=0 then(some (.own 0,[.arr 251 3 true (([]:List Zk).map Zk.c)])=some r)else(if(a1.Vars.length:Int)=a.Arity then(Znh a a1 ([]:List Zk) 0=some r)else(some (.own 0,[.arr 251 3 true (([]:List Zk).map Zk.c)])=some r)))else(some (.own 0,[.arr 251 3 true (([]:List Zk).map Zk.c)])=some r))))/\
 (∀⦃s q cc x x1 x2 r⦄,Im (Zrp s q cc x x1 x2=some r) (if x2<x1 then(0<=x2/\(∃e1,x[x2.toNat]?=some e1/\(0<=e1/\(∃e2,q.Atoms[e1.toNat]?=some e2/\(∃(v6:List Zf),∃v7,∃v8,∃v9,∃v10,Zm7 s.Zn e2.Name=some (.tup [.agg [.t (.str v7),I v8,I v9,.own 0],Bo v10],[.arr 200 3 true (v6.map Zf.c)])/\(∃(v11:List Zk),Zrn (⟨v7,v8,v9,v6⟩:Zd) e2=some (.own 0,[.arr 251 3 true (v11.map Zk.c)])/\(if(v11.length:Int)=0 then(some (.own 0,[.arr 251 3 true (([]:List Zk).map Zk.c)])=some r)else(cc.length+v11.length<=68719476736/\(Zrp s q (cc++v11) x x1 (w (x2+1))=some r)))))))))else(some (.own 0,[.arr 251 3 true (cc.map Zk.c)])=some r)))))))/\
 ((((∀⦃a a1 a2 r⦄,Im (Zro a a1 a2=some r) (∃v,Zm2 a=some (Bo v,[])/\(if v=true then(∃v4,Zm3 a.Zh a1=some (Bo v4,[])/\(if v4=true then(∃v6,Zm4 a1=some (I v6,[])/\(∃v11,Z4 a2 1 v6=some (Bo v11,[])/\(if v11=true then((Zdd a2=some (.t .nil,[])/\(Zbit a a1 ([]:List Zk) 0 0=some r))\/(∃(v15:List Int),Zdd a2=some (.own 0,[.arr 3 1 true (v15.map ic)])/\(Zrp a a1 ([]:List Zk) v15 (v15.length:Int) 0=some r)))else(some (.own 0,[.arr 251 3 true (([]:List Zk).map Zk.c)])=some r))))else(some (.own 0,[.arr 251 3 true (([]:List Zk).map Zk.c)])=some r)))else(some (.own 0,[.arr 251 3 true (([]:List Zk).map Zk.c)])=some r))))/\
 (∀⦃x cd cc x1 x2 x3 r⦄,Im (Ziy x cd cc x1 x2 x3=some r) (if x3<x2 then(0<=x3/\(∃e1,x1[x3.toNat]?=some e1/\(if x3<4 then(∃v4,Z4 e1 0 3=some (Bo v4,[])/\(if v4=true then(¬e1<0/\(if(andI (shrI cd e1) 1)=1 then(¬x3<0/\(Ziy x cd (orI cc (shlI 1 x3)) x1 x2 (w (x3+1))=some r))else(Ziy x cd cc x1 x2 (w (x3+1))=some r)))else(Ziy x cd cc x1 x2 (w (x3+1))=some r)))else(Ziy x cd cc x1 x2 (w (x3+1))=some r))))else(some (I cc,[.box [L 1 (x.map ic)]])=some r))))/\
 ((∀⦃x a r⦄,Im (Zrq x a=some r) (Ziy x a 0 x (x.length:Int) 0=some r))/\
 (∀⦃x cc x1 x2 x3 r⦄,Im (Zrs x cc x1 x2 x3=some r) (if x3<x2 then(0<=x3/\(∃e1,x1[x3.toNat]?=some e1/\(∃(v4:List Int),∃v5,Zrq x e1.From=some (I v5,[.box [L 1 (v4.map ic)]])/\(∃(v6:List Int),∃v7,Zrq v4 e1.To=some (I v7,[.box [L 1 (v6.map ic)]])/\(cc.length+1<=68719476736/\(Zrs v6 (cc++[(⟨v5,v7,e1.Bits⟩:Zk)]) x1 x2 (w (x3+1))=some r))))))else(some (.own 0,[.arr 251 3 true (cc.map Zk.c)])=some r)))))/\
 (((∀⦃a a1 r⦄,Im (Zrr a a1=some r) (Zrs a1 ([]:List Zk) a (a.length:Int) 0=some r))/\
 (∀⦃co x cl x1 x2 x3 x4 r⦄,Im (Zkm co x cl x1 x2 x3 x4=some r) (if x4<x3 then(0<=x4/\(∃e1,x1[x4.toNat]?=some e1/\(if 0<e1 then(0<=(w (e1-1))/\(∃e2,cl[(w (e1-1)).toNat]?=some e2/\(Zkm co x (cl.set ((w (e1-1)).toNat) (w (e2+1))) x1 x2 x3 (w (x4+1))=some r)))else(Zkm co x cl x1 x2 x3 (w (x4+1))=some r))))else(Zni x cl co x1 x2 (co.length:Int) 0=some r))))/\
 ((∀⦃x cl x1 x2 x3 x4 x5 r⦄,Im (Zni x cl x1 x2 x3 x4 x5=some r) (if x5<x4 then(0<=x5/\(∃e1,x1[x5.toNat]?=some e1/\(if 0<e1 then(0<=(w (e1-1))/\(∃e2,cl[(w (e1-1)).toNat]?=some e2/\(Zni x (cl.set ((w (e1-1)).toNat) (w (e2-1))) x1 x2 x3 x4 (w (x5+1))=some r)))else(Zni x cl x1 x2 x3 x4 (w (x5+1))=some r))))else(x.length+1<=68719476736/\(some (.tup [],[.arr 3 1 true (x2.map ic),.arr 3 1 true (x1.map ic),.box [I x3],.box [.own 5],.dead,.arr 56 1 true ((x++[cl]).map isc)])=some r))))/\
 ((∀⦃all x n i r⦄,Im (Znj all x n i=some r) (if i<n then(¬i<0/\(∃(v:List Int),∃(v1:List Int),∃v2,∃(v3:List (List Int)),Zkl ([(Z3 all (shlI 1 i))]) ([all]) all x=some (.tup [],[.arr 3 1 true (v.map ic),.arr 3 1 true (v1.map ic),.box [I v2],.box [.own 5],.dead,.arr 56 1 true (v3.map isc)])/\(Znj v2 v3 n (w (i+1))=some r)))else(Zkn all x n 0=some r)))/\
 (∀⦃all x n i r⦄,Im (Zkn all x n i=some r) (if i<n then(Zko all x n i (w (i+1))=some r)else(some (.own 0,[.arr 56 1 true (x.map isc)])=some r))))))):=by
 and_intros
 all_goals intros
 all_goals unfold Im
 all_goals try simp only[Zrk,Zrj,Zng,Znf,Zrm,Zrl,Znh,Zrn,Zrp,Zro,Ziy,Zrq,Zrs,Zrr,Zkm,Zni,Znj,Zkn,Zbw,Zh.c_def,Zdd,Z4,Zed,Zcv,Zbip,Zkj,Zd.c_def,Zm6,Zm7,Atom.c_def,Zn.c_def,Zm2,Zm3,Zm4,Zg.c_def,Zj.c_def,Zkl,Zbim,Zbit,Zko,mpl,dfs]
 all_goals try simp only[itb]
 all_goals try simp only[itf,gS,kk]
 all_goals repeat' first|refine exI λ_=>?_|refine anJ λ_ _=>?_|refine anI λ_=>?_|refine orE2 ?_ ?_|exact False.elim
 all_goals (intro h;first|rw[Ze Zxh.eq_1]|refine run Zb4h rfl ?_|rw[Ze Z5e.eq_1]|refine run Zb4i rfl ?_|rw[Ze Z5g.eq_1]|refine run Zb4j rfl ?_|rw[Ze Z5i.eq_1]|refine run Zb4k rfl ?_|rw[Ze Zxj.eq_1]|refine run Zb4l rfl ?_|rw[Ze Z5k.eq_1]|refine runM Zb4m rfl ?_|rw[Ze Z5m.eq_1]|refine run Zb4n rfl ?_|rw[Ze Z5o.eq_1]|rw[Ze Z5p.eq_1]|rw[Ze Z5s.eq_1]|rw[Ze Zrt.eq_1])
 all_goals (refine Yf ?_ h;clear h;simp +decide[*,kk,tI,tII,Zxi,Zbil,Zbin,Z5f,Zbio,Z5h,Zbiq,Z5j,Zbir,Zxk,Zbis,Zbiu,Z5l,Zbiv,Z5n,Zbiw,Zbix,Z5r,Zbiy,Z5q,Z5v,Zru])
abbrev Zbo2:=Zc0.1.1.1.1
abbrev Zb97:=Zc0.1.1.1.2
abbrev Zbo3:=Zc0.1.1.2.1
abbrev Zb98:=Zc0.1.1.2.2
abbrev Zbo4:=Zc0.1.2.1.1
abbrev Zb99:=Zc0.1.2.1.2
abbrev Zbo5:=Zc0.1.2.2.1
abbrev Zcaa:=Zc0.1.2.2.2.1
abbrev Zbo6:=Zc0.1.2.2.2.2
abbrev Zcab:=Zc0.2.1.1.1
abbrev Zbo7:=Zc0.2.1.1.2
abbrev Zcac:=Zc0.2.1.2.1
abbrev Zbo8:=Zc0.2.1.2.2
abbrev Zcad:=Zc0.2.2.1.1
abbrev Zbo9:=Zc0.2.2.1.2
abbrev Zbpa:=Zc0.2.2.2.1
abbrev Zbpb:=Zc0.2.2.2.2.1
abbrev Zbpc:=Zc0.2.2.2.2.2
theorem Zbao:(∀⦃all x n i j r⦄,Im (Zko all x n i j=some r) (if j<n then(Zkp all x n i j 0=some r)else(Zkn all x n (w (i+1))=some r)))/\
 ((∀⦃all x n i j s r⦄,Im (Zkp all x n i j s=some r) (if s<=all then(¬i<0/\(if(andI (shrI s i) 1)=0 then(¬j<0/\(if(andI (shrI s j) 1)=0 then(∃(v:List Int),∃(v1:List Int),∃v2,∃(v3:List (List Int)),Zkl ([s,(orI (orI s (shlI 1 i)) (shlI 1 j))]) ([(orI s (shlI 1 i)),(orI s (shlI 1 j))]) all x=some (.tup [],[.arr 3 1 true (v.map ic),.arr 3 1 true (v1.map ic),.box [I v2],.box [.own 5],.dead,.arr 56 1 true (v3.map isc)])/\(Zkp v2 v3 n i j (w (s+1))=some r))else(Zkp all x n i j (w (s+1))=some r)))else(Zkp all x n i j (w (s+1))=some r)))else(Zko all x n i (w (j+1))=some r)))/\
 (∀⦃a r⦄,Im (Zrv a=some r) (∃v,Z4 a 1 4=some (Bo v,[])/\(if v=true then(¬a<0/\(Znj (w ((shlI 1 a)-1)) ([]:List (List Int)) a 0=some r))else(some (.own 0,[.arr 56 1 true (([]:List (List Int)).map isc)])=some r))))):=by
 and_intros
 all_goals intros
 all_goals unfold Im
 all_goals try simp only[Zko,Zkp,Zrv,Zkl,Z4,Zkn,Znj,mpl,dfs]
 all_goals try simp only[itb]
 all_goals try simp only[itf,gS,kk]
 all_goals repeat' first|refine exI λ_=>?_|refine anJ λ_ _=>?_|refine anI λ_=>?_|refine orE2 ?_ ?_|exact False.elim
 all_goals (intro h;first|rw[Ze Zxl.eq_1]|rw[Ze Z5t.eq_1]|refine run Zb4p rfl ?_)
 all_goals (refine Yf ?_ h;clear h;simp +decide[*,kk,tI,tII,Zxm,Zbi0,Z5u,Zbi1])
abbrev Zbpd:=Zbao.1
abbrev Zbpe:=Zbao.2.1
abbrev Zcae:=Zbao.2.2
theorem Zcaf{x x1:List Int}{x2:Int}{x3:List (List Int)}{r:AV×List Blk}(h:(0<=x2/\(x2.toNat*8<=room/\(x2<=140737488355328/\(Zkm x1 x3 (List.replicate (x2).toNat 0) x x2 (x.length:Int) 0=some r))))):Zkl x x1 x2 x3=some r:=by
 unfold Zkl;refine runM Zb4o rfl ?_;obtain⟨q1,h⟩:=h;obtain⟨q2,h⟩:=h;have zq2:=q2;try simp at zq2
 obtain⟨q3,h⟩:=h;refine Yf ?_ h;clear h;simp +decide[*,Zbiz,tI,tII,Zkm]
theorem Zjj:(((∀⦃p fr x n x1 x2 r⦄,Im (Znk p fr x n x1 x2=some r) (if x2<x1 then(0<=x2/\(∃e1,x[x2.toNat]?=some e1/\(Zrw p fr x n e1 x1 x2 e1 (e1.length:Int) 0=some r)))else(Zrx p.Limits (p.Limits.length:Int) 0=some r)))/\
 (∀⦃p fr x n cd x1 x2 x3 x4 x5 r⦄,Im (Zrw p fr x n cd x1 x2 x3 x4 x5=some r) (if x5<x4 then(0<=x5/\(∃e1,x3[x5.toNat]?=some e1/\(∃v1,Z4 e1 (-9) 9=some (Bo v1,[])/\(if v1=true then(Zrw p fr x n cd x1 x2 x3 x4 (w (x5+1))=some r)else(some (Bo false,[])=some r)))))else(if(cd.length:Int)=n then(Znk p fr x n x1 (w (x2+1))=some r)else(some (Bo false,[])=some r)))))/\
 ((∀⦃x x1 x2 r⦄,Im (Zrx x x1 x2=some r) (if x2<x1 then(0<=x2/\(∃e1,x[x2.toNat]?=some e1/\(∃v1,Z4 e1 0 99=some (Bo v1,[])/\(if v1=true then(Zrx x x1 (w (x2+1))=some r)else(some (Bo false,[])=some r)))))else(some (Bo true,[])=some r)))/\
 (∀⦃a r⦄,Im (Zkq a=some r) (∃v,Z4 (a.Objective.length:Int) 1 15=some (Bo v,[])/\(if v=true then(if 64<(a.Rows.length:Int)then(some (Bo false,[])=some r)else(if(a.Limits.length:Int)=(a.Rows.length:Int)then(a.Rows.length<=68719476736/\(a.Rows.length+1<=68719476736/\(Znk a false (a.Rows++[a.Objective]) (a.Objective.length:Int) ((a.Rows++[a.Objective]).length:Int) 0=some r)))else(some (Bo false,[])=some r)))else(some (Bo false,[])=some r))))))/\
 (((∀⦃a a1 a2 r⦄,Im (Zxq a a1 a2=some r) (∃(v:List Zk),Zro a a1 a2=some (.own 0,[.arr 251 3 true (v.map Zk.c)])/\(if(v.length:Int)=0 then(some (.tup [.agg [.own 0,.own 1,.own 2],.own 3,Bo false],[.arr 3 1 true (([]:List Int).map ic),.arr 56 1 true (([]:List (List Int)).map isc),.arr 3 1 true (([]:List Int).map ic),.arr 251 3 true (([]:List Zk).map Zk.c)])=some r)else((∃(v1:List Int),Zfk a1 a2=some (.own 0,[.arr 3 1 true (v1.map ic)])/\(∃(v2:List Zk),Zrr v v1=some (.own 0,[.arr 251 3 true (v2.map Zk.c)])/\(∃(v3:List Int),∃(v4:List (List Int)),∃(v5:List Int),∃v6,Ziz v2 (v1.length:Int)=some (.tup [.agg [.own 0,.own 1,.own 2],Bo v6],[.arr 3 1 true (v3.map ic),.arr 56 1 true (v4.map isc),.arr 3 1 true (v5.map ic)])/\(some (.tup [.agg [.own 0,.own 1,.own 2],.own 3,Bo v6],[.arr 3 1 true (v3.map ic),.arr 56 1 true (v4.map isc),.arr 3 1 true (v5.map ic),.arr 251 3 true (v.map Zk.c)])=some r))))\/(Zfk a1 a2=some (.t .nil,[])/\(∃(v7:List Zk),Zbi3 v=some (.own 0,[.arr 251 3 true (v7.map Zk.c)])/\(∃(v8:List Int),∃(v9:List (List Int)),∃(v10:List Int),∃v11,Ziz v7 0=some (.tup [.agg [.own 0,.own 1,.own 2],Bo v11],[.arr 3 1 true (v8.map ic),.arr 56 1 true (v9.map isc),.arr 3 1 true (v10.map ic)])/\(some (.tup [.agg [.own 0,.own 1,.own 2],.own 3,Bo v11],[.arr 3 1 true (v8.map ic),.arr 56 1 true (v9.map isc),.arr 3 1 true (v10.map ic),.arr 251 3 true (v.map Zk.c)])=some r))))))))/\
 (∀⦃a r⦄,Im (Zi0 a=some r) (some (.agg [I a,I 1],[])=some r)))/\
 ((∀⦃cc x x1 x2 r⦄,Im (Zry cc x x1 x2=some r) (if x2<x1 then(0<=x2/\(∃e1,x[x2.toNat]?=some e1/\(∃(v1:Za),Zi0 e1=some (.agg (v1.c.map .t),[])/\(cc.length+1<=68719476736/\(Zry (cc++[v1]) x x1 (w (x2+1))=some r)))))else(some (.own 0,[.arr 149 2 true (cc.map Za.c)])=some r)))/\
 (∀⦃a r⦄,Im (Zfl a=some r) (Zry ([]:List Za) a (a.length:Int) 0=some r)))):=by
 and_intros
 all_goals intros
 all_goals unfold Im
 all_goals try simp only[Znk,Zrw,Zrx,Zkq,Zxq,Zi0,Zry,Zfl,Z4,Zro,Zfk,Zrr,Ziz,Zbi3,Zn.c_def,Zh.c_def,Zg.c_def,Zk.c_def,Zj.c_def,Za.c_def,mpl,dfs]
 all_goals try simp only[itb]
 all_goals try simp only[itf,gS,kk]
 all_goals repeat' first|refine exI λ_=>?_|refine anJ λ_ _=>?_|refine anI λ_=>?_|refine orE2 ?_ ?_|exact False.elim
 all_goals (intro h;first|rw[Ze Zxn.eq_1]|rw[Ze Z5w.eq_1]|rw[Ze Z5z.eq_1]|refine run Zb4q rfl ?_|refine run Zb4s rfl ?_|refine run Zb4t rfl ?_|rw[Ze Z54.eq_1]|refine run Zb4u rfl ?_)
 all_goals (refine Yf ?_ h;clear h;simp +decide[*,kk,tI,tII,Zxo,Z5y,Z5x,Z50,Zbi2,Zbi4,Zbi5,Z55,Zbi6])
abbrev Zbpf:=Zjj.1.1.1
abbrev Zbpg:=Zjj.1.1.2
abbrev Zbph:=Zjj.1.2.1
abbrev Zcag:=Zjj.1.2.2
abbrev Zbap:=Zjj.2.1.1
abbrev Zcah:=Zjj.2.1.2
abbrev Zbpi:=Zjj.2.2.1
abbrev Zcai:=Zjj.2.2.2
theorem Zbpj{x:List Int}{x1:List (List Int)}{x2:List Int}{c:Int}{x3:List Zk}{x4 x5:Int}{r:AV×List Blk}(h:(if x5<x4 then(0<=x5/\(∃(e1:Zk),x3[x5.toNat]?=some e1/\(∃(v:Bool),Z4 e1.To 1 c=some (Bo v,[])/\(if v=true then(if e1.From<0 then(some (.tup [.agg [.own 0,.own 1,.own 2],Bo false],[.arr 3 1 true (([]:List Int).map ic),.arr 56 1 true (([]:List (List Int)).map isc),.arr 3 1 true (([]:List Int).map ic)])=some r)else(if(andI e1.From e1.To)=e1.From then(if e1.From=e1.To then(some (.tup [.agg [.own 0,.own 1,.own 2],Bo false],[.arr 3 1 true (([]:List Int).map ic),.arr 56 1 true (([]:List (List Int)).map isc),.arr 3 1 true (([]:List Int).map ic)])=some r)else(0<=c/\(c.toNat*8<=room/\(c<=140737488355328/\(0<=(w (e1.To-1))/\(∃(e3:Int),(List.replicate (c).toNat 0)[(w (e1.To-1)).toNat]?=some e3/\(if 0<e1.From then(0<=(w (e1.From-1))/\(∃(e4:Int),((List.replicate (c).toNat 0).set ((w (e1.To-1)).toNat) 1)[(w (e1.From-1)).toNat]?=some e4/\(x1.length+1<=68719476736/\(x2.length+1<=68719476736/\(Zhi x (x1++[(((List.replicate (c).toNat 0).set ((w (e1.To-1)).toNat) 1).set ((w (e1.From-1)).toNat) (-1))]) (x2++[e1.Bits]) c x3 x4 (w (x5+1))=some r)))))else(x1.length+1<=68719476736/\(x2.length+1<=68719476736/\(Zhi x (x1++[((List.replicate (c).toNat 0).set ((w (e1.To-1)).toNat) 1)]) (x2++[e1.Bits]) c x3 x4 (w (x5+1))=some r))))))))))else(some (.tup [.agg [.own 0,.own 1,.own 2],Bo false],[.arr 3 1 true (([]:List Int).map ic),.arr 56 1 true (([]:List (List Int)).map isc),.arr 3 1 true (([]:List Int).map ic)])=some r)))else(some (.tup [.agg [.own 0,.own 1,.own 2],Bo false],[.arr 3 1 true (([]:List Int).map ic),.arr 56 1 true (([]:List (List Int)).map isc),.arr 3 1 true (([]:List Int).map ic)])=some r)))))else(∃(v1:Bool),Zkq (⟨x,x1,x2⟩:Program)=some (Bo v1,[])/\(if v1=true then(some (.tup [.agg [.own 0,.own 1,.own 2],Bo true],[.arr 3 1 true (x.map ic),.arr 56 1 true (x1.map isc),.arr 3 1 true (x2.map ic)])=some r)else(some (.tup [.agg [.own 0,.own 1,.own 2],Bo false],[.arr 3 1 true (([]:List Int).map ic),.arr 56 1 true (([]:List (List Int)).map isc),.arr 3 1 true (([]:List Int).map ic)])=some r))))):Zhi x x1 x2 c x3 x4 x5=some r:=by
 unfold Zhi;rw[Ze Z52.eq_1];by_cases q1:x5<x4
 .rw[if_pos q1]at h;obtain⟨q2,h⟩:=h;obtain⟨e1,q3,h⟩:=h;have gq3:=Zhe q3;have mq3:=gq3
  try simp at mq3
  have kq3:=Zir q3;obtain⟨v,q4,h⟩:=h;unfold Z4 at q4
  try simp at q4
  by_cases q5:v=true
  .rw[if_pos q5]at h;by_cases q6:e1.From<0
   .rw[if_pos q6]at h;refine Yf ?_ h;clear h;simp +decide[*,tI,tII]
   .rw[if_neg q6]at h;by_cases q7:(andI e1.From e1.To)=e1.From
    .rw[if_pos q7]at h;replace q7:=eq_true q7;by_cases q8:e1.From=e1.To
     .rw[if_pos q8]at h;replace q8:=eq_true q8;refine Yf ?_ h;clear h;simp +decide[*,tI,tII]
     .rw[if_neg q8]at h;replace q8:=eq_false q8;obtain⟨q9,h⟩:=h;obtain⟨q10,h⟩:=h;have zq10:=q10;try simp at zq10
      obtain⟨q11,h⟩:=h;obtain⟨q12,h⟩:=h;obtain⟨e3,q13,h⟩:=h;have gq13:=Zhe q13;have mq13:=gq13
      try simp at mq13
      have kq13:=Zir q13;by_cases q14:0<e1.From
      .rw[if_pos q14]at h;obtain⟨q15,h⟩:=h;obtain⟨e4,q16,h⟩:=h;have gq16:=Zhe q16;have mq16:=gq16
       try simp at mq16
       have kq16:=Zir q16;obtain⟨q17,h⟩:=h;have rq17:=Zet (b:=24) q17 (by omega);have sq17:=Zeu q17
       try simp[*]at rq17
       try simp[*]at sq17
       obtain⟨q18,h⟩:=h;have rq18:=Zet (b:=8) q18 (by omega);have sq18:=Zeu q18
       try simp[*]at rq18
       try simp[*]at sq18
       refine Yf ?_ h;clear h;simp +decide[*,tI,tII,Zhi,Z51]
      .rw[if_neg q14]at h;obtain⟨q19,h⟩:=h;have rq19:=Zet (b:=24) q19 (by omega);have sq19:=Zeu q19
       try simp[*]at rq19
       try simp[*]at sq19
       obtain⟨q20,h⟩:=h;have rq20:=Zet (b:=8) q20 (by omega);have sq20:=Zeu q20
       try simp[*]at rq20
       try simp[*]at sq20
       refine Yf ?_ h;clear h;simp +decide[*,tI,tII,Zhi,Z51]
    .rw[if_neg q7]at h;replace q7:=eq_false q7;refine Yf ?_ h;clear h;simp +decide[*,tI,tII]
  .rw[if_neg q5]at h;refine Yf ?_ h;clear h;simp +decide[*,tI,tII]
 .rw[if_neg q1]at h;obtain⟨v1,q21,h⟩:=h;unfold Zkq at q21
  try simp at q21
  by_cases q22:v1=true
  .rw[if_pos q22]at h;refine Yf ?_ h;clear h;simp +decide[*,tI,tII,Zxp]
  .rw[if_neg q22]at h;refine Yf ?_ h;clear h;simp +decide[*,tI,tII,Zxp]
theorem Zbpk{a:List Zk}{a1:Int}{r:AV×List Blk}(h:(∃(v:Bool),Z4 a1 1 4=some (Bo v,[])/\(if v=true then(¬a1<0/\(0<=(w ((shlI 1 a1)-1))/\((w ((shlI 1 a1)-1))<=(w ((shlI 1 a1)-1))/\((w ((shlI 1 a1)-1)).toNat*8<=room/\((w ((shlI 1 a1)-1))<=140737488355328/\(∃(v1:List (List Int)),Zrv a1=some (.own 0,[.arr 56 1 true (v1.map isc)])/\(0<=(w ((w ((shlI 1 a1)-1))-1))/\(∃(e3:Int),(List.replicate ((w ((shlI 1 a1)-1))).toNat 0)[(w ((w ((shlI 1 a1)-1))-1)).toNat]?=some e3/\(0<=(v1.length:Int)/\((v1.length:Int)<=(v1.length:Int)/\((v1.length:Int).toNat*8<=room/\((v1.length:Int)<=140737488355328/\(Zhi ((List.replicate ((w ((shlI 1 a1)-1))).toNat 0).set ((w ((w ((shlI 1 a1)-1))-1)).toNat) 1) v1 (List.replicate ((v1.length:Int)).toNat 0) (w ((shlI 1 a1)-1)) a (a.length:Int) 0=some r)))))))))))))else(some (.tup [.agg [.own 0,.own 1,.own 2],Bo false],[.arr 3 1 true (([]:List Int).map ic),.arr 56 1 true (([]:List (List Int)).map isc),.arr 3 1 true (([]:List Int).map ic)])=some r)))):Ziz a a1=some r:=by
 unfold Ziz;refine run Zb4r rfl ?_;obtain⟨v,q1,h⟩:=h;unfold Z4 at q1
 try simp at q1
 by_cases q2:v=true
 .rw[if_pos q2]at h;obtain⟨q3,h⟩:=h;obtain⟨q4,h⟩:=h;obtain⟨q5,h⟩:=h;obtain⟨q6,h⟩:=h;have zq6:=q6;try simp at zq6
  obtain⟨q7,h⟩:=h;obtain⟨v1,q8,h⟩:=h;unfold Zrv at q8
  try simp at q8
  obtain⟨q9,h⟩:=h;obtain⟨e3,q10,h⟩:=h;have gq10:=Zhe q10;have mq10:=gq10
  try simp at mq10
  have kq10:=Zir q10;obtain⟨q11,h⟩:=h;have zq11:=q11;try simp at zq11
  obtain⟨q12,h⟩:=h;have zq12:=q12;try simp at zq12
  obtain⟨q13,h⟩:=h;have zq13:=q13;try simp at zq13
  obtain⟨q14,h⟩:=h;have zq14:=q14;try simp at zq14
  refine Yf ?_ h;clear h;simp +decide[*,Z53,tI,tII,Zhi]
 .rw[if_neg q2]at h;refine Yf ?_ h;clear h;simp +decide[*,Z53,tI,tII]
theorem Zc1:((((∀⦃p cd cc x x1 n k r⦄,Im (Z56 p cd cc x x1 n k=some r) (if k<n then(Zr2 p cd cc ([k]) x x1 n (w (k+1))=some r)else(Zbi8 cd cc x x1 n p.Rows (p.Rows.length:Int) 0=some r)))/\
 (∀⦃p cd cc x x1 x2 n k r⦄,Im (Zr2 p cd cc x x1 x2 n k=some r) (if k<n then(x.length+1<=68719476736/\(Zr2 p cd cc (x++[k]) x1 x2 n (w (k+1))=some r))else(Z57 cd cc x x1 x2 n p.Rows (p.Rows.length:Int) 0=some r))))/\
 ((∀⦃cd cc x x1 x2 n x3 x4 x5 r⦄,Im (Z57 cd cc x x1 x2 n x3 x4 x5=some r) (if x5<x4 then(0<=x5/\(∃e1,x3[x5.toNat]?=some e1/\(∃(v2:List Za),Zfl e1=some (.own 0,[.arr 149 2 true (v2.map Za.c)])/\(Zr3 cd cc ([(w (n+x5))]) x ([v2]) x1 x2 n x3 x4 (w (x5+1))=some r))))else(some (.tup [.agg [.own 0,.own 1,.own 2,.own 3,.own 4,I cc.Num,I cc.Den],Bo true],[.arr 3 1 true (([]:List Int).map ic),.arr 3 1 true (x.map ic),.arr 179 1 true (([]:List (List Za)).map (lc 2 Za.c)),.arr 149 2 true (x1.map Za.c),.arr 149 2 true (x2.map Za.c)])=some r)))/\
 (∀⦃cd cc x x1 x2 x3 x4 n x5 x6 x7 r⦄,Im (Zr3 cd cc x x1 x2 x3 x4 n x5 x6 x7=some r) (if x7<x6 then(0<=x7/\(∃e1,x5[x7.toNat]?=some e1/\(x.length+1<=68719476736/\(∃(v2:List Za),Zfl e1=some (.own 0,[.arr 149 2 true (v2.map Za.c)])/\(x2.length+1<=68719476736/\(Zr3 cd cc (x++[(w (n+x7))]) x1 (x2++[v2]) x3 x4 n x5 x6 (w (x7+1))=some r))))))else(some (.tup [.agg [.own 0,.own 1,.own 2,.own 3,.own 4,I cc.Num,I cc.Den],Bo true],[.arr 3 1 true (x.map ic),.arr 3 1 true (x1.map ic),.arr 179 1 true (x2.map (lc 2 Za.c)),.arr 149 2 true (x3.map Za.c),.arr 149 2 true (x4.map Za.c)])=some r)))))/\
 (((∀⦃a r⦄,Im (Zr1 a=some r) (∃v,Zkq a=some (Bo v,[])/\(if v=true then(∃(v2:List Za),Zfl a.Limits=some (.own 0,[.arr 149 2 true (v2.map Za.c)])/\(∃(v3:List Za),Zfl a.Objective=some (.own 0,[.arr 149 2 true (v3.map Za.c)])/\(∃(v5:Za),Zi0 0=some (.agg (v5.c.map .t),[])/\(Z56 a (⟨0,0⟩:Za) v5 v2 v3 (a.Objective.length:Int) 0=some r))))else(some (.tup [.agg [.own 0,.own 1,.own 2,.own 3,.own 4,I 0,I 0],Bo false],[.arr 3 1 true (([]:List Int).map ic),.arr 3 1 true (([]:List Int).map ic),.arr 179 1 true (([]:List (List Za)).map (lc 2 Za.c)),.arr 149 2 true (([]:List Za).map Za.c),.arr 149 2 true (([]:List Za).map Za.c)])=some r))))/\
 (∀⦃d cl x x1 x2 r⦄,Im (Zi1 d cl x x1 x2=some r) (if x2<x1 then(0<=x2/\(∃e1,x[x2.toNat]?=some e1/\(if 0<e1.Num then(if cl<0 then(Zi1 d x2 x x1 (w (x2+1))=some r)else(∃e2,d.Free[x2.toNat]?=some e2/\(0<=cl/\(∃e3,d.Free[cl.toNat]?=some e3/\(if e2<e3 then(Zi1 d x2 x x1 (w (x2+1))=some r)else(Zi1 d cl x x1 (w (x2+1))=some r))))))else(Zi1 d cl x x1 (w (x2+1))=some r))))else(some (I cl,[])=some r))))/\
 ((∀⦃a r⦄,Im (Zr4 a=some r) (Zi1 a (-1) a.Costs (a.Costs.length:Int) 0=some r))/\
 ((∀⦃a b r⦄,Im (Zr5 a b=some r) (if b=0 then(some (I (if a<(w (0-a))then(w (0-a))else a),[])=some r)else(¬b=0/\(Zr5 b (Int.tmod a b)=some r))))/\
 (∀⦃a a1 r⦄,Im (Zgq a a1=some r) (Zr5 a a1=some r))))))/\
 ((((∀⦃a r⦄,Im (Zcd a=some r) (∃v,Z4 a.Den 1 2147483647=some (Bo v,[])/\(if v=true then(∃v2,Z4 a.Num (-2147483647) 2147483647=some (Bo v2,[])/\(if v2=true then(∃v3,Zgq a.Num a.Den=some (I v3,[])/\(some (Bo (decide (v3=1)),[])=some r))else(some (Bo false,[])=some r)))else(some (Bo false,[])=some r))))/\
 (∀⦃a a1 r⦄,Im (Zkr a a1=some r) (if a1=0 then(some (.tup [.agg [I 0,I 0],Bo false],[])=some r)else(if a=(w (0-a))then(if a=0 then(if a1=(w (0-a1))then(some (.tup [.agg [I 0,I 0],Bo false],[])=some r)else(if a1<0 then(∃v,Zgq (w (0-a)) (w (0-a1))=some (I v,[])/\(¬v=0/\(∃v2,Zcd (⟨(w (Int.tdiv (w (0-a)) v)),(w (Int.tdiv (w (0-a1)) v))⟩:Za)=some (Bo v2,[])/\(if v2=true then(some (.tup [.agg [I (w (Int.tdiv (w (0-a)) v)),I (w (Int.tdiv (w (0-a1)) v))],Bo true],[])=some r)else(some (.tup [.agg [I 0,I 0],Bo false],[])=some r)))))else(∃v3,Zgq a a1=some (I v3,[])/\(¬v3=0/\(∃v5,Zcd (⟨(w (Int.tdiv a v3)),(w (Int.tdiv a1 v3))⟩:Za)=some (Bo v5,[])/\(if v5=true then(some (.tup [.agg [I (w (Int.tdiv a v3)),I (w (Int.tdiv a1 v3))],Bo true],[])=some r)else(some (.tup [.agg [I 0,I 0],Bo false],[])=some r)))))))else(some (.tup [.agg [I 0,I 0],Bo false],[])=some r))else(if a1=(w (0-a1))then(some (.tup [.agg [I 0,I 0],Bo false],[])=some r)else(if a1<0 then(∃v7,Zgq (w (0-a)) (w (0-a1))=some (I v7,[])/\(¬v7=0/\(∃v8,Zcd (⟨(w (Int.tdiv (w (0-a)) v7)),(w (Int.tdiv (w (0-a1)) v7))⟩:Za)=some (Bo v8,[])/\(if v8=true then(some (.tup [.agg [I (w (Int.tdiv (w (0-a)) v7)),I (w (Int.tdiv (w (0-a1)) v7))],Bo true],[])=some r)else(some (.tup [.agg [I 0,I 0],Bo false],[])=some r)))))else(∃v9,Zgq a a1=some (I v9,[])/\(¬v9=0/\(∃v10,Zcd (⟨(w (Int.tdiv a v9)),(w (Int.tdiv a1 v9))⟩:Za)=some (Bo v10,[])/\(if v10=true then(some (.tup [.agg [I (w (Int.tdiv a v9)),I (w (Int.tdiv a1 v9))],Bo true],[])=some r)else(some (.tup [.agg [I 0,I 0],Bo false],[])=some r)))))))))))/\
 ((∀⦃a a1 r⦄,Im (Zr6 a a1=some r) (∃v,Zcd a=some (Bo v,[])/\(if v=true then(∃v2,Zcd a1=some (Bo v2,[])/\(if v2=true then(∃(v3:Za),∃v4,Zkr (w (a.Num*a1.Den)) (w (a.Den*a1.Num))=some (.tup [.agg (v3.c.map .t),Bo v4],[])/\(some (.tup [.agg (v3.c.map .t),Bo v4],[])=some r))else(some (.tup [.agg [I 0,I 0],Bo false],[])=some r)))else(some (.tup [.agg [I 0,I 0],Bo false],[])=some r))))/\
 (∀⦃a a1 r⦄,Im (Zxt a a1=some r) (∃v,Zcd a=some (Bo v,[])/\(if v=true then(∃v2,Zcd a1=some (Bo v2,[])/\(if v2=true then(if(w (a.Num*a1.Den))<(w (a1.Num*a.Den))then(some (I (-1),[])=some r)else(if(w (a1.Num*a.Den))<(w (a.Num*a1.Den))then(some (I 1,[])=some r)else(some (I 0,[])=some r)))else(some (I 0,[])=some r)))else(some (I 0,[])=some r))))))/\
 (((∀⦃d co cn cl x x1 r⦄,Im (Zgr d co cn cl x x1=some r) (if x1<x then(0<=x1/\(∃e1,d.Cells[x1.toNat]?=some e1/\(0<=cn/\(∃e2,e1[cn.toNat]?=some e2/\(if e2.Num<=0 then(Zgr d co cn cl x (w (x1+1))=some r)else(∃e3,d.Limits[x1.toNat]?=some e3/\(∃(v5:Za),∃v6,Zr6 e3 e2=some (.tup [.agg (v5.c.map .t),Bo v6],[])/\(if v6=true then(∃v7,Zxt v5 co=some (I v7,[])/\(if cl<0 then(Zgr d v5 cn x1 x (w (x1+1))=some r)else(if v7<0 then(Zgr d v5 cn x1 x (w (x1+1))=some r)else(if v7=0 then(∃e6,d.Basic[x1.toNat]?=some e6/\(0<=cl/\(∃e7,d.Basic[cl.toNat]?=some e7/\(if e6<e7 then(Zgr d v5 cn x1 x (w (x1+1))=some r)else(Zgr d co cn cl x (w (x1+1))=some r)))))else(Zgr d co cn cl x (w (x1+1))=some r)))))else(some (I (-1),[])=some r)))))))))else(some (I cl,[])=some r)))/\
 (∀⦃a a1 r⦄,Im (Zr7 a a1=some r) (Zgr a (⟨0,0⟩:Za) a1 (-1) (a.Basic.length:Int) 0=some r)))/\
 ((∀⦃x a a1 r⦄,Im (Zhj x a a1=some r) (∃(v:Za),∃v1,Zr6 a a1=some (.tup [.agg (v.c.map .t),Bo v1],[])/\(if x.bad=true then(some (.agg (v.c.map .t),[.box [Bo true]])=some r)else(some (.agg (v.c.map .t),[.box [Bo (!v1)]])=some r))))/\
 ((∀⦃a r⦄,Im (Zez a=some r) (some (.agg [I (w (0-a.Num)),I a.Den],[])=some r))/\
 (∀⦃a a1 r⦄,Im (Zr8 a a1=some r) (∃v,Zcd a=some (Bo v,[])/\(if v=true then(∃v2,Zcd a1=some (Bo v2,[])/\(if v2=true then(∃(v3:Za),∃v4,Zkr (w (a.Num*a1.Num)) (w (a.Den*a1.Den))=some (.tup [.agg (v3.c.map .t),Bo v4],[])/\(some (.tup [.agg (v3.c.map .t),Bo v4],[])=some r))else(some (.tup [.agg [I 0,I 0],Bo false],[])=some r)))else(some (.tup [.agg [I 0,I 0],Bo false],[])=some r)))))))):=by
 and_intros
 all_goals intros
 all_goals unfold Im
 all_goals try simp only[Z56,Zr2,Z57,Zr3,Zr1,Zi1,Zr4,Zr5,Zgq,Zcd,Zkr,Zr6,Zxt,Zgr,Zr7,Zhj,Zez,Zr8,Zfl,Zkq,Zi0,Program.c_def,Za.c_def,Z4,Zbi8,mpl,dfs]
 all_goals try simp only[itb]
 all_goals try simp only[itf,gS,kk]
 all_goals repeat' first|refine exI λ_=>?_|refine anJ λ_ _=>?_|refine anI λ_=>?_|refine orE2 ?_ ?_|exact False.elim
 all_goals (intro h;first|rw[Ze Zxr.eq_1]|rw[Ze Zrz.eq_1]|refine run Zb4v rfl ?_|rw[Ze Z58.eq_1]|refine run Zb4w rfl ?_|rw[Ze Z6a.eq_1]|refine run Zb4x rfl ?_|refine run Zb4y rfl ?_|refine run Zb4z rfl ?_|refine run Zb40 rfl ?_|refine run Zb41 rfl ?_|rw[Ze Z6c.eq_1]|refine run Zb42 rfl ?_|refine runM Zb44 rfl ?_|refine run Zb45 rfl ?_|refine run Zb46 rfl ?_)
 all_goals try simp only[Int.zero_sub]at *
 all_goals (refine Yf ?_ h;clear h;simp +decide[*,kk,tI,tII,Zxs,Zr0,Zbi7,Zbi9,Z59,Zbja,Z6b,Zbjb,Zbjc,Zbje,Zbjd,Zbjf,Zbjg,Zbjh,Z6d,Zbji,Zbjk,Zbjl,Zbjm])
abbrev Zcaj:=Zc1.1.1.1.1
abbrev Zbpl:=Zc1.1.1.1.2
abbrev Zcak:=Zc1.1.1.2.1
abbrev Zbpm:=Zc1.1.1.2.2
abbrev Zcal:=Zc1.1.2.1.1
abbrev Zbpn:=Zc1.1.2.1.2
abbrev Zcam:=Zc1.1.2.2.1
abbrev Zbpo:=Zc1.1.2.2.2.1
abbrev Zcan:=Zc1.1.2.2.2.2
abbrev Zcao:=Zc1.2.1.1.1
abbrev Zcap:=Zc1.2.1.1.2
abbrev Zcaq:=Zc1.2.1.2.1
abbrev Zcar:=Zc1.2.1.2.2
abbrev Zbpp:=Zc1.2.2.1.1
abbrev Zcas:=Zc1.2.2.1.2
abbrev Zcat:=Zc1.2.2.2.1
abbrev Zcau:=Zc1.2.2.2.2.1
abbrev Zcav:=Zc1.2.2.2.2.2
theorem Zbpq:(∀⦃a a1 r⦄,Im (Zxu a a1=some r) (∃v,Zcd a=some (Bo v,[])/\(if v=true then(∃v2,Zcd a1=some (Bo v2,[])/\(if v2=true then(∃(v4:Za),∃v5,Zkr (w ((w (a.Num*a1.Den))+(w (a1.Num*a.Den)))) (w (a.Den*a1.Den))=some (.tup [.agg (v4.c.map .t),Bo v5],[])/\(some (.tup [.agg (v4.c.map .t),Bo v5],[])=some r))else(some (.tup [.agg [I 0,I 0],Bo false],[])=some r)))else(some (.tup [.agg [I 0,I 0],Bo false],[])=some r))))/\
 (∀⦃x a a1 a2 r⦄,Im (Ze0 x a a1 a2=some r) (if a1.Num=0 then(some (.agg (a.c.map .t),[.box (x.c.map .t)])=some r)else(if a2.Num=0 then(some (.agg (a.c.map .t),[.box (x.c.map .t)])=some r)else(∃(v:Za),∃v1,Zr8 a1 a2=some (.tup [.agg (v.c.map .t),Bo v1],[])/\(∃(v2:Za),∃v3,Zxu a v=some (.tup [.agg (v2.c.map .t),Bo v3],[])/\(if x.bad=true then(some (.agg (v2.c.map .t),[.box [Bo true]])=some r)else(if v1=true then(some (.agg (v2.c.map .t),[.box [Bo (!v3)]])=some r)else(some (.agg (v2.c.map .t),[.box [Bo true]])=some r)))))))):=by
 and_intros
 all_goals intros
 all_goals unfold Im
 all_goals try simp only[Zxu,Ze0,Zcd,Zkr,Za.c_def,Zr8,mpl,dfs]
 all_goals try simp only[itb]
 all_goals try simp only[itf,gS,kk]
 all_goals repeat' first|refine exI λ_=>?_|refine anJ λ_ _=>?_|refine anI λ_=>?_|refine orE2 ?_ ?_|exact False.elim
 all_goals (intro h;first|refine run Zb47 rfl ?_|refine runM Zb48 rfl ?_)
 all_goals (refine Yf ?_ h;clear h;simp +decide[*,kk,tI,tII,Zbjn,Zbjo])
abbrev Zcaw:=Zbpq.1
abbrev Zcax:=Zbpq.2
theorem Zcay{a:List Za}{r:AV×List Blk}(h:(a≠[]/\(a.length<=68719476736/\(some (.own 0,[.arr 149 2 true (a.map Za.c)])=some r)))):Zi2 a=some r:=by
 unfold Zi2;refine run Zb43 rfl ?_;obtain⟨q1,h⟩:=h;obtain⟨yq1,ysq1,eq1⟩:=List.exists_cons_of_ne_nil q1
 first|subst eq1|skip
 obtain⟨q2,h⟩:=h;have rq2:=Zet (b:=16) q2 (by omega);have sq2:=Zeu q2
 try simp[*]at rq2
 try simp[*]at sq2
 refine Yf ?_ h;clear h;simp +decide[*,Zbjj,tI,tII]
theorem Zhv:(((∀⦃l x x1 x2 x3 c x4 x5 r⦄,Im (Znl l x x1 x2 x3 c x4 x5=some r) (if x5<x4 then(if x5=x then(∃(v:Zz) (v1:Za),Zhj x1 c x2=some (.agg (v1.c.map .t),[.box (v.c.map .t)])/\(∃(v2:Za),Zez v1=some (.agg (v2.c.map .t),[])/\(0<=x5/\(∃e3,l[x5.toNat]?=some e3/\(Znl (l.set x5.toNat v2) x v x2 x3 c x4 (w (x5+1))=some r)))))else(0<=x5/\(∃e4,l[x5.toNat]?=some e4/\(∃(v10:Za),Zez c=some (.agg (v10.c.map .t),[])/\(∃e6,x3[x5.toNat]?=some e6/\(∃(v13:Zz) (v14:Za),Ze0 x1 e4 v10 e6=some (.agg (v14.c.map .t),[.box (v13.c.map .t)])/\(Znl (l.set x5.toNat v14) x v13 x2 x3 c x4 (w (x5+1))=some r)))))))else(some (.own 6,[.box [I x],.box [.ptr 2 0],.box (x1.c.map .t),.box (x2.c.map .t),.box [.own 5],.arr 149 2 true (x3.map Za.c),.arr 149 2 true (l.map Za.c)])=some r)))/\
 (∀⦃x x1 x2 x3 a r⦄,Im (Zks x x1 x2 x3 a=some r) (0<=x/\(∃e1,a[x.toNat]?=some e1/\(∃(v2:List Za),Zi2 a=some (.own 0,[.arr 149 2 true (v2.map Za.c)])/\(Znl v2 x x1 x2 x3 e1 (v2.length:Int) 0=some r))))))/\
 ((∀⦃l x x1 x2 x3 c x4 x5 r⦄,Im (Znm l x x1 x2 x3 c x4 x5=some r) (if x5<x4 then(if x5=x then(∃(v:Zz) (v1:Za),Zhj x1 c x2=some (.agg (v1.c.map .t),[.box (v.c.map .t)])/\(∃(v2:Za),Zez v1=some (.agg (v2.c.map .t),[])/\(0<=x5/\(∃e3,l[x5.toNat]?=some e3/\(Znm (l.set x5.toNat v2) x v x2 x3 c x4 (w (x5+1))=some r)))))else(0<=x5/\(∃e4,l[x5.toNat]?=some e4/\(∃(v10:Za),Zez c=some (.agg (v10.c.map .t),[])/\(∃e6,x3[x5.toNat]?=some e6/\(∃(v13:Zz) (v14:Za),Ze0 x1 e4 v10 e6=some (.agg (v14.c.map .t),[.box (v13.c.map .t)])/\(Znm (l.set x5.toNat v14) x v13 x2 x3 c x4 (w (x5+1))=some r)))))))else(some (.own 5,[.box [I x],.box [.ptr 2 0],.box (x1.c.map .t),.box (x2.c.map .t),.box [L 2 (x3.map Za.c)],.arr 149 2 true (l.map Za.c)])=some r)))/\
 (∀⦃x x1 x2 x3 a r⦄,Im (Zr9 x x1 x2 x3 a=some r) (0<=x/\(∃e1,a[x.toNat]?=some e1/\(∃(v2:List Za),Zi2 a=some (.own 0,[.arr 149 2 true (v2.map Za.c)])/\(Znm v2 x x1 x2 x3 e1 (v2.length:Int) 0=some r)))))))/\
 (((∀⦃d cc cn x a cl x1 x2 x3 x4 x5 co x6 x7 x8 r⦄,Im (Znn d cc cn x a cl x1 x2 x3 x4 x5 co x6 x7 x8=some r) (if x8<x7 then(0<=x8/\(∃e1,x6[x8.toNat]?=some e1/\(if x8=cc then(∃(v2:Za),Zi0 1=some (.agg (v2.c.map .t),[])/\(∃(v3:Zz) (v4:Za),Zhj x v2 a=some (.agg (v4.c.map .t),[.box (v3.c.map .t)])/\(x5.length+1<=68719476736/\(Znn d cc cn v3 a cl x1 x2 x3 x4 (x5++[v4]) co x6 x7 (w (x8+1))=some r))))else(∃(v8:Zz) (v9:Za),Zhj x e1 a=some (.agg (v9.c.map .t),[.box (v8.c.map .t)])/\(x5.length+1<=68719476736/\(Znn d cc cn v8 a cl x1 x2 x3 x4 (x5++[v9]) co x6 x7 (w (x8+1))=some r))))))else(0<=co/\(∃e5,d.Limits[co.toNat]?=some e5/\(∃(v11:Zz) (v12:Za),Zhj x e5 a=some (.agg (v12.c.map .t),[.box (v11.c.map .t)])/\(Zxx d cc cn v11 cl x1 x2 x3 x4 x5 v12 a co d.Cells (d.Cells.length:Int) 0=some r))))))/\
 (∀⦃d cc cn x cl x1 x2 x3 x4 x5 cd x6 co x7 x8 x9 r⦄,Im (Zxx d cc cn x cl x1 x2 x3 x4 x5 cd x6 co x7 x8 x9=some r) (if x9<x8 then(0<=x9/\(∃e1,x7[x9.toNat]?=some e1/\(if x9=co then(∃e2,x3[x9.toNat]?=some e2/\(Zku d cc cn x cl x1 x2 false ([x5]) (x3.set x9.toNat cd) x4 x5 cd x6 co x7 x8 (w (x9+1))=some r))else(∃v3,∃(v4:Zz),∃(v5:Za),∃(v6:List Za),∃(v7:List Za),Zks cc x x6 x5 e1=some (.own 6,[.box [I v3],.box [.ptr 2 0],.box (v4.c.map .t),.box (v5.c.map .t),.box [.own 5],.arr 149 2 true (v6.map Za.c),.arr 149 2 true (v7.map Za.c)])/\(∃e4,d.Limits[x9.toNat]?=some e4/\(0<=v3/\(∃e5,e1[v3.toNat]?=some e5/\(∃(v11:Za),Zez e5=some (.agg (v11.c.map .t),[])/\(∃(v13:Zz) (v14:Za),Ze0 v4 e4 v11 cd=some (.agg (v14.c.map .t),[.box (v13.c.map .t)])/\(∃e8,x3[x9.toNat]?=some e8/\(Zsc d v3 cn v13 cl x1 x2 ([v7]) (x3.set x9.toNat v14) x4 v6 cd v5 co x7 x8 (w (x9+1))=some r)))))))))))else(∃v15,∃(v16:Zz),∃(v17:Za),∃(v18:List Za),∃(v19:List Za),Zks cc x x6 x5 d.Costs=some (.own 6,[.box [I v15],.box [.ptr 2 0],.box (v16.c.map .t),.box (v17.c.map .t),.box [.own 5],.arr 149 2 true (v18.map Za.c),.arr 149 2 true (v19.map Za.c)])/\(0<=v15/\(∃e10,d.Costs[v15.toNat]?=some e10/\(∃(v20:Zz) (v21:Za),Ze0 v16 d.Value e10 cd=some (.agg (v21.c.map .t),[.box (v20.c.map .t)])/\(if v20.bad=true then(some (.tup [.agg [.own 0,.own 1,.own 2,.own 3,.own 4,I 0,I 0],Bo false],[.arr 3 1 true (([]:List Int).map ic),.arr 3 1 true (([]:List Int).map ic),.arr 179 1 true (([]:List (List Za)).map (lc 2 Za.c)),.arr 149 2 true (([]:List Za).map Za.c),.arr 149 2 true (([]:List Za).map Za.c)])=some r)else(some (.tup [.agg [.own 0,.own 1,.own 2,.own 3,.own 4,I v21.Num,I v21.Den],Bo true],[.arr 3 1 true (x1.map ic),.arr 3 1 true (x2.map ic),.arr 179 1 true (([]:List (List Za)).map (lc 2 Za.c)),.arr 149 2 true (x3.map Za.c),.arr 149 2 true (v19.map Za.c)])=some r)))))))))/\
 ((∀⦃d cc cn x cl x1 x2 fr x3 x4 x5 cp cd x6 co x7 x8 x9 r⦄,Im (Zku d cc cn x cl x1 x2 fr x3 x4 x5 cp cd x6 co x7 x8 x9=some r) (if x9<x8 then(0<=x9/\(∃e1,x7[x9.toNat]?=some e1/\(if x9=co then(x3.length+1<=68719476736/\(∃e2,x4[x9.toNat]?=some e2/\(Zku d cc cn x cl x1 x2 false (x3++[cp]) (x4.set x9.toNat cd) x5 cp cd x6 co x7 x8 (w (x9+1))=some r)))else(∃v3,∃(v4:Zz),∃(v5:Za),∃(v6:List Za),∃(v7:List Za),Zr9 cc x x6 cp e1=some (.own 5,[.box [I v3],.box [.ptr 2 0],.box (v4.c.map .t),.box (v5.c.map .t),.box [L 2 (v6.map Za.c)],.arr 149 2 true (v7.map Za.c)])/\(x3.length+1<=68719476736/\(∃e4,d.Limits[x9.toNat]?=some e4/\(0<=v3/\(∃e5,e1[v3.toNat]?=some e5/\(∃(v11:Za),Zez e5=some (.agg (v11.c.map .t),[])/\(∃(v13:Zz) (v14:Za),Ze0 v4 e4 v11 cd=some (.agg (v14.c.map .t),[.box (v13.c.map .t)])/\(∃e8,x4[x9.toNat]?=some e8/\(Zku d v3 cn v13 cl x1 x2 fr (x3++[v7]) (x4.set x9.toNat v14) x5 v6 cd v5 co x7 x8 (w (x9+1))=some r))))))))))))else(∃v15,∃(v16:Zz),∃(v17:Za),∃(v18:List Za),∃(v19:List Za),Zr9 cc x x6 cp d.Costs=some (.own 5,[.box [I v15],.box [.ptr 2 0],.box (v16.c.map .t),.box (v17.c.map .t),.box [L 2 (v18.map Za.c)],.arr 149 2 true (v19.map Za.c)])/\(0<=v15/\(∃e10,d.Costs[v15.toNat]?=some e10/\(∃(v20:Zz) (v21:Za),Ze0 v16 d.Value e10 cd=some (.agg (v21.c.map .t),[.box (v20.c.map .t)])/\(if v20.bad=true then(some (.tup [.agg [.own 0,.own 1,.own 2,.own 3,.own 4,I 0,I 0],Bo false],[.arr 3 1 true (([]:List Int).map ic),.arr 3 1 true (([]:List Int).map ic),.arr 179 1 true (([]:List (List Za)).map (lc 2 Za.c)),.arr 149 2 true (([]:List Za).map Za.c),.arr 149 2 true (([]:List Za).map Za.c)])=some r)else(some (.tup [.agg [.own 0,.own 1,.own 2,.own 3,.own 4,I v21.Num,I v21.Den],Bo true],[.arr 3 1 true (x1.map ic),.arr 3 1 true (x2.map ic),.arr 179 1 fr (x3.map (lc 2 Za.c)),.arr 149 2 true (x4.map Za.c),.arr 149 2 true (v19.map Za.c)])=some r))))))))/\
 ((∀⦃d cc cn x cl x1 x2 x3 x4 x5 x6 cd x7 co x8 x9 cu r⦄,Im (Zsc d cc cn x cl x1 x2 x3 x4 x5 x6 cd x7 co x8 x9 cu=some r) (if cu<x9 then(0<=cu/\(∃e1,x8[cu.toNat]?=some e1/\(if cu=co then(x3.length+1<=68719476736/\(∃e2,x4[cu.toNat]?=some e2/\(Zku d cc cn x cl x1 x2 false (x3++[x6]) (x4.set cu.toNat cd) x5 x6 cd x7 co x8 x9 (w (cu+1))=some r)))else(∃v3,∃(v4:Zz),∃(v5:Za),∃(v6:List Za),∃(v7:List Za),Zks cc x x7 x6 e1=some (.own 6,[.box [I v3],.box [.ptr 2 0],.box (v4.c.map .t),.box (v5.c.map .t),.box [.own 5],.arr 149 2 true (v6.map Za.c),.arr 149 2 true (v7.map Za.c)])/\(x3.length+1<=68719476736/\(∃e4,d.Limits[cu.toNat]?=some e4/\(0<=v3/\(∃e5,e1[v3.toNat]?=some e5/\(∃(v11:Za),Zez e5=some (.agg (v11.c.map .t),[])/\(∃(v13:Zz) (v14:Za),Ze0 v4 e4 v11 cd=some (.agg (v14.c.map .t),[.box (v13.c.map .t)])/\(∃e8,x4[cu.toNat]?=some e8/\(Zsc d v3 cn v13 cl x1 x2 (x3++[v7]) (x4.set cu.toNat v14) x5 v6 cd v5 co x8 x9 (w (cu+1))=some r))))))))))))else(∃v15,∃(v16:Zz),∃(v17:Za),∃(v18:List Za),∃(v19:List Za),Zks cc x x7 x6 d.Costs=some (.own 6,[.box [I v15],.box [.ptr 2 0],.box (v16.c.map .t),.box (v17.c.map .t),.box [.own 5],.arr 149 2 true (v18.map Za.c),.arr 149 2 true (v19.map Za.c)])/\(0<=v15/\(∃e10,d.Costs[v15.toNat]?=some e10/\(∃(v20:Zz) (v21:Za),Ze0 v16 d.Value e10 cd=some (.agg (v21.c.map .t),[.box (v20.c.map .t)])/\(if v20.bad=true then(some (.tup [.agg [.own 0,.own 1,.own 2,.own 3,.own 4,I 0,I 0],Bo false],[.arr 3 1 true (([]:List Int).map ic),.arr 3 1 true (([]:List Int).map ic),.arr 179 1 true (([]:List (List Za)).map (lc 2 Za.c)),.arr 149 2 true (([]:List Za).map Za.c),.arr 149 2 true (([]:List Za).map Za.c)])=some r)else(some (.tup [.agg [.own 0,.own 1,.own 2,.own 3,.own 4,I v21.Num,I v21.Den],Bo true],[.arr 3 1 true (x1.map ic),.arr 3 1 true (x2.map ic),.arr 179 1 true (x3.map (lc 2 Za.c)),.arr 149 2 true (x4.map Za.c),.arr 149 2 true (v19.map Za.c)])=some r))))))))/\
 (∀⦃a a1 a2 r⦄,Im (Zkt a a1 a2=some r) (0<=a1/\(∃e1,a.Cells[a1.toNat]?=some e1/\(0<=a2/\(∃e2,e1[a2.toNat]?=some e2/\(if e2.Num=0 then(some (.tup [.agg [.own 0,.own 1,.own 2,.own 3,.own 4,I 0,I 0],Bo false],[.arr 3 1 true (([]:List Int).map ic),.arr 3 1 true (([]:List Int).map ic),.arr 179 1 true (([]:List (List Za)).map (lc 2 Za.c)),.arr 149 2 true (([]:List Za).map Za.c),.arr 149 2 true (([]:List Za).map Za.c)])=some r)else(∃(v3:List Int),Zex a.Basic=some (.own 0,[.arr 3 1 true (v3.map ic)])/\(∃(v8:List Int),Zex a.Free=some (.own 0,[.arr 3 1 true (v8.map ic)])/\(∃(v10:List Za),Zi2 a.Limits=some (.own 0,[.arr 149 2 true (v10.map Za.c)])/\(∃(v11:List Za),Zi2 a.Costs=some (.own 0,[.arr 149 2 true (v11.map Za.c)])/\(∃e7,a.Free[a2.toNat]?=some e7/\(∃e8,a.Basic[a1.toNat]?=some e8/\(∃e9,v3[a1.toNat]?=some e9/\(∃e10,v8[a2.toNat]?=some e10/\(Znn a a2 (⟨0,0⟩:Za) (⟨false⟩:Zz) e2 a.Value (v3.set a1.toNat e7) (v8.set a2.toNat e8) v10 v11 ([]:List Za) a1 e1 (e1.length:Int) 0=some r)))))))))))))))))):=by
 and_intros
 all_goals intros
 all_goals unfold Im
 all_goals try simp only[Znl,Zks,Znm,Zr9,Znn,Zxx,Zku,Zsc,Zkt,Zhj,Zez,Ze0,Za.c_def,Zz.c_def,Zi2,Zi0,Zex,mpl,dfs]
 all_goals try simp only[itb]
 all_goals try simp only[itf,gS,kk]
 all_goals repeat' first|refine exI λ_=>?_|refine anJ λ_ _=>?_|refine anI λ_=>?_|refine orE2 ?_ ?_|exact False.elim
 all_goals (intro h;first|rw[Ze Zxv.eq_1]|refine runM Zb49 rfl ?_|rw[Ze Z6e.eq_1]|rw[Ze Zsa.eq_1]|refine run Zb5a rfl ?_)
 all_goals (refine Yf ?_ h;clear h;simp +decide[*,kk,tI,tII,Zbjp,Zxw,Zbjq,Zbjr,Z6f,Zbjs,Zsb,Zbjt])
abbrev Zbpr:=Zhv.1.1.1
abbrev Zcaz:=Zhv.1.1.2
abbrev Zbps:=Zhv.1.2.1
abbrev Zca0:=Zhv.1.2.2
abbrev Zbpt:=Zhv.2.1.1
abbrev Zca1:=Zhv.2.1.2
abbrev Zbpu:=Zhv.2.2.1
abbrev Zbpv:=Zhv.2.2.2.1
abbrev Zca2:=Zhv.2.2.2.2
end Go.Proofs.YtnnjbejcffjgfaaGreat
