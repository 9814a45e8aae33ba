/-
  Parts of the proofs for this seat: G13 G14 G15.
-/
import Derived.Test.YtnnjbejcffjgfaaGreatP11
import Derived.Test.YtnnjbejcffjgfaaGreatP12
set_option linter.unusedSectionVars false
set_option linter.unusedSimpArgs false
set_option linter.unusedVariables false
set_option maxRecDepth 100000
set_option maxHeartbeats 4000000
namespace Go.Proofs.YtnnjbejcffjgfaaGreat
open Go.AM
theorem Zdg:((((∀⦃t cc c cl cd i r⦄,Im (Zber t cc c cl cd i=some r) (if i<(t.Rows.length:Int)then(0<=i/\(∃e1,t.Rows[i.toNat]?=some e1/\(e1.length<=68719476736/\(Zv8 t cc c cl cd ([e1]) (w (i+1))=some r))))else(some (.agg [.t (.str cl),I cd,.t .nil],[])=some r)))/\
 (∀⦃t cc c cl cd x i r⦄,Im (Zv8 t cc c cl cd x i=some r) (if i<(t.Rows.length:Int)then(0<=i/\(∃e1,t.Rows[i.toNat]?=some e1/\(e1.length<=68719476736/\(x.length+1<=68719476736/\(Zv8 t cc c cl cd (x++[e1]) (w (i+1))=some r)))))else(some (.agg [.t (.str cl),I cd,.own 0],[.arr 56 1 true (x.map isc)])=some r))))/\
 ((∀⦃a r⦄,Im (Zv7 a=some r) (Zber a (⟨#[]⟩:ByteArray) 0 a.Name a.Arity 0=some r))/\
 (∀⦃d cc c co i r⦄,Im (Zv9 d cc c co i=some r) (if i<(d.Tables.length:Int)then(∃v,Zmy d=some (Bo v,[])/\(if v=true then(0<=i/\(∃e2,d.Tables[i.toNat]?=some e2/\(if e2.Name=co then((∃v6 v7,Zv7 e2=some (.agg [.t (.str v6),I v7,.t .nil],[])/\(some (.tup [.agg [.t (.str v6),I v7,.t .nil],Bo true],[])=some r))\/(∃(v8:List (List Int)),∃v9,∃v10,Zv7 e2=some (.agg [.t (.str v9),I v10,.own 0],[.arr 56 1 true (v8.map isc)])/\(some (.tup [.agg [.t (.str v9),I v10,.own 0],Bo true],[.arr 56 1 true (v8.map isc)])=some r)))else(Zv9 d cc c co (w (i+1))=some r))))else(some (.tup [.agg [.t (.str (⟨#[]⟩:ByteArray)),I 0,.t .nil],Bo false],[])=some r)))else(some (.tup [.agg [.t (.str (⟨#[]⟩:ByteArray)),I 0,.t .nil],Bo false],[])=some r)))))/\
 (((∀⦃a a1 r⦄,Im (Zch a a1=some r) (Zv9 a (⟨#[]⟩:ByteArray) 0 a1 0=some r))/\
 (∀⦃cc c i r⦄,Im (Zbev cc c i=some r) (if i<0 then False else(some (Bo true,[])=some r))))/\
 ((∀⦃cc c r⦄,Im (Zm2 cc c=some r) (∃v,Zis cc=some (Bo v,[])/\(if v=true then(∃v3,Z0 c 1 3=some (Bo v3,[])/\(if v3=true then(Zbev cc c 0=some r)else(some (Bo false,[])=some r)))else(some (Bo false,[])=some r))))/\
 ((∀⦃cc c cn i r⦄,Im (Zqf cc c cn i=some r) (if i<(cn.length:Int)then(0<=i/\(∃e1,cn[i.toNat]?=some e1/\(∃v3,Z0 e1 0 (w (c-1))=some (Bo v3,[])/\(if v3=true then(if 0<i then(0<=(w (i-1))/\(∃e3,cn[(w (i-1)).toNat]?=some e3/\(if e1<=e3 then(some (Bo false,[])=some r)else(Zqf cc c cn (w (i+1))=some r))))else(Zqf cc c cn (w (i+1))=some r))else(some (Bo false,[])=some r)))))else(∃v8,Zm2 cc c=some (Bo v8,[])/\(some (Bo v8,[])=some r))))/\
 (∀⦃cc c a r⦄,Im (Z2x cc c a=some r) (Zqf cc c a 0=some r))))))/\
 ((((∀⦃l x i r⦄,Im (Zwa l x i=some r) (if i<(l.length:Int)then(0<=i/\(∃e1,l[i.toNat]?=some e1/\(if e1=x then(some (Bo true,[])=some r)else(Zwa l x (w (i+1))=some r))))else(some (Bo false,[])=some r)))/\
 (∀⦃a a1 r⦄,Im (Zes a a1=some r) (Zwa a a1 0=some r)))/\
 ((∀⦃a a1 r⦄,Im (Zqg a a1=some r) ((∃v v1 v2,Zch a a1.Name=some (.tup [.agg [.t (.str v),I v1,.t .nil],Bo v2],[])/\(if v2=true then(∃v3,Z2x v v1 a1.From=some (Bo v3,[])/\(if v3=true then(∃v6,Z0 a1.To 0 (w (v1-1))=some (Bo v6,[])/\(if v6=true then(∃v8,Zes a1.From a1.To=some (Bo v8,[])/\(some (Bo (!v8),[])=some r))else(some (Bo false,[])=some r)))else(some (Bo false,[])=some r)))else(some (Bo false,[])=some r)))\/(∃(v11:List (List Int)),∃v12,∃v13,Zch a a1.Name=some (.tup [.agg [.t (.str v12),I v13,.own 0],Bo true],[.arr 56 1 true (v11.map isc)])/\(∃v14,Zp7 (⟨v12,v13,v11⟩:Ze) a1.From=some (Bo v14,[])/\(if v14=true then(∃v15,Z0 a1.To 0 (w (v13-1))=some (Bo v15,[])/\(if v15=true then(∃v16,Zes a1.From a1.To=some (Bo v16,[])/\(some (Bo (!v16),[])=some r))else(some (Bo false,[])=some r)))else(some (Bo false,[])=some r))))))/\
 (∀⦃d f cc c k r⦄,Im (Zbe1 d f cc c k=some r) (if k<0 then(∃v,Zqg d f=some (Bo v,[])/\(if v=true then False else(some (.own 0,[.arr 3 1 true (([]:List Int).map ic)])=some r)))else(some (.own 0,[.arr 3 1 true (([]:List Int).map ic)])=some r)))))/\
 (((∀⦃d f cc c x k r⦄,Im (Zqh d f cc c x k=some r) (if k<(x.length:Int)then(∃v,Zqg d f=some (Bo v,[])/\(if v=true then(0<=k/\(∃e2,x[k.toNat]?=some e2/\(∃(v6:List Int),∃v7,Zkq e2 f.From=some (.tup [.own 0,Bo v7],[.arr 3 1 true (v6.map ic)])/\(Ziv d f cc c x v6 k 0=some r))))else(some (.own 0,[.arr 3 1 true (([]:List Int).map ic)])=some r)))else(some (.own 0,[.arr 3 1 true (([]:List Int).map ic)])=some r)))/\
 (∀⦃d f cc c x y k i r⦄,Im (Ziv d f cc c x y k i=some r) (if i<k then(0<=i/\(∃e1,x[i.toNat]?=some e1/\(∃(v3:List Int),∃v4,Zkq e1 f.From=some (.tup [.own 0,Bo v4],[.arr 3 1 true (v3.map ic)])/\(∃v6,Zd2 v3 y=some (I v6,[])/\(if v6=0 then(0<=f.To/\(∃e4,e1[f.To.toNat]?=some e4/\(0<=k/\(∃e5,x[k.toNat]?=some e5/\(∃e6,e5[f.To.toNat]?=some e6/\(if e4=e6 then(Ziv d f cc c x y k (w (i+1))=some r)else(some (.own 0,[.arr 3 1 true (([i,k]).map ic)])=some r)))))))else(Ziv d f cc c x y k (w (i+1))=some r))))))else(Zqh d f cc c x (w (k+1))=some r))))/\
 ((∀⦃a a1 r⦄,Im (Z2y a a1=some r) ((∃v v1 v2,Zch a a1.Name=some (.tup [.agg [.t (.str v),I v1,.t .nil],Bo v2],[])/\(Zbe1 a a1 v v1 0=some r))\/(∃(v3:List (List Int)),∃v4,∃v5,Zch a a1.Name=some (.tup [.agg [.t (.str v4),I v5,.own 0],Bo true],[.arr 56 1 true (v3.map isc)])/\(Zqh a a1 v4 v5 v3 0=some r))))/\
 ((∀⦃a a1 r⦄,Im (Zwe a a1=some r) (∃v,Zqg a a1=some (Bo v,[])/\(if v=true then(∃(v3:List Int),Z2y a a1=some (.own 0,[.arr 3 1 true (v3.map ic)])/\(some (Bo (decide ((v3.length:Int)=0)),[])=some r))else(some (Bo false,[])=some r))))/\
 (∀⦃a a1 r⦄,Im (Zqi a a1=some r) ((∃v v1 v2,Zch a a1.Name=some (.tup [.agg [.t (.str v),I v1,.t .nil],Bo v2],[])/\((∃v3 v4 v5,Zch a a1.Into=some (.tup [.agg [.t (.str v3),I v4,.t .nil],Bo v5],[])/\(if v2=true then(if v5=true then(∃v6,Z0 a1.Column 0 (w (v1-1))=some (Bo v6,[])/\(if v6=true then(∃v8,Z0 a1.IntoColumn 0 (w (v4-1))=some (Bo v8,[])/\(some (Bo v8,[])=some r))else(some (Bo false,[])=some r)))else(some (Bo false,[])=some r))else(some (Bo false,[])=some r)))\/(∃(v11:List (List Int)),∃v12,∃v13,Zch a a1.Into=some (.tup [.agg [.t (.str v12),I v13,.own 0],Bo true],[.arr 56 1 true (v11.map isc)])/\(if v2=true then(∃v14,Z0 a1.Column 0 (w (v1-1))=some (Bo v14,[])/\(if v14=true then(∃v15,Z0 a1.IntoColumn 0 (w (v13-1))=some (Bo v15,[])/\(some (Bo v15,[])=some r))else(some (Bo false,[])=some r)))else(some (Bo false,[])=some r)))))\/(∃(v16:List (List Int)),∃v17,∃v18,Zch a a1.Name=some (.tup [.agg [.t (.str v17),I v18,.own 0],Bo true],[.arr 56 1 true (v16.map isc)])/\((∃v19 v20 v21,Zch a a1.Into=some (.tup [.agg [.t (.str v19),I v20,.t .nil],Bo v21],[])/\(if v21=true then(∃v22,Z0 a1.Column 0 (w (v18-1))=some (Bo v22,[])/\(if v22=true then(∃v23,Z0 a1.IntoColumn 0 (w (v20-1))=some (Bo v23,[])/\(some (Bo v23,[])=some r))else(some (Bo false,[])=some r)))else(some (Bo false,[])=some r)))\/(∃(v24:List (List Int)),∃v25,∃v26,Zch a a1.Into=some (.tup [.agg [.t (.str v25),I v26,.own 0],Bo true],[.arr 56 1 true (v24.map isc)])/\(∃v27,Z0 a1.Column 0 (w (v18-1))=some (Bo v27,[])/\(if v27=true then(∃v28,Z0 a1.IntoColumn 0 (w (v26-1))=some (Bo v28,[])/\(some (Bo v28,[])=some r))else(some (Bo false,[])=some r)))))))))))):=by
 and_intros
 all_goals intros
 all_goals unfold Im
 all_goals try simp only[Zber,Zv8,Zv7,Zv9,Zch,Zbev,Zm2,Zqf,Z2x,Zwa,Zes,Zqg,Zbe1,Zqh,Ziv,Z2y,Zwe,Zqi,Zmy,Zi.c_def,Ze.c_def,Zis,Z0,Zp7,Zk.c_def,Zkq,Zd2,mpl,dfs]
 all_goals try simp only[itb]
 all_goals try simp only[itf,gS,kk]
 all_goals repeat' first|refine exI λ_=>?_|refine anJ λ_ _=>?_|refine anI λ_=>?_|refine orE2 ?_ ?_|exact False.elim
 all_goals (intro h;first|rw[Zd Z2v.eq_1]|refine run Zci6 rfl ?_|rw[Zd Zbet.eq_1]|refine run Zci7 rfl ?_|rw[Zd Zvu.eq_1]|refine run Zbyu rfl ?_|rw[Zd Zvx.eq_1]|refine run Zbyv rfl ?_|rw[Zd Zbex.eq_1]|refine run Zci8 rfl ?_|refine run Zci9 rfl ?_|rw[Zd Zwc.eq_1]|rw[Zd Zbez.eq_1]|refine run Zcja rfl ?_|refine run Zcjb rfl ?_|refine run Zcjc rfl ?_)
 all_goals (refine Yf ?_ h;clear h;simp +decide[*,kk,tI,tII,Z2w,Zbum,Zbeu,Zbun,Zvv,Zbdy,Zvy,Zbd8,Zbey,Zbuo,Zbup,Zwd,Zbe0,Zbuq,Zbur,Zbus])
abbrev Zcpv:=Zdg.1.1.1.1
abbrev Zb1f:=Zdg.1.1.1.2
abbrev Zcpw:=Zdg.1.1.2.1
abbrev Zb1g:=Zdg.1.1.2.2
abbrev Zcpx:=Zdg.1.2.1.1
abbrev Zb1h:=Zdg.1.2.1.2
abbrev Zb1i:=Zdg.1.2.2.1
abbrev Zb1j:=Zdg.1.2.2.2.1
abbrev Zcpy:=Zdg.1.2.2.2.2
abbrev Zb1k:=Zdg.2.1.1.1
abbrev Zcpz:=Zdg.2.1.1.2
abbrev Zcp0:=Zdg.2.1.2.1
abbrev Zcp1:=Zdg.2.1.2.2
abbrev Zb1l:=Zdg.2.2.1.1
abbrev Zb1m:=Zdg.2.2.1.2
abbrev Zb1n:=Zdg.2.2.2.1
abbrev Zcp2:=Zdg.2.2.2.2.1
abbrev Zcp3:=Zdg.2.2.2.2.2
theorem Zdh:((((∀⦃x cn cl cc cd c v r⦄,Im (Zgf x cn cl cc cd c v=some r) (if v<=9 then(Zwf x cn cl cc cd c v false false 0=some r)else(some (.own 0,[.arr 3 1 true (cn.map ic)])=some r)))/\
 (∀⦃x cn cl cc cd c x1 v r⦄,Im (Zgg x cn cl cc cd c x1 v=some r) (if v<=9 then(Zwg x cn cl cc cd c x1 v false false 0=some r)else(some (.own 0,[.arr 3 1 true (cn.map ic)])=some r))))/\
 ((∀⦃x cn cl cc x1 cd c v r⦄,Im (Zgh x cn cl cc x1 cd c v=some r) (if v<=9 then(Zqn x cn cl cc x1 cd c v false false 0=some r)else(some (.own 0,[.arr 3 1 true (cn.map ic)])=some r)))/\
 (∀⦃x cn cl cc x1 cd c x2 v r⦄,Im (Zgi x cn cl cc x1 cd c x2 v=some r) (if v<=9 then(Zqo x cn cl cc x1 cd c x2 v false false 0=some r)else(some (.own 0,[.arr 3 1 true (cn.map ic)])=some r)))))/\
 (((∀⦃x cn cl cc cd c v co cp i r⦄,Im (Zwf x cn cl cc cd c v co cp i=some r) (if i<0 then(if co=true then(Zwf x cn cl cc cd c v true cp (w (i+1))=some r)else False)else(Zqp x cn cl cc cd c v co cp 0=some r)))/\
 (∀⦃x cn cl cc cd c x1 v co cp i r⦄,Im (Zwg x cn cl cc cd c x1 v co cp i=some r) (if i<0 then(if co=true then(Zwg x cn cl cc cd c x1 v true cp (w (i+1))=some r)else False)else(Zm3 x cn cl cc cd c x1 v co cp 0=some r))))/\
 ((∀⦃x cn cl cc x1 cd c v co cp i r⦄,Im (Zqn x cn cl cc x1 cd c v co cp i=some r) (if i<(x1.length:Int)then(if co=true then(Zqn x cn cl cc x1 cd c v true cp (w (i+1))=some r)else(0<=i/\(∃e1,x1[i.toNat]?=some e1/\(0<=x.Column/\(∃e2,e1[x.Column.toNat]?=some e2/\(Zqn x cn cl cc x1 cd c v (decide (e2=v)) cp (w (i+1))=some r))))))else(Zqq x cn cl cc x1 cd c v co cp 0=some r)))/\
 ((∀⦃x cn cl cc x1 cd c x2 v co cp i r⦄,Im (Zqo x cn cl cc x1 cd c x2 v co cp i=some r) (if i<(x1.length:Int)then(if co=true then(Zqo x cn cl cc x1 cd c x2 v true cp (w (i+1))=some r)else(0<=i/\(∃e1,x1[i.toNat]?=some e1/\(0<=x.Column/\(∃e2,e1[x.Column.toNat]?=some e2/\(Zqo x cn cl cc x1 cd c x2 v (decide (e2=v)) cp (w (i+1))=some r))))))else(Zm4 x cn cl cc x1 cd c x2 v co cp 0=some r)))/\
 (∀⦃x cn cl cc cd c v co cp i r⦄,Im (Zqp x cn cl cc cd c v co cp i=some r) (if i<0 then(if cp=true then(Zqp x cn cl cc cd c v co true (w (i+1))=some r)else False)else(if co=true then(if cp=true then(Zgf x cn cl cc cd c (w (v+1))=some r)else(cn.length+1<=68719476736/\(Zgf x (cn++[v]) cl cc cd c (w (v+1))=some r)))else(Zgf x cn cl cc cd c (w (v+1))=some r))))))))/\
 ((((∀⦃x cn cl cc cd c x1 v co cp i r⦄,Im (Zm3 x cn cl cc cd c x1 v co cp i=some r) (if i<(x1.length:Int)then(if cp=true then(Zm3 x cn cl cc cd c x1 v co true (w (i+1))=some r)else(0<=i/\(∃e1,x1[i.toNat]?=some e1/\(0<=x.IntoColumn/\(∃e2,e1[x.IntoColumn.toNat]?=some e2/\(Zm3 x cn cl cc cd c x1 v co (decide (e2=v)) (w (i+1))=some r))))))else(if co=true then(if cp=true then(Zgg x cn cl cc cd c x1 (w (v+1))=some r)else(cn.length+1<=68719476736/\(Zgg x (cn++[v]) cl cc cd c x1 (w (v+1))=some r)))else(Zgg x cn cl cc cd c x1 (w (v+1))=some r))))/\
 (∀⦃x cn cl cc x1 cd c v co cp i r⦄,Im (Zqq x cn cl cc x1 cd c v co cp i=some r) (if i<0 then(if cp=true then(Zqq x cn cl cc x1 cd c v co true (w (i+1))=some r)else False)else(if co=true then(if cp=true then(Zgh x cn cl cc x1 cd c (w (v+1))=some r)else(cn.length+1<=68719476736/\(Zgh x (cn++[v]) cl cc x1 cd c (w (v+1))=some r)))else(Zgh x cn cl cc x1 cd c (w (v+1))=some r)))))/\
 ((∀⦃x cn cl cc x1 cd c x2 v co cp i r⦄,Im (Zm4 x cn cl cc x1 cd c x2 v co cp i=some r) (if i<(x2.length:Int)then(if cp=true then(Zm4 x cn cl cc x1 cd c x2 v co true (w (i+1))=some r)else(0<=i/\(∃e1,x2[i.toNat]?=some e1/\(0<=x.IntoColumn/\(∃e2,e1[x.IntoColumn.toNat]?=some e2/\(Zm4 x cn cl cc x1 cd c x2 v co (decide (e2=v)) (w (i+1))=some r))))))else(if co=true then(if cp=true then(Zgi x cn cl cc x1 cd c x2 (w (v+1))=some r)else(cn.length+1<=68719476736/\(Zgi x (cn++[v]) cl cc x1 cd c x2 (w (v+1))=some r)))else(Zgi x cn cl cc x1 cd c x2 (w (v+1))=some r))))/\
 (∀⦃a a1 r⦄,Im (Zbe2 a a1=some r) (∃v1,Zqi a a1=some (Bo v1,[])/\(if v1=true then((∃v2 v3 v4,Zch a a1.Name=some (.tup [.agg [.t (.str v2),I v3,.t .nil],Bo v4],[])/\((∃v5 v6 v7,Zch a a1.Into=some (.tup [.agg [.t (.str v5),I v6,.t .nil],Bo v7],[])/\(Zgf a1 ([]:List Int) v2 v3 v5 v6 0=some r))\/(∃(v8:List (List Int)),∃v9,∃v10,Zch a a1.Into=some (.tup [.agg [.t (.str v9),I v10,.own 0],Bo true],[.arr 56 1 true (v8.map isc)])/\(Zgg a1 ([]:List Int) v2 v3 v9 v10 v8 0=some r))))\/(∃(v11:List (List Int)),∃v12,∃v13,Zch a a1.Name=some (.tup [.agg [.t (.str v12),I v13,.own 0],Bo true],[.arr 56 1 true (v11.map isc)])/\((∃v14 v15 v16,Zch a a1.Into=some (.tup [.agg [.t (.str v14),I v15,.t .nil],Bo v16],[])/\(Zgh a1 ([]:List Int) v12 v13 v11 v14 v15 0=some r))\/(∃(v17:List (List Int)),∃v18,∃v19,Zch a a1.Into=some (.tup [.agg [.t (.str v18),I v19,.own 0],Bo true],[.arr 56 1 true (v17.map isc)])/\(Zgi a1 ([]:List Int) v12 v13 v11 v18 v19 v17 0=some r)))))else(some (.own 0,[.arr 3 1 true (([]:List Int).map ic)])=some r))))))/\
 (((∀⦃a a1 r⦄,Im (Z2z a a1=some r) (∃v1,Zqi a a1=some (Bo v1,[])/\(if v1=true then(∃(v2:List Int),Zbe2 a a1=some (.own 0,[.arr 3 1 true (v2.map ic)])/\(some (Bo (decide ((v2.length:Int)=0)),[])=some r))else(some (Bo false,[])=some r))))/\
 (∀⦃d cv cu i r⦄,Im (Zwi d cv cu i=some r) (if i<(cv.length:Int)then(0<=i/\(∃e1,cv[i.toNat]?=some e1/\(∃v2,Zwe d e1=some (Bo v2,[])/\(if v2=true then(Zwi d cv cu (w (i+1))=some r)else(some (Bo false,[])=some r)))))else(Zwj d cu 0=some r))))/\
 ((∀⦃d cu i r⦄,Im (Zwj d cu i=some r) (if i<(cu.length:Int)then(0<=i/\(∃e1,cu[i.toNat]?=some e1/\(∃v2,Z2z d e1=some (Bo v2,[])/\(if v2=true then(Zwj d cu (w (i+1))=some r)else(some (Bo false,[])=some r)))))else(some (Bo true,[])=some r)))/\
 ((∀⦃a a1 a2 r⦄,Im (Zqr a a1 a2=some r) (if 8<(a1.length:Int)then(some (Bo false,[])=some r)else(if 8<(a2.length:Int)then(some (Bo false,[])=some r)else(Zwi a a1 a2 0=some r))))/\
 (∀⦃a b i r⦄,Im (Zm5 a b i=some r) (if i<(a.Groups.length:Int)then(0<=i/\(∃e1,a.Groups[i.toNat]?=some e1/\(∃e2,b.Groups[i.toNat]?=some e2/\(∃v5,Zd2 e1.Columns e2.Columns=some (I v5,[])/\(if v5=0 then(∃v8,Zd2 e1.Counts e2.Counts=some (I v8,[])/\(if v8=0 then(if(e1.Values.length:Int)=(e2.Values.length:Int)then(Zqt a b e1 e2 i 0=some r)else(some (Bo false,[])=some r))else(some (Bo false,[])=some r)))else(some (Bo false,[])=some r))))))else(some (Bo true,[])=some r))))))):=by
 and_intros
 all_goals intros
 all_goals unfold Im
 all_goals try simp only[Zgf,Zgg,Zgh,Zgi,Zwf,Zwg,Zqn,Zqo,Zqp,Zm3,Zqq,Zm4,Zbe2,Z2z,Zwi,Zwj,Zqr,Zm5,Zqi,Zch,Zi.c_def,Zj.c_def,Zwe,Zk.c_def,Zd2,Zqt,mpl,dfs]
 all_goals try simp only[itb]
 all_goals try simp only[itf,gS,kk]
 all_goals repeat' first|refine exI λ_=>?_|refine anJ λ_ _=>?_|refine anI λ_=>?_|refine orE2 ?_ ?_|exact False.elim
 all_goals (intro h;first|rw[Zd Ze6.eq_1]|rw[Zd Zqj.eq_1]|rw[Zd Zqk.eq_1]|refine run Zcjd rfl ?_|refine run Zcje rfl ?_|rw[Zd Zbe3.eq_1]|rw[Zd Zbe4.eq_1]|refine run Zcjf rfl ?_|rw[Zd Z20.eq_1])
 all_goals (refine Yf ?_ h;clear h;simp +decide[*,kk,tI,tII,Ze7,Zqm,Zhu,Zql,Zbut,Zbuu,Zbe6,Zbe5,Zbuv,Z21])
abbrev Zb1o:=Zdh.1.1.1.1
abbrev Zb1p:=Zdh.1.1.1.2
abbrev Zb1q:=Zdh.1.1.2.1
abbrev Zb1r:=Zdh.1.1.2.2
abbrev Zcp4:=Zdh.1.2.1.1
abbrev Zcp5:=Zdh.1.2.1.2
abbrev Zb1s:=Zdh.1.2.2.1
abbrev Zb1t:=Zdh.1.2.2.2.1
abbrev Zcp6:=Zdh.1.2.2.2.2
abbrev Zb1u:=Zdh.2.1.1.1
abbrev Zcp7:=Zdh.2.1.1.2
abbrev Zb1v:=Zdh.2.1.2.1
abbrev Zcp8:=Zdh.2.1.2.2
abbrev Zcp9:=Zdh.2.2.1.1
abbrev Zb1w:=Zdh.2.2.1.2
abbrev Zb1x:=Zdh.2.2.2.1
abbrev Zcqa:=Zdh.2.2.2.2.1
abbrev Zb1y:=Zdh.2.2.2.2.2
theorem Zym:((∀⦃a b x y i k r⦄,Im (Zqt a b x y i k=some r) (if k<(x.Values.length:Int)then(0<=k/\(∃e1,x.Values[k.toNat]?=some e1/\(∃e2,y.Values[k.toNat]?=some e2/\(∃v3,Zd2 e1 e2=some (I v3,[])/\(if v3=0 then(Zqt a b x y i (w (k+1))=some r)else(some (Bo false,[])=some r))))))else(Zm5 a b (w (i+1))=some r)))/\
 (∀⦃a a1 r⦄,Im (Zqs a a1=some r) (if a.Name=a1.Name then(if a.Arity=a1.Arity then(if a.RowCount=a1.RowCount then(if(a.Groups.length:Int)=(a1.Groups.length:Int)then(Zm5 a a1 0=some r)else(some (Bo false,[])=some r))else(some (Bo false,[])=some r))else(some (Bo false,[])=some r))else(some (Bo false,[])=some r))))/\
 ((∀⦃a b i r⦄,Im (Zwl a b i=some r) (if i<(a.Tables.length:Int)then(0<=i/\(∃e1,a.Tables[i.toNat]?=some e1/\(∃e2,b.Tables[i.toNat]?=some e2/\(∃v3,Zqs e1 e2=some (Bo v3,[])/\(if v3=true then(Zwl a b (w (i+1))=some r)else(some (Bo false,[])=some r))))))else(some (Bo true,[])=some r)))/\
 ((∀⦃a a1 r⦄,Im (Z22 a a1=some r) (if a.Version=a1.Version then(if(a.Tables.length:Int)=(a1.Tables.length:Int)then(Zwl a a1 0=some r)else(some (Bo false,[])=some r))else(some (Bo false,[])=some r)))/\
 (∀⦃a r⦄,Im (Zwm a=some r) ((∃v v1,Zqe a.Zi a.Zl.Version=some (.tup [.agg [I v,.t .nil],Bo v1],[])/\(if v1=true then(∃v2,Zv6 v a.Zl=some (Bo v2,[])/\(if v2=true then(∃v3,Zqr a.Zi a.Dependencies a.Inclusions=some (Bo v3,[])/\(some (Bo v3,[])=some r))else(some (Bo false,[])=some r)))else(some (Bo false,[])=some r)))\/(∃v4,∃(v5:List Zg),∃v6,Zqe a.Zi a.Zl.Version=some (.tup [.agg [I v6,.own 0],Bo true],[.arr 141 4 v4 (v5.map Zg.c)])/\(∃v7,Z22 (⟨v6,v5⟩:Zl) a.Zl=some (Bo v7,[])/\(if v7=true then(∃v8,Zqr a.Zi a.Dependencies a.Inclusions=some (Bo v8,[])/\(some (Bo v8,[])=some r))else(some (Bo false,[])=some r)))))))):=by
 and_intros
 all_goals intros
 all_goals unfold Im
 all_goals try simp only[Zqt,Zqs,Zwl,Z22,Zwm,Zd2,Zg.c_def,Zqe,Zv6,Zqr,Zl.c_def,Zi.c_def,Zk.c_def,Zj.c_def,Zm5,mpl,dfs]
 all_goals try simp only[itb]
 all_goals try simp only[itf,gS,kk]
 all_goals repeat' first|refine exI λ_=>?_|refine anJ λ_ _=>?_|refine anI λ_=>?_|refine orE2 ?_ ?_|exact False.elim
 all_goals (intro h;first|rw[Zd Zbe7.eq_1]|refine run Zcjg rfl ?_|rw[Zd Zv4.eq_1]|refine run Zbyx rfl ?_|refine run Zcjh rfl ?_)
 all_goals (refine Yf ?_ h;clear h;simp +decide[*,kk,tI,tII,Zbe8,Zbuw,Zv5,Zbeo,Zbux])
abbrev Zb1z:=Zym.1.1
abbrev Zcqb:=Zym.1.2
abbrev Zb10:=Zym.2.1
abbrev Zcqc:=Zym.2.2.1
abbrev Zcqd:=Zym.2.2.2
theorem Zdi:((((∀⦃q cv i r⦄,Im (Zqu q cv i=some r) (if i<(q.Atoms.length:Int)then(0<=i/\(∃e1,q.Atoms[i.toNat]?=some e1/\(∃v4,Zis e1.Name=some (Bo v4,[])/\(if v4=true then(∃v8,Z0 (e1.Vars.length:Int) 1 3=some (Bo v8,[])/\(if v8=true then(Zwo q e1 cv i 0=some r)else(some (Bo false,[])=some r)))else(some (Bo false,[])=some r)))))else(¬q.Zp<0/\(some (Bo (decide (cv=(w ((shlI 1 q.Zp)-1)))),[])=some r))))/\
 (∀⦃q a cv i k r⦄,Im (Zwo q a cv i k=some r) (if k<(a.Vars.length:Int)then(0<=k/\(∃e1,a.Vars[k.toNat]?=some e1/\(∃v4,Z0 e1 0 (w (q.Zp-1))=some (Bo v4,[])/\(if v4=true then(k.toNat<=a.Vars.length/\(∃v8,Zes (a.Vars.take k.toNat) e1=some (Bo v8,[])/\(if v8=true then(some (Bo false,[])=some r)else(¬e1<0/\(Zwo q a (orI cv (shlI 1 e1)) i (w (k+1))=some r)))))else(some (Bo false,[])=some r)))))else(Zqu q cv (w (i+1))=some r))))/\
 ((∀⦃a r⦄,Im (Zm6 a=some r) (∃v,Z0 a.Zp 1 4=some (Bo v,[])/\(if v=true then(∃v4,Z0 (a.Atoms.length:Int) 1 4=some (Bo v4,[])/\(if v4=true then(Zqu a 0 0=some r)else(some (Bo false,[])=some r)))else(some (Bo false,[])=some r))))/\
 (∀⦃d q i r⦄,Im (Zqv d q i=some r) (if i<(q.Atoms.length:Int)then(0<=i/\(∃e1,q.Atoms[i.toNat]?=some e1/\((∃v4 v5 v6,Zch d e1.Name=some (.tup [.agg [.t (.str v4),I v5,.t .nil],Bo v6],[])/\(if v6=true then(if v5=(e1.Vars.length:Int)then(Zqv d q (w (i+1))=some r)else(some (Bo false,[])=some r))else(some (Bo false,[])=some r)))\/(∃(v8:List (List Int)),∃v9,∃v10,Zch d e1.Name=some (.tup [.agg [.t (.str v9),I v10,.own 0],Bo true],[.arr 56 1 true (v8.map isc)])/\(if v10=(e1.Vars.length:Int)then(Zqv d q (w (i+1))=some r)else(some (Bo false,[])=some r))))))else(some (Bo true,[])=some r)))))/\
 (((∀⦃a a1 r⦄,Im (Z25 a a1=some r) (∃v,Zm6 a1=some (Bo v,[])/\(if v=true then(Zqv a a1 0=some r)else(some (Bo false,[])=some r))))/\
 (∀⦃a r⦄,Im (Zfr a=some r) (∃v,Zm6 a=some (Bo v,[])/\(if v=true then(¬(a.Atoms.length:Int)<0/\(some (I (w ((shlI 1 (a.Atoms.length:Int))-1)),[])=some r))else(some (I 0,[])=some r)))))/\
 ((∀⦃a a1 a2 r⦄,Im (Zcv a a1 a2=some r) (∃v,Zwm a=some (Bo v,[])/\(if v=true then(∃v4,Z25 a.Zi a1=some (Bo v4,[])/\(if v4=true then(∃v8,Zfr a1=some (I v8,[])/\(∃v11,Z0 a2 1 v8=some (Bo v11,[])/\(some (Bo v11,[])=some r)))else(some (Bo false,[])=some r)))else(some (Bo false,[])=some r))))/\
 ((∀⦃cy cz dc i r⦄,Im (Zbfe cy cz dc i=some r) (if i<0 then False else(if dc=true then(some (.own 0,[.arr 56 1 true (cy.map isc)])=some r)else(cz.length<=68719476736/\(cy.length+1<=68719476736/\(some (.own 0,[.arr 56 1 true ((cy++[cz]).map isc)])=some r))))))/\
 (∀⦃a r⦄,Im (Z26 a=some r) (Zbfe ([]:List (List Int)) a false 0=some r))))))/\
 ((((∀⦃cp co cl cc cu i r⦄,Im (Zbfg cp co cl cc cu i=some r) (if i<(cu.length:Int)then(0<=i/\(∃e1,cu[i.toNat]?=some e1/\(∃(v4:List (List Int)),Z26 e1=some (.own 0,[.arr 56 1 true (v4.map isc)])/\(Zwp cp co cl cc v4 cu (w (i+1))=some r))))else(∃v8,Zm2 cl cc=some (Bo v8,[])/\(if v8=true then(some (.tup [.agg [.t (.str cl),I cc,.own 0],Bo true],[.arr 56 1 true (([]:List (List Int)).map isc)])=some r)else(some (.tup [.agg [.t (.str (⟨#[]⟩:ByteArray)),I 0,.own 0],Bo false],[.arr 56 1 true (([]:List (List Int)).map isc)])=some r)))))/\
 (∀⦃cp co cl cc x cu i r⦄,Im (Zwp cp co cl cc x cu i=some r) (if i<(cu.length:Int)then(if(x.length:Int)<=8 then(0<=i/\(∃e1,cu[i.toNat]?=some e1/\(∃(v4:List (List Int)),Zqa x e1=some (.own 0,[.arr 56 1 true (v4.map isc)])/\(Zwp cp co cl cc v4 cu (w (i+1))=some r))))else(∃v8,Zhs (⟨cl,cc,x⟩:Ze)=some (Bo v8,[])/\(if v8=true then(some (.tup [.agg [.t (.str cl),I cc,.own 0],Bo true],[.arr 56 1 true (x.map isc)])=some r)else(some (.tup [.agg [.t (.str (⟨#[]⟩:ByteArray)),I 0,.own 0],Bo false],[.arr 56 1 true (([]:List (List Int)).map isc)])=some r))))else(∃v11,Zhs (⟨cl,cc,x⟩:Ze)=some (Bo v11,[])/\(if v11=true then(some (.tup [.agg [.t (.str cl),I cc,.own 0],Bo true],[.arr 56 1 true (x.map isc)])=some r)else(some (.tup [.agg [.t (.str (⟨#[]⟩:ByteArray)),I 0,.own 0],Bo false],[.arr 56 1 true (([]:List (List Int)).map isc)])=some r))))))/\
 ((∀⦃a a1 a2 r⦄,Im (Z29 a a1 a2=some r) (Zbfg (⟨#[]⟩:ByteArray) 0 a a1 a2 0=some r))/\
 (∀⦃a r⦄,Im (Z3a a=some r) (if(a.Groups.length:Int)=0 then(some (.tup [.agg [.t (.str (⟨#[]⟩:ByteArray)),I 0,.own 0],Bo false],[.arr 56 1 true (([]:List (List Int)).map isc)])=some r)else(0<=(w ((a.Groups.length:Int)-1))/\(∃e1,a.Groups[(w ((a.Groups.length:Int)-1)).toNat]?=some e1/\(∃(v4:List (List Int)),∃v5,∃v6,∃v7,Z29 a.Name a.Arity e1.Values=some (.tup [.agg [.t (.str v5),I v6,.own 0],Bo v7],[.arr 56 1 true (v4.map isc)])/\(some (.tup [.agg [.t (.str v5),I v6,.own 0],Bo v7],[.arr 56 1 true (v4.map isc)])=some r))))))))/\
 (((∀⦃a r⦄,Im (Ziw a=some r) (∃(v:List (List Int)),∃v1,∃v2,∃v3,Z3a a=some (.tup [.agg [.t (.str v1),I v2,.own 0],Bo v3],[.arr 56 1 true (v.map isc)])/\(if v3=true then((∃v4 v5 v6,Zht (⟨v1,v2,v⟩:Ze)=some (.agg [.t (.str v4),I v5,I v6,.t .nil],[])/\(∃v8,Zbu4 v4 v5 v6 a=some (Bo v8,[])/\(some (Bo v8,[])=some r)))\/(∃v11,∃(v12:List Zh),∃v13,∃v14,∃v15,Zht (⟨v1,v2,v⟩:Ze)=some (.agg [.t (.str v13),I v14,I v15,.own 0],[.arr 200 3 v11 (v12.map Zh.c)])/\(∃v16,Zqs (⟨v13,v14,v15,v12⟩:Zg) a=some (Bo v16,[])/\(some (Bo v16,[])=some r))))else(some (Bo false,[])=some r))))/\
 (∀⦃s cp co cn cl cc cd i r⦄,Im (Z3c s cp co cn cl cc cd i=some r) (if i<(s.Groups.length:Int)then(0<=i/\(∃e1,s.Groups[i.toNat]?=some e1/\(e1.Columns.length<=68719476736/\(e1.Counts.length<=68719476736/\(Zbfh s cp co cn cl cc cd e1.Columns e1.Counts i 0=some r)))))else(some (.agg [.t (.str cl),I cc,I cd,.own 0],[.arr 200 3 true (([]:List Zh).map Zh.c)])=some r))))/\
 ((∀⦃s cp co cn cl cc cd x x1 i k r⦄,Im (Zbfh s cp co cn cl cc cd x x1 i k=some r) (0<=i/\(∃e1,s.Groups[i.toNat]?=some e1/\(if k<(e1.Values.length:Int)then(0<=k/\(∃e2,e1.Values[k.toNat]?=some e2/\(e2.length<=68719476736/\(Zwq s cp co cn cl cc cd x ([e2]) x1 i (w (k+1))=some r))))else(Zhv s cp co cn cl cc cd ([(⟨x,[],x1⟩:Zh)]) (w (i+1))=some r)))))/\
 ((∀⦃s cp co cn cl cc cd x x1 x2 i k r⦄,Im (Zwq s cp co cn cl cc cd x x1 x2 i k=some r) (0<=i/\(∃e1,s.Groups[i.toNat]?=some e1/\(if k<(e1.Values.length:Int)then(0<=k/\(∃e2,e1.Values[k.toNat]?=some e2/\(e2.length<=68719476736/\(x1.length+1<=68719476736/\(Zwq s cp co cn cl cc cd x (x1++[e2]) x2 i (w (k+1))=some r)))))else(Zhv s cp co cn cl cc cd ([(⟨x,x1,x2⟩:Zh)]) (w (i+1))=some r)))))/\
 (∀⦃s cp co cn cl cc cd x i r⦄,Im (Zhv s cp co cn cl cc cd x i=some r) (if i<(s.Groups.length:Int)then(0<=i/\(∃e1,s.Groups[i.toNat]?=some e1/\(e1.Columns.length<=68719476736/\(e1.Counts.length<=68719476736/\(Z3d s cp co cn cl cc cd x e1.Columns e1.Counts i 0=some r)))))else(some (.agg [.t (.str cl),I cc,I cd,.own 0],[.arr 200 3 true (x.map Zh.c)])=some r))))))):=by
 and_intros
 all_goals intros
 all_goals unfold Im
 all_goals try simp only[Zqu,Zwo,Zm6,Zqv,Z25,Zfr,Zcv,Zbfe,Z26,Zbfg,Zwp,Z29,Z3a,Ziw,Z3c,Zbfh,Zwq,Zhv,Zis,Z0,Zes,Zch,Zi.c_def,Zb.c_def,Zwm,Zl.c_def,Zf.c_def,Zm2,Zqa,Zhs,Ze.c_def,Zht,Zbu4,Zqs,Zg.c_def,Z3d,mpl,dfs]
 all_goals try simp only[itb]
 all_goals try simp only[itf,gS,kk]
 all_goals repeat' first|refine exI λ_=>?_|refine anJ λ_ _=>?_|refine anI λ_=>?_|refine orE2 ?_ ?_|exact False.elim
 all_goals (intro h;first|rw[Zd Z23.eq_1]|rw[Zd Zbe9.eq_1]|refine run Zcji rfl ?_|rw[Zd Zbfc.eq_1]|refine run Zcjj rfl ?_|refine run Zcjk rfl ?_|refine run Zcjl rfl ?_|rw[Zd Zv0.eq_1]|refine run Zbyw rfl ?_|rw[Zd Z27.eq_1]|refine run Zcjm rfl ?_|refine run Zcjn rfl ?_|refine run Zcjo rfl ?_|rw[Zd Zks.eq_1]|rw[Zd Zm7.eq_1])
 all_goals (refine Yf ?_ h;clear h;simp +decide[*,kk,tI,tII,Z24,Zbfa,Zbuy,Zbfd,Zbuz,Zbu0,Zbu1,Zbec,Zv1,Zbed,Z28,Zbu2,Zbu3,Zbu5,Zkt,Zm9,Zm8])
abbrev Zb11:=Zdi.1.1.1.1
abbrev Zb12:=Zdi.1.1.1.2
abbrev Zcqe:=Zdi.1.1.2.1
abbrev Zb13:=Zdi.1.1.2.2
abbrev Zcqf:=Zdi.1.2.1.1
abbrev Zcqg:=Zdi.1.2.1.2
abbrev Zcqh:=Zdi.1.2.2.1
abbrev Zcqi:=Zdi.1.2.2.2.1
abbrev Zcqj:=Zdi.1.2.2.2.2
abbrev Zcqk:=Zdi.2.1.1.1
abbrev Zb14:=Zdi.2.1.1.2
abbrev Zcql:=Zdi.2.1.2.1
abbrev Zcqm:=Zdi.2.1.2.2
abbrev Zcqn:=Zdi.2.2.1.1
abbrev Zcqo:=Zdi.2.2.1.2
abbrev Zcqp:=Zdi.2.2.2.1
abbrev Zb15:=Zdi.2.2.2.2.1
abbrev Zb16:=Zdi.2.2.2.2.2
theorem Zyn:((∀⦃s co cl cc cp cn cd x x1 x2 i k r⦄,Im (Z3d s co cl cc cp cn cd x x1 x2 i k=some r) (0<=i/\(∃e1,s.Groups[i.toNat]?=some e1/\(if k<(e1.Values.length:Int)then(0<=k/\(∃e2,e1.Values[k.toNat]?=some e2/\(e2.length<=68719476736/\(Zwr s co cl cc cp cn cd x x1 ([e2]) x2 i (w (k+1))=some r))))else(x.length+1<=68719476736/\(Zhv s co cl cc cp cn cd (x++[(⟨x1,[],x2⟩:Zh)]) (w (i+1))=some r))))))/\
 (∀⦃s co cl cc cp cn cd x x1 x2 x3 i k r⦄,Im (Zwr s co cl cc cp cn cd x x1 x2 x3 i k=some r) (0<=i/\(∃e1,s.Groups[i.toNat]?=some e1/\(if k<(e1.Values.length:Int)then(0<=k/\(∃e2,e1.Values[k.toNat]?=some e2/\(e2.length<=68719476736/\(x2.length+1<=68719476736/\(Zwr s co cl cc cp cn cd x x1 (x2++[e2]) x3 i (w (k+1))=some r)))))else(x.length+1<=68719476736/\(Zhv s co cl cc cp cn cd (x++[(⟨x1,x2,x3⟩:Zh)]) (w (i+1))=some r)))))))/\
 ((∀⦃a r⦄,Im (Z3b a=some r) (Z3c a (⟨#[]⟩:ByteArray) 0 0 a.Name a.Arity a.RowCount 0=some r))/\
 ((∀⦃c co cl cc cu i r⦄,Im (Zqx c co cl cc cu i=some r) (if i<(c.Tables.length:Int)then(0<=i/\(∃e1,c.Tables[i.toNat]?=some e1/\(if e1.Name=cu then(∃v,Ziw e1=some (Bo v,[])/\(if v=true then(∃(v1:List Zh),∃v2,∃v3,∃v4,Z3b e1=some (.agg [.t (.str v2),I v3,I v4,.own 0],[.arr 200 3 true (v1.map Zh.c)])/\(some (.tup [.agg [.t (.str v2),I v3,I v4,.own 0],Bo true],[.arr 200 3 true (v1.map Zh.c)])=some r))else(Zqx c co cl cc cu (w (i+1))=some r)))else(Zqx c co cl cc cu (w (i+1))=some r))))else(some (.tup [.agg [.t (.str (⟨#[]⟩:ByteArray)),I 0,I 0,.own 0],Bo false],[.arr 200 3 true (([]:List Zh).map Zh.c)])=some r)))/\
 (∀⦃a a1 r⦄,Im (Zws a a1=some r) (Zqx a (⟨#[]⟩:ByteArray) 0 0 a1 0=some r)))):=by
 and_intros
 all_goals intros
 all_goals unfold Im
 all_goals try simp only[Z3d,Zwr,Z3b,Zqx,Zws,Ziw,Zg.c_def,Zhv,Z3c,mpl,dfs]
 all_goals try simp only[itb]
 all_goals try simp only[itf,gS,kk]
 all_goals repeat' first|refine exI λ_=>?_|refine anJ λ_ _=>?_|refine anI λ_=>?_|refine orE2 ?_ ?_|exact False.elim
 all_goals (intro h;first|rw[Zd Zm7.eq_1]|refine run Zcjp rfl ?_|rw[Zd Zbfj.eq_1]|refine run Zcjq rfl ?_)
 all_goals (refine Yf ?_ h;clear h;simp +decide[*,kk,tI,tII,Zm9,Zm8,Zbu6,Zbfk,Zbu7])
abbrev Zcqq:=Zyn.1.1
abbrev Zb17:=Zyn.1.2
abbrev Zcqr:=Zyn.2.1
abbrev Zcqs:=Zyn.2.2.1
abbrev Zcqt:=Zyn.2.2.2
end Go.Proofs.YtnnjbejcffjgfaaGreat
