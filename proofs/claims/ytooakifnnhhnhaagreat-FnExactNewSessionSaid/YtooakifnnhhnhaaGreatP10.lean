/-
  Parts of the proofs for this seat: G9 G10 G11 V1 V2 V3 V4 V5 V6 OP AD DB CM CR.
-/
import Derived.Deep.LoopGhost
import Derived.Deep.RegionLaw
import Derived.Lib.SlBy
import Derived.Lib.SliceRun
import Derived.Lib.Walk
import Derived.Shelf.RegionOpenPlain
import Derived.Test.YtooakifnnhhnhaaGreatChecked
import Derived.WalkKit
import Derived.Test.YtooakifnnhhnhaaGreatP7
import Derived.Test.YtooakifnnhhnhaaGreatP9
set_option linter.unusedSimpArgs false
set_option linter.unusedVariables false
set_option maxRecDepth 100000
set_option maxHeartbeats 4000000
namespace Go.Proofs.YtooakifnnhhnhaaGreat
open Go.AM
theorem Zf1:(((∀⦃l x i r⦄,Im (Znz l x i=some r) (if i<(l.length:Int)then(0<=i/\(∃e1,l[i.toNat]?=some e1/\(if e1=x then(some (Bo true,[])=some r)else(Znz l x (w (i+1))=some r))))else(some (Bo false,[])=some r)))/\
 (∀⦃a a1 r⦄,Im (Zny a a1=some r) (Znz a a1 0=some r)))/\
 ((∀⦃a a1 r⦄,Im (Zkf a a1=some r) ((∃v v1 v2,Zb5 a a1.Name=some (.tup [.agg [.t (.str v),I v1,.t .nil],Bo v2],[])/\(if v2=true then(∃v3,Znx v v1 a1.From=some (Bo v3,[])/\(if v3=true then(∃v6,Z9 a1.To 0 (w (v1-1))=some (Bo v6,[])/\(if v6=true then(∃v8,Zny a1.From a1.To=some (Bo v8,[])/\(some (Bo (!v8),[])=some r))else(some (Bo false,[])=some r)))else(some (Bo false,[])=some r)))else(some (Bo false,[])=some r)))\/(∃(v9:List (List Int)),∃v10,∃v11,Zb5 a a1.Name=some (.tup [.agg [.t (.str v10),I v11,.own 0],Bo true],[.arr 99 1 true (v9.map isc)])/\(∃v12,Zh9 (⟨v10,v11,v9⟩:Zc) a1.From=some (Bo v12,[])/\(if v12=true then(∃v13,Z9 a1.To 0 (w (v11-1))=some (Bo v13,[])/\(if v13=true then(∃v14,Zny a1.From a1.To=some (Bo v14,[])/\(some (Bo (!v14),[])=some r))else(some (Bo false,[])=some r)))else(some (Bo false,[])=some r))))))/\
 (∀⦃d f cc c k r⦄,Im (Zx1 d f cc c k=some r) (if k<0 then(∃v,Zkf d f=some (Bo v,[])/\(if v=true then False else(some (.own 0,[.arr 3 1 true (([]:List Int).map ic)])=some r)))else(some (.own 0,[.arr 3 1 true (([]:List Int).map ic)])=some r)))))/\
 (((∀⦃d f cc c x k r⦄,Im (Zkg d f cc c x k=some r) (if k<(x.length:Int)then(∃v,Zkf d f=some (Bo v,[])/\(if v=true then(0<=k/\(∃e2,x[k.toNat]?=some e2/\(∃(v6:List Int),∃v7,Zfw e2 f.From=some (.tup [.own 0,Bo v7],[.arr 3 1 true (v6.map ic)])/\(Zfy d f cc c x v6 k 0=some r))))else(some (.own 0,[.arr 3 1 true (([]:List Int).map ic)])=some r)))else(some (.own 0,[.arr 3 1 true (([]:List Int).map ic)])=some r)))/\
 (∀⦃d f cc c x y k i r⦄,Im (Zfy d f cc c x y k i=some r) (if i<k then(0<=i/\(∃e1,x[i.toNat]?=some e1/\(∃(v3:List Int),∃v4,Zfw e1 f.From=some (.tup [.own 0,Bo v4],[.arr 3 1 true (v3.map ic)])/\(∃v6,Zdh v3 y=some (I v6,[])/\(if v6=0 then(0<=f.To/\(∃e4,e1[f.To.toNat]?=some e4/\(0<=k/\(∃e5,x[k.toNat]?=some e5/\(∃e6,e5[f.To.toNat]?=some e6/\(if e4=e6 then(Zfy d f cc c x y k (w (i+1))=some r)else(some (.own 0,[.arr 3 1 true (([i,k]).map ic)])=some r)))))))else(Zfy d f cc c x y k (w (i+1))=some r))))))else(Zkg d f cc c x (w (k+1))=some r))))/\
 ((∀⦃a a1 r⦄,Im (Zr0 a a1=some r) ((∃v v1 v2,Zb5 a a1.Name=some (.tup [.agg [.t (.str v),I v1,.t .nil],Bo v2],[])/\(Zx1 a a1 v v1 0=some r))\/(∃(v3:List (List Int)),∃v4,∃v5,Zb5 a a1.Name=some (.tup [.agg [.t (.str v4),I v5,.own 0],Bo true],[.arr 99 1 true (v3.map isc)])/\(Zkg a a1 v4 v5 v3 0=some r))))/\
 ((∀⦃a a1 r⦄,Im (Zn2 a a1=some r) (∃v,Zkf a a1=some (Bo v,[])/\(if v=true then(∃(v3:List Int),Zr0 a a1=some (.own 0,[.arr 3 1 true (v3.map ic)])/\(some (Bo (decide ((v3.length:Int)=0)),[])=some r))else(some (Bo false,[])=some r))))/\
 (∀⦃a a1 r⦄,Im (Zkh a a1=some r) ((∃v v1 v2,Zb5 a a1.Name=some (.tup [.agg [.t (.str v),I v1,.t .nil],Bo v2],[])/\((∃v3 v4 v5,Zb5 a a1.Into=some (.tup [.agg [.t (.str v3),I v4,.t .nil],Bo v5],[])/\(if v2=true then(if v5=true then(∃v6,Z9 a1.Column 0 (w (v1-1))=some (Bo v6,[])/\(if v6=true then(∃v8,Z9 a1.IntoColumn 0 (w (v4-1))=some (Bo v8,[])/\(some (Bo v8,[])=some r))else(some (Bo false,[])=some r)))else(some (Bo false,[])=some r))else(some (Bo false,[])=some r)))\/(∃(v9:List (List Int)),∃v10,∃v11,Zb5 a a1.Into=some (.tup [.agg [.t (.str v10),I v11,.own 0],Bo true],[.arr 99 1 true (v9.map isc)])/\(if v2=true then(∃v12,Z9 a1.Column 0 (w (v1-1))=some (Bo v12,[])/\(if v12=true then(∃v13,Z9 a1.IntoColumn 0 (w (v11-1))=some (Bo v13,[])/\(some (Bo v13,[])=some r))else(some (Bo false,[])=some r)))else(some (Bo false,[])=some r)))))\/(∃(v14:List (List Int)),∃v15,∃v16,Zb5 a a1.Name=some (.tup [.agg [.t (.str v15),I v16,.own 0],Bo true],[.arr 99 1 true (v14.map isc)])/\((∃v17 v18 v19,Zb5 a a1.Into=some (.tup [.agg [.t (.str v17),I v18,.t .nil],Bo v19],[])/\(if v19=true then(∃v20,Z9 a1.Column 0 (w (v16-1))=some (Bo v20,[])/\(if v20=true then(∃v21,Z9 a1.IntoColumn 0 (w (v18-1))=some (Bo v21,[])/\(some (Bo v21,[])=some r))else(some (Bo false,[])=some r)))else(some (Bo false,[])=some r)))\/(∃(v22:List (List Int)),∃v23,∃v24,Zb5 a a1.Into=some (.tup [.agg [.t (.str v23),I v24,.own 0],Bo true],[.arr 99 1 true (v22.map isc)])/\(∃v25,Z9 a1.Column 0 (w (v16-1))=some (Bo v25,[])/\(if v25=true then(∃v26,Z9 a1.IntoColumn 0 (w (v24-1))=some (Bo v26,[])/\(some (Bo v26,[])=some r))else(some (Bo false,[])=some r))))))))))):=by
 and_intros
 all_goals intros
 all_goals unfold Im
 all_goals try simp only[Znz,Zny,Zkf,Zx1,Zkg,Zfy,Zr0,Zn2,Zkh,Zb5,Znx,Z9,Zh9,Zh.c_def,Zc.c_def,Ze.c_def,Zfw,Zdh,mpl,dfs]
 all_goals try simp only[itb]
 all_goals try simp only[itf,gS,kk]
 all_goals repeat' first|refine exI λ_=>?_|refine anJ λ_ _=>?_|refine anI λ_=>?_|refine orE2 ?_ ?_|exact False.elim
 all_goals (intro h;first|rw[Zi Zxx.eq_1]|refine run Zblo rfl ?_|refine run Zblp rfl ?_|rw[Zi Zn0.eq_1]|rw[Zi Zxz.eq_1]|refine run Zblq rfl ?_|refine run Zblr rfl ?_|refine run Zbls rfl ?_)
 all_goals (refine Yd ?_ h;clear h;simp +decide[*,kk,tI,tII,Zxy,Z62,Z63,Zn1,Zx0,Z64,Z65,Z66])
abbrev Z9r:=Zf1.1.1.1
abbrev Zbo6:=Zf1.1.1.2
abbrev Zbo7:=Zf1.1.2.1
abbrev Zbo8:=Zf1.1.2.2
abbrev Z9s:=Zf1.2.1.1
abbrev Z9t:=Zf1.2.1.2
abbrev Z9u:=Zf1.2.2.1
abbrev Zbo9:=Zf1.2.2.2.1
abbrev Zbpa:=Zf1.2.2.2.2
theorem Zer:(((∀⦃x cn cl cc cd c v r⦄,Im (Zdz x cn cl cc cd c v=some r) (if v<=9 then(Zn3 x cn cl cc cd c v false false 0=some r)else(some (.own 0,[.arr 3 1 true (cn.map ic)])=some r)))/\
 ((∀⦃x cn cl cc cd c x1 v r⦄,Im (Zd0 x cn cl cc cd c x1 v=some r) (if v<=9 then(Zn4 x cn cl cc cd c x1 v false false 0=some r)else(some (.own 0,[.arr 3 1 true (cn.map ic)])=some r)))/\
 (∀⦃x cn cl cc x1 cd c v r⦄,Im (Zd1 x cn cl cc x1 cd c v=some r) (if v<=9 then(Zkm x cn cl cc x1 cd c v false false 0=some r)else(some (.own 0,[.arr 3 1 true (cn.map ic)])=some r)))))/\
 ((∀⦃x cn cl cc x1 cd c x2 v r⦄,Im (Zd2 x cn cl cc x1 cd c x2 v=some r) (if v<=9 then(Zkn x cn cl cc x1 cd c x2 v false false 0=some r)else(some (.own 0,[.arr 3 1 true (cn.map ic)])=some r)))/\
 ((∀⦃x cn cl cc cd c v co cp i r⦄,Im (Zn3 x cn cl cc cd c v co cp i=some r) (if i<0 then(if co=true then(Zn3 x cn cl cc cd c v true cp (w (i+1))=some r)else False)else(Zko x cn cl cc cd c v co cp 0=some r)))/\
 (∀⦃x cn cl cc cd c x1 v co cp i r⦄,Im (Zn4 x cn cl cc cd c x1 v co cp i=some r) (if i<0 then(if co=true then(Zn4 x cn cl cc cd c x1 v true cp (w (i+1))=some r)else False)else(Zie x cn cl cc cd c x1 v co cp 0=some r))))))/\
 (((∀⦃x cn cl cc x1 cd c v co cp i r⦄,Im (Zkm x cn cl cc x1 cd c v co cp i=some r) (if i<(x1.length:Int)then(if co=true then(Zkm x cn cl cc x1 cd c v true cp (w (i+1))=some r)else(0<=i/\(∃e1,x1[i.toNat]?=some e1/\(0<=x.Column/\(∃e2,e1[x.Column.toNat]?=some e2/\(Zkm x cn cl cc x1 cd c v (decide (e2=v)) cp (w (i+1))=some r))))))else(Zkp x cn cl cc x1 cd c v co cp 0=some r)))/\
 ((∀⦃x cn cl cc x1 cd c x2 v co cp i r⦄,Im (Zkn x cn cl cc x1 cd c x2 v co cp i=some r) (if i<(x1.length:Int)then(if co=true then(Zkn x cn cl cc x1 cd c x2 v true cp (w (i+1))=some r)else(0<=i/\(∃e1,x1[i.toNat]?=some e1/\(0<=x.Column/\(∃e2,e1[x.Column.toNat]?=some e2/\(Zkn x cn cl cc x1 cd c x2 v (decide (e2=v)) cp (w (i+1))=some r))))))else(Zif x cn cl cc x1 cd c x2 v co cp 0=some r)))/\
 (∀⦃x cn cl cc cd c v co cp i r⦄,Im (Zko x cn cl cc cd c v co cp i=some r) (if i<0 then(if cp=true then(Zko x cn cl cc cd c v co true (w (i+1))=some r)else False)else(if co=true then(if cp=true then(Zdz x cn cl cc cd c (w (v+1))=some r)else(cn.length+1<=68719476736/\(Zdz x (cn++[v]) cl cc cd c (w (v+1))=some r)))else(Zdz x cn cl cc cd c (w (v+1))=some r))))))/\
 ((∀⦃x cn cl cc cd c x1 v co cp i r⦄,Im (Zie x cn cl cc cd c x1 v co cp i=some r) (if i<(x1.length:Int)then(if cp=true then(Zie x cn cl cc cd c x1 v co true (w (i+1))=some r)else(0<=i/\(∃e1,x1[i.toNat]?=some e1/\(0<=x.IntoColumn/\(∃e2,e1[x.IntoColumn.toNat]?=some e2/\(Zie x cn cl cc cd c x1 v co (decide (e2=v)) (w (i+1))=some r))))))else(if co=true then(if cp=true then(Zd0 x cn cl cc cd c x1 (w (v+1))=some r)else(cn.length+1<=68719476736/\(Zd0 x (cn++[v]) cl cc cd c x1 (w (v+1))=some r)))else(Zd0 x cn cl cc cd c x1 (w (v+1))=some r))))/\
 ((∀⦃x cn cl cc x1 cd c v co cp i r⦄,Im (Zkp x cn cl cc x1 cd c v co cp i=some r) (if i<0 then(if cp=true then(Zkp x cn cl cc x1 cd c v co true (w (i+1))=some r)else False)else(if co=true then(if cp=true then(Zd1 x cn cl cc x1 cd c (w (v+1))=some r)else(cn.length+1<=68719476736/\(Zd1 x (cn++[v]) cl cc x1 cd c (w (v+1))=some r)))else(Zd1 x cn cl cc x1 cd c (w (v+1))=some r))))/\
 (∀⦃x cn cl cc x1 cd c x2 v co cp i r⦄,Im (Zif x cn cl cc x1 cd c x2 v co cp i=some r) (if i<(x2.length:Int)then(if cp=true then(Zif x cn cl cc x1 cd c x2 v co true (w (i+1))=some r)else(0<=i/\(∃e1,x2[i.toNat]?=some e1/\(0<=x.IntoColumn/\(∃e2,e1[x.IntoColumn.toNat]?=some e2/\(Zif x cn cl cc x1 cd c x2 v co (decide (e2=v)) (w (i+1))=some r))))))else(if co=true then(if cp=true then(Zd2 x cn cl cc x1 cd c x2 (w (v+1))=some r)else(cn.length+1<=68719476736/\(Zd2 x (cn++[v]) cl cc x1 cd c x2 (w (v+1))=some r)))else(Zd2 x cn cl cc x1 cd c x2 (w (v+1))=some r))))))):=by
 and_intros
 all_goals intros
 all_goals unfold Im
 all_goals try simp only[Zdz,Zd0,Zd1,Zd2,Zn3,Zn4,Zkm,Zkn,Zko,Zie,Zkp,Zif,mpl,dfs]
 all_goals try simp only[itb]
 all_goals try simp only[itf,gS,kk]
 all_goals repeat' first|refine exI λ_=>?_|refine anJ λ_ _=>?_|refine anI λ_=>?_|refine orE2 ?_ ?_|exact False.elim
 all_goals (intro h;first|rw[Zi Zdi.eq_1]|rw[Zi Zki.eq_1]|rw[Zi Zkj.eq_1])
 all_goals (refine Yd ?_ h;clear h;simp +decide[*,kk,tI,tII,Zdj,Zkl,Zfi,Zkk])
abbrev Z9v:=Zer.1.1.1
abbrev Z9w:=Zer.1.1.2.1
abbrev Z9x:=Zer.1.1.2.2
abbrev Z9y:=Zer.1.2.1
abbrev Zbpb:=Zer.1.2.2.1
abbrev Zbpc:=Zer.1.2.2.2
abbrev Z9z:=Zer.2.1.1
abbrev Z90:=Zer.2.1.2.1
abbrev Zbpd:=Zer.2.1.2.2
abbrev Z91:=Zer.2.2.1
abbrev Zbpe:=Zer.2.2.2.1
abbrev Z92:=Zer.2.2.2.2
theorem Ze4:(((∀⦃a a1 r⦄,Im (Zx2 a a1=some r) (∃v,Zkh a a1=some (Bo v,[])/\(if v=true then((∃v2 v3 v4,Zb5 a a1.Name=some (.tup [.agg [.t (.str v2),I v3,.t .nil],Bo v4],[])/\((∃v5 v6 v7,Zb5 a a1.Into=some (.tup [.agg [.t (.str v5),I v6,.t .nil],Bo v7],[])/\(Zdz a1 ([]:List Int) v2 v3 v5 v6 0=some r))\/(∃(v8:List (List Int)),∃v9,∃v10,Zb5 a a1.Into=some (.tup [.agg [.t (.str v9),I v10,.own 0],Bo true],[.arr 99 1 true (v8.map isc)])/\(Zd0 a1 ([]:List Int) v2 v3 v9 v10 v8 0=some r))))\/(∃(v11:List (List Int)),∃v12,∃v13,Zb5 a a1.Name=some (.tup [.agg [.t (.str v12),I v13,.own 0],Bo true],[.arr 99 1 true (v11.map isc)])/\((∃v14 v15 v16,Zb5 a a1.Into=some (.tup [.agg [.t (.str v14),I v15,.t .nil],Bo v16],[])/\(Zd1 a1 ([]:List Int) v12 v13 v11 v14 v15 0=some r))\/(∃(v17:List (List Int)),∃v18,∃v19,Zb5 a a1.Into=some (.tup [.agg [.t (.str v18),I v19,.own 0],Bo true],[.arr 99 1 true (v17.map isc)])/\(Zd2 a1 ([]:List Int) v12 v13 v11 v18 v19 v17 0=some r)))))else(some (.own 0,[.arr 3 1 true (([]:List Int).map ic)])=some r))))/\
 (∀⦃a a1 r⦄,Im (Zr1 a a1=some r) (∃v,Zkh a a1=some (Bo v,[])/\(if v=true then(∃(v2:List Int),Zx2 a a1=some (.own 0,[.arr 3 1 true (v2.map ic)])/\(some (Bo (decide ((v2.length:Int)=0)),[])=some r))else(some (Bo false,[])=some r)))))/\
 ((∀⦃d cd cc i r⦄,Im (Zn6 d cd cc i=some r) (if i<(cd.length:Int)then(0<=i/\(∃e1,cd[i.toNat]?=some e1/\(∃v2,Zn2 d e1=some (Bo v2,[])/\(if v2=true then(Zn6 d cd cc (w (i+1))=some r)else(some (Bo false,[])=some r)))))else(Zn7 d cc 0=some r)))/\
 ((∀⦃d cc i r⦄,Im (Zn7 d cc i=some r) (if i<(cc.length:Int)then(0<=i/\(∃e1,cc[i.toNat]?=some e1/\(∃v2,Zr1 d e1=some (Bo v2,[])/\(if v2=true then(Zn7 d cc (w (i+1))=some r)else(some (Bo false,[])=some r)))))else(some (Bo true,[])=some r)))/\
 (∀⦃a a1 a2 r⦄,Im (Zn5 a a1 a2=some r) (if 8<(a1.length:Int)then(some (Bo false,[])=some r)else(if 8<(a2.length:Int)then(some (Bo false,[])=some r)else(Zn6 a a1 a2 0=some r)))))))/\
 (((∀⦃a b i r⦄,Im (Zkq a b i=some r) (if i<(a.Groups.length:Int)then(0<=i/\(∃e1,a.Groups[i.toNat]?=some e1/\(∃e2,b.Groups[i.toNat]?=some e2/\(∃v5,Zdh e1.Columns e2.Columns=some (I v5,[])/\(if v5=0 then(∃v8,Zdh e1.Counts e2.Counts=some (I v8,[])/\(if v8=0 then(if(e1.Values.length:Int)=(e2.Values.length:Int)then(Zn8 a b e1 e2 i 0=some r)else(some (Bo false,[])=some r))else(some (Bo false,[])=some r)))else(some (Bo false,[])=some r))))))else(some (Bo true,[])=some r)))/\
 ((∀⦃a b x y i k r⦄,Im (Zn8 a b x y i k=some r) (if k<(x.Values.length:Int)then(0<=k/\(∃e1,x.Values[k.toNat]?=some e1/\(∃e2,y.Values[k.toNat]?=some e2/\(∃v5,Zdh e1 e2=some (I v5,[])/\(if v5=0 then(Zn8 a b x y i (w (k+1))=some r)else(some (Bo false,[])=some r))))))else(Zkq a b (w (i+1))=some r)))/\
 (∀⦃a a1 r⦄,Im (Zr4 a a1=some r) (if a.Name=a1.Name then(if a.Arity=a1.Arity then(if a.RowCount=a1.RowCount then(if(a.Groups.length:Int)=(a1.Groups.length:Int)then(Zkq a a1 0=some r)else(some (Bo false,[])=some r))else(some (Bo false,[])=some r))else(some (Bo false,[])=some r))else(some (Bo false,[])=some r)))))/\
 ((∀⦃a b i r⦄,Im (Zn9 a b i=some r) (if i<(a.Tables.length:Int)then(0<=i/\(∃e1,a.Tables[i.toNat]?=some e1/\(∃e2,b.Tables[i.toNat]?=some e2/\(∃v5,Zr4 e1 e2=some (Bo v5,[])/\(if v5=true then(Zn9 a b (w (i+1))=some r)else(some (Bo false,[])=some r))))))else(some (Bo true,[])=some r)))/\
 ((∀⦃a a1 r⦄,Im (Zr5 a a1=some r) (if a.Version=a1.Version then(if(a.Tables.length:Int)=(a1.Tables.length:Int)then(Zn9 a a1 0=some r)else(some (Bo false,[])=some r))else(some (Bo false,[])=some r)))/\
 (∀⦃a r⦄,Im (Zoa a=some r) ((∃v v1,Zkd a.Zh a.Zl.Version=some (.tup [.agg [I v,.t .nil],Bo v1],[])/\(if v1=true then(∃v2,Znv v a.Zl=some (Bo v2,[])/\(if v2=true then(∃v5,Zn5 a.Zh a.Dependencies a.Inclusions=some (Bo v5,[])/\(some (Bo v5,[])=some r))else(some (Bo false,[])=some r)))else(some (Bo false,[])=some r)))\/(∃v8,∃(v9:List Zd),∃v10,Zkd a.Zh a.Zl.Version=some (.tup [.agg [I v10,.own 0],Bo true],[.arr 146 4 v8 (v9.map Zd.c)])/\(∃v11,Zr5 (⟨v10,v9⟩:Zl) a.Zl=some (Bo v11,[])/\(if v11=true then(∃v14,Zn5 a.Zh a.Dependencies a.Inclusions=some (Bo v14,[])/\(some (Bo v14,[])=some r))else(some (Bo false,[])=some r))))))))):=by
 and_intros
 all_goals intros
 all_goals unfold Im
 all_goals try simp only[Zx2,Zr1,Zn6,Zn7,Zn5,Zkq,Zn8,Zr4,Zn9,Zr5,Zoa,Zkh,Zb5,Zh.c_def,Zf.c_def,Zn2,Ze.c_def,Zdh,Zd.c_def,Zkd,Znv,Zl.c_def,Zdz,Zd0,Zd1,Zd2,mpl,dfs]
 all_goals try simp only[itb]
 all_goals try simp only[itf,gS,kk]
 all_goals repeat' first|refine exI λ_=>?_|refine anJ λ_ _=>?_|refine anI λ_=>?_|refine orE2 ?_ ?_|exact False.elim
 all_goals (intro h;first|refine run Zblt rfl ?_|refine run Zblu rfl ?_|rw[Zi Zx3.eq_1]|rw[Zi Zx4.eq_1]|refine run Zblv rfl ?_|rw[Zi Zr2.eq_1]|rw[Zi Zx7.eq_1]|refine run Zblw rfl ?_|rw[Zi Znt.eq_1]|refine run Z7v rfl ?_|refine run Zblx rfl ?_)
 all_goals (refine Yd ?_ h;clear h;simp +decide[*,kk,tI,tII,Z67,Z68,Zx6,Zx5,Z69,Zr3,Zx8,Z7a,Znu,Zxs,Z7b])
abbrev Zbpf:=Ze4.1.1.1
abbrev Zbpg:=Ze4.1.1.2
abbrev Z93:=Ze4.1.2.1
abbrev Z94:=Ze4.1.2.2.1
abbrev Zbph:=Ze4.1.2.2.2
abbrev Z95:=Ze4.2.1.1
abbrev Z96:=Ze4.2.1.2.1
abbrev Zbpi:=Ze4.2.1.2.2
abbrev Z97:=Ze4.2.2.1
abbrev Zbpj:=Ze4.2.2.2.1
abbrev Zbpk:=Ze4.2.2.2.2
theorem Zes:(((∀⦃a a1 r⦄,Im (Zob a a1=some r) (if a1=1 then(some (.agg (a.Scan.c.map .t),[])=some r)else(if a1=2 then(some (.agg (a.Sort_.c.map .t),[])=some r)else(if a1=3 then(some (.agg (a.Hash.c.map .t),[])=some r)else(if a1=4 then(some (.agg (a.Merge.c.map .t),[])=some r)else(some (.agg (a.Nested.c.map .t),[])=some r))))))/\
 ((∀⦃a r⦄,Im (Zfz a=some r) (∃v,Z9 a (-99) 99=some (Bo v,[])/\(some (Bo v,[])=some r)))/\
 (∀⦃o i r⦄,Im (Zig o i=some r) (if i<(o.Steps.length:Int)then(0<=i/\(∃e1,o.Steps[i.toNat]?=some e1/\(∃v1,Z9 e1.From 1 8192=some (Bo v1,[])/\(if v1=true then(∃v2,Zfz e1.Add=some (Bo v2,[])/\(if v2=true then(if 0<i then(0<=(w (i-1))/\(∃e4,o.Steps[(w (i-1)).toNat]?=some e4/\(if e1.From<=e4.From then(some (Bo false,[])=some r)else(Zig o (w (i+1))=some r))))else(Zig o (w (i+1))=some r))else(some (Bo false,[])=some r)))else(some (Bo false,[])=some r)))))else(some (Bo true,[])=some r)))))/\
 ((∀⦃a r⦄,Im (Zg4 a=some r) (∃v,Zfz a.Fixed=some (Bo v,[])/\(if v=true then(∃v1,Zfz a.Zo=some (Bo v1,[])/\(if v1=true then(∃v2,Zfz a.Zp=some (Bo v2,[])/\(if v2=true then(∃v3,Zfz a.Zq=some (Bo v3,[])/\(if v3=true then(∃v4,Zfz a.Zr=some (Bo v4,[])/\(if v4=true then(if 4<(a.Steps.length:Int)then(some (Bo false,[])=some r)else(Zig a 0=some r))else(some (Bo false,[])=some r)))else(some (Bo false,[])=some r)))else(some (Bo false,[])=some r)))else(some (Bo false,[])=some r)))else(some (Bo false,[])=some r))))/\
 ((∀⦃k n i r⦄,Im (Zks k n i=some r) (if i<k then(Zks k (if 1<(w (n*4))then(w (n*4))else 1) (w (i+1))=some r)else(some (I n,[])=some r)))/\
 (∀⦃a r⦄,Im (Zkr a=some r) (∃v,Z9 a 0 7=some (Bo v,[])/\(if v=true then(Zks a 0 0=some r)else(some (I (-1),[])=some r)))))))/\
 (((∀⦃o l cc n i r⦄,Im (Zih o l cc n i=some r) (if i<(o.Steps.length:Int)then(0<=i/\(∃e1,o.Steps[i.toNat]?=some e1/\(if e1.From<=(w (l+cc))then(Zih o l cc (w (n+e1.Add)) (w (i+1))=some r)else(Zih o l cc n (w (i+1))=some r))))else(some (I n,[])=some r)))/\
 ((∀⦃a a1 a2 a3 r⦄,Im (Zr6 a a1 a2 a3=some r) (∃v,Zg4 a=some (Bo v,[])/\(if v=true then(∃v1,Z9 a1 0 4096=some (Bo v1,[])/\(if v1=true then(∃v2,Z9 a2 0 4096=some (Bo v2,[])/\(if v2=true then(∃v3,Z9 a3 0 4096=some (Bo v3,[])/\(if v3=true then(Zih a a1 a2 (w ((w ((w ((w (a.Fixed+(w (a.Zo*a1))))+(w (a.Zp*a2))))+(w (a.Zq*a3))))+(w ((w (a.Zr*a1))*a2)))) 0=some r)else(some (I 0,[])=some r)))else(some (I 0,[])=some r)))else(some (I 0,[])=some r)))else(some (I 0,[])=some r))))/\
 (∀⦃a a1 r⦄,Im (Zii a a1=some r) (∃e1,a1[0]?=some e1/\(∃v1,Zkr e1=some (I v1,[])/\(∃e3,a1[1]?=some e3/\(∃v3,Zkr e3=some (I v3,[])/\(∃e5,a1[2]?=some e5/\(∃v5,Zkr e5=some (I v5,[])/\(∃v6,Zr6 a v1 v3 v5=some (I v6,[])/\(some (I v6,[])=some r)))))))))))/\
 ((∀⦃o a r⦄,Im (Zij o a=some r) (if a<=7 then(Zkv o a 0=some r)else(some (.tup [.own 0,.own 1,Bo false],[.arr 3 1 true (([]:List Int).map ic),.arr 3 1 true (([]:List Int).map ic)])=some r)))/\
 ((∀⦃o a b r⦄,Im (Zkv o a b=some r) (if b<=7 then(Zik o a b 0=some r)else(Zij o (w (a+1))=some r)))/\
 (∀⦃o a b e r⦄,Im (Zik o a b e=some r) (if e<=7 then(Zfj o ([a,b,e]) a b e 0=some r)else(Zkv o a (w (b+1))=some r)))))):=by
 and_intros
 all_goals intros
 all_goals unfold Im
 all_goals try simp only[Zob,Zfz,Zig,Zg4,Zks,Zkr,Zih,Zr6,Zii,Zij,Zkv,Zik,Z9,Zn.c_def,Zfj,mpl,dfs]
 all_goals try simp only[itb]
 all_goals try simp only[itf,gS,kk]
 all_goals repeat' first|refine exI λ_=>?_|refine anJ λ_ _=>?_|refine anI λ_=>?_|refine orE2 ?_ ?_|exact False.elim
 all_goals (intro h;first|refine run Zbly rfl ?_|refine run Zblz rfl ?_|rw[Zi Zx9.eq_1]|refine run Zbl0 rfl ?_|rw[Zi Zyb.eq_1]|refine run Zbl1 rfl ?_|rw[Zi Zyd.eq_1]|refine run Zbl2 rfl ?_|refine run Zbl3 rfl ?_|rw[Zi Zkt.eq_1]|rw[Zi Zoc.eq_1]|rw[Zi Zr7.eq_1])
 all_goals (refine Yd ?_ h;clear h;simp +decide[*,kk,tI,tII,Z7c,Z7d,Zya,Z7e,Zyc,Z7f,Z7g,Zye,Z7h,Z7i,Zku,Zod,Zr8])
abbrev Zbpl:=Zes.1.1.1
abbrev Zbpm:=Zes.1.1.2.1
abbrev Z98:=Zes.1.1.2.2
abbrev Zbpn:=Zes.1.2.1
abbrev Zbpo:=Zes.1.2.2.1
abbrev Zbpp:=Zes.1.2.2.2
abbrev Z99:=Zes.2.1.1
abbrev Zbpq:=Zes.2.1.2.1
abbrev Zbpr:=Zes.2.1.2.2
abbrev Zbaa:=Zes.2.2.1
abbrev Zbab:=Zes.2.2.2.1
abbrev Zbac:=Zes.2.2.2.2
theorem Zet:(((∀⦃o x a b e k r⦄,Im (Zfj o x a b e k=some r) (if k<3 then(x.length<=68719476736/\(0<=k/\(∃e1,x[k.toNat]?=some e1/\(if(w (e1+1))<=7 then(∃v3,Zii o (x.set k.toNat (w (e1+1)))=some (I v3,[])/\(∃v4,Zii o x=some (I v4,[])/\(if v3<v4 then(some (.tup [.own 0,.own 1,Bo true],[.arr 3 1 true (x.map ic),.arr 3 1 true ((x.set k.toNat (w (e1+1))).map ic)])=some r)else(Zfj o x a b e (w (k+1))=some r))))else(Zfj o x a b e (w (k+1))=some r)))))else(Zik o a b (w (e+1))=some r)))/\
 ((∀⦃a r⦄,Im (Zr9 a=some r) (∃v,Zg4 a=some (Bo v,[])/\(if v=true then(Zij a 0=some r)else(some (.tup [.own 0,.own 1,Bo false],[.arr 3 1 true (([]:List Int).map ic),.arr 3 1 true (([]:List Int).map ic)])=some r))))/\
 (∀⦃o a r⦄,Im (Zkw o a=some r) (if a<=7 then(Zkx o a 0=some r)else(some (.own 0,[.arr 3 1 true (([]:List Int).map ic)])=some r)))))/\
 ((∀⦃o a b r⦄,Im (Zkx o a b=some r) (if b<=7 then(Zog o a b 0=some r)else(Zkw o (w (a+1))=some r)))/\
 ((∀⦃o a b e r⦄,Im (Zog o a b e=some r) (if e<=7 then(∃v,Zii o ([a,b,e])=some (I v,[])/\(if v<1 then(some (.own 0,[.arr 3 1 true (([a,b,e]).map ic)])=some r)else(Zog o a b (w (e+1))=some r)))else(Zkx o a (w (b+1))=some r)))/\
 (∀⦃a r⦄,Im (Zsc a=some r) (Zkw a 0=some r)))))/\
 (((∀⦃m k r⦄,Im (Zky m k=some r) (if k<=5 then(∃(v:Zn),Zob m k=some (.agg (v.c.map .t),[])/\(∃v3,Zg4 v=some (Bo v3,[])/\(if v3=true then(∃(v4:List Int),∃(v5:List Int),∃v6,Zr9 v=some (.tup [.own 0,.own 1,Bo v6],[.arr 3 1 true (v4.map ic),.arr 3 1 true (v5.map ic)])/\(if v6=true then(some (.tup [I k,.own 0,.own 1],[.arr 3 1 true (v4.map ic),.arr 3 1 true (v5.map ic)])=some r)else(∃(v7:List Int),Zsc v=some (.own 0,[.arr 3 1 true (v7.map ic)])/\(if 0<(v7.length:Int)then(some (.tup [I k,.own 0,.own 1],[.arr 3 1 true (v7.map ic),.arr 3 1 true (([]:List Int).map ic)])=some r)else(Zky m (w (k+1))=some r)))))else(some (.tup [I k,.own 0,.own 1],[.arr 3 1 true (([]:List Int).map ic),.arr 3 1 true (([]:List Int).map ic)])=some r))))else(some (.tup [I 0,.own 0,.own 1],[.arr 3 1 true (([]:List Int).map ic),.arr 3 1 true (([]:List Int).map ic)])=some r)))/\
 ((∀⦃a r⦄,Im (Zyl a=some r) (Zky a 1=some r))/\
 (∀⦃a r⦄,Im (Zsd a=some r) (∃(v:List Int),∃(v1:List Int),∃v2,Zyl a=some (.tup [I v2,.own 0,.own 1],[.arr 3 1 true (v.map ic),.arr 3 1 true (v1.map ic)])/\(some (Bo (decide (v2=0)),[])=some r)))))/\
 ((∀⦃m cc i r⦄,Im (Zyo m cc i=some r) (if i<0 then False else(∃v,Z9 cc 0 1000000=some (Bo v,[])/\(if v=true then(some (Bo true,[])=some r)else(some (Bo false,[])=some r)))))/\
 ((∀⦃a cc r⦄,Im (Zse a cc=some r) (Zyo a cc 0=some r))/\
 (∀⦃Zm Za cc cl cn cd co r⦄,Im (Zoh Zm Za cc cl cn cd co=some r) (∃v,Zoa Zm=some (Bo v,[])/\(if v=true then(∃v3,Zsd Za=some (Bo v3,[])/\(if v3=true then(∃v4,Zse Za cc=some (Bo v4,[])/\(if v4=true then(∃v7,Z9 cl 2 8=some (Bo v7,[])/\(if v7=true then(∃v8,Z9 cn 0 100=some (Bo v8,[])/\(if v8=true then(∃v9,Z9 cd 0 1000000=some (Bo v9,[])/\(if v9=true then(∃v10,Z9 co 0 1000000000000=some (Bo v10,[])/\(some (Bo v10,[])=some r))else(some (Bo false,[])=some r)))else(some (Bo false,[])=some r)))else(some (Bo false,[])=some r)))else(some (Bo false,[])=some r)))else(some (Bo false,[])=some r)))else(some (Bo false,[])=some r))))))):=by
 and_intros
 all_goals intros
 all_goals unfold Im
 all_goals try simp only[Zfj,Zr9,Zkw,Zkx,Zog,Zsc,Zky,Zyl,Zsd,Zyo,Zse,Zoh,Zii,Zn.c_def,Zg4,Zob,Za.c_def,Z9,Zoa,Zl.c_def,Zh.c_def,Zm.c_def,Zik,Zij,mpl,dfs]
 all_goals try simp only[itb]
 all_goals try simp only[itf,gS,kk]
 all_goals repeat' first|refine exI λ_=>?_|refine anJ λ_ _=>?_|refine anI λ_=>?_|refine orE2 ?_ ?_|exact False.elim
 all_goals (intro h;first|rw[Zi Zyf.eq_1]|refine run Zbl4 rfl ?_|rw[Zi Zoe.eq_1]|rw[Zi Zsa.eq_1]|rw[Zi Zyh.eq_1]|refine run Zbl5 rfl ?_|rw[Zi Zyj.eq_1]|refine run Zbl6 rfl ?_|refine run Zbl7 rfl ?_|rw[Zi Zym.eq_1]|refine run Zbl8 rfl ?_|refine run Zbl9 rfl ?_)
 all_goals (refine Yd ?_ h;clear h;simp +decide[*,kk,tI,tII,Zyg,Z7j,Zof,Zsb,Zyi,Z7k,Zyk,Z7l,Z7m,Zyn,Z7n,Z7o])
abbrev Zbad:=Zet.1.1.1
abbrev Zbps:=Zet.1.1.2.1
abbrev Zbae:=Zet.1.1.2.2
abbrev Zbaf:=Zet.1.2.1
abbrev Zys:=Zet.1.2.2.1
abbrev Zbpt:=Zet.1.2.2.2
abbrev Zbag:=Zet.2.1.1
abbrev Zbpu:=Zet.2.1.2.1
abbrev Zbpv:=Zet.2.1.2.2
abbrev Zbpw:=Zet.2.2.1
abbrev Zbpx:=Zet.2.2.2.1
abbrev Zbpy:=Zet.2.2.2.2
theorem Zbah:(∀⦃a a1 a2 a3 r⦄,Im (Zsf a a1 a2 a3=some r) (∃(v:List Zc),∃(v1:List Zd),∃(v2:List Ze),∃(v3:List Zf),∃v4,Zng a=some (.agg [.own 0,I v4,.own 1,.own 2,.own 3],[.arr 142 3 true (v.map Zc.c),.arr 146 4 true (v1.map Zd.c),.arr 116 3 true (v2.map Ze.c),.arr 118 4 true (v3.map Zf.c)])/\(∃(v5:List Zb),∃(v6:List Zb),∃(v7:List Zb),∃(v8:List Zb),∃(v9:List Zb),∃v10,∃v11,∃v12,∃v13,∃v14,∃v15,∃v16,∃v17,∃v18,∃v19,∃v20,∃v21,∃v22,∃v23,∃v24,∃v25,∃v26,∃v27,∃v28,∃v29,∃v30,∃v31,∃v32,∃v33,∃v34,Znh a1=some (.agg [I v10,I v11,I v12,I v13,I v14,.own 0,I v15,I v16,I v17,I v18,I v19,.own 1,I v20,I v21,I v22,I v23,I v24,.own 2,I v25,I v26,I v27,I v28,I v29,.own 3,I v30,I v31,I v32,I v33,I v34,.own 4],[.arr 170 2 true (v5.map Zb.c),.arr 170 2 true (v6.map Zb.c),.arr 170 2 true (v7.map Zb.c),.arr 170 2 true (v8.map Zb.c),.arr 170 2 true (v9.map Zb.c)])/\(∃v35,Zoh (⟨(⟨v⟩:Zh),(⟨v4,v1⟩:Zl),v2,v3⟩:Zm) (⟨(⟨v10,v11,v12,v13,v14,v5⟩:Zn),(⟨v15,v16,v17,v18,v19,v6⟩:Zn),(⟨v20,v21,v22,v23,v24,v7⟩:Zn),(⟨v25,v26,v27,v28,v29,v8⟩:Zn),(⟨v30,v31,v32,v33,v34,v9⟩:Zn)⟩:Za) 0 a2 a3 0 0=some (Bo v35,[])/\(if v35=true then(some (.tup [.agg [.own 0,I v4,.own 1,.own 2,.own 3,I v10,I v11,I v12,I v13,I v14,.own 4,I v15,I v16,I v17,I v18,I v19,.own 5,I v20,I v21,I v22,I v23,I v24,.own 6,I v25,I v26,I v27,I v28,I v29,.own 7,I v30,I v31,I v32,I v33,I v34,.own 8,I 0,.t .nil,I a2,I a3,I 0,I 0],Bo true],[.arr 142 3 true (v.map Zc.c),.arr 146 4 true (v1.map Zd.c),.arr 116 3 true (v2.map Ze.c),.arr 118 4 true (v3.map Zf.c),.arr 170 2 true (v5.map Zb.c),.arr 170 2 true (v6.map Zb.c),.arr 170 2 true (v7.map Zb.c),.arr 170 2 true (v8.map Zb.c),.arr 170 2 true (v9.map Zb.c)])=some r)else(some (.tup [.agg [.t .nil,I 0,.t .nil,.t .nil,.t .nil,I 0,I 0,I 0,I 0,I 0,.t .nil,I 0,I 0,I 0,I 0,I 0,.t .nil,I 0,I 0,I 0,I 0,I 0,.t .nil,I 0,I 0,I 0,I 0,I 0,.t .nil,I 0,I 0,I 0,I 0,I 0,.t .nil,I 0,.t .nil,I 0,I 0,I 0,I 0],Bo false],[])=some r))))))/\
 (∀a r,Im (Zyp a=some r) (a.Steps.length<=68719476736/\(some (.agg [I a.Fixed,I a.Zo,I a.Zp,I a.Zq,I a.Zr,.own 0],[.arr 170 2 true (a.Steps.map Zb.c)])=some r))):=by
 and_intros
 all_goals intros
 all_goals unfold Im
 all_goals try simp only[Zsf,Zyp,Zng,Znh,Zoh,Zl.c_def,Zh.c_def,Za.c_def,Zn.c_def,Zm.c_def,mpl,dfs]
 all_goals try simp only[itb]
 all_goals try simp only[itf,gS,kk]
 all_goals repeat' first|refine exI λ_=>?_|refine anJ λ_ _=>?_|refine anI λ_=>?_|refine orE2 ?_ ?_|exact False.elim
 all_goals (intro h;first|refine run Zbma rfl ?_|refine run Zbmb rfl ?_)
 all_goals (refine Yd ?_ h;clear h;simp +decide[*,kk,tI,tII,Z7p,Z7q])
abbrev Zbpz:=Zbah.1
abbrev Zok:=Zbah.2
@[simp] theorem Zb6(a b c:Int):Zbe a b c=some (Bo (inR a b c),[]):=by
 refine Zbmn ?_;by_cases h:b<=a<;>simp[inR,h]
@[simp] theorem Zbt(a b c:Int):Z9 a b c=some (Bo (inR a b c),[]):=by
 refine Zbok ?_;by_cases h:b<=a<;>simp[inR,h]
theorem lIndexI(xs:List Int)(v:Int)(hx:Le xs):∀i,i<=xs.length->
  Zmr xs v xs.length i=some (I (Zck (λx=>decide (v=x)) (xs.drop i) i),[]):=by
 refine down _ ?_ ?_
 .refine Z8h ?_;simp[Zck]
 .intro i hi ih;refine Z8h ?_;have h4:=Zde (i:=i) (by omega);rw[Z27 _ hi];simp at ih;by_cases e:v=xs[i]<;>simp[hi,h4,e,ih]
@[simp] theorem xIndexI(xs:List Int)(v:Int)(hx:Le xs):Zq4 xs v=some (I (Zck (λx=>decide (v=x)) xs 0),[]):=by
 refine Zbnc ?_;have:=lIndexI xs v hx 0 (Yb _);simpa using this
@[simp] theorem Zbai(xs:List Int)(v:Int)(hx:Le xs):Zjr xs v=some (Bo (has xs v),[]):=by
 refine Zbnd ?_;unfold has;rcases tf (xs.any (λx=>decide (v=x)))with e|e
 .simp[hx,Zbhp _ _ _ e,e]
 .have:=Zbhq _ _ 0 e;simp[hx,this,e]
theorem l_l7Has(xs:List Int)(v:Int)(hx:Le xs):∀i,i<=xs.length->Znz xs v i=some (Bo (has (xs.drop i) v),[]):=by
 unfold has;refine down _ ?_ ?_
 .refine Z9r ?_;simp
 .intro i hi ih;refine Z9r ?_;have h4:=Zde (i:=i) (by omega);rw[drop_any _ hi];simp at ih;by_cases e:v=xs[i]
  .simp[hi,h4,<-e]
  .have e':¬xs[i]=v:=λhc=>e hc.symm
   simp[hi,h4,e,e',ih]
@[simp] theorem Zbaj(xs:List Int)(v:Int)(hx:Le xs):Zny xs v=some (Bo (has xs v),[]):=by
 refine Zbo6 ?_;have:=l_l7Has xs v hx 0 (Yb _);simpa using this
theorem nm_aux(s:ByteArray)(P:Prop):(if(s.size:Int)=1 then(∃(b1:UInt8),s[0]?=some b1/\(if 97<=(b1.toNat:Int)then(some (Bo (decide ((b1.toNat:Int)<=122)),[])=some (Bo (nmOk s),([]:List Blk)))else(some (Bo false,[])=some (Bo (nmOk s),([]:List Blk)))))else(some (Bo false,[])=some (Bo (nmOk s),([]:List Blk)))):=by
 by_cases h:s.size=1
 .obtain⟨b,hb⟩:=get0 h;rw[if_pos (by omega)];refine⟨b,hb,?_⟩;have e:nmOk s=(decide (97<=(b.toNat:Int)) && decide ((b.toNat:Int)<=122)):=by
   unfold nmOk;rw[hb];simp only[h,decide_true,Ybi]
  by_cases h1:(97:Int)<=(b.toNat:Int)
  .rw[if_pos h1,e,decide_eq_true h1,Ybi]
  .rw[if_neg h1,e,decide_eq_false h1,Bool.false_and]
 .have h':¬(s.size:Int)=1:=by omega
  have:nmOk s=false:=by unfold nmOk;split<;>simp[h]
  simp[h',this]
@[simp] theorem x_nameOk(s:ByteArray):Zmd s=some (Bo (nmOk s),[]):=Zbmp (nm_aux s True)
@[simp] theorem Zbak(s:ByteArray):Zh7 s=some (Bo (nmOk s),[]):=Zboj (nm_aux s True)
def Zfl:Int->List Zb->Bool
 |_,[]=>true
 |p,s::r=>inR s.From 1 8192 && inR s.Add (-99) 99 && decide (p<s.From) && Zfl s.From r
def Zcp(l:List Zb):Nat->Int
 |0=>0
 |i+1=>match l[i]? with|some s=>s.From|none=>0
def Zdk(n:Int):Bool:=inR n (-99) 99
def Zbz(o:Zn):Bool:=Zdk o.Fixed && Zdk o.Zo && Zdk o.Zp && Zdk o.Zq && Zdk o.Zr && decide (o.Steps.length<=4) && Zfl 0 o.Steps
theorem Zbal(p:Int){l:List Zb}{i:Nat}(h:i<l.length):Zfl p (l.drop i)=(inR l[i].From 1 8192 && inR l[i].Add (-99) 99 && decide (p<l[i].From) && Zfl l[i].From (l.drop (i+1))):=by
 rw[Ye h,Zfl]
@[simp] theorem Zbp0(n:Int):Zfz n=some (Bo (Zdk n),[]):=by
 refine Zbpm ?_;simp[Zdk]
theorem Zbp1(o:Zn)(hl:Le o.Steps):∀i,i<=o.Steps.length->Zig o i=some (Bo (Zfl (Zcp o.Steps i) (o.Steps.drop i)),[]):=by
 refine down _ ?_ ?_
 .refine Z98 ?_;simp[Zfl]
 .intro i hi ih;refine Z98 ?_;have h4:=Zde (i:=i) (by omega);rw[Zbal _ hi];have pn:Zcp o.Steps (i+1)=o.Steps[i].From:=by simp[Zcp,Yk hi]
  rw[pn]at ih;simp only[Y1,Y2]at ih;rw[if_pos (by omega)];refine⟨by omega,o.Steps[i],by rw[Yt];exact Yk hi,_,Zbt _ _ _,?_⟩;rcases tf (inR o.Steps[i].From 1 8192)with e1|e1
  .rw[e1];simp
  rw[e1,if_pos rfl];refine⟨_,Zbp0 _,?_⟩;unfold Zdk;rcases tf (inR o.Steps[i].Add (-99) 99)with e2|e2
  .rw[e2];simp
  rw[e2,if_pos rfl,show w ((i:Int)+1)=(i:Int)+1 from h4]
  cases i with
  |zero =>
   rw[if_neg (by omega),ih]
   have:Zcp o.Steps 0<o.Steps[0].From:=by simp[inR]at e1;simp[Zcp];omega
   simp[this]
  |succ j =>
   have hj:j<o.Steps.length:=by omega
   have w2:w (((j+1:Nat):Int)-1)=j:=by rw[show((j+1:Nat):Int)-1=j by omega];exact Zt (by omega) (by omega)
   have pj:Zcp o.Steps (j+1)=o.Steps[j].From:=by simp[Zcp,Yk hj]
   rw[if_pos (by omega),w2,pj];refine⟨by omega,o.Steps[j],by rw[Yt];exact Yk hj,?_⟩;by_cases e3:o.Steps[j+1].From<=o.Steps[j].From
   .rw[if_pos e3,decide_eq_false (by omega)];simp
   .rw[if_neg e3,decide_eq_true (by omega),ih];simp
@[simp] theorem Zol(o:Zn)(hl:Le o.Steps):Zg4 o=some (Bo (Zbz o),[]):=by
 refine Zbpn ?_;have b:=Zbp1 o hl 0 (Yb _);simp only[Zcp,Yu,Int.ofNat_zero]at b;have b:Zig o 0=_:=b;unfold Zbz;rcases tf (Zdk o.Fixed)with e1|e1
 .simp[e1]
 rcases tf (Zdk o.Zo)with e2|e2
 .simp[e1,e2]
 rcases tf (Zdk o.Zp)with e3|e3
 .simp[e1,e2,e3]
 rcases tf (Zdk o.Zq)with e4|e4
 .simp[e1,e2,e3,e4]
 rcases tf (Zdk o.Zr)with e5|e5
 .simp[e1,e2,e3,e4,e5]
 by_cases e6:o.Steps.length<=4
 .have e7:¬(4:Int)<o.Steps.length:=by omega
  simp[e1,e2,e3,e4,e5,e6,e7,b]
 .have e7:(4:Int)<o.Steps.length:=by omega
  simp[e1,e2,e3,e4,e5,e6,e7]
theorem Zbp2(o:Zn)(hl:Le o.Steps):∀i,i<=o.Steps.length->Zgt o o.Steps o.Steps.length i=some (Bo (Zfl (Zcp o.Steps i) (o.Steps.drop i) && decide (o.Steps.length<=4)),[]):=by
 refine down _ ?_ ?_
 .refine Z8s ?_;rw[if_neg (by omega)];by_cases e:o.Steps.length<=4
  .simp[Zfl,e];omega
  .simp[Zfl,e];omega
 .intro i hi ih;refine Z8s ?_;have h4:=Zde (i:=i) (by omega);rw[Zbal _ hi];have pn:Zcp o.Steps (i+1)=o.Steps[i].From:=by simp[Zcp,Yk hi]
  rw[pn]at ih;simp only[Y1,Y2]at ih;rw[if_pos (by omega)];refine⟨by omega,o.Steps[i],by rw[Yt];exact Yk hi,_,Zb6 _ _ _,?_⟩;rcases tf (inR o.Steps[i].Add (-99) 99)with e2|e2
  .rw[e2];simp
  rw[e2,if_pos rfl];refine⟨_,Zb6 _ _ _,?_⟩;rcases tf (inR o.Steps[i].From 1 8192)with e1|e1
  .rw[e1];simp
  rw[e1,if_pos rfl,show w ((i:Int)+1)=(i:Int)+1 from h4]
  cases i with
  |zero =>
   rw[if_neg (by omega),ih]
   have:Zcp o.Steps 0<o.Steps[0].From:=by simp[inR]at e1;simp[Zcp];omega
   simp[this]
  |succ j =>
   have hj:j<o.Steps.length:=by omega
   have w2:w (((j+1:Nat):Int)-1)=j:=by rw[show((j+1:Nat):Int)-1=j by omega];exact Zt (by omega) (by omega)
   have pj:Zcp o.Steps (j+1)=o.Steps[j].From:=by simp[Zcp,Yk hj]
   rw[if_pos (by omega),w2,pj];refine⟨by omega,o.Steps[j],by rw[Yt];exact Yk hj,?_⟩;by_cases e3:o.Steps[j+1].From<=o.Steps[j].From
   .rw[if_pos e3,decide_eq_false (by omega)];simp
   .rw[if_neg e3,decide_eq_true (by omega),ih];simp
@[simp] theorem Zcq(o:Zn)(hl:Le o.Steps):Zb9 o=some (Bo (Zbz o),[]):=by
 refine Zbnv ?_;have hc:Zm5 o=some (.bsl 1 5,[.box (o.c.map .t),.box [.ptr 0 0,.ptr 0 1,.ptr 0 2,.ptr 0 3,.ptr 0 4]]):=Zbnu rfl;refine⟨hc,?_⟩;have b:=Zbp2 o hl 0 (Yb _);simp only[Zcp,Yu]at b;have b:Zgt o o.Steps o.Steps.length 0=_:=b;have w1:w (0+1)=1:=by decide
 have w2:w (1+1)=2:=by decide
 have w3:w (2+1)=3:=by decide
 have w4:w (3+1)=4:=by decide
 have w5:w (4+1)=5:=by decide
 unfold Zbz Zdk;refine Zkz ?_;rw[if_pos (by omega),if_pos rfl];refine⟨_,Zb6 _ _ _,?_⟩;rcases tf (inR o.Fixed (-99) 99)with e1|e1
 .rw[e1];simp
 rw[e1,if_pos rfl,w1];refine Zkz ?_;rw[if_pos (by omega),if_neg (by omega),if_pos rfl];refine⟨_,Zb6 _ _ _,?_⟩;rcases tf (inR o.Zo (-99) 99)with e2|e2
 .rw[e2];simp
 rw[e2,if_pos rfl,w2];refine Zkz ?_;rw[if_pos (by omega),if_neg (by omega),if_neg (by omega),if_pos rfl];refine⟨_,Zb6 _ _ _,?_⟩;rcases tf (inR o.Zp (-99) 99)with e3|e3
 .rw[e3];simp
 rw[e3,if_pos rfl,w3];refine Zkz ?_;rw[if_pos (by omega),if_neg (by omega),if_neg (by omega),if_neg (by omega),if_pos rfl];refine⟨_,Zb6 _ _ _,?_⟩;rcases tf (inR o.Zq (-99) 99)with e4|e4
 .rw[e4];simp
 rw[e4,if_pos rfl,w4];refine Zkz ?_;rw[if_pos (by omega),if_neg (by omega),if_neg (by omega),if_neg (by omega),if_neg (by omega),if_pos rfl];refine⟨_,Zb6 _ _ _,?_⟩;rcases tf (inR o.Zr (-99) 99)with e5|e5
 .rw[e5];simp
 rw[e5,if_pos rfl,w5];refine Zkz ?_;rw[if_neg (by omega),b];simp[Bool.and_comm]
def Zk1(o:Zn)(l r n:Int):Int:=w (w (w (w (o.Fixed+w (o.Zo*l))+w (o.Zp*r))+w (o.Zq*n))+w (w (o.Zr*l)*r))
def Zip(l r n:Int)(s:Zb):Int:=if s.From<=w (l+r)then w (n+s.Add)else n
def Zom(o:Zn)(l r n:Int):Int:=o.Steps.foldl (Zip l r) (Zk1 o l r n)
def Zyt(o:Zn)(l r n:Int):Int:=if(Zbz o && inR l 0 4096 && inR r 0 4096 && inR n 0 4096)=true then Zom o l r n else 0
theorem Zbp3(l r:Int)(st:List Zb)(hl:Le st):∀i,i<=st.length->∀n,Zj1 l r n st st.length i=some (I ((st.drop i).foldl (Zip l r) n),[]):=by
 refine down _ ?_ ?_
 .intro n;refine Z8w ?_;simp
 .intro i hi ih n;refine Z8w ?_;have h4:=Zde (i:=i) (by omega);rw[Ye hi,List.foldl_cons];simp only[Y1,Y2]at ih;by_cases e:st[i].From<=w (l+r)
  .simp[hi,h4,e,ih,Zip]
  .simp[hi,h4,e,ih,Zip]
@[simp] theorem Zbyk(o:Zn)(hl:Le o.Steps)(l r n:Int):Zrd o l r n=some (I (Zom o l r n),[]):=by
 refine Zbny ?_;have b:=Zbp3 l r o.Steps hl 0 (Yb _) (Zk1 o l r n);simpa[Zom,Zk1]using b
theorem Zbp4(o:Zn)(l r:Int)(hl:Le o.Steps):∀i,i<=o.Steps.length->∀n,Zih o l r n i=some (I ((o.Steps.drop i).foldl (Zip l r) n),[]):=by
 refine down _ ?_ ?_
 .intro n;refine Z99 ?_;simp
 .intro i hi ih n;refine Z99 ?_;have h4:=Zde (i:=i) (by omega);rw[Ye hi,List.foldl_cons];simp only[Y1,Y2]at ih;by_cases e:o.Steps[i].From<=w (l+r)
  .simp[hi,h4,e,ih,Zip]
  .simp[hi,h4,e,ih,Zip]
@[simp] theorem Zbyl(o:Zn)(hl:Le o.Steps)(l r n:Int):Zr6 o l r n=some (I (Zyt o l r n),[]):=by
 refine Zbpq ?_;have b:=Zbp4 o l r hl 0 (Yb _) (Zk1 o l r n);simp only[Yu,Zk1]at b;have b:Zih o l r _ 0=_:=b;unfold Zyt;rcases tf (Zbz o)with e1|e1<;>rcases tf (inR l 0 4096)with e2|e2<;>rcases tf (inR r 0 4096)with e3|e3<;>rcases tf (inR n 0 4096)with e4|e4<;>simp[hl,e1,e2,e3,e4,b,Zom,Zk1]
@[simp] theorem Zbym(c:Int):Zj0 c=some (I (Zfr c),[]):=by
 refine Zbnx ?_;cases h:inR c 0 7
 .simp[h,Z26 h]
 .rcases cls8 h with rfl|rfl|rfl|rfl|rfl|rfl|rfl|rfl<;>simp[inR,Zfr,Zt,shlI]
@[simp] theorem Zbyn(c:Int):Zkr c=some (I (Zfr c),[]):=by
 refine Zbpp ?_;have e:∀n i r,(if i<c then Zks c (if 1<w (n*4)then w (n*4)else 1) (w (i+1))=some r else some (I n,[])=some r)->Zks c n i=some r:=λn i r h=>Zbpo h
 cases h:inR c 0 7
 .simp[h,Z26 h]
 .refine⟨_,Zbt _ _ _,?_⟩;rw[h,if_pos rfl];rcases cls8 h with rfl|rfl|rfl|rfl|rfl|rfl|rfl|rfl
  all_goals repeat (refine e _ _ _ ?_;first|(rw[if_neg (by decide)];rfl)|rw[if_pos (by decide)])
def inT(t:List Int):Prop:=∃a b c:Int,t=[a,b,c]/\(0<=a/\a<=7)/\(0<=b/\b<=7)/\(0<=c/\c<=7)
def tcl(o:Zn):List Int->Int
 |[a,b,c]=>Zom o (Zfr a) (Zfr b) (Zfr c)
 |_=>0
theorem Zyu{c:Int}(h0:0<=c)(h7:c<=7):inR (Zfr c) 0 4096=true:=by
 have:c=0\/c=1\/c=2\/c=3\/c=4\/c=5\/c=6\/c=7:=by omega
 rcases this with rfl|rfl|rfl|rfl|rfl|rfl|rfl|rfl<;>decide
theorem Ziq(o:Zn)(hl:Le o.Steps){t:List Int}(h:inT t):Ze3 o t=some (I (tcl o t),[]):=by
 obtain⟨a,b,c,rfl,_⟩:=h;refine Zbnz ?_;simp[hl,tcl]
theorem Zsk(o:Zn)(hl:Le o.Steps)(hv:Zbz o=true){t:List Int}(h:inT t):Zii o t=some (I (tcl o t),[]):=by
 obtain⟨a,b,c,rfl,h1,h2,h3⟩:=h;refine Zbpr ?_;have c1:=Zyu h1.1 h1.2;have c2:=Zyu h2.1 h2.2;have c3:=Zyu h3.1 h3.2;simp[hl,tcl,Zyt,hv,c1,c2,c3]
theorem Zbam{t:List Int}(h:inT t){k:Nat}{e:Int}(hk:t[k]?=some e)(h7:e+1<=7):inT (t.set k (e+1)):=by
 obtain⟨a,b,c,rfl,h1,h2,h3⟩:=h
 match k,hk with
 |0,hk=>simp at hk;subst hk;exact⟨a+1,b,c,rfl,by omega,h2,h3⟩
 |1,hk=>simp at hk;subst hk;exact⟨a,b+1,c,rfl,h1,by omega,h3⟩
 |2,hk=>simp at hk;subst hk;exact⟨a,b,c+1,rfl,h1,h2,by omega⟩
 |k+3,hk=>simp at hk
theorem Zban{t:List Int}(h:inT t){k:Nat}(hk:k<3):∃e,t[k]?=some e/\0<=e/\e<=7:=by
 obtain⟨a,b,c,rfl,h1,h2,h3⟩:=h
 match k,hk with
 |0,_=>exact⟨a,rfl,h1⟩
 |1,_=>exact⟨b,rfl,h2⟩
 |2,_=>exact⟨c,rfl,h3⟩
theorem Zyv{t:List Int}(h:inT t):t.length=3:=by obtain⟨a,b,c,rfl,_⟩:=h;rfl
def decK(o:Zn)(t:List Int)(k:Nat):Prop:=∃e,t[k]?=some e/\e+1<=7/\tcl o (t.set k (e+1))<tcl o t
def decF(o:Zn)(t:List Int)(k:Nat):Prop:=∃j,k<=j/\j<3/\decK o t j
def decr(o:Zn):Prop:=∃t,inT t/\decF o t 0
def cheap(o:Zn):Prop:=∃t,inT t/\tcl o t<1
abbrev Zdl(X:Rs)(p:Prop):Prop:=∃(xs ys:List Int) (b:Bool),X=some (.tup [.own 0,.own 1,Bo b],[.arr Zcl 1 true (xs.map ic),.arr Zcl 1 true (ys.map ic)])/\(b=true↔p)
theorem Zdl.congr{X:Rs}{p q:Prop}(h:Zdl X p)(e:p↔q):Zdl X q:=by
 obtain⟨xs,ys,b,h1,h2⟩:=h;exact⟨xs,ys,b,h1,h2.trans e⟩
theorem l_fd0(o:Zn)(hl:Le o.Steps)(hv:Zbz o=true){t:List Int}(ht:inT t)(a b e:Int)(p:Prop)(hc:Zdl (Zik o a b (w (e+1))) p):∀k:Nat,k<=3->
  Zdl (Zfj o t a b e k) (decF o t k\/p):=by
 have h3:=Zyv ht;refine down _ ?_ ?_
 .obtain⟨xs,ys,f,h1,h2⟩:=hc;refine⟨xs,ys,f,Zbad (by rw[if_neg (by omega)];exact h1),?_⟩;rw[h2];exact⟨.inr,λh=>h.elim (λ⟨j,a,b,_⟩=>by omega) id⟩
 .intro k hk ih;have h4:=Zde (i:=k) (by omega);obtain⟨x,hx,x0,x7⟩:=Zban ht hk;have wx:w (x+1)=x+1:=Zt (by omega) (by omega);simp only[Y1,Y2]at ih;have step:decF o t k↔(decK o t k\/decF o t (k+1)):=by
   constructor
   .rintro⟨j,j1,j2,j3⟩;by_cases hj:j=k
    .subst hj;exact .inl j3
    .exact .inr ⟨j,by omega,j2,j3⟩
   .rintro(h|⟨j,j1,j2,j3⟩)
    .exact⟨k,Yh _,hk,h⟩
    .exact⟨j,by omega,j2,j3⟩
  have pre:∀r,(if x+1<=7 then(if tcl o (t.set k (x+1))<tcl o t then some (.tup [.own 0,.own 1,Bo true],[.arr Zcl 1 true (t.map ic),.arr Zcl 1 true ((t.set k (x+1)).map ic)])=some r
    else Zfj o t a b e ((k:Int)+1)=some r)else Zfj o t a b e ((k:Int)+1)=some r)->Zfj o t a b e k=some r:=by
   intro r hr;refine Zbad ?_;rw[if_pos (by omega)];refine⟨by omega,by omega,x,by rw[Yt];exact hx,?_⟩;rw[wx,Yt,show w ((k:Int)+1)=(k:Int)+1 from h4];by_cases h7:x+1<=7
   .rw[if_pos h7]at hr|-;exact⟨_,Zsk o hl hv (Zbam ht hx h7),_,Zsk o hl hv ht,hr⟩
   .rw[if_neg h7]at hr|-;exact hr
  have dk:decK o t k↔(x+1<=7/\tcl o (t.set k (x+1))<tcl o t):=by
   constructor
   .rintro⟨y,y1,y2,y3⟩;rw[hx]at y1;cases y1;exact⟨y2,y3⟩
   .rintro⟨y2,y3⟩;exact⟨x,hx,y2,y3⟩
  by_cases h7:x+1<=7/\tcl o (t.set k (x+1))<tcl o t
  .refine⟨_,_,true,pre _ (by rw[if_pos h7.1,if_pos h7.2]),?_⟩;rw[step,dk];exact⟨λ_=>.inl (.inl h7),λ_=>rfl⟩
  .obtain⟨xs,ys,f,i1,i2⟩:=ih;refine⟨xs,ys,f,pre _ ?_,?_⟩
   .split
    .split
     .rename_i a1 a2;exact absurd ⟨a1,a2⟩ h7
     .exact i1
    .exact i1
   .rw[i2,step,dk];constructor
    .exact λh=>h.imp .inr id
    .exact λh=>h.imp (λh=>h.resolve_left h7) id
theorem Zk2{P:Nat->Prop}{i:Nat}{p:Prop}(hi:i<8):((∃z,i<=z/\z<=7/\P z)\/p)↔(P i\/(∃z,i+1<=z/\z<=7/\P z)\/p):=by
 constructor
 .rintro(⟨z,z1,z2,z3⟩|h)
  .by_cases hz:z=i
   .subst hz;exact .inl z3
   .exact .inr (.inl ⟨z,by omega,z2,z3⟩)
  .exact .inr (.inr h)
 .rintro(h|⟨z,z1,z2,z3⟩|h)
  .exact .inl ⟨i,Yh _,by omega,h⟩
  .exact .inl ⟨z,by omega,z2,z3⟩
  .exact .inr h
theorem Zk3{P:Nat->Prop}{p:Prop}:((∃z,8<=z/\z<=7/\P z)\/p)↔p:=⟨λh=>h.elim (λ⟨z,a,b,_⟩=>by omega) id,.inr⟩
theorem l_fd1(o:Zn)(hl:Le o.Steps)(hv:Zbz o=true)(a b:Nat)(ha:a<=7)(hb:b<=7)(p:Prop)(hc:Zdl (Zkv o a ((b:Int)+1)) p):∀e:Nat,e<=8->
  Zdl (Zik o a b e) ((∃z:Nat,e<=z/\z<=7/\decF o [(a:Int),(b:Int),(z:Int)] 0)\/p):=by
 have wb:w ((b:Int)+1)=(b:Int)+1:=Zt (by omega) (by omega);refine down _ ?_ ?_
 .refine Zdl.congr ?_ Zk3.symm;obtain⟨xs,ys,f,h1,h2⟩:=hc;exact⟨xs,ys,f,Zbac (by rw[if_neg (by omega),wb];exact h1),h2⟩
 .intro e he ih;have we:w ((e:Int)+1)=(e:Int)+1:=Zt (by omega) (by omega);have hT:inT [(a:Int),(b:Int),(e:Int)]:=⟨a,b,e,rfl,by omega,by omega,by omega⟩;simp only[Y1,Y2]at ih;obtain⟨xs,ys,f,h1,h2⟩:=l_fd0 o hl hv hT a b e _ (by rw[we];exact ih) 0 (by omega);exact⟨xs,ys,f,Zbac (by rw[if_pos (by omega)];exact h1),h2.trans (Zk2 (P:=λz:Nat=>decF o [(a:Int),(b:Int),(z:Int)] 0) he).symm⟩
theorem l_fd2(o:Zn)(hl:Le o.Steps)(hv:Zbz o=true)(a:Nat)(ha:a<=7)(p:Prop)(hc:Zdl (Zij o ((a:Int)+1)) p):∀b:Nat,b<=8->
  Zdl (Zkv o a b) ((∃y:Nat,b<=y/\y<=7/\∃z:Nat,0<=z/\z<=7/\decF o [(a:Int),(y:Int),(z:Int)] 0)\/p):=by
 have wa:w ((a:Int)+1)=(a:Int)+1:=Zt (by omega) (by omega);refine down _ ?_ ?_
 .refine Zdl.congr ?_ Zk3.symm;obtain⟨xs,ys,f,h1,h2⟩:=hc;exact⟨xs,ys,f,Zbab (by rw[if_neg (by omega),wa];exact h1),h2⟩
 .intro b hb ih;simp only[Y1,Y2]at ih;obtain⟨xs,ys,f,h1,h2⟩:=l_fd1 o hl hv a b ha (by omega) _ ih 0 (by omega);exact⟨xs,ys,f,Zbab (by rw[if_pos (by omega)];exact h1),h2.trans (Zk2 (P:=λy:Nat=>∃z:Nat,0<=z/\z<=7/\decF o [(a:Int),(y:Int),(z:Int)] 0) hb).symm⟩
theorem l_fd3(o:Zn)(hl:Le o.Steps)(hv:Zbz o=true):∀a:Nat,a<=8->
  Zdl (Zij o a) ((∃x:Nat,a<=x/\x<=7/\∃y:Nat,0<=y/\y<=7/\∃z:Nat,0<=z/\z<=7/\decF o [(x:Int),(y:Int),(z:Int)] 0)\/False):=by
 refine down _ ?_ ?_
 .refine Zdl.congr ?_ Zk3.symm;exact⟨[],[],false,Zbaa (by rw[if_neg (by omega)]),by simp⟩
 .intro a ha ih;simp only[Y1,Y2]at ih;obtain⟨xs,ys,f,h1,h2⟩:=l_fd2 o hl hv a (by omega) _ ih 0 (by omega);exact⟨xs,ys,f,Zbaa (by rw[if_pos (by omega)];exact h1),h2.trans (Zk2 (P:=λx:Nat=>∃y:Nat,0<=y/\y<=7/\∃z:Nat,0<=z/\z<=7/\decF o [(x:Int),(y:Int),(z:Int)] 0) ha).symm⟩
theorem Zbao(o:Zn)(P:List Int->Prop):(∃t,inT t/\P t)↔∃x:Nat,0<=x/\x<=7/\∃y:Nat,0<=y/\y<=7/\∃z:Nat,0<=z/\z<=7/\P [(x:Int),(y:Int),(z:Int)]:=by
 constructor
 .rintro⟨t,⟨a,b,c,rfl,h1,h2,h3⟩,h⟩;refine⟨a.toNat,by omega,by omega,b.toNat,by omega,by omega,c.toNat,by omega,by omega,?_⟩;rw[Ycl h1.1,Ycl h2.1,Ycl h3.1];exact h
 .rintro⟨x,_,x2,y,_,y2,z,_,z2,h⟩;exact⟨_,⟨x,y,z,rfl,by omega,by omega,by omega⟩,h⟩
theorem Zbp5(o:Zn)(hl:Le o.Steps)(hv:Zbz o=true):Zdl (Zr9 o) (decr o):=by
 obtain⟨xs,ys,f,h1,h2⟩:=l_fd3 o hl hv 0 (by omega);refine⟨xs,ys,f,Zbps ⟨_,Zol o hl,?_⟩,?_⟩
 .rw[hv,if_pos rfl];exact h1
 .rw[h2,decr,Zbao o (λt=>decF o t 0)];simp
abbrev Zd3(X:Rs)(p:Prop):Prop:=∃(xs:List Int),X=some (.own 0,[.arr Zcl 1 true (xs.map ic)])/\(xs≠[]↔p)
theorem Zd3.congr{X:Rs}{p q:Prop}(h:Zd3 X p)(e:p↔q):Zd3 X q:=by
 obtain⟨xs,h1,h2⟩:=h;exact⟨xs,h1,h2.trans e⟩
theorem l_ch0(o:Zn)(hl:Le o.Steps)(hv:Zbz o=true)(a b:Nat)(ha:a<=7)(hb:b<=7)(p:Prop)(hc:Zd3 (Zkx o a ((b:Int)+1)) p):∀e:Nat,e<=8->
  Zd3 (Zog o a b e) ((∃z:Nat,e<=z/\z<=7/\tcl o [(a:Int),(b:Int),(z:Int)]<1)\/p):=by
 have wb:w ((b:Int)+1)=(b:Int)+1:=Zt (by omega) (by omega);refine down _ ?_ ?_
 .refine Zd3.congr ?_ Zk3.symm;obtain⟨xs,h1,h2⟩:=hc;exact⟨xs,Zys (by rw[if_neg (by omega),wb];exact h1),h2⟩
 .intro e he ih;have we:w ((e:Int)+1)=(e:Int)+1:=Zt (by omega) (by omega);have hT:inT [(a:Int),(b:Int),(e:Int)]:=⟨a,b,e,rfl,by omega,by omega,by omega⟩;simp only[Y1,Y2]at ih;refine Zd3.congr ?_ (Zk2 he).symm;by_cases h:tcl o [(a:Int),(b:Int),(e:Int)]<1
  .refine⟨[a,b,e],Zys ?_,by simp[h]⟩;rw[if_pos (by omega)];exact⟨_,Zsk o hl hv hT,by rw[if_pos h]⟩
  .obtain⟨xs,h1,h2⟩:=ih;refine⟨xs,Zys ?_,by rw[h2];simp[h]⟩;rw[if_pos (by omega)];exact⟨_,Zsk o hl hv hT,by rw[if_neg h,we];exact h1⟩
theorem l_ch1(o:Zn)(hl:Le o.Steps)(hv:Zbz o=true)(a:Nat)(ha:a<=7)(p:Prop)(hc:Zd3 (Zkw o ((a:Int)+1)) p):∀b:Nat,b<=8->
  Zd3 (Zkx o a b) ((∃y:Nat,b<=y/\y<=7/\∃z:Nat,0<=z/\z<=7/\tcl o [(a:Int),(y:Int),(z:Int)]<1)\/p):=by
 have wa:w ((a:Int)+1)=(a:Int)+1:=Zt (by omega) (by omega);refine down _ ?_ ?_
 .refine Zd3.congr ?_ Zk3.symm;obtain⟨xs,h1,h2⟩:=hc;exact⟨xs,Zbaf (by rw[if_neg (by omega),wa];exact h1),h2⟩
 .intro b hb ih;simp only[Y1,Y2]at ih;obtain⟨xs,h1,h2⟩:=l_ch0 o hl hv a b ha (by omega) _ ih 0 (by omega);exact⟨xs,Zbaf (by rw[if_pos (by omega)];exact h1),h2.trans (Zk2 (P:=λy:Nat=>∃z:Nat,0<=z/\z<=7/\tcl o [(a:Int),(y:Int),(z:Int)]<1) hb).symm⟩
theorem l_ch2(o:Zn)(hl:Le o.Steps)(hv:Zbz o=true):∀a:Nat,a<=8->
  Zd3 (Zkw o a) ((∃x:Nat,a<=x/\x<=7/\∃y:Nat,0<=y/\y<=7/\∃z:Nat,0<=z/\z<=7/\tcl o [(x:Int),(y:Int),(z:Int)]<1)\/False):=by
 refine down _ ?_ ?_
 .refine Zd3.congr ?_ Zk3.symm;exact⟨[],Zbae (by rw[if_neg (by omega)]),by simp⟩
 .intro a ha ih;simp only[Y1,Y2]at ih;obtain⟨xs,h1,h2⟩:=l_ch1 o hl hv a (by omega) _ ih 0 (by omega);exact⟨xs,Zbae (by rw[if_pos (by omega)];exact h1),h2.trans (Zk2 (P:=λx:Nat=>∃y:Nat,0<=y/\y<=7/\∃z:Nat,0<=z/\z<=7/\tcl o [(x:Int),(y:Int),(z:Int)]<1) ha).symm⟩
theorem Zbp6(o:Zn)(hl:Le o.Steps)(hv:Zbz o=true):Zd3 (Zsc o) (cheap o):=by
 obtain⟨xs,h1,h2⟩:=l_ch2 o hl hv 0 (by omega);refine⟨xs,Zbpt h1,?_⟩;rw[h2,cheap,Zbao o (λt=>tcl o t<1)];simp
def rowC(a b:Int)(c:Nat):List (List Int):=(List.range' c (8-c)).map λz:Nat=>[a,b,(z:Int)]
def rowB(a:Int)(b:Nat):List (List Int):=(List.range' b (8-b)).flatMap λy:Nat=>rowC a y 0
def rowA(a:Nat):List (List Int):=(List.range' a (8-a)).flatMap λx:Nat=>rowB x 0
theorem Zyw{i:Nat}(h:i<8):List.range' i (8-i)=i::List.range' (i+1) (8-(i+1)):=by
 rw[show 8-i=(8-(i+1))+1 by omega,List.range'_succ]
theorem rowC_len(a b:Int)(c:Nat):(rowC a b c).length=8-c:=by simp[rowC]
theorem rowB_len(a:Int):(rowB a 0).length=64:=rfl
theorem l_tr0(a b:Nat)(hb:b<=7)(r:AV×List Blk):∀c:Nat,c<=8->∀out:List (List Int),out.length<=1000000->Zh1 (out++rowC a b c) a ((b:Int)+1)=some r->Zjz out a b c=some r:=by
 have wb:w ((b:Int)+1)=(b:Int)+1:=Zt (by omega) (by omega);have key:∀c:Nat,c<=8->∀out:List (List Int),out.length<=1000000+c->Zh1 (out++rowC a b c) a ((b:Int)+1)=some r->Zjz out a b c=some r:=by
  refine down _ ?_ ?_
  .intro out ho h;refine Z8v ?_;rw[if_neg (by omega),wb];simpa[rowC]using h
  .intro c hc ih out ho h;have wc:w ((c:Int)+1)=(c:Int)+1:=Zt (by omega) (by omega);refine Z8v ?_;rw[if_pos (by omega),wc];refine⟨by omega,?_⟩
   have ih:=ih (out++[[(a:Int),(b:Int),(c:Int)]]) (by simp;omega) (by
    rw[rowC,Zyw hc]at h
    simpa[rowC]using h)
   simpa using ih
 exact λc hc out ho h=>key c hc out (by omega) h
theorem l_tr1(a:Nat)(ha:a<=7)(r:AV×List Blk):∀b:Nat,b<=8->∀out:List (List Int),out.length<=100000+8*b->Zjy (out++rowB a b) ((a:Int)+1)=some r->Zh1 out a b=some r:=by
 have wa:w ((a:Int)+1)=(a:Int)+1:=Zt (by omega) (by omega);refine down _ ?_ ?_
 .intro out ho h;refine Z8u ?_;rw[if_neg (by omega),wa];simpa[rowB]using h
 .intro b hb ih out ho h;refine Z8u ?_;rw[if_pos (by omega)];refine l_tr0 a b (by omega) r 0 (by omega) out (by omega) ?_
  have ih:=ih (out++rowC a b 0) (by rw[Yq,rowC_len];omega) (by
   rw[rowB,Zyw hb]at h
   simpa[rowB]using h)
  simpa using ih
theorem l_tr2:∀a:Nat,a<=8->∀out:List (List Int),out.length<=64*a->Zjy out a=some (.own 0,[.arr Zhp 1 true ((out++rowA a).map isc)]):=by
 refine down _ ?_ ?_
 .intro out ho;refine Z8t ?_;rw[if_neg (by omega)];simp[rowA]
 .intro a ha ih out ho;refine Z8t ?_;rw[if_pos (by omega)];refine l_tr1 a (by omega) _ 0 (by omega) out (by omega) ?_;have ih:=ih (out++rowB a 0) (by rw[Yq,rowB_len];omega);rw[rowA,Zyw ha];simpa[rowA]using ih
def allT:List (List Int):=rowA 0
theorem Zk4:Zc5=some (.own 0,[.arr Zhp 1 true (allT.map isc)]):=Zbnw (l_tr2 0 (by omega) [] (by simp))
theorem Zeu(t:List Int):t∈allT↔inT t:=by
 simp only[allT,rowA,rowB,rowC,Ycz,Y0,List.mem_range'_1,inT];constructor
 .rintro⟨x,hx,y,hy,z,hz,rfl⟩;exact⟨x,y,z,rfl,by omega,by omega,by omega⟩
 .rintro⟨a,b,c,rfl,h1,h2,h3⟩;refine⟨a.toNat,by omega,b.toNat,by omega,c.toNat,by omega,?_⟩;rw[Ycl h1.1,Ycl h2.1,Ycl h3.1]
set_option maxRecDepth 100000 in
theorem Zk5:allT.length=512:=rfl
@[simp] theorem Zk6(xs:List Int)(h:xs.length<=68719476736):Zfg xs=some (.own 0,[.arr Zcl 1 true (xs.map ic)]):=Zbmc ⟨h,rfl⟩
abbrev GoodI(X:Rs)(p:Prop):Prop:=(p/\∃xs ys:List Int,X=some (.tup [L 1 (xs.map ic),.own 0,Bo true],[.arr Zcl 1 true (ys.map ic)]))\/(¬p/\X=some (.tup [.t .nil,.t .nil,Bo false],[]))
theorem l_id0(o:Zn)(hl:Le o.Steps)(ts:List (List Int)){t:List Int}(ht:inT t)(n i:Int)(p:Prop)(hc:GoodI (Zfu o ts n (w (i+1))) p):∀k:Nat,k<=3->
  GoodI (Zed o ts t n i 3 k) (decF o t k\/p):=by
 have h3:=Zyv ht;refine down _ ?_ ?_
 .have e:(decF o t 3\/p)↔p:=⟨λh=>h.elim (λ⟨j,a,b,_⟩=>by omega) id,.inr⟩;rcases hc with⟨h,xs,ys,h1⟩|⟨h,h1⟩
  .exact .inl ⟨e.2 h,xs,ys,Zyr (by rw[if_neg (by omega)];exact h1)⟩
  .exact .inr ⟨λhc=>h (e.1 hc),Zyr (by rw[if_neg (by omega)];exact h1)⟩
 .intro k hk ih;have h4:=Zde (i:=k) (by omega);obtain⟨x,hx,x0,x7⟩:=Zban ht hk;have wx:w (x+1)=x+1:=Zt (by omega) (by omega);simp only[Y1,Y2]at ih;have step:decF o t k↔(decK o t k\/decF o t (k+1)):=by
   constructor
   .rintro⟨j,j1,j2,j3⟩;by_cases hj:j=k
    .subst hj;exact .inl j3
    .exact .inr ⟨j,by omega,j2,j3⟩
   .rintro(h|⟨j,j1,j2,j3⟩)
    .exact⟨k,Yh _,hk,h⟩
    .exact⟨j,by omega,j2,j3⟩
  have dk:decK o t k↔(x+1<=7/\tcl o (t.set k (x+1))<tcl o t):=by
   constructor
   .rintro⟨y,y1,y2,y3⟩;rw[hx]at y1;cases y1;exact⟨y2,y3⟩
   .rintro⟨y2,y3⟩;exact⟨x,hx,y2,y3⟩
  have pre:∀r,(if x+1<=7 then(if tcl o (t.set k (x+1))<tcl o t then some (.tup [L 1 (t.map ic),.own 0,Bo true],[.arr Zcl 1 true ((t.set k (x+1)).map ic)])=some r
    else Zed o ts t n i 3 ((k:Int)+1)=some r)else Zed o ts t n i 3 ((k:Int)+1)=some r)->Zed o ts t n i 3 k=some r:=by
   intro r hr;refine Zyr ?_;rw[if_pos (by omega)];refine⟨by omega,x,by rw[Yt];exact hx,?_⟩;rw[show w ((k:Int)+1)=(k:Int)+1 from h4];by_cases h7:x=7
   .rw[if_pos h7];rw[if_neg (by omega)]at hr;exact hr
   .rw[if_neg h7];have h8:x+1<=7:=by omega
    rw[if_pos h8]at hr;refine⟨t,Zk6 t (by omega),x,by rw[Yt];exact hx,?_⟩;rw[wx,Yt];exact⟨_,Ziq o hl (Zbam ht hx h8),_,Ziq o hl ht,hr⟩
  by_cases h7:x+1<=7/\tcl o (t.set k (x+1))<tcl o t
  .exact .inl ⟨.inl (step.2 (.inl (dk.2 h7))),_,_,pre _ (by rw[if_pos h7.1,if_pos h7.2])⟩
  .have go:∀r,Zed o ts t n i 3 ((k:Int)+1)=some r->Zed o ts t n i 3 k=some r:=by
    intro r hr;refine pre r ?_;split
    .split
     .rename_i a1 a2;exact absurd ⟨a1,a2⟩ h7
     .exact hr
    .exact hr
   have e:(decF o t k\/p)↔(decF o t (k+1)\/p):=by
    rw[step,dk];exact⟨λh=>h.imp (λh=>h.resolve_left h7) id,λh=>h.imp .inr id⟩
   rcases ih with⟨h,xs,ys,h1⟩|⟨h,h1⟩
   .exact .inl ⟨e.2 h,xs,ys,go _ h1⟩
   .exact .inr ⟨λhc=>h (e.1 hc),go _ h1⟩
theorem l_id1(o:Zn)(hl:Le o.Steps)(ts:List (List Int))(c:∀t∈ts,inT t)(hn:ts.length<=1000):∀i,i<=ts.length->GoodI (Zfu o ts ts.length i) (∃t∈ts.drop i,decF o t 0):=by
 refine down _ ?_ ?_
 .refine .inr ⟨by simp,Z8x (by rw[if_neg (by omega)])⟩
 .intro i hi ih;have h4:=Zde (i:=i) (by omega);have ht:=c _ (Ya hi);simp only[Y1,Y2]at ih;have b:=l_id0 o hl ts ht ts.length i _ (by rw[show w ((i:Int)+1)=(i:Int)+1 from h4];exact ih) 0 (by omega);have go:∀r,Zed o ts ts[i] ts.length i 3 0=some r->Zfu o ts ts.length i=some r:=by
   intro r hr;refine Z8x ?_;rw[if_pos (by omega)];refine⟨by omega,ts[i],by rw[Yt];exact Yk hi,?_⟩;rw[Zyv ht];exact hr
  have e:(∃t∈ts.drop i,decF o t 0)↔(decF o ts[i] 0\/∃t∈ts.drop (i+1),decF o t 0):=by
   rw[Ye hi];simp only[Yw,exists_eq_or_imp]
  rcases b with⟨h,xs,ys,h1⟩|⟨h,h1⟩
  .exact .inl ⟨e.2 h,xs,ys,go _ h1⟩
  .exact .inr ⟨λhc=>h (e.1 hc),go _ h1⟩
theorem Zon(o:Zn)(hl:Le o.Steps)(hv:Zbz o=true):GoodI (Zby o) (decr o):=by
 have b:=l_id1 o hl allT (λt h=>(Zeu t).1 h) (by rw[Zk5];omega) 0 (Yb _);have go:∀r,Zfu o allT allT.length 0=some r->Zby o=some r:=by
  intro r hr;refine Zbn1 ⟨_,Zcq o hl,?_⟩;rw[hv,if_pos rfl];exact⟨allT,Zk4,hr⟩
 have e:(∃t∈allT.drop 0,decF o t 0)↔decr o:=by
  simp only[Yu,Zeu,decr]
 rcases b with⟨h,xs,ys,h1⟩|⟨h,h1⟩
 .exact .inl ⟨e.1 h,xs,ys,go _ h1⟩
 .exact .inr ⟨λhc=>h (e.2 hc),go _ h1⟩
def Zc6(o:Zn):Prop:=Zbz o=true/\¬decr o/\¬cheap o
def mOp(m:Za)(k:Int):Zn:=if k=1 then m.Scan else if k=2 then m.Sort_ else if k=3 then m.Hash else if k=4 then m.Merge else m.Nested
abbrev LeM(m:Za):Prop:=Le m.Scan.Steps/\Le m.Sort_.Steps/\Le m.Hash.Steps/\Le m.Merge.Steps/\Le m.Nested.Steps
theorem LeM.op{m:Za}(h:LeM m)(k:Int):Le (mOp m k).Steps:=by
 unfold mOp;obtain⟨h1,h2,h3,h4,h5⟩:=h
 repeat' split
 all_goals assumption
@[simp] theorem x_l22Op(m:Za)(k:Int):Zob m k=some (.agg ((mOp m k).c.map .t),[]):=by
 refine Zbpl ?_;unfold mOp;by_cases h1:k=1
 .simp[h1]
 by_cases h2:k=2
 .simp[h2]
 by_cases h3:k=3
 .simp[h3]
 by_cases h4:k=4
 .simp[h4]
 .simp[h1,h2,h3,h4]
def Zf2(m:Za):Prop:=Zc6 m.Scan/\Zc6 m.Sort_/\Zc6 m.Hash/\Zc6 m.Merge/\Zc6 m.Nested
theorem Zbp7(m:Za)(hm:LeM m):∀k:Nat,k<=6->1<=k->
  ∃(xs ys:List Int) (n:Int),Zky m k=some (.tup [I n,.own 0,.own 1],[.arr Zcl 1 true (xs.map ic),.arr Zcl 1 true (ys.map ic)])/\(n=0↔∀j:Nat,k<=j->j<=5->Zc6 (mOp m j)):=by
 refine down _ ?_ ?_
 .intro _;exact⟨[],[],0,Zbag (by rw[if_neg (by omega)]),⟨λ_ j h1 h2=>by omega,λ_=>rfl⟩⟩
 .intro k hk ih h1;have wk':w ((k:Int)+1)=(k:Int)+1:=Zt (by omega) (by omega);have hl:=hm.op k;have step:(∀j:Nat,k<=j->j<=5->Zc6 (mOp m j))↔(Zc6 (mOp m k)/\∀j:Nat,k+1<=j->j<=5->Zc6 (mOp m j)):=by
   constructor
   .exact λh=>⟨h k (Yh _) (by omega),λj a b=>h j (by omega) b⟩
   .rintro⟨a,b⟩ j c d;by_cases hj:j=k
    .subst hj;exact a
    .exact b j (by omega) d
  have kne:(k:Int)≠0:=by omega
  have pre:∀r,(∃v,Zg4 (mOp m k)=some (Bo v,[])/\_)->Zky m k=some r:=λr h=>Zbag (by rw[if_pos (by omega)];exact⟨mOp m k,x_l22Op m k,h⟩)
  rcases tf (Zbz (mOp m k))with hv|hv
  .refine⟨[],[],k,pre _ ⟨false,by rw[Zol _ hl,hv],by rw[if_neg (by simp)]⟩,?_⟩;rw[step];exact⟨λh=>absurd h kne,λh=>by have:=h.1.1;rw[hv]at this;cases this⟩
  .obtain⟨xs,ys,f,d1,d2⟩:=Zbp5 (mOp m k) hl hv
   cases f with
   |true =>
    refine⟨xs,ys,k,pre _ ⟨true,by rw[Zol _ hl,hv],?_⟩,?_⟩
    .rw[if_pos rfl];exact⟨xs,ys,true,d1,by rw[if_pos rfl]⟩
    .rw[step]
     exact⟨λh=>absurd h kne,λh=>absurd (d2.1 rfl) h.1.2.1⟩
   |false =>
    obtain⟨cs,c1,c2⟩:=Zbp6 (mOp m k) hl hv;by_cases hc:cs=[]
    .obtain⟨xs',ys',n,i1,i2⟩:=ih (by omega);simp only[Y1,Y2]at i1;refine⟨xs',ys',n,pre _ ⟨true,by rw[Zol _ hl,hv],?_⟩,?_⟩
     .rw[if_pos rfl];refine⟨xs,ys,false,d1,?_⟩;rw[if_neg (by simp)];refine⟨cs,c1,?_⟩;rw[hc,if_neg (by simp),wk'];exact i1
     .rw[step,i2];refine⟨λh=>⟨⟨hv,λhd=>(by have:=d2.2 hd;cases this),λhch=>(c2.2 hch) hc⟩,h⟩,λh=>h.2⟩
    .refine⟨cs,[],k,pre _ ⟨true,by rw[Zol _ hl,hv],?_⟩,?_⟩
     .rw[if_pos rfl];refine⟨xs,ys,false,d1,?_⟩;rw[if_neg (by simp)];refine⟨cs,c1,?_⟩
      have:0<cs.length:=Ybf.2 hc
      rw[if_pos (by omega)]
     .rw[step];exact⟨λh=>absurd h kne,λh=>absurd (c2.1 hc) h.1.2.2⟩
theorem adm_iff(m:Za):(∀j:Nat,1<=j->j<=5->Zc6 (mOp m j))↔Zf2 m:=by
 constructor
 .intro h;exact⟨h 1 (by omega) (by omega),h 2 (by omega) (by omega),h 3 (by omega) (by omega),h 4 (by omega) (by omega),h 5 (by omega) (by omega)⟩
 .rintro⟨h1,h2,h3,h4,h5⟩ j a b
  have:j=1\/j=2\/j=3\/j=4\/j=5:=by omega
  rcases this with rfl|rfl|rfl|rfl|rfl
  .exact h1
  .exact h2
  .exact h3
  .exact h4
  .exact h5
open Classical in
theorem Zbp8(m:Za)(hm:LeM m):Zsd m=some (Bo (decide (Zf2 m)),[]):=by
 obtain⟨xs,ys,n,h1,h2⟩:=Zbp7 m hm 1 (by omega) (by omega);refine Zbpv ⟨xs,ys,n,Zbpu h1,?_⟩;rw[adm_iff]at h2;by_cases h:Zf2 m
 .rw[decide_eq_true h,decide_eq_true (h2.2 h)]
 .rw[decide_eq_false h,decide_eq_false (λhc=>h (h2.1 hc))]
abbrev Zbk(X:Rs)(p:Prop):Prop:=(p/\X=some (.tup [I 0,.t .nil,.t .nil],[]))\/(¬p/\∃n:Int,n≠0/\((∃xs ys:List Int,X=some (.tup [I n,L 1 (xs.map ic),.own 0],[.arr Zcl 1 true (ys.map ic)]))\/X=some (.tup [I n,.t .nil,.t .nil],[])\/∃xs:List Int,X=some (.tup [I n,L 1 (xs.map ic),.t .nil],[])))
theorem Zbk.of{X Y:Rs}{p:Prop}(h:Zbk X p)(e:∀r,X=some r->Y=some r):Zbk Y p:=by
 rcases h with⟨h,h1⟩|⟨h,n,hn,⟨xs,ys,h1⟩|h1|⟨xs,h1⟩⟩
 .exact .inl ⟨h,e _ h1⟩
 .exact .inr ⟨h,n,hn,.inl ⟨xs,ys,e _ h1⟩⟩
 .exact .inr ⟨h,n,hn,.inr (.inl (e _ h1))⟩
 .exact .inr ⟨h,n,hn,.inr (.inr ⟨xs,e _ h1⟩)⟩
theorem Zbk.congr{X:Rs}{p q:Prop}(h:Zbk X p)(e:p↔q):Zbk X q:=by
 rw[<-e];exact h
theorem Zoo{ts:List (List Int)}{j:Nat}(hj:j<ts.length){P:List Int->Prop}{p:Prop}:((∀t∈ts.drop j,P t)/\p)↔(P ts[j]/\(∀t∈ts.drop (j+1),P t)/\p):=by
 rw[Ye hj];simp only[Yw,forall_eq_or_imp,and_assoc]
theorem l_rf0(m:Za)(hl:Le m.Scan.Steps)(ts:List (List Int))(c:∀t∈ts,inT t)(hn:ts.length<=1000)(kind:Int)(hk:kind≠0)(x1 x2:Int)(p:Prop)(hc:Zbk (Zbo m x1 (w (x2+1))) p):∀j,j<=ts.length->
  Zbk (Zgw m ts kind x1 x2 ts.length j) ((∀t∈ts.drop j,¬tcl m.Scan t<1)/\p):=by
 refine down _ ?_ ?_
 .refine(hc.of λr hr=>Z8y (by rw[if_neg (by omega)];exact hr)).congr (by simp)
 .intro j hj ih;have h4:=Zde (i:=j) (by omega);have ht:=c _ (Ya hj);simp only[Y1,Y2]at ih;have pre:∀r,(if tcl m.Scan ts[j]<1 then some (.tup [I kind,L 1 (ts[j].map ic),.t .nil],[])=some r else Zgw m ts kind x1 x2 ts.length ((j:Int)+1)=some r)->Zgw m ts kind x1 x2 ts.length j=some r:=by
   intro r hr;refine Z8y ?_;rw[if_pos (by omega)];refine⟨by omega,ts[j],by rw[Yt];exact Yk hj,_,Ziq _ hl ht,?_⟩;rw[show w ((j:Int)+1)=(j:Int)+1 from h4];exact hr
  refine Zbk.congr ?_ (Zoo (P:=λt=>¬tcl m.Scan t<1) hj).symm;by_cases h:tcl m.Scan ts[j]<1
  .exact .inr ⟨λhc=>hc.1 h,kind,hk,.inr (.inr ⟨_,pre _ (by rw[if_pos h])⟩)⟩
  .exact(ih.of λr hr=>pre r (by rw[if_neg h];exact hr)).congr ⟨λhh=>⟨h,hh⟩,λhh=>hh.2⟩
theorem l_rf1(m:Za)(hm:LeM m)(p:Prop)(hc:Zbk (Zbo m 5 1) p):Zbk (Zbo m 5 0) (Zc6 m.Scan/\p):=by
 have hl:Le m.Scan.Steps:=by obtain⟨h1,h2,h3,h4,h5⟩:=hm;assumption
 have w1:w (1+0)=1:=by decide
 have w2:w (0+1)=1:=by decide
 have pre:∀r,(∃v,Zb9 m.Scan=some (Bo v,[])/\_)->Zbo m 5 0=some r:=λr h=>Zk0 (by rw[if_pos (by omega),if_pos rfl];exact h)
 rcases tf (Zbz m.Scan)with hv|hv
 .refine .inr ⟨λh=>(by have:=h.1.1;rw[hv]at this;cases this),1,by decide,.inr (.inl (pre _ ⟨false,by rw[Zcq _ hl,hv],?_⟩))⟩;rw[if_neg (by simp),w1]
 rcases Zon m.Scan hl hv with⟨hd,xs,ys,d1⟩|⟨hd,d1⟩
 .refine .inr ⟨λh=>h.1.2.1 hd,1,by decide,.inl ⟨xs,ys,pre _ ⟨true,by rw[Zcq _ hl,hv],?_⟩⟩⟩;rw[if_pos rfl,w1];exact .inr ⟨ys,xs,d1,rfl⟩
 .have b:=l_rf0 m hl allT (λt h=>(Zeu t).1 h) (by rw[Zk5];omega) 1 (by decide) 5 0 p (by rw[w2];exact hc) 0 (Yb _);refine(b.of λr hr=>pre r ⟨true,by rw[Zcq _ hl,hv],?_⟩).congr ?_
  .rw[if_pos rfl,w1];exact .inl ⟨d1,allT,Zk4,hr⟩
  .simp only[Yu,Zeu];constructor
   .rintro⟨h,hp⟩;exact⟨⟨hv,hd,λ⟨t,ht,hc⟩=>h t ht hc⟩,hp⟩
   .rintro⟨h,hp⟩;exact⟨λt ht hc=>h.2.2 ⟨t,ht,hc⟩,hp⟩
theorem l_rf0a(m:Za)(hl:Le m.Sort_.Steps)(ts:List (List Int))(c:∀t∈ts,inT t)(hn:ts.length<=1000)(kind:Int)(hk:kind≠0)(x1 x2:Int)(p:Prop)(hc:Zbk (Zbo m x1 (w (x2+1))) p):∀j,j<=ts.length->
  Zbk (Zgx m ts kind x1 x2 ts.length j) ((∀t∈ts.drop j,¬tcl m.Sort_ t<1)/\p):=by
 refine down _ ?_ ?_
 .refine(hc.of λr hr=>Z8z (by rw[if_neg (by omega)];exact hr)).congr (by simp)
 .intro j hj ih;have h4:=Zde (i:=j) (by omega);have ht:=c _ (Ya hj);simp only[Y1,Y2]at ih;have pre:∀r,(if tcl m.Sort_ ts[j]<1 then some (.tup [I kind,L 1 (ts[j].map ic),.t .nil],[])=some r else Zgx m ts kind x1 x2 ts.length ((j:Int)+1)=some r)->Zgx m ts kind x1 x2 ts.length j=some r:=by
   intro r hr;refine Z8z ?_;rw[if_pos (by omega)];refine⟨by omega,ts[j],by rw[Yt];exact Yk hj,_,Ziq _ hl ht,?_⟩;rw[show w ((j:Int)+1)=(j:Int)+1 from h4];exact hr
  refine Zbk.congr ?_ (Zoo (P:=λt=>¬tcl m.Sort_ t<1) hj).symm;by_cases h:tcl m.Sort_ ts[j]<1
  .exact .inr ⟨λhc=>hc.1 h,kind,hk,.inr (.inr ⟨_,pre _ (by rw[if_pos h])⟩)⟩
  .exact(ih.of λr hr=>pre r (by rw[if_neg h];exact hr)).congr ⟨λhh=>⟨h,hh⟩,λhh=>hh.2⟩
theorem l_rf1a(m:Za)(hm:LeM m)(p:Prop)(hc:Zbk (Zbo m 5 2) p):Zbk (Zbo m 5 1) (Zc6 m.Sort_/\p):=by
 have hl:Le m.Sort_.Steps:=by obtain⟨h1,h2,h3,h4,h5⟩:=hm;assumption
 have w1:w (1+1)=2:=by decide
 have w2:w (1+1)=2:=by decide
 have pre:∀r,(∃v,Zb9 m.Sort_=some (Bo v,[])/\_)->Zbo m 5 1=some r:=λr h=>Zk0 (by rw[if_pos (by omega),if_neg (by omega),if_pos rfl];exact h)
 rcases tf (Zbz m.Sort_)with hv|hv
 .refine .inr ⟨λh=>(by have:=h.1.1;rw[hv]at this;cases this),2,by decide,.inr (.inl (pre _ ⟨false,by rw[Zcq _ hl,hv],?_⟩))⟩;rw[if_neg (by simp),w1]
 rcases Zon m.Sort_ hl hv with⟨hd,xs,ys,d1⟩|⟨hd,d1⟩
 .refine .inr ⟨λh=>h.1.2.1 hd,2,by decide,.inl ⟨xs,ys,pre _ ⟨true,by rw[Zcq _ hl,hv],?_⟩⟩⟩;rw[if_pos rfl,w1];exact .inr ⟨ys,xs,d1,rfl⟩
 .have b:=l_rf0a m hl allT (λt h=>(Zeu t).1 h) (by rw[Zk5];omega) 2 (by decide) 5 1 p (by rw[w2];exact hc) 0 (Yb _);refine(b.of λr hr=>pre r ⟨true,by rw[Zcq _ hl,hv],?_⟩).congr ?_
  .rw[if_pos rfl,w1];exact .inl ⟨d1,allT,Zk4,hr⟩
  .simp only[Yu,Zeu];constructor
   .rintro⟨h,hp⟩;exact⟨⟨hv,hd,λ⟨t,ht,hc⟩=>h t ht hc⟩,hp⟩
   .rintro⟨h,hp⟩;exact⟨λt ht hc=>h.2.2 ⟨t,ht,hc⟩,hp⟩
theorem l_rf0b(m:Za)(hl:Le m.Hash.Steps)(ts:List (List Int))(c:∀t∈ts,inT t)(hn:ts.length<=1000)(kind:Int)(hk:kind≠0)(x1 x2:Int)(p:Prop)(hc:Zbk (Zbo m x1 (w (x2+1))) p):∀j,j<=ts.length->
  Zbk (Zgy m ts kind x1 x2 ts.length j) ((∀t∈ts.drop j,¬tcl m.Hash t<1)/\p):=by
 refine down _ ?_ ?_
 .refine(hc.of λr hr=>Z80 (by rw[if_neg (by omega)];exact hr)).congr (by simp)
 .intro j hj ih;have h4:=Zde (i:=j) (by omega);have ht:=c _ (Ya hj);simp only[Y1,Y2]at ih;have pre:∀r,(if tcl m.Hash ts[j]<1 then some (.tup [I kind,L 1 (ts[j].map ic),.t .nil],[])=some r else Zgy m ts kind x1 x2 ts.length ((j:Int)+1)=some r)->Zgy m ts kind x1 x2 ts.length j=some r:=by
   intro r hr;refine Z80 ?_;rw[if_pos (by omega)];refine⟨by omega,ts[j],by rw[Yt];exact Yk hj,_,Ziq _ hl ht,?_⟩;rw[show w ((j:Int)+1)=(j:Int)+1 from h4];exact hr
  refine Zbk.congr ?_ (Zoo (P:=λt=>¬tcl m.Hash t<1) hj).symm;by_cases h:tcl m.Hash ts[j]<1
  .exact .inr ⟨λhc=>hc.1 h,kind,hk,.inr (.inr ⟨_,pre _ (by rw[if_pos h])⟩)⟩
  .exact(ih.of λr hr=>pre r (by rw[if_neg h];exact hr)).congr ⟨λhh=>⟨h,hh⟩,λhh=>hh.2⟩
theorem l_rf1b(m:Za)(hm:LeM m)(p:Prop)(hc:Zbk (Zbo m 5 3) p):Zbk (Zbo m 5 2) (Zc6 m.Hash/\p):=by
 have hl:Le m.Hash.Steps:=by obtain⟨h1,h2,h3,h4,h5⟩:=hm;assumption
 have w1:w (1+2)=3:=by decide
 have w2:w (2+1)=3:=by decide
 have pre:∀r,(∃v,Zb9 m.Hash=some (Bo v,[])/\_)->Zbo m 5 2=some r:=λr h=>Zk0 (by rw[if_pos (by omega),if_neg (by omega),if_neg (by omega),if_pos rfl];exact h)
 rcases tf (Zbz m.Hash)with hv|hv
 .refine .inr ⟨λh=>(by have:=h.1.1;rw[hv]at this;cases this),3,by decide,.inr (.inl (pre _ ⟨false,by rw[Zcq _ hl,hv],?_⟩))⟩;rw[if_neg (by simp),w1]
 rcases Zon m.Hash hl hv with⟨hd,xs,ys,d1⟩|⟨hd,d1⟩
 .refine .inr ⟨λh=>h.1.2.1 hd,3,by decide,.inl ⟨xs,ys,pre _ ⟨true,by rw[Zcq _ hl,hv],?_⟩⟩⟩;rw[if_pos rfl,w1];exact .inr ⟨ys,xs,d1,rfl⟩
 .have b:=l_rf0b m hl allT (λt h=>(Zeu t).1 h) (by rw[Zk5];omega) 3 (by decide) 5 2 p (by rw[w2];exact hc) 0 (Yb _);refine(b.of λr hr=>pre r ⟨true,by rw[Zcq _ hl,hv],?_⟩).congr ?_
  .rw[if_pos rfl,w1];exact .inl ⟨d1,allT,Zk4,hr⟩
  .simp only[Yu,Zeu];constructor
   .rintro⟨h,hp⟩;exact⟨⟨hv,hd,λ⟨t,ht,hc⟩=>h t ht hc⟩,hp⟩
   .rintro⟨h,hp⟩;exact⟨λt ht hc=>h.2.2 ⟨t,ht,hc⟩,hp⟩
theorem l_rf0c(m:Za)(hl:Le m.Merge.Steps)(ts:List (List Int))(c:∀t∈ts,inT t)(hn:ts.length<=1000)(kind:Int)(hk:kind≠0)(x1 x2:Int)(p:Prop)(hc:Zbk (Zbo m x1 (w (x2+1))) p):∀j,j<=ts.length->
  Zbk (Zgz m ts kind x1 x2 ts.length j) ((∀t∈ts.drop j,¬tcl m.Merge t<1)/\p):=by
 refine down _ ?_ ?_
 .refine(hc.of λr hr=>Z81 (by rw[if_neg (by omega)];exact hr)).congr (by simp)
 .intro j hj ih;have h4:=Zde (i:=j) (by omega);have ht:=c _ (Ya hj);simp only[Y1,Y2]at ih;have pre:∀r,(if tcl m.Merge ts[j]<1 then some (.tup [I kind,L 1 (ts[j].map ic),.t .nil],[])=some r else Zgz m ts kind x1 x2 ts.length ((j:Int)+1)=some r)->Zgz m ts kind x1 x2 ts.length j=some r:=by
   intro r hr;refine Z81 ?_;rw[if_pos (by omega)];refine⟨by omega,ts[j],by rw[Yt];exact Yk hj,_,Ziq _ hl ht,?_⟩;rw[show w ((j:Int)+1)=(j:Int)+1 from h4];exact hr
  refine Zbk.congr ?_ (Zoo (P:=λt=>¬tcl m.Merge t<1) hj).symm;by_cases h:tcl m.Merge ts[j]<1
  .exact .inr ⟨λhc=>hc.1 h,kind,hk,.inr (.inr ⟨_,pre _ (by rw[if_pos h])⟩)⟩
  .exact(ih.of λr hr=>pre r (by rw[if_neg h];exact hr)).congr ⟨λhh=>⟨h,hh⟩,λhh=>hh.2⟩
theorem l_rf1c(m:Za)(hm:LeM m)(p:Prop)(hc:Zbk (Zbo m 5 4) p):Zbk (Zbo m 5 3) (Zc6 m.Merge/\p):=by
 have hl:Le m.Merge.Steps:=by obtain⟨h1,h2,h3,h4,h5⟩:=hm;assumption
 have w1:w (1+3)=4:=by decide
 have w2:w (3+1)=4:=by decide
 have pre:∀r,(∃v,Zb9 m.Merge=some (Bo v,[])/\_)->Zbo m 5 3=some r:=λr h=>Zk0 (by rw[if_pos (by omega),if_neg (by omega),if_neg (by omega),if_neg (by omega),if_pos rfl];exact h)
 rcases tf (Zbz m.Merge)with hv|hv
 .refine .inr ⟨λh=>(by have:=h.1.1;rw[hv]at this;cases this),4,by decide,.inr (.inl (pre _ ⟨false,by rw[Zcq _ hl,hv],?_⟩))⟩;rw[if_neg (by simp),w1]
 rcases Zon m.Merge hl hv with⟨hd,xs,ys,d1⟩|⟨hd,d1⟩
 .refine .inr ⟨λh=>h.1.2.1 hd,4,by decide,.inl ⟨xs,ys,pre _ ⟨true,by rw[Zcq _ hl,hv],?_⟩⟩⟩;rw[if_pos rfl,w1];exact .inr ⟨ys,xs,d1,rfl⟩
 .have b:=l_rf0c m hl allT (λt h=>(Zeu t).1 h) (by rw[Zk5];omega) 4 (by decide) 5 3 p (by rw[w2];exact hc) 0 (Yb _);refine(b.of λr hr=>pre r ⟨true,by rw[Zcq _ hl,hv],?_⟩).congr ?_
  .rw[if_pos rfl,w1];exact .inl ⟨d1,allT,Zk4,hr⟩
  .simp only[Yu,Zeu];constructor
   .rintro⟨h,hp⟩;exact⟨⟨hv,hd,λ⟨t,ht,hc⟩=>h t ht hc⟩,hp⟩
   .rintro⟨h,hp⟩;exact⟨λt ht hc=>h.2.2 ⟨t,ht,hc⟩,hp⟩
theorem l_rf0d(m:Za)(hl:Le m.Nested.Steps)(ts:List (List Int))(c:∀t∈ts,inT t)(hn:ts.length<=1000)(kind:Int)(hk:kind≠0)(x1 x2:Int)(p:Prop)(hc:Zbk (Zbo m x1 (w (x2+1))) p):∀j,j<=ts.length->
  Zbk (Zg0 m ts kind x1 x2 ts.length j) ((∀t∈ts.drop j,¬tcl m.Nested t<1)/\p):=by
 refine down _ ?_ ?_
 .refine(hc.of λr hr=>Z82 (by rw[if_neg (by omega)];exact hr)).congr (by simp)
 .intro j hj ih;have h4:=Zde (i:=j) (by omega);have ht:=c _ (Ya hj);simp only[Y1,Y2]at ih;have pre:∀r,(if tcl m.Nested ts[j]<1 then some (.tup [I kind,L 1 (ts[j].map ic),.t .nil],[])=some r else Zg0 m ts kind x1 x2 ts.length ((j:Int)+1)=some r)->Zg0 m ts kind x1 x2 ts.length j=some r:=by
   intro r hr;refine Z82 ?_;rw[if_pos (by omega)];refine⟨by omega,ts[j],by rw[Yt];exact Yk hj,_,Ziq _ hl ht,?_⟩;rw[show w ((j:Int)+1)=(j:Int)+1 from h4];exact hr
  refine Zbk.congr ?_ (Zoo (P:=λt=>¬tcl m.Nested t<1) hj).symm;by_cases h:tcl m.Nested ts[j]<1
  .exact .inr ⟨λhc=>hc.1 h,kind,hk,.inr (.inr ⟨_,pre _ (by rw[if_pos h])⟩)⟩
  .exact(ih.of λr hr=>pre r (by rw[if_neg h];exact hr)).congr ⟨λhh=>⟨h,hh⟩,λhh=>hh.2⟩
theorem l_rf1d(m:Za)(hm:LeM m)(p:Prop)(hc:Zbk (Zbo m 5 5) p):Zbk (Zbo m 5 4) (Zc6 m.Nested/\p):=by
 have hl:Le m.Nested.Steps:=by obtain⟨h1,h2,h3,h4,h5⟩:=hm;assumption
 have w1:w (1+4)=5:=by decide
 have w2:w (4+1)=5:=by decide
 have pre:∀r,(∃v,Zb9 m.Nested=some (Bo v,[])/\_)->Zbo m 5 4=some r:=λr h=>Zk0 (by rw[if_pos (by omega),if_neg (by omega),if_neg (by omega),if_neg (by omega),if_neg (by omega),if_pos rfl];exact h)
 rcases tf (Zbz m.Nested)with hv|hv
 .refine .inr ⟨λh=>(by have:=h.1.1;rw[hv]at this;cases this),5,by decide,.inr (.inl (pre _ ⟨false,by rw[Zcq _ hl,hv],?_⟩))⟩;rw[if_neg (by simp),w1]
 rcases Zon m.Nested hl hv with⟨hd,xs,ys,d1⟩|⟨hd,d1⟩
 .refine .inr ⟨λh=>h.1.2.1 hd,5,by decide,.inl ⟨xs,ys,pre _ ⟨true,by rw[Zcq _ hl,hv],?_⟩⟩⟩;rw[if_pos rfl,w1];exact .inr ⟨ys,xs,d1,rfl⟩
 .have b:=l_rf0d m hl allT (λt h=>(Zeu t).1 h) (by rw[Zk5];omega) 5 (by decide) 5 4 p (by rw[w2];exact hc) 0 (Yb _);refine(b.of λr hr=>pre r ⟨true,by rw[Zcq _ hl,hv],?_⟩).congr ?_
  .rw[if_pos rfl,w1];exact .inl ⟨d1,allT,Zk4,hr⟩
  .simp only[Yu,Zeu];constructor
   .rintro⟨h,hp⟩;exact⟨⟨hv,hd,λ⟨t,ht,hc⟩=>h t ht hc⟩,hp⟩
   .rintro⟨h,hp⟩;exact⟨λt ht hc=>h.2.2 ⟨t,ht,hc⟩,hp⟩
open Classical in
theorem Zbp9(m:Za)(hm:LeM m):Zrg m=some (Bo (decide (Zf2 m)),[]):=by
 have h5:Zbk (Zbo m 5 5) True:=.inl ⟨trivial,Zk0 (by rw[if_neg (by omega)])⟩;have h0:=l_rf1 m hm _ (l_rf1a m hm _ (l_rf1b m hm _ (l_rf1c m hm _ (l_rf1d m hm _ h5))));have hop:Zh0 m=some (.bsl 1 5,[.box (m.c.map .t),.box [.ptr 0 0,.ptr 0 6,.ptr 0 12,.ptr 0 18,.ptr 0 24]]):=Z8r rfl;have hR:Zbk (Zj2 m) (Zf2 m):=(h0.of λr hr=>Zbn2 ⟨hop,hr⟩).congr (by simp[Zf2]);refine Zbn3 ?_;rcases hR with⟨h,h1⟩|⟨h,n,hn,⟨xs,ys,h1⟩|h1|⟨xs,h1⟩⟩
 .rw[decide_eq_true h];exact .inr (.inl ⟨0,h1,rfl⟩)
 .rw[decide_eq_false h];exact .inl ⟨ys,n,xs,h1,by rw[decide_eq_false hn]⟩
 .rw[decide_eq_false h];exact .inr (.inl ⟨n,h1,by rw[decide_eq_false hn]⟩)
 .rw[decide_eq_false h];exact .inr (.inr ⟨n,xs,h1,by rw[decide_eq_false hn]⟩)
theorem wS{i n:Nat}(h:i<n)(hn:n<=1099511627776):w ((i:Int)+1)=((i+1:Nat):Int):=by
 rw[show w ((i:Int)+1)=(i:Int)+1 from Zt (by omega) (by omega)];simp
theorem gE{α:Type}{xs:List α}{i:Nat}(h:i<xs.length):xs[(i:Int).toNat]?=some xs[i]:=by rw[Yt];exact Yk h
abbrev dig(v:Int):Bool:=inR v 0 9
def rwB(n:Int)(r:List Int):Bool:=r.all dig && decide ((r.length:Int)=n)
theorem Zbqa(r:List Int)(n:Int)(hl:Le r):∀i,i<=r.length->Zmc r n r r.length i=some (Bo ((r.drop i).all dig && decide ((r.length:Int)=n)),[]):=by
 refine down _ ?_ ?_
 .refine Z72 ?_;rw[if_neg (by omega)];simp
 .intro i hi ih;refine Z72 ?_;rw[if_pos (by omega),Ye hi,Y3,wS hi hl];refine⟨by omega,_,gE hi,_,Zb6 _ _ _,?_⟩;rcases tf (inR r[i] 0 9)with e|e
  .rw[e];simp[dig,e]
  .rw[e,if_pos rfl,ih];simp[dig,e]
@[simp] theorem Zbqb(r:List Int)(n:Int)(hl:Le r):Zmb r n=some (Bo (rwB n r),[]):=Zbmo (by simpa[rwB]using Zbqa r n hl 0 (Yb _))
theorem Zbqc(r:List Int)(n:Int)(hl:Le r):∀i,i<=r.length->Znj r n i=some (Bo ((r.drop i).all dig && decide ((r.length:Int)=n)),[]):=by
 refine down _ ?_ ?_
 .refine Z9c ?_;rw[if_neg (by omega)];simp
 .intro i hi ih;refine Z9c ?_;rw[if_pos (by omega),Ye hi,Y3,wS hi hl];refine⟨by omega,_,gE hi,_,Zbt _ _ _,?_⟩;rcases tf (inR r[i] 0 9)with e|e
  .rw[e];simp[dig,e]
  .rw[e,if_pos rfl,ih];simp[dig,e]
@[simp] theorem Zbqd(r:List Int)(n:Int)(hl:Le r):Zni r n=some (Bo (rwB n r),[]):=Zbol (by simpa[rwB]using Zbqc r n hl 0 (Yb _))
theorem x_cmp(a b:Int):Zme a b=some (I (if a<b then -1 else if b<a then 1 else 0),[]):=by
 refine Zbmq ⟨_,Z73 rfl,_,Z73 rfl,?_⟩;rw[if_neg (by simp),if_neg (by simp)];by_cases h1:a<b
 .rw[if_pos h1,if_pos h1]
 .rw[if_neg h1,if_neg h1];by_cases h2:b<a
  .rw[if_pos h2,if_pos h2]
  .rw[if_neg h2,if_neg h2]
theorem Zbqe(a b:List Int)(ha:Le a)(hb:Le b):∀i,i<=a.length->i<=b.length->Zmf a b a a.length i=some (I (cmpR (a.drop i) (b.drop i)),[]):=by
 refine down _ ?_ ?_
 .intro h;refine Z74 ?_;rw[if_neg (by omega),Ym];by_cases h2:(a.length:Int)<(b.length:Int)
  .rw[if_pos h2,Ye (l:=b) (i:=a.length) (by omega)];rfl
  .rw[if_neg h2,show a.length=b.length by omega,Ym];rfl
 .intro i hi ih h;refine Z74 ?_;rw[if_pos (by omega),Ye hi,wS hi ha];refine⟨by omega,_,gE hi,?_⟩;by_cases h2:(b.length:Int)<=(i:Int)
  .rw[if_pos h2,show b.drop i=[]from Ybr (by omega)];rfl
  .have hj:i<b.length:=by omega
   rw[if_neg h2,Ye hj];refine⟨_,gE hj,_,x_cmp _ _,?_⟩;unfold cmpR;by_cases e1:a[i]<b[i]
   .rw[if_pos e1,if_pos e1];rfl
   .rw[if_neg e1,if_neg e1];by_cases e2:b[i]<a[i]
    .rw[if_pos e2,if_pos e2];rfl
    .rw[if_neg e2,if_neg e2,if_pos rfl];exact ih (by omega)
@[simp] theorem Zbqf(a b:List Int)(ha:Le a)(hb:Le b):Zqy a b=some (I (cmpR a b),[]) :=
 Zbms ⟨_,Zbmr (by simpa using Zbqe a b ha hb 0 (Yb _) (Yb _)),rfl⟩
theorem Zbap(a b:List Int)(i:Nat)(ha:i<=a.length)(hb:i<=b.length)(h:i=a.length\/i=b.length):Znk a b i false=some (I (cmpR (a.drop i) (b.drop i)),[]):=by
 refine Zbom ?_;by_cases h1:(a.length:Int)<(b.length:Int)
 .rw[if_pos h1,show a.drop i=[]from Ybr (by omega),Ye (l:=b) (i:=i) (by omega)];rfl
 .rw[if_neg h1];by_cases h2:(b.length:Int)<(a.length:Int)
  .rw[if_pos h2,show b.drop i=[]from Ybr (by omega),Ye (l:=a) (i:=i) (by omega)];rfl
  .rw[if_neg h2,show a.drop i=[]from Ybr (by omega),show b.drop i=[]from Ybr (by omega)];rfl
theorem Zbqg(a b:List Int)(ha:Le a)(hb:Le b):∀i,i<=a.length->i<=b.length->Zj6 a b i=some (I (cmpR (a.drop i) (b.drop i)),[]):=by
 refine down _ ?_ ?_
 .intro h;refine Z9d ?_;rw[if_neg (by omega)];exact Zbap a b _ (Yh _) h (.inl rfl)
 .intro i hi ih h;refine Z9d ?_;rw[if_pos (by omega)];by_cases h2:(i:Int)<(b.length:Int)
  .have hj:i<b.length:=by omega
   rw[if_pos h2];refine⟨by omega,_,gE hi,_,gE hj,?_⟩;rw[wS hi ha,Ye hi,Ye hj];unfold cmpR;by_cases e1:a[i]<b[i]
   .rw[if_pos e1,if_pos e1]
   .rw[if_neg e1,if_neg e1];by_cases e2:b[i]<a[i]
    .rw[if_pos e2,if_pos e2]
    .rw[if_neg e2,if_neg e2];exact ih (by omega)
  .rw[if_neg h2];exact Zbap a b _ (by omega) h (.inr (by omega))
@[simp] theorem Zir(a b:List Int)(ha:Le a)(hb:Le b):Zdh a b=some (I (cmpR a b),[]) :=
 Zbon (by simpa using Zbqg a b ha hb 0 (Yb _) (Yb _))
def pvA{α:Type}(xs:List α):Nat->Option α
 |0=>none
 |k+1=>xs[k]?
def nxt{α:Type}(lt:α->α->Bool)(p:Option α)(x:α):Bool:=match p with
 |none=>true
 |some q=>lt q x
def adjL{α:Type}(lt:α->α->Bool):Option α->List α->Bool
 |_,[]=>true
 |p,x::xs=>nxt lt p x && adjL lt (some x) xs
theorem Zsl{α:Type}(lt:α->α->Bool){xs:List α}{i:Nat}(hi:i<xs.length):adjL lt (pvA xs i) (xs.drop i)=(nxt lt (pvA xs i) xs[i] && adjL lt (pvA xs (i+1)) (xs.drop (i+1))):=by
 rw[Ye hi,adjL,show pvA xs (i+1)=some xs[i]from Yk hi]
def ltR(a b:List Int):Bool:=decide (cmpR a b<0)
abbrev LeT(t:Zc):Prop:=Le t.Rows/\∀r∈t.Rows,Le r
theorem wP{i n:Nat}(h0:0<i)(h:i<n)(hn:n<=1099511627776):w ((i:Int)-1)=((i-1:Nat):Int):=by
 rw[show w ((i:Int)-1)=(i:Int)-1 from Zt (by omega) (by omega)];omega
theorem Zis{α:Type}{xs:List α}{i:Nat}(h0:0<i)(h:i-1<xs.length):pvA xs i=some xs[i-1]:=by
 obtain⟨k,rfl⟩:∃k,i=k+1:=⟨i-1,by omega⟩;exact Yk h
theorem Zbqh(rows:List (List Int))(hl:Le rows)(hr:∀r∈rows,Le r):∀i,i<=rows.length->0<i->Zmg rows i=some (Bo (adjL ltR (pvA rows i) (rows.drop i)),[]):=by
 refine down _ ?_ ?_
 .intro h0;refine Zyq ?_;rw[if_neg (by omega)];simp[adjL]
 .intro i hi ih h0;have hp:i-1<rows.length:=by omega
  have ih':=ih (by omega);refine Zyq ?_;rw[if_pos (by omega),wP h0 hi hl,wS hi hl,Zsl _ hi,Zis h0 hp];refine⟨by omega,_,gE hp,by omega,_,gE hi,_,Zbqf _ _ (hr _ (Ya hp)) (hr _ (Ya hi)),?_⟩;unfold nxt ltR at *
  by_cases e:0<=cmpR rows[i-1] rows[i]
  .rw[if_pos e];simp[show ¬cmpR rows[i-1] rows[i]<0 by omega]
  .rw[if_neg e,ih'];simp[show cmpR rows[i-1] rows[i]<0 by omega]
theorem Zbqi(rows:List (List Int))(hl:Le rows)(hr:∀r∈rows,Le r):Zqz rows=some (Bo (adjL ltR none rows),[]):=by
 refine Zbmt ?_
 cases rows with
 |nil=>refine Zyq ?_;rw[if_neg (by simp)];rfl
 |cons r rs=>exact Zbqh (r::rs) hl hr 1 (by simp) (by omega)
def Zbn(t:Zc):Bool:=nmOk t.Name && inR t.Arity 1 3 && decide ((t.Rows.length:Int)<=8) && (t.Rows.all (rwB t.Arity) && adjL ltR none t.Rows)
theorem Zbqj(t:Zc)(h:LeT t):∀i,i<=t.Rows.length->Zmh t t.Rows t.Rows.length i=some (Bo ((t.Rows.drop i).all (rwB t.Arity) && (nmOk t.Name && inR t.Arity 1 3 && decide ((t.Rows.length:Int)<=8) && adjL ltR none t.Rows)),[]):=by
 refine down _ ?_ ?_
 .refine Z75 ?_;rw[if_neg (by omega)];refine⟨_,x_nameOk _,?_⟩;rcases tf (nmOk t.Name)with e1|e1
  .rw[e1];simp
  rw[e1,if_pos rfl];refine⟨_,Zb6 _ _ _,?_⟩;rcases tf (inR t.Arity 1 3)with e2|e2
  .rw[e2];simp
  rw[e2,if_pos rfl];by_cases e3:(t.Rows.length:Int)<=8
  .rw[if_pos e3];exact⟨_,Zbqi t.Rows h.1 h.2,by simp[e3]⟩
  .rw[if_neg e3];simp[e3]
 .intro i hi ih;refine Z75 ?_;rw[if_pos (by omega),Ye hi,Y3,wS hi h.1];refine⟨by omega,_,gE hi,_,Zbqb _ _ (h.2 _ (Ya hi)),?_⟩;rcases tf (rwB t.Arity t.Rows[i])with e|e
  .rw[e];simp
  .rw[e,if_pos rfl,ih];simp
@[simp] theorem Zyx(t:Zc)(h:LeT t):Zgs t=some (Bo (Zbn t),[]):=by
 refine Zbmu ?_;rw[show(0:Int)=((0:Nat):Int)from rfl,Zbqj t h 0 (Yb _)];unfold Zbn;simp only[Yu];congr 3;rw[Bool.eq_iff_iff];simp only[Yf]
 grind
theorem Zbqk(t:Zc)(h:LeT t):∀i,i<=t.Rows.length->Zj7 t i=some (Bo ((t.Rows.drop i).all (rwB t.Arity) && adjL ltR (pvA t.Rows i) (t.Rows.drop i)),[]):=by
 refine down _ ?_ ?_
 .refine Z9e ?_;rw[if_neg (by omega)];simp[adjL]
 .intro i hi ih;have hr:=h.2 _ (Ya hi);refine Z9e ?_;rw[Zsl _ hi,if_pos (by omega),Ye hi,Y3,wS hi h.1];refine⟨by omega,_,gE hi,_,Zbqd _ _ hr,?_⟩;rcases tf (rwB t.Arity t.Rows[i])with e|e
  .rw[e];simp
  rw[e,if_pos rfl];by_cases h0:0<i
  .have hp:i-1<t.Rows.length:=by omega
   rw[if_pos (by omega),wP h0 hi h.1,Zis h0 hp];refine⟨by omega,_,gE hp,_,Zir _ _ (h.2 _ (Ya hp)) hr,?_⟩;unfold nxt ltR at *
   by_cases e:0<=cmpR t.Rows[i-1] t.Rows[i]
   .rw[if_pos e];simp[show ¬cmpR t.Rows[i-1] t.Rows[i]<0 by omega]
   .rw[if_neg e,ih];simp[show cmpR t.Rows[i-1] t.Rows[i]<0 by omega]
  .have:i=0:=by omega
   subst this;rw[if_neg (by omega),ih];simp[pvA,nxt]
@[simp] theorem Zyy(t:Zc)(h:LeT t):Zg3 t=some (Bo (Zbn t),[]):=by
 refine Zboo ⟨_,Zbak _,?_⟩;unfold Zbn;rcases tf (nmOk t.Name)with e1|e1
 .rw[e1];simp
 rw[e1,if_pos rfl];refine⟨_,Zbt _ _ _,?_⟩;rcases tf (inR t.Arity 1 3)with e2|e2
 .rw[e2];simp
 rw[e2,if_pos rfl];by_cases e3:8<(t.Rows.length:Int)
 .rw[if_pos e3];simp[show ¬(t.Rows.length:Int)<=8 by omega]
 .rw[if_neg e3];have:=Zbqk t h 0 (Yb _);refine Yd this ?_;simp[show(t.Rows.length:Int)<=8 by omega,pvA]
def ltN(a b:Zc):Bool:=Op.bytesLess a.Name.toList b.Name.toList
abbrev LeD(d:Zh):Prop:=Le d.Tables/\∀t∈d.Tables,LeT t
def Zb0(d:Zh):Bool:=d.Tables.all Zbn && adjL ltN none d.Tables && decide ((d.Tables.length:Int)<=6)
theorem Zbql(d:Zh)(h:LeD d):∀i,i<=d.Tables.length->Zjl d d.Tables d.Tables.length i=some (Bo ((d.Tables.drop i).all Zbn && adjL ltN (pvA d.Tables i) (d.Tables.drop i) && decide ((d.Tables.length:Int)<=6)),[]):=by
 refine down _ ?_ ?_
 .refine Z76 ?_;rw[if_neg (by omega)];simp[adjL]
 .intro i hi ih;refine Z76 ?_;rw[Zsl _ hi,if_pos (by omega),Ye hi,Y3,wS hi h.1];refine⟨by omega,_,gE hi,_,Zyx _ (h.2 _ (Ya hi)),?_⟩;rcases tf (Zbn d.Tables[i])with e|e
  .rw[e];simp
  rw[e,if_pos rfl];by_cases h0:0<i
  .have hp:i-1<d.Tables.length:=by omega
   rw[if_pos (by omega),wP h0 hi h.1,Zis h0 hp];refine⟨by omega,_,gE hp,?_⟩;unfold nxt ltN at *
   rcases tf (Op.bytesLess d.Tables[i-1].Name.toList d.Tables[i].Name.toList)with e|e
   .rw[e];simp[e]
   .rw[e,if_pos rfl,ih];simp[e]
  .have:i=0:=by omega
   subst this;rw[if_neg (by omega),ih];simp[pvA,nxt]
@[simp] theorem Zbaq(d:Zh)(h:LeD d):Zhr d=some (Bo (Zb0 d),[]):=by
 refine Zbmv ?_;have:=Zbql d h 0 (Yb _);refine Yd this ?_;unfold Zb0;simp[pvA]
theorem Zbqm(d:Zh)(h:LeD d):∀i,i<=d.Tables.length->Zj9 d i=some (Bo ((d.Tables.drop i).all Zbn && adjL ltN (pvA d.Tables i) (d.Tables.drop i) && decide ((d.Tables.length:Int)<=6)),[]):=by
 refine down _ ?_ ?_
 .refine Z9f ?_;rw[if_neg (by omega)];simp[adjL]
 .intro i hi ih;refine Z9f ?_;rw[Zsl _ hi,if_pos (by omega),Ye hi,Y3,wS hi h.1];refine⟨by omega,_,gE hi,_,Zyy _ (h.2 _ (Ya hi)),?_⟩;rcases tf (Zbn d.Tables[i])with e|e
  .rw[e];simp
  rw[e,if_pos rfl];by_cases h0:0<i
  .have hp:i-1<d.Tables.length:=by omega
   rw[if_pos (by omega),wP h0 hi h.1,Zis h0 hp];refine⟨by omega,_,gE hp,?_⟩;unfold nxt ltN at *
   rcases tf (Op.bytesLess d.Tables[i-1].Name.toList d.Tables[i].Name.toList)with e|e
   .rw[e];simp[e]
   .rw[e,if_pos rfl,ih];simp[e]
  .have:i=0:=by omega
   subst this;rw[if_neg (by omega),ih];simp[pvA,nxt]
@[simp] theorem Zbar(d:Zh)(h:LeD d):Zj8 d=some (Bo (Zb0 d),[]):=by
 refine Zbop ?_;have:=Zbqm d h 0 (Yb _);refine Yd this ?_;unfold Zb0;simp[pvA]
def Zbr(d:Zh)(n:ByteArray):Option Zc:=if Zb0 d=true then d.Tables.find? (λt=>decide (t.Name=n))else none
theorem Zbqn(xs:List (List Int))(hx:Le xs)(hr:∀r∈xs,r.length<=4)(hl:xs.length<=1000000):∀i,i<=xs.length->Zjk (xs.take i) xs xs.length i=some (.own 0,[.arr 99 1 true (xs.map isc)]):=by
 refine down _ ?_ ?_
 .refine Zsg ?_;rw[if_neg (by omega),Yo]
 .intro i hi ih;refine Zsg ?_;rw[if_pos (by omega),wS hi hx];have:=hr _ (Ya hi);refine⟨by omega,_,gE hi,_,Zk6 _ (by omega),by rw[Ybb];omega,?_⟩;rw[Yx hi]at ih;exact ih
theorem Zbas(xs:List (List Int))(hr:∀r∈xs,r.length<=4)(hl:xs.length<=1000000):Zgr xs=some (.own 0,[.arr 99 1 true (xs.map isc)]) :=
 Z7w (by simpa using Zbqn xs (by omega) hr hl 0 (Yb _))
theorem Zbat{α:Type}(p:α->Bool):∀(xs:List α) (i:Nat),match xs.find? p with
  |none=>Zck p xs i=-1
  |some x=>∃j,Zck p xs i=((i+j:Nat):Int)/\xs[j]?=some x
 |[],i=>by simp[Zck]
 |x::xs,i=>by
  unfold Zck;rw[List.find?_cons];rcases tf (p x)with e|e
  .rw[e,if_neg (by simp)];have:=Zbat p xs (i+1);revert this;simp only
   cases xs.find? p with
   |none=>exact id
   |some y=>rintro⟨j,h1,h2⟩;exact⟨j+1,by rw[h1];congr 1;omega,by simpa using h2⟩
  .rw[e,if_pos rfl];exact⟨0,rfl,rfl⟩
theorem l_idxT(s:List Zc)(n:ByteArray)(hs:Le s):∀i,i<=s.length->Zmq s n s.length i=some (I (Zck (λt=>decide (t.Name=n)) (s.drop i) i),[]):=by
 refine down _ ?_ ?_
 .refine Z8g ?_;rw[if_neg (by omega)];simp[Zck]
 .intro i hi ih;refine Z8g ?_;rw[if_pos (by omega),Z27 _ hi,wS hi hs];refine⟨by omega,_,gE hi,_,Zbm9 rfl,?_⟩;split
  .rfl
  .exact ih
def lookR(o:Option Zc):AV×List Blk:=match o with
 |none=>(.tup [.agg [.t (.str ⟨#[]⟩),I 0,.t .nil],Bo false],[])
 |some t=>(.tup [.agg [.t (.str t.Name),I t.Arity,.own 0],Bo true],[.arr 99 1 true (t.Rows.map isc)])
theorem Zfm{d:Zh}(hv:Zb0 d=true){t:Zc}(ht:t∈d.Tables):Zbn t=true:=by
 unfold Zb0 at hv;simp only[Yf]at hv;exact Ys.1 hv.1.1 t ht
theorem Zsm{t:Zc}(h:Zbn t=true):t.Rows.length<=8:=by
 unfold Zbn at h;simp only[Yf,decide_eq_true_eq]at h;omega
theorem Zbau{t:Zc}(h:Zbn t=true):∀r∈t.Rows,r.length<=3:=by
 intro r hr;unfold Zbn at h;simp only[Yf]at h;have h1:=Ys.1 h.2.1 r hr;have h2:=h.1.1.2;unfold rwB at h1;simp only[inR,Yf,decide_eq_true_eq]at h1 h2;omega
theorem Zbav{d:Zh}{n:ByteArray}{t:Zc}(h:Zbr d n=some t):Zb0 d=true/\t∈d.Tables/\t.Name=n:=by
 unfold Zbr at h;split at h
 .rename_i hv;exact⟨hv,List.mem_of_find?_eq_some h,by simpa using List.find?_some h⟩
 .cases h
theorem Zk7(d:Zh)(h:LeD d)(n:ByteArray):Zb4 d n=some (lookR (Zbr d n)):=by
 have hi:=Zbna (by simpa using l_idxT d.Tables n h.1 0 (Yb _));have hf:=Zbat (λt:Zc=>decide (t.Name=n)) d.Tables 0;refine Zbnb ⟨_,hi,?_⟩;unfold Zbr
 cases hq:d.Tables.find? (λt=>decide (t.Name=n))with
 |none =>
  rw[hq]at hf;simp only at hf;rw[hf,if_pos (by omega)]
  split<;>rfl
 |some t =>
  rw[hq]at hf;obtain⟨j,h1,h2⟩:=hf;rw[Yj]at h1;rw[h1,if_neg (by omega)];refine⟨_,Zbaq d h,?_⟩;rcases tf (Zb0 d)with e|e
  .rw[e];rfl
  .rw[e,if_pos rfl,if_pos rfl];have hm:=Y6 h2;have hT:=h.2 t hm;have h8:=Zsm (Zfm e hm);refine⟨by omega,t,by rw[Yt];exact h2,_,_,_,Z7x ⟨_,Zbas t.Rows (λr hr=>by have:=Zbau (Zfm e hm) r hr;omega) (by omega),rfl⟩,rfl⟩
theorem Zbqo(t:Zc)(h:LeT t)(h8:t.Rows.length<=8)(h3:∀r∈t.Rows,r.length<=3)(a a':ByteArray)(b b':Int):∀i,i<=t.Rows.length->Zh4 t a b a' b' (t.Rows.take i) i=some (.agg [.t (.str a'),I b',.own 0],[.arr 99 1 true (t.Rows.map isc)]):=by
 refine down _ ?_ ?_
 .refine Zsi ?_;rw[if_neg (by omega),Yo]
 .intro i hi ih;refine Zsi ?_;rw[if_pos (by omega),wS hi h.1];have:=h3 _ (Ya hi);rw[Yx hi]at ih;exact⟨by omega,_,gE hi,by omega,by rw[Ybb];omega,ih⟩
theorem Zbqp(t:Zc)(h:LeT t)(h8:t.Rows.length<=8)(h3:∀r∈t.Rows,r.length<=3):Zee t=some (if t.Rows=[]then(.agg [.t (.str t.Name),I t.Arity,.t .nil],[])else(.agg [.t (.str t.Name),I t.Arity,.own 0],[.arr 99 1 true (t.Rows.map isc)])):=by
 refine Z85 ?_;refine Z83 ?_;by_cases e:t.Rows=[]
 .rw[if_neg (by rw[e];simp),if_pos e]
 .have h0:0<t.Rows.length:=Ybf.2 e;have:=h3 _ (Ya h0);rw[if_pos (by omega),if_neg e];refine⟨by omega,_,gE h0,by omega,?_⟩;have:=Zbqo t h h8 h3 ⟨#[]⟩ t.Name 0 t.Arity 1 (by omega);rw[Yx h0]at this;rw[show w (0+1)=1 from by decide];simpa using this
def Zf3(o:Option Zc):AV×List Blk:=match o with
 |none=>(.tup [.agg [.t (.str ⟨#[]⟩),I 0,.t .nil],Bo false],[])
 |some t=>if t.Rows=[]then(.tup [.agg [.t (.str t.Name),I t.Arity,.t .nil],Bo true],[])else(.tup [.agg [.t (.str t.Name),I t.Arity,.own 0],Bo true],[.arr 99 1 true (t.Rows.map isc)])
theorem Zbqq(d:Zh)(h:LeD d)(n:ByteArray):∀i,i<=d.Tables.length->Znw d ⟨#[]⟩ 0 n i=some (Zf3 (if Zb0 d=true then(d.Tables.drop i).find? (λt=>decide (t.Name=n))else none)):=by
 refine down _ ?_ ?_
 .refine Z9p ?_;rw[if_neg (by omega),Ym];split<;>rfl
 .intro i hi ih;refine Z9p ?_;rw[if_pos (by omega),wS hi h.1];refine⟨_,Zbar d h,?_⟩;rcases tf (Zb0 d)with e|e
  .rw[e];rfl
  rw[e,if_pos rfl]at ih|-;rw[if_pos rfl,Ye hi,List.find?_cons];have hm:=Ya hi;refine⟨by omega,_,gE hi,?_⟩;by_cases e2:d.Tables[i].Name=n
  .rw[if_pos e2];have hc:=Zbqp _ (h.2 _ hm) (Zsm (Zfm e hm)) (Zbau (Zfm e hm));simp only[e2,decide_true,Zf3];by_cases e3:d.Tables[i].Rows=[]
   .rw[if_pos e3]at hc|-;exact .inl ⟨_,_,hc,by rw[e2]⟩
   .rw[if_neg e3]at hc|-;exact .inr ⟨_,_,_,hc,by rw[e2]⟩
  .rw[if_neg e2,ih];simp only[e2,decide_false]
theorem Zk8(d:Zh)(h:LeD d)(n:ByteArray):Zb5 d n=some (Zf3 (Zbr d n)) :=
 Zbo2 (by simpa[Zbr]using Zbqq d h n 0 (Yb _))
end Go.Proofs.YtooakifnnhhnhaaGreat
namespace Go.Proofs.YtooakifnnhhnhaaGreat
theorem Zdm:∀a b:List Int,cmpR b a=- cmpR a b
 |[],[]=>rfl
 |[],_::_=>rfl
 |_::_,[]=>rfl
 |x::a,y::b=>by
  have ih:=Zdm a b;simp only[cmpR];by_cases h1:x<y
  .rw[if_neg (by omega),if_pos h1,if_pos h1];rfl
  .by_cases h2:y<x
   .rw[if_pos h2,if_neg h1,if_pos h2]
   .rw[if_neg h2,if_neg h1,if_neg h1,if_neg h2];exact ih
theorem Zev:∀a b:List Int,cmpR a b=0->a=b
 |[],[],_=>rfl
 |[],_::_,h=>by simp[cmpR]at h
 |_::_,[],h=>by simp[cmpR]at h
 |x::a,y::b,h=>by
  simp only[cmpR]at h;by_cases h1:x<y
  .rw[if_pos h1]at h;cases h
  .rw[if_neg h1]at h;by_cases h2:y<x
   .rw[if_pos h2]at h;cases h
   .rw[if_neg h2]at h;rw[Zev a b h,show x=y by omega]
theorem Zg5(a:List Int):cmpR a a=0:=by have:=Zdm a a;omega
theorem Zk9:∀a b c:List Int,cmpR a b<=0->cmpR b c<=0->cmpR a c<=0
 |[],_,[],_,_=>by simp[cmpR]
 |[],_,_::_,_,_=>by simp[cmpR]
 |_::_,[],_,h,_=>by simp[cmpR]at h
 |_::_,_::_,[],_,h=>by simp[cmpR]at h
 |x::a,y::b,z::c,h1,h2=>by
  simp only[cmpR]at h1 h2|-;by_cases e1:x<y
  .by_cases e2:y<z
   .rw[if_pos (by omega)];decide
   .rw[if_neg e2]at h2;by_cases e3:z<y
    .rw[if_pos e3]at h2;exact absurd h2 (by decide)
    .rw[if_pos (by omega)];decide
  .rw[if_neg e1]at h1;by_cases e2:y<x
   .rw[if_pos e2]at h1;exact absurd h1 (by decide)
   .rw[if_neg e2]at h1
    have:x=y:=by omega
    subst this;by_cases e3:x<z
    .rw[if_pos e3];decide
    .rw[if_neg e3]at h2|-;by_cases e4:z<x
     .rw[if_pos e4]at h2;exact absurd h2 (by decide)
     .rw[if_neg e4]at h2|-;exact Zk9 a b c h1 h2
theorem Zbqr(a b c:List Int)(h1:leR a b=true)(h2:leR b c=true):leR a c=true:=by
 unfold leR at *
 simp only[decide_eq_true_eq]at *
 exact Zk9 a b c h1 h2
theorem Zbqs(a b:List Int):(leR a b || leR b a)=true:=by
 unfold leR;have:=Zdm a b;simp only[Bool.or_eq_true,decide_eq_true_eq];omega
theorem leR_anti(a b:List Int)(h1:leR a b=true)(h2:leR b a=true):a=b:=by
 unfold leR at *
 simp only[decide_eq_true_eq]at *
 have:=Zdm a b;exact Zev a b (by omega)
theorem Zop(rows:List (List Int)):(srtR rows).Perm rows:=List.mergeSort_perm _ _
theorem Zbaw(rows:List (List Int)):(srtR rows).Pairwise λa b=>leR a b=true:=List.pairwise_mergeSort Zbqr Zbqs rows
theorem Zbqt{rows l:List (List Int)}(hp:l.Perm rows)(hs:l.Pairwise λa b=>leR a b=true):l=srtR rows :=
 List.Perm.eq_of_pairwise (λa b _ _=>leR_anti a b) hs (Zbaw rows) (hp.trans (Zop rows).symm)
theorem Zyz:∀(l:List (List Int)) (y:List Int),y∈cptR l↔y∈l
 |[],y=>by simp[cptR]
 |[a],y=>by simp[cptR]
 |a::b::l,y=>by
  unfold cptR;have ih:=Zyz (b::l) y;split
  .rename_i e;subst e;rw[ih];simp
  .rw[List.mem_cons,ih];simp
theorem Zbax:∀l:List (List Int),(cptR l).length<=l.length
 |[]=>Nat.le_refl _
 |[a]=>Nat.le_refl _
 |a::b::l=>by
  unfold cptR;have:=Zbax (b::l);split
  .exact Nat.le_trans this (Nat.le_succ _)
  .exact Nat.succ_le_succ this
end Go.Proofs.YtooakifnnhhnhaaGreat
namespace Go.Proofs.YtooakifnnhhnhaaGreat
open Go.RowKit Go.Lib
theorem Zbay(x:Int)(w:World):Calls Tryz.prog 332 #[.int .i64 x] w λe w'=>e=.returned (.bool false)/\w'=w:=by
 go_enter Tryz.func332,Tryz.ntmps332
 go_wp2
 go_ret
 exact⟨by simp,rfl⟩
def c3(x y:Int):Int:=if x<y then -1 else if y<x then 1 else 0
theorem cmp_walk(x y:Int)(w:World):Calls Tryz.prog 318 #[.int .i64 x,.int .i64 y] w λe w'=>e=.returned (.int .i64 (c3 x y))/\w'=w:=by
 have h1:=Zbay x w;have h2:=Zbay y w;by_cases e1:x<y
 .go_enter Tryz.func318,Tryz.ntmps318
  go_wp2_with (first|(refine h1.mono ?_;rintro e w' ⟨rfl,rfl⟩)|(refine h2.mono ?_;rintro e w' ⟨rfl,rfl⟩))
  go_ret
  exact⟨by simp[c3,e1],rfl⟩
 .by_cases e2:y<x
  .go_enter Tryz.func318,Tryz.ntmps318
   go_wp2_with (first|(refine h1.mono ?_;rintro e w' ⟨rfl,rfl⟩)|(refine h2.mono ?_;rintro e w' ⟨rfl,rfl⟩))
   go_ret
   exact⟨by simp[c3,e1,e2],rfl⟩
  .have hc:c3 x y=0:=by unfold c3;rw[if_neg e1,if_neg e2]
   rw[hc];clear hc
   go_enter Tryz.func318,Tryz.ntmps318
   go_wp2_with (first|(refine h1.mono ?_;rintro e w' ⟨rfl,rfl⟩)|(refine h2.mono ?_;rintro e w' ⟨rfl,rfl⟩))
   go_ret
   exact⟨rfl,rfl⟩
def Zf4(w:World)(v:Value)(r:List Int):Prop:=∃a c,v=.slice a r.length c/\∀j (h:j<r.length),∃g off,a=some ⟨g,off,none⟩/\w.cell? ⟨g,off+j,none⟩=some (.int .i64 r[j])
theorem Zbqu{a b:List Int}{k:Nat}(h1:k<a.length)(h2:k<b.length):cmpR (a.drop k) (b.drop k)=if c3 a[k] b[k]=0 then cmpR (a.drop (k+1)) (b.drop (k+1))else c3 a[k] b[k]:=by
 rw[List.drop_eq_getElem_cons h1,List.drop_eq_getElem_cons h2]
 conv=>lhs;unfold cmpR
 unfold c3;by_cases e1:a[k]<b[k]
 .simp[e1]
 .rw[if_neg e1,if_neg e1];by_cases e2:b[k]<a[k]
  .simp[e2]
  .simp[e2]
theorem Zbqv(v1 v2:Value)(a b:List Int)(w:World)(h1:Zf4 w v1 a)(h2:Zf4 w v2 b)(c:a.length<2305843009213693952)(cc:b.length<2305843009213693952) :
  Calls Tryz.prog 296 #[v1,v2] w λe w'=>e=.returned (.int .i64 (cmpR a b))/\w'=w:=by
 obtain⟨p1,c1,rfl,r1⟩:=h1;obtain⟨p2,c2,rfl,r2⟩:=h2;have mixed:Tryz.prog.follows Departure.mixedOrders=true:=by kernel_rfl
 have hc:=λx y=>cmp_walk x y w
 generalize hR:cmpR a b=R;have HR:Aside (cmpR (a.drop 0) (b.drop 0)=R):=hR;clear hR
 go_enter Tryz.func296,Tryz.ntmps296
 go_wp2
 go_loopg [5,6,7,8,11] a.length (λgg _ _ _ _ s11 wr=>∃kk:Nat,kk<=a.length/\a.length-kk<=gg/\s11=.int .i64 kk/\wr=w/\Aside (kk<=b.length)/\Aside (cmpR (a.drop kk) (b.drop kk)=R))
 case atStart=>exact⟨0,Nat.zero_le _,by omega,rfl,rfl,Nat.zero_le _,HR⟩
 case round =>
  obtain⟨kk,hkk,hg,rfl,rfl,A,B⟩:=hrel;by_cases hlt:kk<a.length
  .have hltz:(kk:Int)<(a.length:Int):=by omega
   obtain⟨g1,o1,rfl,d1⟩:=r1 kk hlt;by_cases hlb:kk<b.length
   .have hltb:¬(b.length:Int)<=(kk:Int):=by omega
    obtain⟨g2,o2,rfl,d2⟩:=r2 kk hlb;have hs:=Zbqu hlt hlb;have hcall:=hc a[kk] b[kk];have S:Aside (cmpR (a.drop kk) (b.drop kk)=if c3 a[kk] b[kk]=0 then cmpR (a.drop (kk+1)) (b.drop (kk+1))else c3 a[kk] b[kk]):=hs;clear hs hc r1 r2;generalize c3 a[kk] b[kk]=z at hcall S;generalize a[kk]=x at hcall d1;generalize b[kk]=y at hcall d2;by_cases hz:z=0
    .subst hz
     go_wp2_with (refine hcall.mono ?_;rintro e w' ⟨rfl,rfl⟩)
     go_roundg (a.length-(kk+1))
     case measure=>omega
     case rel =>
      refine⟨kk+1,by omega,by omega,by go_num,rfl,(show Aside _ from by show kk+1<=b.length;omega),(show Aside _ from ?_)⟩;have:=S.out;rw[B.out]at this;show cmpR (a.drop (kk+1)) (b.drop (kk+1))=R;simpa using this.symm
    .have hr:R=z:=by rw[<-B.out,S.out,if_neg hz]
     go_wp2_with (refine hcall.mono ?_;rintro e w' ⟨rfl,rfl⟩)
     go_ret
     exact⟨by subst hr;rfl,rfl⟩
   .have hltb:(b.length:Int)<=(kk:Int):=by omega
    have hr:R=1:=by
     rw[<-B.out,List.drop_eq_getElem_cons hlt,show b.drop kk=[]from List.drop_of_length_le (by omega)];rfl
    clear hc r2
    go_wp2
    go_ret
    exact⟨by subst hr;rfl,rfl⟩
  .have hltz:¬(kk:Int)<(a.length:Int):=by omega
   have he:kk=a.length:=by omega
   have hA:=A.out;by_cases hlb:(a.length:Int)<(b.length:Int)
   .have hr:R=-1:=by
     rw[<-B.out,he,List.drop_length,List.drop_eq_getElem_cons (l:=b) (i:=a.length) (by omega)];rfl
    clear hc r1 r2
    go_wp2
    go_ret
    exact⟨by subst hr;rfl,rfl⟩
   .have hr:R=0:=by
     rw[<-B.out,he,List.drop_length,show b.drop a.length=[]from List.drop_of_length_le (by omega)];rfl
    clear hc r1 r2
    go_wp2
    go_ret
    exact⟨by subst hr;rfl,rfl⟩
theorem Zbqw(v1 v2:Value)(a b:List Int)(w:World)(h1:Zf4 w v1 a)(h2:Zf4 w v2 b)(c:a.length<2305843009213693952)(cc:b.length<2305843009213693952) :
  Calls Tryz.prog 270 #[v1,v2] w λe w'=>e=.returned (.int .i64 (cmpR a b))/\w'=w:=by
 have hc:=Zbqv v1 v2 a b w h1 h2 c cc;generalize cmpR a b=R at hc|-;obtain⟨p1,c1,rfl,r1⟩:=h1;obtain⟨p2,c2,rfl,r2⟩:=h2;clear r1 r2
 go_enter Tryz.func270,Tryz.ntmps270
 go_wp2_with (refine hc.mono ?_;rintro e w' ⟨rfl,rfl⟩)
 go_ret
 exact⟨rfl,rfl⟩
end Go.Proofs.YtooakifnnhhnhaaGreat
