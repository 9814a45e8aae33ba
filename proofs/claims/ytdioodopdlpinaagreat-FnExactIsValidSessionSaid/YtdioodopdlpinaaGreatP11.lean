/-
  Parts of the proofs for this seat: G12 G13 G14 G15 G16 G17 G18 G19 V1 V2 V3 V4 V5 V6 OP.
-/
import Derived.Test.YtdioodopdlpinaaGreatP7
import Derived.Test.YtdioodopdlpinaaGreatP10
set_option linter.unusedSimpArgs false
set_option linter.unusedVariables false
set_option maxRecDepth 100000
set_option maxHeartbeats 4000000
namespace Go.Proofs.YtdioodopdlpinaaGreat
open Go.AM
theorem Zdl:((((∀⦃cn n m r⦄,Im (Zlc cn n m=some r) (∃v,Zbb n 1 3=some (Bo v,[])/\(if v=true then(¬n<0/\(if m<(shlI 1 n)then(∃(v1:List Int),Zfl m=some (.own 0,[.arr 3 1 true (v1.map ic)])/\(cn.length+1<=68719476736/\(Zlc (cn++[v1]) n (w (m+1))=some r)))else(some (.own 0,[.arr 90 1 true (cn.map isc)])=some r)))else(some (.own 0,[.arr 90 1 true (cn.map isc)])=some r))))/\
 (∀⦃a r⦄,Im (Zxc a=some r) (Zlc ([]:List (List Int)) a 1=some r)))/\
 ((∀⦃t cc i r⦄,Im (Zob t cc i=some r) (if i<(cc.length:Int)then(0<=i/\(∃e1,cc[i.toNat]?=some e1/\(∃v1,Zbb e1 0 (w (t.Arity-1))=some (Bo v1,[])/\(if v1=true then(if 0<i then(0<=(w (i-1))/\(∃e3,cc[(w (i-1)).toNat]?=some e3/\(if e1<=e3 then(some (Bo false,[])=some r)else(Zob t cc (w (i+1))=some r))))else(Zob t cc (w (i+1))=some r))else(some (Bo false,[])=some r)))))else(∃v9,Zla t=some (Bo v9,[])/\(some (Bo v9,[])=some r))))/\
 (∀⦃a a1 r⦄,Im (Zoa a a1=some r) (Zob a a1 0=some r))))/\
 (((∀⦃cn cv cc i r⦄,Im (Zsp cn cv cc i=some r) (if i<(cc.length:Int)then(0<=i/\(∃e1,cc[i.toNat]?=some e1/\(∃v1,Zbb e1 0 (w ((cv.length:Int)-1))=some (Bo v1,[])/\(if v1=true then(0<=e1/\(∃e3,cv[e1.toNat]?=some e3/\(cn.length+1<=68719476736/\(Zsp (cn++[e3]) cv cc (w (i+1))=some r))))else(some (.tup [.own 0,Bo false],[.arr 3 1 true (([]:List Int).map ic)])=some r)))))else(some (.tup [.own 0,Bo true],[.arr 3 1 true (cn.map ic)])=some r)))/\
 (∀⦃a a1 r⦄,Im (Zjr a a1=some r) (Zsp ([]:List Int) a a1 0=some r)))/\
 ((∀⦃cn dd cv dp i r⦄,Im (Zib cn dd cv dp i=some r) (if i<(dd.length:Int)then(0<=i/\(∃e1,dd[i.toNat]?=some e1/\(∃v1,Ze2 e1 cv=some (I v1,[])/\(if v1=0 then(if 0<v1 then(e1.length<=68719476736/\(cn.length+1<=68719476736/\(Zib (cn++[e1]) dd cv true (w (i+1))=some r)))else(e1.length<=68719476736/\(cn.length+1<=68719476736/\(Zib (cn++[e1]) dd cv true (w (i+1))=some r))))else(if 0<v1 then(if dp=true then(e1.length<=68719476736/\(cn.length+1<=68719476736/\(Zib (cn++[e1]) dd cv true (w (i+1))=some r)))else(cv.length<=68719476736/\(cn.length+1<=68719476736/\(e1.length<=68719476736/\(cn.length+1+1<=68719476736/\(Zib ((cn++[cv])++[e1]) dd cv true (w (i+1))=some r))))))else(e1.length<=68719476736/\(cn.length+1<=68719476736/\(Zib (cn++[e1]) dd cv dp (w (i+1))=some r))))))))else(if dp=true then(some (.own 0,[.arr 90 1 true (cn.map isc)])=some r)else(cv.length<=68719476736/\(cn.length+1<=68719476736/\(some (.own 0,[.arr 90 1 true ((cn++[cv]).map isc)])=some r))))))/\
 ((∀⦃a a1 r⦄,Im (Zxd a a1=some r) (Zib ([]:List (List Int)) a a1 false 0=some r))/\
 (∀⦃t cd cl cc i r⦄,Im (Zsr t cd cl cc i=some r) (if i<(t.Rows.length:Int)then(0<=i/\(∃e1,t.Rows[i.toNat]?=some e1/\(∃(v1:List Int),∃v2,Zjr e1 cc=some (.tup [.own 0,Bo v2],[.arr 3 1 true (v1.map ic)])/\(∃(v4:List (List Int)),Zxd cd v1=some (.own 0,[.arr 90 1 true (v4.map isc)])/\(Zsr t v4 cl cc (w (i+1))=some r)))))else(Zoc t cd cl cc 0=some r)))))))/\
 ((((∀⦃t cd cl cc k r⦄,Im (Zoc t cd cl cc k=some r) (if k<(cd.length:Int)then(Zod t cd cl cc k 0 0=some r)else(some (.tup [.own 0,.own 1],[.arr 90 1 true (cd.map isc),.arr 3 1 true (cl.map ic)])=some r)))/\
 (∀⦃t cd cl cc k n i r⦄,Im (Zod t cd cl cc k n i=some r) (if i<(t.Rows.length:Int)then(0<=i/\(∃e1,t.Rows[i.toNat]?=some e1/\(∃(v1:List Int),∃v2,Zjr e1 cc=some (.tup [.own 0,Bo v2],[.arr 3 1 true (v1.map ic)])/\(0<=k/\(∃e3,cd[k.toNat]?=some e3/\(∃v9,Ze2 v1 e3=some (I v9,[])/\(if v9=0 then(Zod t cd cl cc k (w (n+1)) (w (i+1))=some r)else(Zod t cd cl cc k n (w (i+1))=some r))))))))else(cl.length+1<=68719476736/\(Zoc t cd (cl++[n]) cc (w (k+1))=some r)))))/\
 ((∀⦃a a1 r⦄,Im (Zsq a a1=some r) (∃v,Zoa a a1=some (Bo v,[])/\(if v=true then(Zsr a ([]:List (List Int)) ([]:List Int) a1 0=some r)else(some (.tup [.own 0,.own 1],[.arr 90 1 true (([]:List (List Int)).map isc),.arr 3 1 true (([]:List Int).map ic)])=some r))))/\
 (∀⦃t dn dl cz dc cy cp l i r⦄,Im (Z5j t dn dl cz dc cy cp l i=some r) (if i<(l.length:Int)then(0<=i/\(∃e1,l[i.toNat]?=some e1/\(∃(v1:List (List Int)) (v2:List Int),Zsq t e1=some (.tup [.own 0,.own 1],[.arr 90 1 true (v1.map isc),.arr 3 1 true (v2.map ic)])/\(Zss t dn dl cz dc cy cp false ([(⟨e1,v1,v2⟩:Zo)]) l (w (i+1))=some r))))else(some (.agg [.t (.str dc),I cy,I cp,.t .nil],[])=some r)))))/\
 (((∀⦃t dn dl cz dc cy cp fr x l i r⦄,Im (Zss t dn dl cz dc cy cp fr x l i=some r) (if i<(l.length:Int)then(0<=i/\(∃e1,l[i.toNat]?=some e1/\(∃(v1:List (List Int)) (v2:List Int),Zsq t e1=some (.tup [.own 0,.own 1],[.arr 90 1 true (v1.map isc),.arr 3 1 true (v2.map ic)])/\(x.length+1<=68719476736/\(Zss t dn dl cz dc cy cp false (x++[(⟨e1,v1,v2⟩:Zo)]) l (w (i+1))=some r)))))else(some (.agg [.t (.str dc),I cy,I cp,.own 0],[.arr 195 3 fr (x.map Zo.c)])=some r)))/\
 (∀⦃a r⦄,Im (Zld a=some r) (∃v,Zla a=some (Bo v,[])/\(if v=true then(∃(v1:List (List Int)),Zxc a.Arity=some (.own 0,[.arr 90 1 true (v1.map isc)])/\(Z5j a ⟨#[]⟩ 0 0 a.Name a.Arity (a.Rows.length:Int) v1 0=some r))else(some (.agg [.t (.str ⟨#[]⟩),I 0,I 0,.t .nil],[])=some r)))))/\
 ((∀⦃d cu co i r⦄,Im (Z5k d cu co i=some r) (if i<(d.Tables.length:Int)then(0<=i/\(∃e1,d.Tables[i.toNat]?=some e1/\((∃v1 v2 v3,Zld e1=some (.agg [.t (.str v1),I v2,I v3,.t .nil],[])/\(Zle d cu co true ([(⟨v1,v2,v3,[]⟩:Zk)]) (w (i+1))=some r))\/(∃v4,∃(v5:List Zo),∃v6,∃v7,∃v8,Zld e1=some (.agg [.t (.str v6),I v7,I v8,.own 0],[.arr 195 3 v4 (v5.map Zo.c)])/\(Zle d cu co v4 ([(⟨v6,v7,v8,v5⟩:Zk)]) (w (i+1))=some r)))))else(some (.tup [.agg [I co,.t .nil],Bo true],[])=some r)))/\
 ((∀⦃d cu co fr x i r⦄,Im (Zle d cu co fr x i=some r) (if i<(d.Tables.length:Int)then(0<=i/\(∃e1,d.Tables[i.toNat]?=some e1/\((∃v1 v2 v3,Zld e1=some (.agg [.t (.str v1),I v2,I v3,.t .nil],[])/\(x.length+1<=68719476736/\(Zle d cu co fr (x++[(⟨v1,v2,v3,[]⟩:Zk)]) (w (i+1))=some r)))\/(∃v4,∃(v5:List Zo),∃v6,∃v7,∃v8,Zld e1=some (.agg [.t (.str v6),I v7,I v8,.own 0],[.arr 195 3 v4 (v5.map Zo.c)])/\(x.length+1<=68719476736/\(Zle d cu co (fr && v4) (x++[(⟨v6,v7,v8,v5⟩:Zk)]) (w (i+1))=some r))))))else(some (.tup [.agg [I co,.own 0],Bo true],[.arr 143 4 fr (x.map Zk.c)])=some r)))/\
 (∀⦃a a1 r⦄,Im (Zoe a a1=some r) (∃v,Zlb a=some (Bo v,[])/\(if v=true then(∃v1,Zbb a1 1 999=some (Bo v1,[])/\(if v1=true then(Z5k a 0 a1 0=some r)else(some (.tup [.agg [I 0,.t .nil],Bo false],[])=some r)))else(some (.tup [.agg [I 0,.t .nil],Bo false],[])=some r)))))))):=by
 and_intros
 all_goals intros
 all_goals unfold Im
 all_goals try simp only[Zlc,Zxc,Zob,Zoa,Zsp,Zjr,Zib,Zxd,Zsr,Zoc,Zod,Zsq,Z5j,Zss,Zld,Z5k,Zle,Zoe,Zbb,Zfl,Zla,Zh.c_def,Ze2,Zlb,Zm.c_def,mpl,dfs]
 all_goals try simp only[itb]
 all_goals try simp only[itf,gS,kk]
 all_goals repeat' first|refine exI λ_=>?_|refine anJ λ_ _=>?_|refine anI λ_=>?_|refine orE2 ?_ ?_|exact False.elim
 all_goals (intro h;first|rw[Zi Z47.eq_1]|refine run Zbz3 rfl ?_|rw[Zi Zsn.eq_1]|refine run Zbii rfl ?_|rw[Zi Z5a.eq_1]|refine run Zbz4 rfl ?_|rw[Zi Z5c.eq_1]|refine run Zbz5 rfl ?_|rw[Zi Z5e.eq_1]|rw[Zi Zxe.eq_1]|rw[Zi Z5f.eq_1]|refine run Zbz6 rfl ?_|rw[Zi Zxg.eq_1]|refine run Zbz7 rfl ?_|rw[Zi Zxi.eq_1]|refine run Zbz8 rfl ?_)
 all_goals (refine Yb ?_ h;clear h;simp +decide[*,kk,tI,tII,Z48,Zbf1,Zso,Z49,Z5b,Zbf2,Zbf3,Zbf4,Zbf5,Z5d,Zbf6,Z5i,Zxf,Zbf7,Z5h,Z5g,Zbf8,Zxh,Zbf9,Zxj,Zbga])
abbrev Zbkm:=Zdl.1.1.1.1
abbrev Zb43:=Zdl.1.1.1.2
abbrev Zbkn:=Zdl.1.1.2.1
abbrev Zb44:=Zdl.1.1.2.2
abbrev Zbko:=Zdl.1.2.1.1
abbrev Zb45:=Zdl.1.2.1.2
abbrev Zbkp:=Zdl.1.2.2.1
abbrev Zb46:=Zdl.1.2.2.2.1
abbrev Zbkq:=Zdl.1.2.2.2.2
abbrev Zbkr:=Zdl.2.1.1.1
abbrev Zbks:=Zdl.2.1.1.2
abbrev Zb47:=Zdl.2.1.2.1
abbrev Zb48:=Zdl.2.1.2.2
abbrev Zbkt:=Zdl.2.2.1.1
abbrev Zb49:=Zdl.2.2.1.2
abbrev Zb5a:=Zdl.2.2.2.1
abbrev Zbku:=Zdl.2.2.2.2.1
abbrev Zb5b:=Zdl.2.2.2.2.2
theorem Zik:(((∀⦃cl b i r⦄,Im (Z5m cl b i=some r) (if i<0 then False else(some (Bo true,[])=some r)))/\
 (∀⦃cl a r⦄,Im (Zsv cl a=some r) (if cl=a.Version then(if 0=(a.Tables.length:Int)then(Z5m cl a 0=some r)else(some (Bo false,[])=some r))else(some (Bo false,[])=some r))))/\
 ((∀⦃t cc c cn cd i r⦄,Im (Z5n t cc c cn cd i=some r) (if i<(t.Rows.length:Int)then(0<=i/\(∃e1,t.Rows[i.toNat]?=some e1/\(e1.length<=68719476736/\(Zsx t cc c cn cd ([e1]) (w (i+1))=some r))))else(some (.agg [.t (.str cn),I cd,.t .nil],[])=some r)))/\
 (∀⦃t cc c cn cd x i r⦄,Im (Zsx t cc c cn cd x i=some r) (if i<(t.Rows.length:Int)then(0<=i/\(∃e1,t.Rows[i.toNat]?=some e1/\(e1.length<=68719476736/\(x.length+1<=68719476736/\(Zsx t cc c cn cd (x++[e1]) (w (i+1))=some r)))))else(some (.agg [.t (.str cn),I cd,.own 0],[.arr 90 1 true (x.map isc)])=some r)))))/\
 (((∀⦃a r⦄,Im (Zsw a=some r) (Z5n a ⟨#[]⟩ 0 a.Name a.Arity 0=some r))/\
 (∀⦃d cc c co i r⦄,Im (Zsy d cc c co i=some r) (if i<(d.Tables.length:Int)then(∃v,Zlb d=some (Bo v,[])/\(if v=true then(0<=i/\(∃e2,d.Tables[i.toNat]?=some e2/\(if e2.Name=co then((∃v2 v3,Zsw e2=some (.agg [.t (.str v2),I v3,.t .nil],[])/\(some (.tup [.agg [.t (.str v2),I v3,.t .nil],Bo true],[])=some r))\/(∃(v4:List (List Int)),∃v5,∃v6,Zsw e2=some (.agg [.t (.str v5),I v6,.own 0],[.arr 90 1 true (v4.map isc)])/\(some (.tup [.agg [.t (.str v5),I v6,.own 0],Bo true],[.arr 90 1 true (v4.map isc)])=some r)))else(Zsy d cc c co (w (i+1))=some r))))else(some (.tup [.agg [.t (.str ⟨#[]⟩),I 0,.t .nil],Bo false],[])=some r)))else(some (.tup [.agg [.t (.str ⟨#[]⟩),I 0,.t .nil],Bo false],[])=some r))))/\
 ((∀⦃a a1 r⦄,Im (Zcy a a1=some r) (Zsy a ⟨#[]⟩ 0 a1 0=some r))/\
 ((∀⦃cc c i r⦄,Im (Z5q cc c i=some r) (if i<0 then False else(some (Bo true,[])=some r)))/\
 (∀⦃cc c r⦄,Im (Zsz cc c=some r) (∃v,Zia cc=some (Bo v,[])/\(if v=true then(∃v1,Zbb c 1 3=some (Bo v1,[])/\(if v1=true then(Z5q cc c 0=some r)else(some (Bo false,[])=some r)))else(some (Bo false,[])=some r))))))):=by
 and_intros
 all_goals intros
 all_goals unfold Im
 all_goals try simp only[Z5m,Zsv,Z5n,Zsx,Zsw,Zsy,Zcy,Z5q,Zsz,Zlb,Zm.c_def,Zh.c_def,Zia,Zbb,mpl,dfs]
 all_goals try simp only[itb]
 all_goals try simp only[itf,gS,kk]
 all_goals repeat' first|refine exI λ_=>?_|refine anJ λ_ _=>?_|refine anI λ_=>?_|refine orE2 ?_ ?_|exact False.elim
 all_goals (intro h;first|rw[Zi Zst.eq_1]|refine run Zbij rfl ?_|rw[Zi Zxk.eq_1]|refine run Zbz9 rfl ?_|rw[Zi Z5o.eq_1]|refine run Zb0a rfl ?_|rw[Zi Zsl.eq_1]|refine run Zbih rfl ?_)
 all_goals (refine Yb ?_ h;clear h;simp +decide[*,kk,tI,tII,Zsu,Z5l,Zxl,Zbgb,Z5p,Zbgc,Zsm,Z42])
abbrev Zb5c:=Zik.1.1.1
abbrev Zb5d:=Zik.1.1.2
abbrev Zb5e:=Zik.1.2.1
abbrev Zbkv:=Zik.1.2.2
abbrev Zb5f:=Zik.2.1.1
abbrev Zbkw:=Zik.2.1.2
abbrev Zb5g:=Zik.2.2.1
abbrev Zb5h:=Zik.2.2.2.1
abbrev Zb5i:=Zik.2.2.2.2
theorem Zgx:(((∀⦃cc c cd i r⦄,Im (Zof cc c cd i=some r) (if i<(cd.length:Int)then(0<=i/\(∃e1,cd[i.toNat]?=some e1/\(∃v3,Zbb e1 0 (w (c-1))=some (Bo v3,[])/\(if v3=true then(if 0<i then(0<=(w (i-1))/\(∃e3,cd[(w (i-1)).toNat]?=some e3/\(if e1<=e3 then(some (Bo false,[])=some r)else(Zof cc c cd (w (i+1))=some r))))else(Zof cc c cd (w (i+1))=some r))else(some (Bo false,[])=some r)))))else(∃v8,Zsz cc c=some (Bo v8,[])/\(some (Bo v8,[])=some r))))/\
 (∀⦃cc c a r⦄,Im (Zxm cc c a=some r) (Zof cc c a 0=some r)))/\
 ((∀⦃l x i r⦄,Im (Zs0 l x i=some r) (if i<(l.length:Int)then(0<=i/\(∃e1,l[i.toNat]?=some e1/\(if e1=x then(some (Bo true,[])=some r)else(Zs0 l x (w (i+1))=some r))))else(some (Bo false,[])=some r)))/\
 ((∀⦃a a1 r⦄,Im (Zic a a1=some r) (Zs0 a a1 0=some r))/\
 (∀⦃a a1 r⦄,Im (Zog a a1=some r) ((∃v v1 v2,Zcy a a1.Name=some (.tup [.agg [.t (.str v),I v1,.t .nil],Bo v2],[])/\(if v2=true then(∃v3,Zxm v v1 a1.From=some (Bo v3,[])/\(if v3=true then(∃v6,Zbb a1.To 0 (w (v1-1))=some (Bo v6,[])/\(if v6=true then(∃v8,Zic a1.From a1.To=some (Bo v8,[])/\(some (Bo (!v8),[])=some r))else(some (Bo false,[])=some r)))else(some (Bo false,[])=some r)))else(some (Bo false,[])=some r)))\/(∃(v9:List (List Int)),∃v10,∃v11,Zcy a a1.Name=some (.tup [.agg [.t (.str v10),I v11,.own 0],Bo true],[.arr 90 1 true (v9.map isc)])/\(∃v12,Zoa (⟨v10,v11,v9⟩:Zh) a1.From=some (Bo v12,[])/\(if v12=true then(∃v13,Zbb a1.To 0 (w (v11-1))=some (Bo v13,[])/\(if v13=true then(∃v14,Zic a1.From a1.To=some (Bo v14,[])/\(some (Bo (!v14),[])=some r))else(some (Bo false,[])=some r)))else(some (Bo false,[])=some r)))))))))/\
 (((∀⦃d f cc c k r⦄,Im (Z5v d f cc c k=some r) (if k<0 then(∃v,Zog d f=some (Bo v,[])/\(if v=true then False else(some (.own 0,[.arr 3 1 true (([]:List Int).map ic)])=some r)))else(some (.own 0,[.arr 3 1 true (([]:List Int).map ic)])=some r)))/\
 ((∀⦃d f cc c x k r⦄,Im (Zoh d f cc c x k=some r) (if k<(x.length:Int)then(∃v,Zog d f=some (Bo v,[])/\(if v=true then(0<=k/\(∃e2,x[k.toNat]?=some e2/\(∃(v6:List Int),∃v7,Zjr e2 f.From=some (.tup [.own 0,Bo v7],[.arr 3 1 true (v6.map ic)])/\(Zid d f cc c x v6 k 0=some r))))else(some (.own 0,[.arr 3 1 true (([]:List Int).map ic)])=some r)))else(some (.own 0,[.arr 3 1 true (([]:List Int).map ic)])=some r)))/\
 (∀⦃d f cc c x y k i r⦄,Im (Zid d f cc c x y k i=some r) (if i<k then(0<=i/\(∃e1,x[i.toNat]?=some e1/\(∃(v3:List Int),∃v4,Zjr e1 f.From=some (.tup [.own 0,Bo v4],[.arr 3 1 true (v3.map ic)])/\(∃v6,Ze2 v3 y=some (I v6,[])/\(if v6=0 then(0<=f.To/\(∃e4,e1[f.To.toNat]?=some e4/\(0<=k/\(∃e5,x[k.toNat]?=some e5/\(∃e6,e5[f.To.toNat]?=some e6/\(if e4=e6 then(Zid d f cc c x y k (w (i+1))=some r)else(some (.own 0,[.arr 3 1 true (([i,k]).map ic)])=some r)))))))else(Zid d f cc c x y k (w (i+1))=some r))))))else(Zoh d f cc c x (w (k+1))=some r)))))/\
 ((∀⦃a a1 r⦄,Im (Zxn a a1=some r) ((∃v v1 v2,Zcy a a1.Name=some (.tup [.agg [.t (.str v),I v1,.t .nil],Bo v2],[])/\(Z5v a a1 v v1 0=some r))\/(∃(v3:List (List Int)),∃v4,∃v5,Zcy a a1.Name=some (.tup [.agg [.t (.str v4),I v5,.own 0],Bo true],[.arr 90 1 true (v3.map isc)])/\(Zoh a a1 v4 v5 v3 0=some r))))/\
 ((∀⦃a a1 r⦄,Im (Zs3 a a1=some r) (∃v,Zog a a1=some (Bo v,[])/\(if v=true then(∃(v3:List Int),Zxn a a1=some (.own 0,[.arr 3 1 true (v3.map ic)])/\(some (Bo (decide ((v3.length:Int)=0)),[])=some r))else(some (Bo false,[])=some r))))/\
 (∀⦃a a1 r⦄,Im (Zoi a a1=some r) ((∃v v1 v2,Zcy a a1.Name=some (.tup [.agg [.t (.str v),I v1,.t .nil],Bo v2],[])/\((∃v3 v4 v5,Zcy a a1.Into=some (.tup [.agg [.t (.str v3),I v4,.t .nil],Bo v5],[])/\(if v2=true then(if v5=true then(∃v6,Zbb a1.Column 0 (w (v1-1))=some (Bo v6,[])/\(if v6=true then(∃v8,Zbb a1.IntoColumn 0 (w (v4-1))=some (Bo v8,[])/\(some (Bo v8,[])=some r))else(some (Bo false,[])=some r)))else(some (Bo false,[])=some r))else(some (Bo false,[])=some r)))\/(∃(v9:List (List Int)),∃v10,∃v11,Zcy a a1.Into=some (.tup [.agg [.t (.str v10),I v11,.own 0],Bo true],[.arr 90 1 true (v9.map isc)])/\(if v2=true then(∃v12,Zbb a1.Column 0 (w (v1-1))=some (Bo v12,[])/\(if v12=true then(∃v13,Zbb a1.IntoColumn 0 (w (v11-1))=some (Bo v13,[])/\(some (Bo v13,[])=some r))else(some (Bo false,[])=some r)))else(some (Bo false,[])=some r)))))\/(∃(v14:List (List Int)),∃v15,∃v16,Zcy a a1.Name=some (.tup [.agg [.t (.str v15),I v16,.own 0],Bo true],[.arr 90 1 true (v14.map isc)])/\((∃v17 v18 v19,Zcy a a1.Into=some (.tup [.agg [.t (.str v17),I v18,.t .nil],Bo v19],[])/\(if v19=true then(∃v20,Zbb a1.Column 0 (w (v16-1))=some (Bo v20,[])/\(if v20=true then(∃v21,Zbb a1.IntoColumn 0 (w (v18-1))=some (Bo v21,[])/\(some (Bo v21,[])=some r))else(some (Bo false,[])=some r)))else(some (Bo false,[])=some r)))\/(∃(v22:List (List Int)),∃v23,∃v24,Zcy a a1.Into=some (.tup [.agg [.t (.str v23),I v24,.own 0],Bo true],[.arr 90 1 true (v22.map isc)])/\(∃v25,Zbb a1.Column 0 (w (v16-1))=some (Bo v25,[])/\(if v25=true then(∃v26,Zbb a1.IntoColumn 0 (w (v24-1))=some (Bo v26,[])/\(some (Bo v26,[])=some r))else(some (Bo false,[])=some r))))))))))):=by
 and_intros
 all_goals intros
 all_goals unfold Im
 all_goals try simp only[Zof,Zxm,Zs0,Zic,Zog,Z5v,Zoh,Zid,Zxn,Zs3,Zoi,Zbb,Zsz,Zcy,Zoa,Zm.c_def,Zh.c_def,Zn.c_def,Zjr,Ze2,mpl,dfs]
 all_goals try simp only[itb]
 all_goals try simp only[itf,gS,kk]
 all_goals repeat' first|refine exI λ_=>?_|refine anJ λ_ _=>?_|refine anI λ_=>?_|refine orE2 ?_ ?_|exact False.elim
 all_goals (intro h;first|rw[Zi Zsn.eq_1]|refine run Zbii rfl ?_|rw[Zi Z5r.eq_1]|refine run Zb0b rfl ?_|refine run Zb0c rfl ?_|rw[Zi Zs1.eq_1]|rw[Zi Z5t.eq_1]|refine run Zb0d rfl ?_|refine run Zb0e rfl ?_|refine run Zb0f rfl ?_)
 all_goals (refine Yb ?_ h;clear h;simp +decide[*,kk,tI,tII,Zso,Z49,Z5s,Zbgd,Zbge,Zs2,Z5u,Zbgf,Zbgg,Zbgh])
abbrev Zbkx:=Zgx.1.1.1
abbrev Zb5j:=Zgx.1.1.2
abbrev Zbky:=Zgx.1.2.1
abbrev Zb5k:=Zgx.1.2.2.1
abbrev Zb5l:=Zgx.1.2.2.2
abbrev Zb5m:=Zgx.2.1.1
abbrev Zbkz:=Zgx.2.1.2.1
abbrev Zbk0:=Zgx.2.1.2.2
abbrev Zbk1:=Zgx.2.2.1
abbrev Zb5n:=Zgx.2.2.2.1
abbrev Zb5o:=Zgx.2.2.2.2
theorem Zdm:((((∀⦃x cn cl cc cd c v r⦄,Im (Zf2 x cn cl cc cd c v=some r) (if v<=9 then(Zs4 x cn cl cc cd c v false false 0=some r)else(some (.own 0,[.arr 3 1 true (cn.map ic)])=some r)))/\
 (∀⦃x cn cl cc cd c x1 v r⦄,Im (Zf3 x cn cl cc cd c x1 v=some r) (if v<=9 then(Zs5 x cn cl cc cd c x1 v false false 0=some r)else(some (.own 0,[.arr 3 1 true (cn.map ic)])=some r))))/\
 ((∀⦃x cn cl cc x1 cd c v r⦄,Im (Zf4 x cn cl cc x1 cd c v=some r) (if v<=9 then(Zon x cn cl cc x1 cd c v false false 0=some r)else(some (.own 0,[.arr 3 1 true (cn.map ic)])=some r)))/\
 (∀⦃x cn cl cc x1 cd c x2 v r⦄,Im (Zf5 x cn cl cc x1 cd c x2 v=some r) (if v<=9 then(Zoo x cn cl cc x1 cd c x2 v false false 0=some r)else(some (.own 0,[.arr 3 1 true (cn.map ic)])=some r)))))/\
 (((∀⦃x cn cl cc cd c v co cp i r⦄,Im (Zs4 x cn cl cc cd c v co cp i=some r) (if i<0 then(if co=true then(Zs4 x cn cl cc cd c v true cp (w (i+1))=some r)else False)else(Zop x cn cl cc cd c v co cp 0=some r)))/\
 (∀⦃x cn cl cc cd c x1 v co cp i r⦄,Im (Zs5 x cn cl cc cd c x1 v co cp i=some r) (if i<0 then(if co=true then(Zs5 x cn cl cc cd c x1 v true cp (w (i+1))=some r)else False)else(Zlf x cn cl cc cd c x1 v co cp 0=some r))))/\
 ((∀⦃x cn cl cc x1 cd c v co cp i r⦄,Im (Zon x cn cl cc x1 cd c v co cp i=some r) (if i<(x1.length:Int)then(if co=true then(Zon x cn cl cc x1 cd c v true cp (w (i+1))=some r)else(0<=i/\(∃e1,x1[i.toNat]?=some e1/\(0<=x.Column/\(∃e2,e1[x.Column.toNat]?=some e2/\(Zon x cn cl cc x1 cd c v (decide (e2=v)) cp (w (i+1))=some r))))))else(Zoq x cn cl cc x1 cd c v co cp 0=some r)))/\
 ((∀⦃x cn cl cc x1 cd c x2 v co cp i r⦄,Im (Zoo x cn cl cc x1 cd c x2 v co cp i=some r) (if i<(x1.length:Int)then(if co=true then(Zoo x cn cl cc x1 cd c x2 v true cp (w (i+1))=some r)else(0<=i/\(∃e1,x1[i.toNat]?=some e1/\(0<=x.Column/\(∃e2,e1[x.Column.toNat]?=some e2/\(Zoo x cn cl cc x1 cd c x2 v (decide (e2=v)) cp (w (i+1))=some r))))))else(Zlg x cn cl cc x1 cd c x2 v co cp 0=some r)))/\
 (∀⦃x cn cl cc cd c v co cp i r⦄,Im (Zop x cn cl cc cd c v co cp i=some r) (if i<0 then(if cp=true then(Zop x cn cl cc cd c v co true (w (i+1))=some r)else False)else(if co=true then(if cp=true then(Zf2 x cn cl cc cd c (w (v+1))=some r)else(cn.length+1<=68719476736/\(Zf2 x (cn++[v]) cl cc cd c (w (v+1))=some r)))else(Zf2 x cn cl cc cd c (w (v+1))=some r))))))))/\
 ((((∀⦃x cn cl cc cd c x1 v co cp i r⦄,Im (Zlf x cn cl cc cd c x1 v co cp i=some r) (if i<(x1.length:Int)then(if cp=true then(Zlf x cn cl cc cd c x1 v co true (w (i+1))=some r)else(0<=i/\(∃e1,x1[i.toNat]?=some e1/\(0<=x.IntoColumn/\(∃e2,e1[x.IntoColumn.toNat]?=some e2/\(Zlf x cn cl cc cd c x1 v co (decide (e2=v)) (w (i+1))=some r))))))else(if co=true then(if cp=true then(Zf3 x cn cl cc cd c x1 (w (v+1))=some r)else(cn.length+1<=68719476736/\(Zf3 x (cn++[v]) cl cc cd c x1 (w (v+1))=some r)))else(Zf3 x cn cl cc cd c x1 (w (v+1))=some r))))/\
 (∀⦃x cn cl cc x1 cd c v co cp i r⦄,Im (Zoq x cn cl cc x1 cd c v co cp i=some r) (if i<0 then(if cp=true then(Zoq x cn cl cc x1 cd c v co true (w (i+1))=some r)else False)else(if co=true then(if cp=true then(Zf4 x cn cl cc x1 cd c (w (v+1))=some r)else(cn.length+1<=68719476736/\(Zf4 x (cn++[v]) cl cc x1 cd c (w (v+1))=some r)))else(Zf4 x cn cl cc x1 cd c (w (v+1))=some r)))))/\
 ((∀⦃x cn cl cc x1 cd c x2 v co cp i r⦄,Im (Zlg x cn cl cc x1 cd c x2 v co cp i=some r) (if i<(x2.length:Int)then(if cp=true then(Zlg x cn cl cc x1 cd c x2 v co true (w (i+1))=some r)else(0<=i/\(∃e1,x2[i.toNat]?=some e1/\(0<=x.IntoColumn/\(∃e2,e1[x.IntoColumn.toNat]?=some e2/\(Zlg x cn cl cc x1 cd c x2 v co (decide (e2=v)) (w (i+1))=some r))))))else(if co=true then(if cp=true then(Zf5 x cn cl cc x1 cd c x2 (w (v+1))=some r)else(cn.length+1<=68719476736/\(Zf5 x (cn++[v]) cl cc x1 cd c x2 (w (v+1))=some r)))else(Zf5 x cn cl cc x1 cd c x2 (w (v+1))=some r))))/\
 (∀⦃a a1 r⦄,Im (Z5w a a1=some r) (∃v1,Zoi a a1=some (Bo v1,[])/\(if v1=true then((∃v2 v3 v4,Zcy a a1.Name=some (.tup [.agg [.t (.str v2),I v3,.t .nil],Bo v4],[])/\((∃v5 v6 v7,Zcy a a1.Into=some (.tup [.agg [.t (.str v5),I v6,.t .nil],Bo v7],[])/\(Zf2 a1 ([]:List Int) v2 v3 v5 v6 0=some r))\/(∃(v8:List (List Int)),∃v9,∃v10,Zcy a a1.Into=some (.tup [.agg [.t (.str v9),I v10,.own 0],Bo true],[.arr 90 1 true (v8.map isc)])/\(Zf3 a1 ([]:List Int) v2 v3 v9 v10 v8 0=some r))))\/(∃(v11:List (List Int)),∃v12,∃v13,Zcy a a1.Name=some (.tup [.agg [.t (.str v12),I v13,.own 0],Bo true],[.arr 90 1 true (v11.map isc)])/\((∃v14 v15 v16,Zcy a a1.Into=some (.tup [.agg [.t (.str v14),I v15,.t .nil],Bo v16],[])/\(Zf4 a1 ([]:List Int) v12 v13 v11 v14 v15 0=some r))\/(∃(v17:List (List Int)),∃v18,∃v19,Zcy a a1.Into=some (.tup [.agg [.t (.str v18),I v19,.own 0],Bo true],[.arr 90 1 true (v17.map isc)])/\(Zf5 a1 ([]:List Int) v12 v13 v11 v18 v19 v17 0=some r)))))else(some (.own 0,[.arr 3 1 true (([]:List Int).map ic)])=some r))))))/\
 (((∀⦃a a1 r⦄,Im (Zxo a a1=some r) (∃v1,Zoi a a1=some (Bo v1,[])/\(if v1=true then(∃(v2:List Int),Z5w a a1=some (.own 0,[.arr 3 1 true (v2.map ic)])/\(some (Bo (decide ((v2.length:Int)=0)),[])=some r))else(some (Bo false,[])=some r))))/\
 (∀⦃d cv cu i r⦄,Im (Zs6 d cv cu i=some r) (if i<(cv.length:Int)then(0<=i/\(∃e1,cv[i.toNat]?=some e1/\(∃v2,Zs3 d e1=some (Bo v2,[])/\(if v2=true then(Zs6 d cv cu (w (i+1))=some r)else(some (Bo false,[])=some r)))))else(Zs7 d cu 0=some r))))/\
 ((∀⦃d cu i r⦄,Im (Zs7 d cu i=some r) (if i<(cu.length:Int)then(0<=i/\(∃e1,cu[i.toNat]?=some e1/\(∃v2,Zxo d e1=some (Bo v2,[])/\(if v2=true then(Zs7 d cu (w (i+1))=some r)else(some (Bo false,[])=some r)))))else(some (Bo true,[])=some r)))/\
 ((∀⦃a a1 a2 r⦄,Im (Zor a a1 a2=some r) (if 8<(a1.length:Int)then(some (Bo false,[])=some r)else(if 8<(a2.length:Int)then(some (Bo false,[])=some r)else(Zs6 a a1 a2 0=some r))))/\
 (∀⦃a b i r⦄,Im (Zlh a b i=some r) (if i<(a.Groups.length:Int)then(0<=i/\(∃e1,a.Groups[i.toNat]?=some e1/\(∃e2,b.Groups[i.toNat]?=some e2/\(∃v5,Ze2 e1.Columns e2.Columns=some (I v5,[])/\(if v5=0 then(∃v8,Ze2 e1.Counts e2.Counts=some (I v8,[])/\(if v8=0 then(if(e1.Values.length:Int)=(e2.Values.length:Int)then(Zos a b e1 e2 i 0=some r)else(some (Bo false,[])=some r))else(some (Bo false,[])=some r)))else(some (Bo false,[])=some r))))))else(some (Bo true,[])=some r))))))):=by
 and_intros
 all_goals intros
 all_goals unfold Im
 all_goals try simp only[Zf2,Zf3,Zf4,Zf5,Zs4,Zs5,Zon,Zoo,Zop,Zlf,Zoq,Zlg,Z5w,Zxo,Zs6,Zs7,Zor,Zlh,Zoi,Zcy,Zm.c_def,Zl.c_def,Zs3,Zn.c_def,Ze2,Zos,mpl,dfs]
 all_goals try simp only[itb]
 all_goals try simp only[itf,gS,kk]
 all_goals repeat' first|refine exI λ_=>?_|refine anJ λ_ _=>?_|refine anI λ_=>?_|refine orE2 ?_ ?_|exact False.elim
 all_goals (intro h;first|rw[Zi Ze3.eq_1]|rw[Zi Zoj.eq_1]|rw[Zi Zok.eq_1]|refine run Zb0g rfl ?_|refine run Zb0h rfl ?_|rw[Zi Z5x.eq_1]|rw[Zi Z5y.eq_1]|refine run Zb0i rfl ?_|rw[Zi Zxp.eq_1])
 all_goals (refine Yb ?_ h;clear h;simp +decide[*,kk,tI,tII,Ze4,Zom,Zhj,Zol,Zbgi,Zbgj,Z50,Z5z,Zbgk,Zxq])
abbrev Zbk2:=Zdm.1.1.1.1
abbrev Zbk3:=Zdm.1.1.1.2
abbrev Zbk4:=Zdm.1.1.2.1
abbrev Zbk5:=Zdm.1.1.2.2
abbrev Zb5p:=Zdm.1.2.1.1
abbrev Zb5q:=Zdm.1.2.1.2
abbrev Zbk6:=Zdm.1.2.2.1
abbrev Zbk7:=Zdm.1.2.2.2.1
abbrev Zb5r:=Zdm.1.2.2.2.2
abbrev Zbk8:=Zdm.2.1.1.1
abbrev Zb5s:=Zdm.2.1.1.2
abbrev Zbk9:=Zdm.2.1.2.1
abbrev Zb5t:=Zdm.2.1.2.2
abbrev Zb5u:=Zdm.2.2.1.1
abbrev Zbla:=Zdm.2.2.1.2
abbrev Zblb:=Zdm.2.2.2.1
abbrev Zb5v:=Zdm.2.2.2.2.1
abbrev Zblc:=Zdm.2.2.2.2.2
theorem Zuc:((∀⦃a b x y i k r⦄,Im (Zos a b x y i k=some r) (if k<(x.Values.length:Int)then(0<=k/\(∃e1,x.Values[k.toNat]?=some e1/\(∃e2,y.Values[k.toNat]?=some e2/\(∃v3,Ze2 e1 e2=some (I v3,[])/\(if v3=0 then(Zos a b x y i (w (k+1))=some r)else(some (Bo false,[])=some r))))))else(Zlh a b (w (i+1))=some r)))/\
 (∀⦃a a1 r⦄,Im (Zxr a a1=some r) (if a.Name=a1.Name then(if a.Arity=a1.Arity then(if a.RowCount=a1.RowCount then(if(a.Groups.length:Int)=(a1.Groups.length:Int)then(Zlh a a1 0=some r)else(some (Bo false,[])=some r))else(some (Bo false,[])=some r))else(some (Bo false,[])=some r))else(some (Bo false,[])=some r))))/\
 ((∀⦃a b i r⦄,Im (Zs8 a b i=some r) (if i<(a.Tables.length:Int)then(0<=i/\(∃e1,a.Tables[i.toNat]?=some e1/\(∃e2,b.Tables[i.toNat]?=some e2/\(∃v3,Zxr e1 e2=some (Bo v3,[])/\(if v3=true then(Zs8 a b (w (i+1))=some r)else(some (Bo false,[])=some r))))))else(some (Bo true,[])=some r)))/\
 ((∀⦃a a1 r⦄,Im (Zxs a a1=some r) (if a.Version=a1.Version then(if(a.Tables.length:Int)=(a1.Tables.length:Int)then(Zs8 a a1 0=some r)else(some (Bo false,[])=some r))else(some (Bo false,[])=some r)))/\
 (∀⦃a r⦄,Im (Zs9 a=some r) ((∃v v1,Zoe a.Zm a.Zv.Version=some (.tup [.agg [I v,.t .nil],Bo v1],[])/\(if v1=true then(∃v2,Zsv v a.Zv=some (Bo v2,[])/\(if v2=true then(∃v3,Zor a.Zm a.Dependencies a.Inclusions=some (Bo v3,[])/\(some (Bo v3,[])=some r))else(some (Bo false,[])=some r)))else(some (Bo false,[])=some r)))\/(∃v4,∃(v5:List Zk),∃v6,Zoe a.Zm a.Zv.Version=some (.tup [.agg [I v6,.own 0],Bo true],[.arr 143 4 v4 (v5.map Zk.c)])/\(∃v7,Zxs (⟨v6,v5⟩:Zv) a.Zv=some (Bo v7,[])/\(if v7=true then(∃v8,Zor a.Zm a.Dependencies a.Inclusions=some (Bo v8,[])/\(some (Bo v8,[])=some r))else(some (Bo false,[])=some r)))))))):=by
 and_intros
 all_goals intros
 all_goals unfold Im
 all_goals try simp only[Zos,Zxr,Zs8,Zxs,Zs9,Ze2,Zk.c_def,Zoe,Zsv,Zor,Zv.c_def,Zm.c_def,Zn.c_def,Zl.c_def,Zlh,mpl,dfs]
 all_goals try simp only[itb]
 all_goals try simp only[itf,gS,kk]
 all_goals repeat' first|refine exI λ_=>?_|refine anJ λ_ _=>?_|refine anI λ_=>?_|refine orE2 ?_ ?_|exact False.elim
 all_goals (intro h;first|rw[Zi Z51.eq_1]|refine run Zb0j rfl ?_|rw[Zi Zst.eq_1]|refine run Zbij rfl ?_|refine run Zb0k rfl ?_)
 all_goals (refine Yb ?_ h;clear h;simp +decide[*,kk,tI,tII,Z52,Zbgl,Zsu,Z5l,Zbgm])
abbrev Zbld:=Zuc.1.1
abbrev Zb5w:=Zuc.1.2
abbrev Zble:=Zuc.2.1
abbrev Zb5x:=Zuc.2.2.1
abbrev Zb5y:=Zuc.2.2.2
theorem Zdn:((((∀⦃a a1 r⦄,Im (Zfm a a1=some r) (if a1=1 then(some (.agg (a.Scan.c.map .t),[])=some r)else(if a1=2 then(some (.agg (a.Sort_.c.map .t),[])=some r)else(if a1=3 then(some (.agg (a.Hash.c.map .t),[])=some r)else(if a1=4 then(some (.agg (a.Merge.c.map .t),[])=some r)else(some (.agg (a.Nested.c.map .t),[])=some r))))))/\
 (∀⦃a r⦄,Im (Zie a=some r) (∃v,Zbb a (-99) 99=some (Bo v,[])/\(some (Bo v,[])=some r))))/\
 ((∀⦃o i r⦄,Im (Zli o i=some r) (if i<(o.Steps.length:Int)then(0<=i/\(∃e1,o.Steps[i.toNat]?=some e1/\(∃v1,Zbb e1.From 1 8192=some (Bo v1,[])/\(if v1=true then(∃v2,Zie e1.Add=some (Bo v2,[])/\(if v2=true then(if 0<i then(0<=(w (i-1))/\(∃e4,o.Steps[(w (i-1)).toNat]?=some e4/\(if e1.From<=e4.From then(some (Bo false,[])=some r)else(Zli o (w (i+1))=some r))))else(Zli o (w (i+1))=some r))else(some (Bo false,[])=some r)))else(some (Bo false,[])=some r)))))else(some (Bo true,[])=some r)))/\
 (∀⦃a r⦄,Im (Zjs a=some r) (∃v,Zie a.Fixed=some (Bo v,[])/\(if v=true then(∃v1,Zie a.Zr=some (Bo v1,[])/\(if v1=true then(∃v2,Zie a.Zs=some (Bo v2,[])/\(if v2=true then(∃v3,Zie a.Zu=some (Bo v3,[])/\(if v3=true then(∃v4,Zie a.Zt=some (Bo v4,[])/\(if v4=true then(if 4<(a.Steps.length:Int)then(some (Bo false,[])=some r)else(Zli a 0=some r))else(some (Bo false,[])=some r)))else(some (Bo false,[])=some r)))else(some (Bo false,[])=some r)))else(some (Bo false,[])=some r)))else(some (Bo false,[])=some r))))))/\
 (((∀⦃k n i r⦄,Im (Zot k n i=some r) (if i<k then(Zot k (if 1<(w (n*4))then(w (n*4))else 1) (w (i+1))=some r)else(some (I n,[])=some r)))/\
 (∀⦃a r⦄,Im (Zjt a=some r) (∃v,Zbb a 0 7=some (Bo v,[])/\(if v=true then(Zot a 0 0=some r)else(some (I (-1),[])=some r)))))/\
 ((∀⦃o l cc n i r⦄,Im (Zlj o l cc n i=some r) (if i<(o.Steps.length:Int)then(0<=i/\(∃e1,o.Steps[i.toNat]?=some e1/\(if e1.From<=(w (l+cc))then(Zlj o l cc (w (n+e1.Add)) (w (i+1))=some r)else(Zlj o l cc n (w (i+1))=some r))))else(some (I n,[])=some r)))/\
 ((∀⦃a a1 a2 a3 r⦄,Im (Zd8 a a1 a2 a3=some r) (∃v,Zjs a=some (Bo v,[])/\(if v=true then(∃v1,Zbb a1 0 4096=some (Bo v1,[])/\(if v1=true then(∃v2,Zbb a2 0 4096=some (Bo v2,[])/\(if v2=true then(∃v3,Zbb a3 0 4096=some (Bo v3,[])/\(if v3=true then(Zlj a a1 a2 (w ((w ((w ((w (a.Fixed+(w (a.Zr*a1))))+(w (a.Zs*a2))))+(w (a.Zu*a3))))+(w ((w (a.Zt*a1))*a2)))) 0=some r)else(some (I 0,[])=some r)))else(some (I 0,[])=some r)))else(some (I 0,[])=some r)))else(some (I 0,[])=some r))))/\
 (∀⦃a a1 r⦄,Im (Zou a a1=some r) (∃e1,a1[0]?=some e1/\(∃v1,Zjt e1=some (I v1,[])/\(∃e3,a1[1]?=some e3/\(∃v3,Zjt e3=some (I v3,[])/\(∃e5,a1[2]?=some e5/\(∃v5,Zjt e5=some (I v5,[])/\(∃v6,Zd8 a v1 v3 v5=some (I v6,[])/\(some (I v6,[])=some r)))))))))))))/\
 ((((∀⦃o a r⦄,Im (Zox o a=some r) (if a<=7 then(Zoy o a 0=some r)else(some (.tup [.own 0,.own 1,Bo false],[.arr 3 1 true (([]:List Int).map ic),.arr 3 1 true (([]:List Int).map ic)])=some r)))/\
 (∀⦃o a b r⦄,Im (Zoy o a b=some r) (if b<=7 then(Zoz o a b 0=some r)else(Zox o (w (a+1))=some r))))/\
 ((∀⦃o a b e r⦄,Im (Zoz o a b e=some r) (if e<=7 then(Zif o ([a,b,e]) a b e 0=some r)else(Zoy o a (w (b+1))=some r)))/\
 (∀⦃o x a b e k r⦄,Im (Zif o x a b e k=some r) (if k<3 then(x.length<=68719476736/\(0<=k/\(∃e1,x[k.toNat]?=some e1/\(if(w (e1+1))<=7 then(∃v1,Zou o (x.set k.toNat (w (e1+1)))=some (I v1,[])/\(∃v2,Zou o x=some (I v2,[])/\(if v1<v2 then(some (.tup [.own 0,.own 1,Bo true],[.arr 3 1 true (x.map ic),.arr 3 1 true ((x.set k.toNat (w (e1+1))).map ic)])=some r)else(Zif o x a b e (w (k+1))=some r))))else(Zif o x a b e (w (k+1))=some r)))))else(Zoz o a b (w (e+1))=some r)))))/\
 (((∀⦃a r⦄,Im (Ztc a=some r) (∃v,Zjs a=some (Bo v,[])/\(if v=true then(Zox a 0=some r)else(some (.tup [.own 0,.own 1,Bo false],[.arr 3 1 true (([]:List Int).map ic),.arr 3 1 true (([]:List Int).map ic)])=some r))))/\
 (∀⦃o a r⦄,Im (Zo0 o a=some r) (if a<=7 then(Zo1 o a 0=some r)else(some (.own 0,[.arr 3 1 true (([]:List Int).map ic)])=some r))))/\
 ((∀⦃o a b r⦄,Im (Zo1 o a b=some r) (if b<=7 then(Ztg o a b 0=some r)else(Zo0 o (w (a+1))=some r)))/\
 ((∀⦃o a b e r⦄,Im (Ztg o a b e=some r) (if e<=7 then(∃v,Zou o ([a,b,e])=some (I v,[])/\(if v<1 then(some (.own 0,[.arr 3 1 true (([a,b,e]).map ic)])=some r)else(Ztg o a b (w (e+1))=some r)))else(Zo1 o a (w (b+1))=some r)))/\
 (∀⦃a r⦄,Im (Ztf a=some r) (Zo0 a 0=some r)))))):=by
 and_intros
 all_goals intros
 all_goals unfold Im
 all_goals try simp only[Zfm,Zie,Zli,Zjs,Zot,Zjt,Zlj,Zd8,Zou,Zox,Zoy,Zoz,Zif,Ztc,Zo0,Zo1,Ztg,Ztf,Zbb,Zq.c_def,mpl,dfs]
 all_goals try simp only[itb]
 all_goals try simp only[itf,gS,kk]
 all_goals repeat' first|refine exI λ_=>?_|refine anJ λ_ _=>?_|refine anI λ_=>?_|refine orE2 ?_ ?_|exact False.elim
 all_goals (intro h;first|refine run Zb0l rfl ?_|refine run Zb0m rfl ?_|rw[Zi Z53.eq_1]|refine run Zb0n rfl ?_|rw[Zi Z55.eq_1]|refine run Zb0o rfl ?_|rw[Zi Z57.eq_1]|refine run Zb0p rfl ?_|refine run Zb0q rfl ?_|rw[Zi Zov.eq_1]|rw[Zi Zta.eq_1]|rw[Zi Zxt.eq_1]|rw[Zi Z59.eq_1]|refine run Zb0r rfl ?_|rw[Zi Ztd.eq_1]|rw[Zi Zxv.eq_1]|rw[Zi Z6b.eq_1]|refine run Zb0s rfl ?_)
 all_goals (refine Yb ?_ h;clear h;simp +decide[*,kk,tI,tII,Zbgn,Zbgo,Z54,Zbgp,Z56,Zbgq,Zbgr,Z58,Zbgs,Zbgt,Zow,Ztb,Zxu,Z6a,Zbgu,Zte,Zxw,Z6c,Zbgv])
abbrev Zb5z:=Zdn.1.1.1.1
abbrev Zb50:=Zdn.1.1.1.2
abbrev Zblf:=Zdn.1.1.2.1
abbrev Zb51:=Zdn.1.1.2.2
abbrev Zb52:=Zdn.1.2.1.1
abbrev Zb53:=Zdn.1.2.1.2
abbrev Zblg:=Zdn.1.2.2.1
abbrev Zb54:=Zdn.1.2.2.2.1
abbrev Zb55:=Zdn.1.2.2.2.2
abbrev Zblh:=Zdn.2.1.1.1
abbrev Zbli:=Zdn.2.1.1.2
abbrev Zblj:=Zdn.2.1.2.1
abbrev Zblk:=Zdn.2.1.2.2
abbrev Zb56:=Zdn.2.2.1.1
abbrev Zbll:=Zdn.2.2.1.2
abbrev Zblm:=Zdn.2.2.2.1
abbrev Z7v:=Zdn.2.2.2.2.1
abbrev Zb57:=Zdn.2.2.2.2.2
theorem Zfn:(((∀⦃m k r⦄,Im (Zo2 m k=some r) (if k<=5 then(∃(v:Zq),Zfm m k=some (.agg (v.c.map .t),[])/\(∃v3,Zjs v=some (Bo v3,[])/\(if v3=true then(∃(v4:List Int),∃(v5:List Int),∃v6,Ztc v=some (.tup [.own 0,.own 1,Bo v6],[.arr 3 1 true (v4.map ic),.arr 3 1 true (v5.map ic)])/\(if v6=true then(some (.tup [I k,.own 0,.own 1],[.arr 3 1 true (v4.map ic),.arr 3 1 true (v5.map ic)])=some r)else(∃(v7:List Int),Ztf v=some (.own 0,[.arr 3 1 true (v7.map ic)])/\(if 0<(v7.length:Int)then(some (.tup [I k,.own 0,.own 1],[.arr 3 1 true (v7.map ic),.arr 3 1 true (([]:List Int).map ic)])=some r)else(Zo2 m (w (k+1))=some r)))))else(some (.tup [I k,.own 0,.own 1],[.arr 3 1 true (([]:List Int).map ic),.arr 3 1 true (([]:List Int).map ic)])=some r))))else(some (.tup [I 0,.own 0,.own 1],[.arr 3 1 true (([]:List Int).map ic),.arr 3 1 true (([]:List Int).map ic)])=some r)))/\
 ((∀⦃a r⦄,Im (Z6f a=some r) (Zo2 a 1=some r))/\
 (∀⦃a r⦄,Im (Zlk a=some r) (∃(v:List Int),∃(v1:List Int),∃v2,Z6f a=some (.tup [I v2,.own 0,.own 1],[.arr 3 1 true (v.map ic),.arr 3 1 true (v1.map ic)])/\(some (Bo (decide (v2=0)),[])=some r)))))/\
 ((∀⦃q cd i r⦄,Im (Zo3 q cd i=some r) (if i<(q.Atoms.length:Int)then(0<=i/\(∃e1,q.Atoms[i.toNat]?=some e1/\(∃v3,Zia e1.Name=some (Bo v3,[])/\(if v3=true then(∃v4,Zbb (e1.Vars.length:Int) 1 3=some (Bo v4,[])/\(if v4=true then(Zth q e1 cd i 0=some r)else(some (Bo false,[])=some r)))else(some (Bo false,[])=some r)))))else(¬q.Zg<0/\(some (Bo (decide (cd=(w ((shlI 1 q.Zg)-1)))),[])=some r))))/\
 ((∀⦃q a cd i k r⦄,Im (Zth q a cd i k=some r) (if k<(a.Vars.length:Int)then(0<=k/\(∃e1,a.Vars[k.toNat]?=some e1/\(∃v3,Zbb e1 0 (w (q.Zg-1))=some (Bo v3,[])/\(if v3=true then(k.toNat<=a.Vars.length/\(∃v4,Zic (a.Vars.take k.toNat) e1=some (Bo v4,[])/\(if v4=true then(some (Bo false,[])=some r)else(¬e1<0/\(Zth q a (orI cd (shlI 1 e1)) i (w (k+1))=some r)))))else(some (Bo false,[])=some r)))))else(Zo3 q cd (w (i+1))=some r)))/\
 (∀⦃a r⦄,Im (Zig a=some r) (∃v,Zbb a.Zg 1 4=some (Bo v,[])/\(if v=true then(∃v3,Zbb (a.Atoms.length:Int) 1 4=some (Bo v3,[])/\(if v3=true then(Zo3 a 0 0=some r)else(some (Bo false,[])=some r)))else(some (Bo false,[])=some r)))))))/\
 (((∀⦃a r⦄,Im (Zhk a=some r) (∃v,Zig a=some (Bo v,[])/\(if v=true then(¬(a.Atoms.length:Int)<0/\(some (I (w ((shlI 1 (a.Atoms.length:Int))-1)),[])=some r))else(some (I 0,[])=some r))))/\
 ((∀⦃a a1 r⦄,Im (Zll a a1=some r) (∃v,Zig a=some (Bo v,[])/\(if v=true then(¬(a.Atoms.length:Int)<0/\(∃v3,Zbb a1 0 (w ((shlI 1 (a.Atoms.length:Int))-1))=some (Bo v3,[])/\(some (Bo v3,[])=some r)))else(some (Bo false,[])=some r))))/\
 (∀⦃q cc x i r⦄,Im (Zlm q cc x i=some r) (if i<(q.Atoms.length:Int)then(Zo4 q cc x i 0=some r)else(some (I x,[])=some r)))))/\
 (((∀⦃q cc x i k r⦄,Im (Zo4 q cc x i k=some r) (0<=i/\(∃e1,q.Atoms[i.toNat]?=some e1/\(if k<(e1.Vars.length:Int)then(¬i<0/\(if(andI (shrI cc i) 1)=1 then(0<=k/\(∃e2,e1.Vars[k.toNat]?=some e2/\(¬e2<0/\(Zo4 q cc (orI x (shlI 1 e2)) i (w (k+1))=some r))))else(Zlm q cc x (w (i+1))=some r)))else(Zlm q cc x (w (i+1))=some r)))))/\
 (∀⦃a a1 r⦄,Im (Zes a a1=some r) (Zlm a a1 0 0=some r)))/\
 ((∀⦃q cc cn cl i r⦄,Im (Zln q cc cn cl i=some r) (if i<(q.Atoms.length:Int)then(¬i<0/\(if(andI (shrI cc i) 1)=0 then(∃v,Zes q (shlI 1 i)=some (I v,[])/\(if(andI v cl)=0 then(Zln q cc cn cl (w (i+1))=some r)else(Zln q cc (orI cn (shlI 1 i)) cl (w (i+1))=some r)))else(Zln q cc cn cl (w (i+1))=some r)))else(some (I cn,[])=some r)))/\
 (∀⦃a a1 r⦄,Im (Zti a a1=some r) (∃v,Zes a a1=some (I v,[])/\(Zln a a1 0 v 0=some r)))))):=by
 and_intros
 all_goals intros
 all_goals unfold Im
 all_goals try simp only[Zo2,Z6f,Zlk,Zo3,Zth,Zig,Zhk,Zll,Zlm,Zo4,Zes,Zln,Zti,Zfm,Zjs,Ztc,Ztf,Zb.c_def,Zq.c_def,Zia,Zbb,Zic,Ze.c_def,mpl,dfs]
 all_goals try simp only[itb]
 all_goals try simp only[itf,gS,kk]
 all_goals repeat' first|refine exI λ_=>?_|refine anJ λ_ _=>?_|refine anI λ_=>?_|refine orE2 ?_ ?_|exact False.elim
 all_goals (intro h;first|rw[Zi Z6d.eq_1]|refine run Zb0t rfl ?_|refine run Zb0u rfl ?_|rw[Zi Zxx.eq_1]|rw[Zi Z6g.eq_1]|refine run Zb0v rfl ?_|refine run Zb0w rfl ?_|refine run Zb0x rfl ?_|rw[Zi Zxz.eq_1]|rw[Zi Z6i.eq_1]|refine run Zb0y rfl ?_|rw[Zi Z6k.eq_1]|refine run Zb0z rfl ?_)
 all_goals (refine Yb ?_ h;clear h;simp +decide[*,kk,tI,tII,Z6e,Zbgw,Zbgx,Zxy,Z6h,Zbgy,Zbgz,Zbg0,Zx0,Z6j,Zbg1,Zbg2,Z6l,Zbg3])
abbrev Zbln:=Zfn.1.1.1
abbrev Zb58:=Zfn.1.1.2.1
abbrev Zb59:=Zfn.1.1.2.2
abbrev Zblo:=Zfn.1.2.1
abbrev Zblp:=Zfn.1.2.2.1
abbrev Zb6a:=Zfn.1.2.2.2
abbrev Zb6b:=Zfn.2.1.1
abbrev Zb6c:=Zfn.2.1.2.1
abbrev Zblq:=Zfn.2.1.2.2
abbrev Z7w:=Zfn.2.2.1.1
abbrev Zb6d:=Zfn.2.2.1.2
abbrev Zblr:=Zfn.2.2.2.1
abbrev Zb6e:=Zfn.2.2.2.2
theorem Zdo:((((∀⦃q cn x n r⦄,Im (Ztj q cn x n=some r) (if n<(q.Atoms.length:Int)then(∃v1,Zti q x=some (I v1,[])/\(Ztj q cn (orI x (andI v1 cn)) (w (n+1))=some r))else(some (Bo (decide (x=cn)),[])=some r)))/\
 (∀⦃a a1 r⦄,Im (Zju a a1=some r) (Ztj a a1 (andI a1 (w (0-a1))) 0=some r)))/\
 ((∀⦃a a1 r⦄,Im (Zlo a a1=some r) (∃v1,Zll a a1=some (Bo v1,[])/\(if v1=true then(if 0<a1 then(∃v3,Zju a a1=some (Bo v3,[])/\(some (Bo v3,[])=some r))else(some (Bo false,[])=some r))else(some (Bo false,[])=some r))))/\
 (∀⦃l i r⦄,Im (Ztk l i=some r) (if i<(l.length:Int)then(0<=i/\(∃e1,l[i.toNat]?=some e1/\(∃v3,Zbb e1 0 7=some (Bo v3,[])/\(if v3=true then(Ztk l (w (i+1))=some r)else(some (Bo false,[])=some r)))))else(some (Bo (decide ((l.length:Int)<=16)),[])=some r)))))/\
 (((∀⦃a r⦄,Im (Zlp a=some r) (Ztk a 0=some r))/\
 (∀⦃a b i r⦄,Im (Ztl a b i=some r) (if i<(a.length:Int)then(0<=i/\(∃e1,a[i.toNat]?=some e1/\(∃e2,b[i.toNat]?=some e2/\(if e1<e2 then(some (Bo false,[])=some r)else(Ztl a b (w (i+1))=some r)))))else(some (Bo true,[])=some r))))/\
 ((∀⦃a a1 r⦄,Im (Zx1 a a1=some r) (if(a.length:Int)=(a1.length:Int)then(Ztl a a1 0=some r)else(some (Bo false,[])=some r)))/\
 ((∀⦃a r⦄,Im (Zx2 a=some r) (if 0<(a.Low.length:Int)then(∃v1,Zlp a.Low=some (Bo v1,[])/\(if v1=true then(∃v3,Zlp a.High=some (Bo v3,[])/\(if v3=true then(∃v5,Zx1 a.High a.Low=some (Bo v5,[])/\(some (Bo v5,[])=some r))else(some (Bo false,[])=some r)))else(some (Bo false,[])=some r)))else(some (Bo false,[])=some r)))/\
 (∀⦃a a1 r⦄,Im (Zo5 a a1=some r) (∃v1,Zbb a1 0 3=some (Bo v1,[])/\(if v1=true then(¬a1<0/\(some (Bo (decide ((andI (shrI a a1) 1)=1)),[])=some r))else(some (Bo false,[])=some r))))))))/\
 ((((∀⦃x x1 x2 a b y v r⦄,Im (Zo6 x x1 x2 a b y v=some r) (if x1.Kind=4 then(∃v1,Zo5 v x1.Order=some (Bo v1,[])/\(if v1=true then(if a.Order=x1.Order then(if b.Order=x1.Order then(some (.tup [.agg [I y.Mask,I x1.Order,I y.Left,I y.Right],I 2],[])=some r)else(some (.tup [.agg [I 0,I 0,I 0,I 0],I (-1)],[])=some r))else(some (.tup [.agg [I 0,I 0,I 0,I 0],I (-1)],[])=some r))else(some (.tup [.agg [I 0,I 0,I 0,I 0],I (-1)],[])=some r)))else(some (.tup [.agg (y.c.map .t),I 2],[])=some r)))/\
 (∀⦃x x1 x2 a b y v x3 r⦄,Im (Zjv x x1 x2 a b y v x3=some r) (if x1.Kind=4 then(∃v1,Zo5 v x1.Order=some (Bo v1,[])/\(if v1=true then(if a.Order=x1.Order then(if b.Order=x1.Order then(some (.tup [.agg [I y.Mask,I x1.Order,I y.Left,I y.Right],I 2],[])=some r)else(some (.tup [.agg [I 0,I 0,I 0,I 0],I (-1)],[])=some r))else(some (.tup [.agg [I 0,I 0,I 0,I 0],I (-1)],[])=some r))else(some (.tup [.agg [I 0,I 0,I 0,I 0],I (-1)],[])=some r)))else(some (.tup [.agg (y.c.map .t),I 2],[])=some r))))/\
 ((∀⦃a a1 a2 a3 r⦄,Im (Zlq a a1 a2 a3=some r) (if a1.Kind=1 then(∃v1,Zbb a1.Atom 0 (w ((a.Atoms.length:Int)-1))=some (Bo v1,[])/\(if v1=true then(if a1.Order=0 then(¬a1.Atom<0/\(0<=a1.Atom/\(∃e2,a.Atoms[a1.Atom.toNat]?=some e2/\(∃e3,e2.Vars[0]?=some e3/\(some (.tup [.agg [I (shlI 1 a1.Atom),I e3,I (-1),I (-1)],I 0],[])=some r)))))else(some (.tup [.agg [I 0,I 0,I 0,I 0],I (-1)],[])=some r))else(some (.tup [.agg [I 0,I 0,I 0,I 0],I (-1)],[])=some r)))else(if a1.Kind=2 then(if a1.Atom=0 then(if(a3.length:Int)<1 then(some (.tup [.agg [I 0,I 0,I 0,I 0],I (-1)],[])=some r)else(0<=(w ((a3.length:Int)-1))/\(∃e4,a3[(w ((a3.length:Int)-1)).toNat]?=some e4/\(0<=e4/\(∃e5,a2[e4.toNat]?=some e5/\(if e5.Order=a1.Order then(some (.tup [.agg [I 0,I 0,I 0,I 0],I (-1)],[])=some r)else(∃v7,Zes a e5.Mask=some (I v7,[])/\(∃v8,Zo5 v7 a1.Order=some (Bo v8,[])/\(if v8=true then(some (.tup [.agg [I e5.Mask,I a1.Order,I e4,I (-1)],I 1],[])=some r)else(some (.tup [.agg [I 0,I 0,I 0,I 0],I (-1)],[])=some r))))))))))else(some (.tup [.agg [I 0,I 0,I 0,I 0],I (-1)],[])=some r))else(if a1.Kind=3 then(Zlr a a1 (⟨0,0,0,0⟩:Zj) a2 a3 (a3.length:Int) a1.Kind true=some r)else(if a1.Kind=4 then(Zlr a a1 (⟨0,0,0,0⟩:Zj) a2 a3 (a3.length:Int) a1.Kind true=some r)else(if a1.Kind=5 then(if a1.Atom=0 then(if(a3.length:Int)<2 then(some (.tup [.agg [I 0,I 0,I 0,I 0],I (-1)],[])=some r)else(0<=(w ((a3.length:Int)-2))/\(∃e8,a3[(w ((a3.length:Int)-2)).toNat]?=some e8/\(0<=e8/\(∃e9,a2[e8.toNat]?=some e9/\(0<=(w ((a3.length:Int)-1))/\(∃e10,a3[(w ((a3.length:Int)-1)).toNat]?=some e10/\(0<=e10/\(∃e11,a2[e10.toNat]?=some e11/\(∃v9,Zes a e9.Mask=some (I v9,[])/\(∃v10,Zes a e11.Mask=some (I v10,[])/\(if(andI e9.Mask e11.Mask)=0 then(if(andI v9 v10)=0 then(some (.tup [.agg [I 0,I 0,I 0,I 0],I (-1)],[])=some r)else(if a1.Order=0 then(Zo6 a a1 (⟨0,0,0,0⟩:Zj) e9 e11 (⟨(orI e9.Mask e11.Mask),e9.Order,e8,e10⟩:Zj) (andI v9 v10)=some r)else(some (.tup [.agg [I 0,I 0,I 0,I 0],I (-1)],[])=some r)))else(some (.tup [.agg [I 0,I 0,I 0,I 0],I (-1)],[])=some r)))))))))))))else(some (.tup [.agg [I 0,I 0,I 0,I 0],I (-1)],[])=some r))else(some (.tup [.agg [I 0,I 0,I 0,I 0],I (-1)],[])=some r)))))))/\
 (∀⦃q p cd cc i r⦄,Im (Ztm q p cd cc i=some r) (if i<(p.Steps.length:Int)then(0<=i/\(∃e1,p.Steps[i.toNat]?=some e1/\(∃(v3:Zj),∃v4,Zlq q e1 cd cc=some (.tup [.agg (v3.c.map .t),I v4],[])/\(if v4<0 then(some (.tup [.own 0,Bo false],[.arr 256 4 true (([]:List Zj).map Zj.c)])=some r)else(cd.length+1<=68719476736/\(0<=(w ((cc.length:Int)-v4))/\((w ((cc.length:Int)-v4)).toNat<=cc.length/\((w ((cc.length:Int)-v4)).toNat<=68719476736/\((w ((cc.length:Int)-v4)).toNat+1<=68719476736/\(Ztm q p (cd++[v3]) ((cc.take ((w ((cc.length:Int)-v4)).toNat))++[i]) (w (i+1))=some r))))))))))else(if(cc.length:Int)=1 then(some (.tup [.own 0,Bo true],[.arr 256 4 true (cd.map Zj.c)])=some r)else(some (.tup [.own 0,Bo false],[.arr 256 4 true (([]:List Zj).map Zj.c)])=some r))))))/\
 (((∀⦃a a1 r⦄,Im (Zo7 a a1=some r) (∃v1,Zig a=some (Bo v1,[])/\(if v1=true then(∃v3,Zbb (a1.Steps.length:Int) 1 14=some (Bo v3,[])/\(if v3=true then(Ztm a a1 ([]:List Zj) ([]:List Int) 0=some r)else(some (.tup [.own 0,Bo false],[.arr 256 4 true (([]:List Zj).map Zj.c)])=some r)))else(some (.tup [.own 0,Bo false],[.arr 256 4 true (([]:List Zj).map Zj.c)])=some r))))/\
 (∀⦃a a1 r⦄,Im (Zx5 a a1=some r) (∃(v1:List Zj),∃v2,Zo7 a a1=some (.tup [.own 0,Bo v2],[.arr 256 4 true (v1.map Zj.c)])/\(if v2=true then(0<=(w ((v1.length:Int)-1))/\(∃e2,v1[(w ((v1.length:Int)-1)).toNat]?=some e2/\(some (I e2.Mask,[])=some r)))else(some (I 0,[])=some r)))))/\
 ((∀⦃a a1 r⦄,Im (Ztn a a1=some r) (∃v1,Zx2 a1.Box=some (Bo v1,[])/\(if v1=true then(∃v3,Zhk a=some (I v3,[])/\(if(a1.Box.Low.length:Int)=(w (v3+1))then(∃v5,Zx5 a a1.Plan=some (I v5,[])/\(if v5=v3 then(if 0<v3 then(∃v6,Zbb a1.Percent 100 1000=some (Bo v6,[])/\(some (Bo v6,[])=some r))else(some (Bo false,[])=some r))else(some (Bo false,[])=some r)))else(some (Bo false,[])=some r)))else(some (Bo false,[])=some r))))/\
 ((∀⦃q co cl m r⦄,Im (Zo8 q co cl m=some r) (if m<=cl then(∃v1,Zju q m=some (Bo v1,[])/\(if v1=true then(co.length+1<=68719476736/\(Zo8 q (co++[m]) cl (w (m+1))=some r))else(Zo8 q co cl (w (m+1))=some r)))else(some (.own 0,[.arr 3 1 true (co.map ic)])=some r)))/\
 (∀⦃a r⦄,Im (Zto a=some r) (∃v1,Zhk a=some (I v1,[])/\(Zo8 a ([]:List Int) v1 1=some r))))))):=by
 and_intros
 all_goals intros
 all_goals unfold Im
 all_goals try simp only[Ztj,Zju,Zlo,Ztk,Zlp,Ztl,Zx1,Zx2,Zo5,Zlq,Ztm,Zo7,Zx5,Ztn,Zo8,Zto,Zti,Ze.c_def,Zll,Zbb,Zes,Zc.c_def,Zj.c_def,Zig,Plan.c_def,Zhk,Box.c_def,Zlr,Zo6,Zjv,mpl,dfs]
 all_goals try simp only[itb]
 all_goals try simp only[itf,gS,kk]
 all_goals repeat' first|refine exI λ_=>?_|refine anJ λ_ _=>?_|refine anI λ_=>?_|refine orE2 ?_ ?_|exact False.elim
 all_goals (intro h;first|rw[Zi Z6m.eq_1]|refine run Zb00 rfl ?_|refine run Zb01 rfl ?_|rw[Zi Z6o.eq_1]|refine run Zb02 rfl ?_|rw[Zi Z6q.eq_1]|refine run Zb03 rfl ?_|refine run Zb04 rfl ?_|refine run Zb05 rfl ?_|rw[Ev_eq Zx3.eq_1]|refine run Zb06 rfl ?_|rw[Zi Z6s.eq_1]|refine run Zb07 rfl ?_|refine run Zb08 rfl ?_|refine run Zb09 rfl ?_|rw[Zi Z6u.eq_1]|refine run Zb1a rfl ?_)
 all_goals (refine Yb ?_ h;clear h;simp +decide[*,kk,tI,tII,Z6n,Zbg4,Zbg5,Z6p,Zbg6,Z6r,Zbg7,Zbg8,Zbg9,Zbha,Zbhb,Zx4,Z6t,Zbhc,Zbhd,Zbhe,Zbhf,Z6v,Zbhg])
abbrev Zbls:=Zdo.1.1.1.1
abbrev Zb6f:=Zdo.1.1.1.2
abbrev Zb6g:=Zdo.1.1.2.1
abbrev Zblt:=Zdo.1.1.2.2
abbrev Zb6h:=Zdo.1.2.1.1
abbrev Zblu:=Zdo.1.2.1.2
abbrev Zb6i:=Zdo.1.2.2.1
abbrev Zb6j:=Zdo.1.2.2.2.1
abbrev Zb6k:=Zdo.1.2.2.2.2
abbrev Zb6l:=Zdo.2.1.1.1
abbrev Z7x:=Zdo.2.1.1.2
abbrev Zhn:=Zdo.2.1.2.1
abbrev Zblv:=Zdo.2.1.2.2
abbrev Zb6m:=Zdo.2.2.1.1
abbrev Zb6n:=Zdo.2.2.1.2
abbrev Zb6o:=Zdo.2.2.2.1
abbrev Zblw:=Zdo.2.2.2.2.1
abbrev Zb6p:=Zdo.2.2.2.2.2
theorem Zblx:(∀⦃q cc c m r⦄,Im (Zih q cc c m=some r) (if m<c then(if(andI m c)=m then(∃v,Zju q m=some (Bo v,[])/\(if v=true then(∃v1,Zju q (w (c-m))=some (Bo v1,[])/\(if v1=true then(cc.length+1<=68719476736/\(Zih q (cc++[m]) c (w (m+1))=some r))else(Zih q cc c (w (m+1))=some r)))else(Zih q cc c (w (m+1))=some r)))else(Zih q cc c (w (m+1))=some r))else(some (.own 0,[.arr 3 1 true (cc.map ic)])=some r)))/\
 (∀⦃a a1 r⦄,Im (Ztp a a1=some r) (∃v,Zlo a a1=some (Bo v,[])/\(if v=true then(Zih a ([]:List Int) a1 1=some r)else(some (.own 0,[.arr 3 1 true (([]:List Int).map ic)])=some r)))):=by
 and_intros
 all_goals intros
 all_goals unfold Im
 all_goals try simp only[Zih,Ztp,Zju,Ze.c_def,Zlo,mpl,dfs]
 all_goals try simp only[itb]
 all_goals try simp only[itf,gS,kk]
 all_goals repeat' first|refine exI λ_=>?_|refine anJ λ_ _=>?_|refine anI λ_=>?_|refine orE2 ?_ ?_|exact False.elim
 all_goals (intro h;first|rw[Zi Z6w.eq_1]|refine run Zb1b rfl ?_)
 all_goals (refine Yb ?_ h;clear h;simp +decide[*,kk,tI,tII,Zbhh,Z6x,Zbhi])
abbrev Zbly:=Zblx.1
abbrev Zb6q:=Zblx.2
theorem Zud{q:Ze}{x:Zc}{x1:Zj}{cc:List Zj}{c:List Int}{n x2:Int}{x3:Bool}{r:AV×List Blk}(h:(if x3=true then(if x.Atom=0 then(if n<2 then(some (.tup [.agg [I 0,I 0,I 0,I 0],I (-1)],[])=some r)else(0<=(w (n-2))/\(∃(e1:Int),c[(w (n-2)).toNat]?=some e1/\(0<=e1/\(∃(e2:Zj),cc[e1.toNat]?=some e2/\(0<=(w (n-1))/\(∃(e3:Int),c[(w (n-1)).toNat]?=some e3/\(0<=e3/\(∃(e4:Zj),cc[e3.toNat]?=some e4/\(∃(v:Int),Zes q e2.Mask=some (I v,[])/\(∃(v1:Int),Zes q e4.Mask=some (I v1,[])/\(if(andI e2.Mask e4.Mask)=0 then(if(andI v v1)=0 then(some (.tup [.agg [I 0,I 0,I 0,I 0],I (-1)],[])=some r)else(if x.Kind=4 then(Zjv q x x1 e2 e4 (⟨(orI e2.Mask e4.Mask),(-1),e1,e3⟩:Zj) (andI v v1) false=some r)else(if x.Order=0 then(if x.Kind=5 then(Zo6 q x x1 e2 e4 (⟨(orI e2.Mask e4.Mask),e2.Order,e1,e3⟩:Zj) (andI v v1)=some r)else(Zjv q x x1 e2 e4 (⟨(orI e2.Mask e4.Mask),(-1),e1,e3⟩:Zj) (andI v v1) false=some r))else(some (.tup [.agg [I 0,I 0,I 0,I 0],I (-1)],[])=some r))))else(some (.tup [.agg [I 0,I 0,I 0,I 0],I (-1)],[])=some r)))))))))))))else(some (.tup [.agg [I 0,I 0,I 0,I 0],I (-1)],[])=some r))else(some (.tup [.agg [I 0,I 0,I 0,I 0],I (-1)],[])=some r))):Zlr q x x1 cc c n x2 x3=some r:=by
 unfold Zlr;rw[Ev_eq Zx4.eq_1];by_cases q1:x3=true
 .rw[if_pos q1]at h;by_cases q2:x.Atom=0
  .rw[if_pos q2]at h;replace q2:=eq_true q2;by_cases q3:n<2
   .rw[if_pos q3]at h;refine Yb ?_ h;clear h;simp +decide[*,tI,tII]
   .rw[if_neg q3]at h;obtain⟨q4,h⟩:=h;obtain⟨e1,q5,h⟩:=h;have gq5:=Zcd q5;have kq5:=Zcf q5;obtain⟨q6,h⟩:=h;obtain⟨e2,q7,h⟩:=h;have gq7:=Zcd q7;have kq7:=Zcf q7;obtain⟨q8,h⟩:=h;obtain⟨e3,q9,h⟩:=h;have gq9:=Zcd q9;have kq9:=Zcf q9;obtain⟨q10,h⟩:=h;obtain⟨e4,q11,h⟩:=h;have gq11:=Zcd q11;have kq11:=Zcf q11;obtain⟨v,q12,h⟩:=h;unfold Zes at q12
    try simp at q12
    obtain⟨v1,q13,h⟩:=h;unfold Zes at q13
    try simp at q13
    by_cases q14:(andI e2.Mask e4.Mask)=0
    .rw[if_pos q14]at h;replace q14:=eq_true q14;by_cases q15:(andI v v1)=0
     .rw[if_pos q15]at h;replace q15:=eq_true q15;refine Yb ?_ h;clear h;simp +decide[*,tI,tII]
     .rw[if_neg q15]at h;replace q15:=eq_false q15;by_cases q16:x.Kind=4
      .rw[if_pos q16]at h;replace q16:=eq_true q16;have q17:(x.Kind=5)=False:=eq_false (by intro hh;simp_all);refine Yb ?_ h;clear h;simp +decide[*,tI,tII,Zjv]
      .rw[if_neg q16]at h;replace q16:=eq_false q16;by_cases q18:x.Order=0
       .rw[if_pos q18]at h;replace q18:=eq_true q18;by_cases q19:x.Kind=5
        .rw[if_pos q19]at h;replace q19:=eq_true q19;refine Yb ?_ h;clear h;simp +decide[*,tI,tII,Zo6]
        .rw[if_neg q19]at h;replace q19:=eq_false q19;refine Yb ?_ h;clear h;simp +decide[*,tI,tII,Zjv]
       .rw[if_neg q18]at h;replace q18:=eq_false q18;refine Yb ?_ h;clear h;simp +decide[*,tI,tII]
    .rw[if_neg q14]at h;replace q14:=eq_false q14;refine Yb ?_ h;clear h;simp +decide[*,tI,tII]
  .rw[if_neg q2]at h;replace q2:=eq_false q2;refine Yb ?_ h;clear h;simp +decide[*,tI,tII]
 .rw[if_neg q1]at h;refine Yb ?_ h;clear h;simp +decide[*,tI,tII]
theorem Zdp:((((∀⦃cc co v r⦄,Im (Zo9 cc co v=some r) (if v<4 then(¬v<0/\(if(andI (shrI co v) 1)=1 then(cc.length+1<=68719476736/\(Zo9 (cc++[v]) co (w (v+1))=some r))else(Zo9 cc co (w (v+1))=some r)))else(some (.own 0,[.arr 3 1 true (cc.map ic)])=some r)))/\
 (∀⦃a r⦄,Im (Z60 a=some r) (Zo9 ([]:List Int) a 0=some r)))/\
 ((∀⦃a a1 r⦄,Im (Ztq a a1=some r) (∃v1,Zll a a1=some (Bo v1,[])/\(if v1=true then(∃v2,Zes a a1=some (I v2,[])/\(∃(v3:List Int),Z60 v2=some (.own 0,[.arr 3 1 true (v3.map ic)])/\(some (.own 0,[.arr 3 1 true (v3.map ic)])=some r)))else(some (.own 0,[.arr 3 1 true (([]:List Int).map ic)])=some r))))/\
 (∀⦃cc x y i r⦄,Im (Zpb cc x y i=some r) (if i<(x.length:Int)then(0<=i/\(∃e1,x[i.toNat]?=some e1/\(∃v2,Zic y e1=some (Bo v2,[])/\(if v2=true then(cc.length+1<=68719476736/\(Zpb (cc++[e1]) x y (w (i+1))=some r))else(Zpb cc x y (w (i+1))=some r)))))else(some (.own 0,[.arr 3 1 true (cc.map ic)])=some r)))))/\
 (((∀⦃a a1 a2 r⦄,Im (Zpa a a1 a2=some r) (∃(v1:List Int),Ztq a a1=some (.own 0,[.arr 3 1 true (v1.map ic)])/\(∃(v2:List Int),Ztq a a2=some (.own 0,[.arr 3 1 true (v2.map ic)])/\(Zpb ([]:List Int) v1 v2 0=some r))))/\
 (∀⦃q cc cl i r⦄,Im (Zjw q cc cl i=some r) (if i<(cl.length:Int)then(0<=i/\(∃e1,cl[i.toNat]?=some e1/\(∃(v2:List Int),Ztp q e1=some (.own 0,[.arr 3 1 true (v2.map ic)])/\(Zx9 q cc cl e1 v2 i 0=some r))))else(some (.own 0,[.arr 259 3 true (cc.map Zbj.c)])=some r))))/\
 ((∀⦃q cc cl cd x i k r⦄,Im (Zx9 q cc cl cd x i k=some r) (if k<(x.length:Int)then(0<=k/\(∃e1,x[k.toNat]?=some e1/\(0<=i/\(∃e2,cl[i.toNat]?=some e2/\(∃(v3:List Int),Zpa q e1 (w (e2-e1))=some (.own 0,[.arr 3 1 true (v3.map ic)])/\(Ztu q cc cl cd x ([v3]) i (w (k+1))=some r))))))else(cc.length+1<=68719476736/\(Zjw q (cc++[(⟨cd,x,[]⟩:Zbj)]) cl (w (i+1))=some r))))/\
 ((∀⦃q cc cl cd x x1 i k r⦄,Im (Ztu q cc cl cd x x1 i k=some r) (if k<(x.length:Int)then(0<=k/\(∃e1,x[k.toNat]?=some e1/\(0<=i/\(∃e2,cl[i.toNat]?=some e2/\(∃(v3:List Int),Zpa q e1 (w (e2-e1))=some (.own 0,[.arr 3 1 true (v3.map ic)])/\(x1.length+1<=68719476736/\(Ztu q cc cl cd x (x1++[v3]) i (w (k+1))=some r)))))))else(cc.length+1<=68719476736/\(Zjw q (cc++[(⟨cd,x,x1⟩:Zbj)]) cl (w (i+1))=some r))))/\
 (∀⦃a r⦄,Im (Ztt a=some r) (∃(v1:List Int),Zto a=some (.own 0,[.arr 3 1 true (v1.map ic)])/\(Zjw a ([]:List Zbj) v1 0=some r)))))))/\
 ((((∀⦃cc l i r⦄,Im (Ztv cc l i=some r) (if i<(l.length:Int)then(∃v1,Zlp l=some (Bo v1,[])/\(if v1=true then(0<=i/\(∃e2,l[i.toNat]?=some e2/\(∃v3,Zjt e2=some (I v3,[])/\(cc.length+1<=68719476736/\(Ztv (cc++[v3]) l (w (i+1))=some r)))))else(some (.own 0,[.arr 3 1 true (cc.map ic)])=some r)))else(some (.own 0,[.arr 3 1 true (cc.map ic)])=some r)))/\
 (∀⦃a r⦄,Im (Zpc a=some r) (Ztv ([]:List Int) a 0=some r)))/\
 ((∀⦃cc cd i r⦄,Im (Zpd cc cd i=some r) (if i<4 then(∃v1,Zbb cd 0 15=some (Bo v1,[])/\(if v1=true then(¬i<0/\(if(andI (shrI cd i) 1)=1 then(cc.length+1<=68719476736/\(Zpd (cc++[i]) cd (w (i+1))=some r))else(Zpd cc cd (w (i+1))=some r)))else(some (.own 0,[.arr 3 1 true (cc.map ic)])=some r)))else(some (.own 0,[.arr 3 1 true (cc.map ic)])=some r)))/\
 (∀⦃a r⦄,Im (Ztw a=some r) (Zpd ([]:List Int) a 0=some r))))/\
 (((∀⦃a r⦄,Im (Ztx a=some r) (some (.agg [.own 0],[.arr 287 3 true (([(⟨1,a,0⟩:Zc)]).map Zc.c)])=some r))/\
 (∀⦃l cd cn i r⦄,Im (Zjx l cd cn i=some r) (if i<(l.length:Int)then(0<=i/\(∃e1,l[i.toNat]?=some e1/\(if e1.Mask=cd then(if cn<0 then(Zjx l cd i (w (i+1))=some r)else(0<=cn/\(∃e2,l[cn.toNat]?=some e2/\(if e1.Cost<e2.Cost then(Zjx l cd i (w (i+1))=some r)else(Zjx l cd cn (w (i+1))=some r)))))else(Zjx l cd cn (w (i+1))=some r))))else(some (I cn,[])=some r))))/\
 ((∀⦃a a1 r⦄,Im (Zii a a1=some r) (Zjx a a1 (-1) 0=some r))/\
 ((∀⦃a a1 a2 a3 r⦄,Im (Zf6 a a1 a2 a3=some r) (a.Steps.length<=68719476736/\(a.Steps.length+a1.Steps.length<=68719476736/\(a.Steps.length+a1.Steps.length+1<=68719476736/\(some (.agg [.own 0],[.arr 287 3 true (((a.Steps++a1.Steps)++[(⟨a2,0,a3⟩:Zc)]).map Zc.c)])=some r)))))/\
 (∀⦃x x1 a a1 a2 a3 a4 a5 r⦄,Im (Zls x x1 a a1 a2 a3 a4 a5=some r) (∃(v1:Zq),Zfm a a3=some (.agg (v1.c.map .t),[])/\(0<=a1.Mask/\(∃e2,x[a1.Mask.toNat]?=some e2/\(0<=a2.Mask/\(∃e3,x[a2.Mask.toNat]?=some e3/\(0<=(orI a1.Mask a2.Mask)/\(∃e4,x[(orI a1.Mask a2.Mask).toNat]?=some e4/\(∃v4,Zd8 v1 e2 e3 e4=some (I v4,[])/\(0<=(w (a5+1))/\(∃e6,x1[(w (a5+1)).toNat]?=some e6/\(if e6.Mask=0 then(∃(v5:List Zc),Zf6 a1.Plan a2.Plan a3 a4=some (.agg [.own 0],[.arr 287 3 true (v5.map Zc.c)])/\(some (.tup [],[.arr 3 1 true (x.map ic),.arr 206 4 true ((x1.set ((w (a5+1)).toNat) (⟨(orI a1.Mask a2.Mask),a5,(w ((w (a1.Cost+a2.Cost))+v4)),(⟨v5⟩:Plan)⟩:Za)).map Za.c)])=some r))else(if(w ((w (a1.Cost+a2.Cost))+v4))<e6.Cost then(∃(v6:List Zc),Zf6 a1.Plan a2.Plan a3 a4=some (.agg [.own 0],[.arr 287 3 true (v6.map Zc.c)])/\(some (.tup [],[.arr 3 1 true (x.map ic),.arr 206 4 true ((x1.set ((w (a5+1)).toNat) (⟨(orI a1.Mask a2.Mask),a5,(w ((w (a1.Cost+a2.Cost))+v4)),(⟨v6⟩:Plan)⟩:Za)).map Za.c)])=some r))else(some (.tup [],[.arr 3 1 true (x.map ic),.arr 206 4 true (x1.map Za.c)])=some r)))))))))))))))))):=by
 and_intros
 all_goals intros
 all_goals unfold Im
 all_goals try simp only[Zo9,Z60,Ztq,Zpb,Zpa,Zjw,Zx9,Ztu,Ztt,Ztv,Zpc,Zpd,Ztw,Ztx,Zjx,Zii,Zf6,Zls,Zll,Zes,Ze.c_def,Zic,Ztp,Zto,Zlp,Zjt,Zbb,Zfm,Zd8,Zb.c_def,Zq.c_def,Plan.c_def,mpl,dfs]
 all_goals try simp only[itb]
 all_goals try simp only[itf,gS,kk]
 all_goals repeat' first|refine exI λ_=>?_|refine anJ λ_ _=>?_|refine anI λ_=>?_|refine orE2 ?_ ?_|exact False.elim
 all_goals (intro h;first|rw[Zi Z6y.eq_1]|refine run Zb1c rfl ?_|refine run Zb1d rfl ?_|rw[Zi Z61.eq_1]|refine run Zb1e rfl ?_|rw[Zi Ztr.eq_1]|rw[Zi Zx6.eq_1]|refine run Zb1f rfl ?_|rw[Zi Z63.eq_1]|refine run Zb1g rfl ?_|rw[Zi Z65.eq_1]|refine run Zb1h rfl ?_|refine run Zb1i rfl ?_|rw[Zi Z67.eq_1]|refine run Zb1j rfl ?_|refine run Zb1k rfl ?_|refine runM Zbik rfl ?_)
 all_goals (refine Yb ?_ h;clear h;simp +decide[*,kk,tI,tII,Zbhj,Z6z,Zbhk,Zbhl,Zbhm,Z62,Zbhn,Zts,Zx8,Zx7,Zbho,Z64,Zbhp,Zbhq,Z66,Zbhr,Zbhs,Zbht,Z68,Zbhu,Zbhv,Z69])
abbrev Zblz:=Zdp.1.1.1.1
abbrev Zb6r:=Zdp.1.1.1.2
abbrev Zb6s:=Zdp.1.1.2.1
abbrev Zbl0:=Zdp.1.1.2.2
abbrev Zb6t:=Zdp.1.2.1.1
abbrev Zbl1:=Zdp.1.2.1.2
abbrev Zb6u:=Zdp.1.2.2.1
abbrev Zbl2:=Zdp.1.2.2.2.1
abbrev Zb6v:=Zdp.1.2.2.2.2
abbrev Z7y:=Zdp.2.1.1.1
abbrev Zbl3:=Zdp.2.1.1.2
abbrev Zbl4:=Zdp.2.1.2.1
abbrev Zb6w:=Zdp.2.1.2.2
abbrev Zb6x:=Zdp.2.2.1.1
abbrev Zbl5:=Zdp.2.2.1.2
abbrev Zb6y:=Zdp.2.2.2.1
abbrev Zb6z:=Zdp.2.2.2.2.1
abbrev Zb60:=Zdp.2.2.2.2.2
theorem Zly:((∀⦃l cu cp i r⦄,Im (Zpf l cu cp i=some r) (if i<(l.length:Int)then(0<=i/\(∃e1,l[i.toNat]?=some e1/\(if e1.Mask=cu then(if e1.Order=cp then(some (I i,[])=some r)else(Zpf l cu cp (w (i+1))=some r))else(Zpf l cu cp (w (i+1))=some r))))else(some (I (-1),[])=some r)))/\
 ((∀⦃a a1 a2 r⦄,Im (Zpe a a1 a2=some r) (Zpf a a1 a2 0=some r))/\
 (∀⦃a a1 r⦄,Im (Zty a a1=some r) (a.Steps.length<=68719476736/\(a.Steps.length+1<=68719476736/\(some (.agg [.own 0],[.arr 287 3 true ((a.Steps++[(⟨2,0,a1⟩:Zc)]).map Zc.c)])=some r))))))/\
 (((∀⦃x x1 x2 a a1 cc cn cd a2 a3 a4 r⦄,Im (Ztz x x1 x2 a a1 cc cn cd a2 a3 a4=some r) (∃(v:Zq),Zfm a a2=some (.agg (v.c.map .t),[])/\(0<=a1.Mask/\(∃e2,x[a1.Mask.toNat]?=some e2/\(0<=cc/\(∃e3,x[cc.toNat]?=some e3/\(0<=(orI a1.Mask cc)/\(∃e4,x[(orI a1.Mask cc).toNat]?=some e4/\(∃v2,Zd8 v e2 e3 e4=some (I v2,[])/\(0<=(w (a4+1))/\(∃e6,x1[(w (a4+1)).toNat]?=some e6/\(if e6.Mask=0 then(∃(v3:List Zc),Zf6 a1.Plan (⟨x2⟩:Plan) a2 a3=some (.agg [.own 0],[.arr 287 3 true (v3.map Zc.c)])/\(some (.tup [],[.arr 3 1 true (x.map ic),.arr 206 4 true ((x1.set ((w (a4+1)).toNat) (⟨(orI a1.Mask cc),a4,(w ((w (a1.Cost+cd))+v2)),(⟨v3⟩:Plan)⟩:Za)).map Za.c),.arr 287 3 true (x2.map Zc.c)])=some r))else(if(w ((w (a1.Cost+cd))+v2))<e6.Cost then(∃(v4:List Zc),Zf6 a1.Plan (⟨x2⟩:Plan) a2 a3=some (.agg [.own 0],[.arr 287 3 true (v4.map Zc.c)])/\(some (.tup [],[.arr 3 1 true (x.map ic),.arr 206 4 true ((x1.set ((w (a4+1)).toNat) (⟨(orI a1.Mask cc),a4,(w ((w (a1.Cost+cd))+v2)),(⟨v4⟩:Plan)⟩:Za)).map Za.c),.arr 287 3 true (x2.map Zc.c)])=some r))else(some (.tup [],[.arr 3 1 true (x.map ic),.arr 206 4 true (x1.map Za.c),.arr 287 3 true (x2.map Zc.c)])=some r))))))))))))))/\
 (∀⦃x x1 x2 a cc cn cd a1 a2 a3 a4 r⦄,Im (Zt0 x x1 x2 a cc cn cd a1 a2 a3 a4=some r) (∃(v:Zq),Zfm a a2=some (.agg (v.c.map .t),[])/\(0<=cc/\(∃e2,x[cc.toNat]?=some e2/\(0<=a1.Mask/\(∃e3,x[a1.Mask.toNat]?=some e3/\(0<=(orI cc a1.Mask)/\(∃e4,x[(orI cc a1.Mask).toNat]?=some e4/\(∃v2,Zd8 v e2 e3 e4=some (I v2,[])/\(0<=(w (a4+1))/\(∃e6,x1[(w (a4+1)).toNat]?=some e6/\(if e6.Mask=0 then(∃(v3:List Zc),Zf6 (⟨x2⟩:Plan) a1.Plan a2 a3=some (.agg [.own 0],[.arr 287 3 true (v3.map Zc.c)])/\(some (.tup [],[.arr 3 1 true (x.map ic),.arr 206 4 true ((x1.set ((w (a4+1)).toNat) (⟨(orI cc a1.Mask),a4,(w ((w (cd+a1.Cost))+v2)),(⟨v3⟩:Plan)⟩:Za)).map Za.c),.arr 287 3 true (x2.map Zc.c)])=some r))else(if(w ((w (cd+a1.Cost))+v2))<e6.Cost then(∃(v4:List Zc),Zf6 (⟨x2⟩:Plan) a1.Plan a2 a3=some (.agg [.own 0],[.arr 287 3 true (v4.map Zc.c)])/\(some (.tup [],[.arr 3 1 true (x.map ic),.arr 206 4 true ((x1.set ((w (a4+1)).toNat) (⟨(orI cc a1.Mask),a4,(w ((w (cd+a1.Cost))+v2)),(⟨v4⟩:Plan)⟩:Za)).map Za.c),.arr 287 3 true (x2.map Zc.c)])=some r))else(some (.tup [],[.arr 3 1 true (x.map ic),.arr 206 4 true (x1.map Za.c),.arr 287 3 true (x2.map Zc.c)])=some r)))))))))))))))/\
 ((∀⦃x x1 x2 x3 a cc cn cd cl cv co a1 a2 a3 r⦄,Im (Zt1 x x1 x2 x3 a cc cn cd cl cv co a1 a2 a3=some r) (∃(v:Zq),Zfm a a1=some (.agg (v.c.map .t),[])/\(0<=cc/\(∃e2,x[cc.toNat]?=some e2/\(0<=cl/\(∃e3,x[cl.toNat]?=some e3/\(0<=(orI cc cl)/\(∃e4,x[(orI cc cl).toNat]?=some e4/\(∃v2,Zd8 v e2 e3 e4=some (I v2,[])/\(0<=(w (a3+1))/\(∃e6,x1[(w (a3+1)).toNat]?=some e6/\(if e6.Mask=0 then(∃(v3:List Zc),Zf6 (⟨x2⟩:Plan) (⟨x3⟩:Plan) a1 a2=some (.agg [.own 0],[.arr 287 3 true (v3.map Zc.c)])/\(some (.tup [],[.arr 3 1 true (x.map ic),.arr 206 4 true ((x1.set ((w (a3+1)).toNat) (⟨(orI cc cl),a3,(w ((w (cd+co))+v2)),(⟨v3⟩:Plan)⟩:Za)).map Za.c),.arr 287 3 true (x2.map Zc.c),.arr 287 3 true (x3.map Zc.c)])=some r))else(if(w ((w (cd+co))+v2))<e6.Cost then(∃(v4:List Zc),Zf6 (⟨x2⟩:Plan) (⟨x3⟩:Plan) a1 a2=some (.agg [.own 0],[.arr 287 3 true (v4.map Zc.c)])/\(some (.tup [],[.arr 3 1 true (x.map ic),.arr 206 4 true ((x1.set ((w (a3+1)).toNat) (⟨(orI cc cl),a3,(w ((w (cd+co))+v2)),(⟨v4⟩:Plan)⟩:Za)).map Za.c),.arr 287 3 true (x2.map Zc.c),.arr 287 3 true (x3.map Zc.c)])=some r))else(some (.tup [],[.arr 3 1 true (x.map ic),.arr 206 4 true (x1.map Za.c),.arr 287 3 true (x2.map Zc.c),.arr 287 3 true (x3.map Zc.c)])=some r))))))))))))))/\
 (∀⦃x fr x1 a a1 a2 r⦄,Im (Zgu x fr x1 a a1 a2=some r) (∃v,Zii x1 a1=some (I v,[])/\(0<=v/\(∃e2,x1[v.toNat]?=some e2/\(0<=a1/\(∃e3,x[a1.toNat]?=some e3/\(∃v1,Zd8 a.Sort_ e3 0 e3=some (I v1,[])/\(∃v2,Zpe x1 a1 a2=some (I v2,[])/\(if 0<=v2 then(∃e6,x1[v2.toNat]?=some e6/\(if e6.Cost<=(w (e2.Cost+v1))then(some (.agg (e6.c.map .t),[.arr 3 1 true (x.map ic),.arr 206 4 fr (x1.map Za.c)])=some r)else(∃(v3:List Zc),Zty e2.Plan a2=some (.agg [.own 0],[.arr 287 3 true (v3.map Zc.c)])/\(some (.agg [I a1,I a2,I (w (e2.Cost+v1)),.own 2],[.arr 3 1 true (x.map ic),.arr 206 4 fr (x1.map Za.c),.arr 287 3 true (v3.map Zc.c)])=some r))))else(∃(v4:List Zc),Zty e2.Plan a2=some (.agg [.own 0],[.arr 287 3 true (v4.map Zc.c)])/\(some (.agg [I a1,I a2,I (w (e2.Cost+v1)),.own 2],[.arr 3 1 true (x.map ic),.arr 206 4 fr (x1.map Za.c),.arr 287 3 true (v4.map Zc.c)])=some r))))))))))))):=by
 and_intros
 all_goals intros
 all_goals unfold Im
 all_goals try simp only[Zpf,Zpe,Zty,Ztz,Zt0,Zt1,Zgu,Zfm,Zd8,Zf6,Zb.c_def,Zq.c_def,Plan.c_def,Zii,Za.c_def,mpl,dfs]
 all_goals try simp only[itb]
 all_goals try simp only[itf,gS,kk]
 all_goals repeat' first|refine exI λ_=>?_|refine anJ λ_ _=>?_|refine anI λ_=>?_|refine orE2 ?_ ?_|exact False.elim
 all_goals (intro h;first|rw[Zi Z7a.eq_1]|refine run Zb1l rfl ?_|refine run Zb1m rfl ?_|refine runM Zbik rfl ?_|refine runM Zb1n rfl ?_)
 all_goals (refine Yb ?_ h;clear h;simp +decide[*,kk,tI,tII,Z7b,Zbhw,Zbhx,Z69,Zbhy])
abbrev Zbl6:=Zly.1.1
abbrev Zb61:=Zly.1.2.1
abbrev Zb62:=Zly.1.2.2
abbrev Zb63:=Zly.2.1.1
abbrev Zb64:=Zly.2.1.2
abbrev Zb65:=Zly.2.2.1
abbrev Z7z:=Zly.2.2.2
theorem Zdq:((((∀⦃cc fr l m x cd k r⦄,Im (Zpg cc fr l m x cd k=some r) (if k<(x.Z5.length:Int)then(0<=k/\(∃e1,x.Z5[k.toNat]?=some e1/\(∃v2,Zii l e1=some (I v2,[])/\(0<=v2/\(∃e3,l[v2.toNat]?=some e3/\(∃v5,Zii l (w (x.mask-e1))=some (I v5,[])/\(0<=v5/\(∃e5,l[v5.toNat]?=some e5/\(∃(v9:List Int) (v10:List Za),Zls cc cd m e3 e5 3 0 (-1)=some (.tup [],[.arr 3 1 true (v9.map ic),.arr 206 4 true (v10.map Za.c)])/\(Zph v9 fr l m x v10 e5 k e1 (w (x.mask-e1)) (-1)=some r))))))))))else(Zlt cd true ([]:List Za) cc fr l 0=some r)))/\
 (∀⦃cc fr l m x cd b k co cl o r⦄,Im (Zph cc fr l m x cd b k co cl o=some r) (if o<4 then(∃v,Zpe l co o=some (I v,[])/\(if 0<=v then(∃e2,l[v.toNat]?=some e2/\(∃(v3:List Int) (v4:List Za),Zls cc cd m e2 b 5 0 o=some (.tup [],[.arr 3 1 true (v3.map ic),.arr 206 4 true (v4.map Za.c)])/\(Zph v3 fr l m x v4 b k co cl (w (o+1))=some r)))else(Zph cc fr l m x cd b k co cl (w (o+1))=some r)))else(Zij cc fr l m x cd k co cl 0=some r))))/\
 ((∀⦃cd fr cn x cv x1 o r⦄,Im (Zlt cd fr cn x cv x1 o=some r) (if o<=4 then(0<=o/\(∃e1,cd[o.toNat]?=some e1/\(if 0<e1.Mask then(cn.length+1<=68719476736/\(Zlt cd false (cn++[e1]) x cv x1 (w (o+1))=some r))else(Zlt cd fr cn x cv x1 (w (o+1))=some r))))else(some (.own 2,[.arr 3 1 true (x.map ic),.arr 206 4 cv (x1.map Za.c),.arr 206 4 fr (cn.map Za.c)])=some r)))/\
 (∀⦃cc fr l m x cd k co cl e r⦄,Im (Zij cc fr l m x cd k co cl e=some r) (0<=k/\(∃e1,x.shared[k.toNat]?=some e1/\(if e<(e1.length:Int)then(0<=e/\(∃e2,e1[e.toNat]?=some e2/\((∃(v3:Za),Zgu cc fr l m co e2=some (.agg (v3.c.map .t),[.arr 3 1 true (cc.map ic),.arr 206 4 fr (l.map Za.c)])/\((∃(v5:Za),Zgu cc fr l m cl e2=some (.agg (v5.c.map .t),[.arr 3 1 true (cc.map ic),.arr 206 4 fr (l.map Za.c)])/\(∃(v6:List Int) (v7:List Za),Zls cc cd m v3 v5 4 e2 e2=some (.tup [],[.arr 3 1 true (v6.map ic),.arr 206 4 true (v7.map Za.c)])/\(Zij v6 fr l m x v7 k co cl (w (e+1))=some r)))\/(∃(v9:List Zc),∃v10,∃v11,∃v12,Zgu cc fr l m cl e2=some (.agg [I v10,I v11,I v12,.own 2],[.arr 3 1 true (cc.map ic),.arr 206 4 fr (l.map Za.c),.arr 287 3 true (v9.map Zc.c)])/\(∃(v13:List Int) (v14:List Za) (v15:List Zc),Ztz cc cd v9 m v3 v10 v11 v12 4 e2 e2=some (.tup [],[.arr 3 1 true (v13.map ic),.arr 206 4 true (v14.map Za.c),.arr 287 3 true (v15.map Zc.c)])/\(Zij v13 fr l m x v14 k co cl (w (e+1))=some r)))))\/(∃(v16:List Zc),∃v17,∃v18,∃v19,Zgu cc fr l m co e2=some (.agg [I v17,I v18,I v19,.own 2],[.arr 3 1 true (cc.map ic),.arr 206 4 fr (l.map Za.c),.arr 287 3 true (v16.map Zc.c)])/\((∃(v20:Za),Zgu cc fr l m cl e2=some (.agg (v20.c.map .t),[.arr 3 1 true (cc.map ic),.arr 206 4 fr (l.map Za.c)])/\(∃(v22:List Int) (v23:List Za) (v24:List Zc),Zt0 cc cd v16 m v17 v18 v19 v20 4 e2 e2=some (.tup [],[.arr 3 1 true (v22.map ic),.arr 206 4 true (v23.map Za.c),.arr 287 3 true (v24.map Zc.c)])/\(Zij v22 fr l m x v23 k co cl (w (e+1))=some r)))\/(∃(v25:List Zc),∃v26,∃v27,∃v28,Zgu cc fr l m cl e2=some (.agg [I v26,I v27,I v28,.own 2],[.arr 3 1 true (cc.map ic),.arr 206 4 fr (l.map Za.c),.arr 287 3 true (v25.map Zc.c)])/\(∃(v29:List Int) (v30:List Za) (v31:List Zc) (v32:List Zc),Zt1 cc cd v16 v25 m v17 v18 v19 v26 v27 v28 4 e2 e2=some (.tup [],[.arr 3 1 true (v29.map ic),.arr 206 4 true (v30.map Za.c),.arr 287 3 true (v31.map Zc.c),.arr 287 3 true (v32.map Zc.c)])/\(Zij v29 fr l m x v30 k co cl (w (e+1))=some r))))))))else(Zpg cc fr l m x cd (w (k+1))=some r)))))))/\
 (((∀⦃x fr x1 a a1 r⦄,Im (Zyb x fr x1 a a1=some r) (Zpg x fr x1 a a1 (List.replicate 5 (⟨0,0,0,(⟨[]⟩:Plan)⟩:Za)) 0=some r))/\
 (∀⦃cp cc m q fr cn i r⦄,Im (Zpi cp cc m q fr cn i=some r) (if i<(cp.length:Int)then(0<=i/\(∃e1,cp[i.toNat]?=some e1/\(if(andI e1.mask (w (e1.mask-1)))=0 then(∃(v2:List Int),Ztw e1.mask=some (.own 0,[.arr 3 1 true (v2.map ic)])/\(∃e3,v2[0]?=some e3/\(0<=e3/\(∃e4,q.Atoms[e3.toNat]?=some e4/\(∃e5,e4.Vars[0]?=some e5/\(0<=e1.mask/\(∃e6,cc[e1.mask.toNat]?=some e6/\(∃v13,Zd8 m.Scan e6 0 e6=some (I v13,[])/\(∃(v16:List Zc),Ztx e3=some (.agg [.own 0],[.arr 287 3 true (v16.map Zc.c)])/\(cn.length+1<=68719476736/\(Zpi cp cc m q fr (cn++[(⟨e1.mask,e5,v13,(⟨v16⟩:Plan)⟩:Za)]) (w (i+1))=some r)))))))))))else(∃v20,∃(v21:List Za),Zyb cc fr cn m e1=some (.own 2,[.arr 3 1 true (cc.map ic),.arr 206 4 fr (cn.map Za.c),.arr 206 4 v20 (v21.map Za.c)])/\(cn.length+v21.length<=68719476736/\(Zpi cp cc m q (fr && flat (v21.map Za.c)) (cn++v21) (w (i+1))=some r))))))else(some (.own 2,[.arr 259 3 true (cp.map Zbj.c),.arr 3 1 true (cc.map ic),.arr 206 4 fr (cn.map Za.c)])=some r))))/\
 ((∀⦃x x1 a a1 r⦄,Im (Zyc x x1 a a1=some r) (Zpi x x1 a a1 true ([]:List Za) 0=some r))/\
 ((∀⦃a a1 r⦄,Im (Zt4 a a1=some r) (∃v,Zii a a1=some (I v,[])/\(if v<0 then(some (.tup [.agg [I 0,I 0,I 0,.t .nil],Bo false],[])=some r)else(0<=v/\(∃e2,a[v.toNat]?=some e2/\(e2.Plan.Steps.length<=68719476736/\(some (.tup [.agg [I e2.Mask,I e2.Order,I e2.Cost,.own 0],Bo true],[.arr 287 3 true (e2.Plan.Steps.map Zc.c)])=some r)))))))/\
 (∀⦃cc i r⦄,Im (Zt5 cc i=some r) (if i<(cc.length:Int)then(0<=i/\(∃e1,cc[i.toNat]?=some e1/\(∃v2,Zbb e1 0 4096=some (Bo v2,[])/\(if v2=true then(Zt5 cc (w (i+1))=some r)else(some (Bo false,[])=some r)))))else(some (Bo true,[])=some r)))))))/\
 ((((∀⦃a a1 r⦄,Im (Zyd a a1=some r) (∃v,Zig a=some (Bo v,[])/\(if v=true then(∃v2,Zhk a=some (I v2,[])/\(if(a1.length:Int)=(w (v2+1))then(Zt5 a1 0=some r)else(some (Bo false,[])=some r)))else(some (Bo false,[])=some r))))/\
 (∀⦃a a1 a2 a3 a4 r⦄,Im (Zye a a1 a2 a3 a4=some r) (0<=a3/\(∃e1,a2[a3.toNat]?=some e1/\(∃(v2:Zq),Zfm a a1=some (.agg (v2.c.map .t),[])/\(if e1.Left<0 then(0<=e1.Mask/\(∃e3,a4[e1.Mask.toNat]?=some e3/\(∃v5,Zd8 v2 e3 0 e3=some (I v5,[])/\(some (I v5,[])=some r))))else(if e1.Right<0 then(0<=e1.Left/\(∃e5,a2[e1.Left.toNat]?=some e5/\(0<=e5.Mask/\(∃e6,a4[e5.Mask.toNat]?=some e6/\(0<=e1.Mask/\(∃e7,a4[e1.Mask.toNat]?=some e7/\(∃v16,Zd8 v2 e6 0 e7=some (I v16,[])/\(some (I v16,[])=some r))))))))else(0<=e1.Left/\(∃e9,a2[e1.Left.toNat]?=some e9/\(0<=e9.Mask/\(∃e10,a4[e9.Mask.toNat]?=some e10/\(0<=e1.Right/\(∃e11,a2[e1.Right.toNat]?=some e11/\(0<=e11.Mask/\(∃e12,a4[e11.Mask.toNat]?=some e12/\(0<=e1.Mask/\(∃e13,a4[e1.Mask.toNat]?=some e13/\(∃v33,Zd8 v2 e10 e12 e13=some (I v33,[])/\(some (I v33,[])=some r)))))))))))))))))))/\
 ((∀⦃m p cn cu cc i r⦄,Im (Zt6 m p cn cu cc i=some r) (if i<(cu.length:Int)then(0<=i/\(∃e1,p.Steps[i.toNat]?=some e1/\(∃v2,Zye m e1.Kind cu i cc=some (I v2,[])/\(cn.length+1<=68719476736/\(Zt6 m p (cn++[v2]) cu cc (w (i+1))=some r)))))else(some (.own 0,[.arr 3 1 true (cn.map ic)])=some r)))/\
 (∀⦃a a1 a2 a3 r⦄,Im (Zyf a a1 a2 a3=some r) (∃(v:List Zj),∃v1,Zo7 a1 a2=some (.tup [.own 0,Bo v1],[.arr 256 4 true (v.map Zj.c)])/\(if v1=true then(∃v2,Zyd a1 a3=some (Bo v2,[])/\(if v2=true then(Zt6 a a2 ([]:List Int) v a3 0=some r)else(some (.own 0,[.arr 3 1 true (([]:List Int).map ic)])=some r)))else(some (.own 0,[.arr 3 1 true (([]:List Int).map ic)])=some r))))))/\
 (((∀⦃l n i r⦄,Im (Zt7 l n i=some r) (if i<(l.length:Int)then(0<=i/\(∃e1,l[i.toNat]?=some e1/\(Zt7 l (w (n+e1)) (w (i+1))=some r)))else(some (I n,[])=some r)))/\
 (∀⦃a a1 a2 a3 r⦄,Im (Zyg a a1 a2 a3=some r) (∃(v:List Int),Zyf a a1 a2 a3=some (.own 0,[.arr 3 1 true (v.map ic)])/\(if(v.length:Int)=0 then(some (I (-1),[])=some r)else(Zt7 v 0 0=some r)))))/\
 ((∀⦃a a1 a2 a3 r⦄,Im (Zyh a a1 a2 a3=some r) (∃(v:List Int),Zpc a3=some (.own 0,[.arr 3 1 true (v.map ic)])/\(∃v2,Zyg a a1 a2 v=some (I v2,[])/\(some (I v2,[])=some r))))/\
 ((∀⦃a a1 a2 r⦄,Im (Zyi a a1 a2=some r) (∃(v:List Zbj),Ztt a1=some (.own 0,[.arr 259 3 true (v.map Zbj.c)])/\(∃(v2:List Int),Zpc a2.Box.Low=some (.own 0,[.arr 3 1 true (v2.map ic)])/\(∃v3,∃(v4:List Za),Zyc v v2 a a1=some (.own 2,[.arr 259 3 true (v.map Zbj.c),.arr 3 1 true (v2.map ic),.arr 206 4 v3 (v4.map Za.c)])/\(∃v5,Zhk a1=some (I v5,[])/\((∃v6 v7 v8,Zt4 v4 v5=some (.tup [.agg [I v6,I v7,I v8,.t .nil],Bo false],[])/\(some (Bo false,[])=some r))\/(∃(v9:List Zc),∃v10,∃v11,∃v12,Zt4 v4 v5=some (.tup [.agg [I v10,I v11,I v12,.own 0],Bo true],[.arr 287 3 true (v9.map Zc.c)])/\(∃v13,Zyh a a1 a2.Plan a2.Box.High=some (I v13,[])/\(some (Bo (decide ((w (v13*100))<=(w (a2.Percent*v12)))),[])=some r)))))))))/\
 (∀⦃a a1 a2 r⦄,Im (Zt8 a a1 a2=some r) (∃v,Zlk a=some (Bo v,[])/\(if v=true then(∃v2,Zhk a1=some (I v2,[])/\(∃v3,Zlo a1 v2=some (Bo v3,[])/\(if v3=true then(∃v5,Ztn a1 a2=some (Bo v5,[])/\(if v5=true then(∃v6,Zyi a a1 a2=some (Bo v6,[])/\(some (Bo v6,[])=some r))else(some (Bo false,[])=some r)))else(some (Bo false,[])=some r))))else(some (Bo false,[])=some r)))))))):=by
 and_intros
 all_goals intros
 all_goals unfold Im
 all_goals try simp only[Zpg,Zph,Zlt,Zij,Zyb,Zpi,Zyc,Zt4,Zt5,Zyd,Zye,Zt6,Zyf,Zt7,Zyg,Zyh,Zyi,Zt8,Zii,Zls,Zb.c_def,Zq.c_def,Plan.c_def,Za.c_def,Zpe,Zgu,Ztz,Zt0,Zt1,Zc.c_def,Ztw,Zd8,Ztx,Zbj.c_def,Zbb,Zig,Zhk,Ze.c_def,Zfm,Zj.c_def,Zo7,Zpc,Ztt,Zlk,Zlo,Ztn,Box.c_def,Region.c_def,mpl,dfs]
 all_goals try simp only[itb]
 all_goals try simp only[itf,gS,kk]
 all_goals repeat' first|refine exI λ_=>?_|refine anJ λ_ _=>?_|refine anI λ_=>?_|refine orE2 ?_ ?_|exact False.elim
 all_goals (intro h;first|rw[Zi Zt2.eq_1]|rw[Zi Z7c.eq_1]|rw[Zi Z7f.eq_1]|rw[Zi Z7d.eq_1]|refine runM Zb1o rfl ?_|rw[Zi Z7h.eq_1]|refine runM Zb1p rfl ?_|refine run Zb1q rfl ?_|rw[Zi Z7j.eq_1]|refine run Zb1r rfl ?_|refine run Zb1s rfl ?_|rw[Zi Z7l.eq_1]|refine run Zb1t rfl ?_|rw[Zi Z7n.eq_1]|refine run Zb1u rfl ?_|refine run Zb1v rfl ?_|refine run Zb1w rfl ?_|refine run Zb1x rfl ?_)
 all_goals (refine Yb ?_ h;clear h;simp +decide[*,kk,tI,tII,Zt3,Zbhz,Z7e,Zbh0,Z7g,Zya,Zbh1,Zbh2,Z7i,Zbh3,Zbh4,Z7k,Zbh5,Zbh6,Z7m,Zbh7,Z7o,Zbh8,Zbh9,Zbia,Zbib])
abbrev Zbl7:=Zdq.1.1.1.1
abbrev Zbl8:=Zdq.1.1.1.2
abbrev Z70:=Zdq.1.1.2.1
abbrev Zbl9:=Zdq.1.1.2.2
abbrev Zb66:=Zdq.1.2.1.1
abbrev Z71:=Zdq.1.2.1.2
abbrev Zb67:=Zdq.1.2.2.1
abbrev Zb68:=Zdq.1.2.2.2.1
abbrev Zbma:=Zdq.1.2.2.2.2
abbrev Zb69:=Zdq.2.1.1.1
abbrev Zb7a:=Zdq.2.1.1.2
abbrev Zbmb:=Zdq.2.1.2.1
abbrev Zb7b:=Zdq.2.1.2.2
abbrev Zbmc:=Zdq.2.2.1.1
abbrev Zb7c:=Zdq.2.2.1.2
abbrev Zb7d:=Zdq.2.2.2.1
abbrev Zb7e:=Zdq.2.2.2.2.1
abbrev Zb7f:=Zdq.2.2.2.2.2
theorem Z72:(∀⦃m c i r⦄,Im (Zpj m c i=some r) (if i<(c.Entries.length:Int)then(0<=i/\(∃e1,c.Entries[i.toNat]?=some e1/\(∃v,Zbb e1.Version 1 999=some (Bo v,[])/\(if v=true then(∃v1,Zbb e1.Used 1 c.Clock=some (Bo v1,[])/\(if v1=true then(∃v2,Zt8 m e1.Ze e1.Region=some (Bo v2,[])/\(if v2=true then(Zua m c e1 i 0=some r)else(some (Bo false,[])=some r)))else(some (Bo false,[])=some r)))else(some (Bo false,[])=some r)))))else(∃v3,Zbb c.Clock 0 1000000=some (Bo v3,[])/\(if v3=true then(some (Bo (decide ((c.Entries.length:Int)<=4)),[])=some r)else(some (Bo false,[])=some r)))))/\
 ((∀⦃m c e i k r⦄,Im (Zua m c e i k=some r) (if k<i then(0<=k/\(∃e1,c.Entries[k.toNat]?=some e1/\(if e1.Used=e.Used then(some (Bo false,[])=some r)else(Zua m c e i (w (k+1))=some r))))else(Zpj m c (w (i+1))=some r)))/\
 (∀⦃a a1 r⦄,Im (Zt9 a a1=some r) (Zpj a a1 0=some r))):=by
 and_intros
 all_goals intros
 all_goals unfold Im
 all_goals try simp only[Zpj,Zua,Zt9,Zbb,Zt8,Box.c_def,Zb.c_def,Zq.c_def,Plan.c_def,Ze.c_def,Region.c_def,mpl,dfs]
 all_goals try simp only[itb]
 all_goals try simp only[itf,gS,kk]
 all_goals repeat' first|refine exI λ_=>?_|refine anJ λ_ _=>?_|refine anI λ_=>?_|refine orE2 ?_ ?_|exact False.elim
 all_goals (intro h;first|rw[Zi Zyj.eq_1]|rw[Zi Z7p.eq_1]|refine run Zb1y rfl ?_)
 all_goals (refine Yb ?_ h;clear h;simp +decide[*,kk,tI,tII,Zyk,Z7q,Zbic])
abbrev Zbmd:=Z72.1
abbrev Zbme:=Z72.2.1
abbrev Zb7g:=Z72.2.2
theorem Zb7h:∀⦃a r⦄,Im (Zyl a=some r) (∃v,Zs9 a.Z3=some (Bo v,[])/\(if v=true then(∃v1,Zlk a.Zb=some (Bo v1,[])/\(if v1=true then(∃v2,Zt9 a.Zb a.Cache=some (Bo v2,[])/\(if v2=true then(∃v3,Zbb a.Ratio 2 8=some (Bo v3,[])/\(if v3=true then(∃v4,Zbb a.Slack 0 100=some (Bo v4,[])/\(if v4=true then(∃v5,Zbb a.Queries 0 1000000=some (Bo v5,[])/\(if v5=true then(∃v6,Zbb a.Spent 0 1000000000000=some (Bo v6,[])/\(some (Bo v6,[])=some r))else(some (Bo false,[])=some r)))else(some (Bo false,[])=some r)))else(some (Bo false,[])=some r)))else(some (Bo false,[])=some r)))else(some (Bo false,[])=some r)))else(some (Bo false,[])=some r))):=by
 all_goals intros
 all_goals unfold Im
 all_goals try simp only[Zyl,Zs9,Zlk,Zt9,Zbb,Zv.c_def,Zm.c_def,Zb.c_def,Zq.c_def,Zbn.c_def,Z3.c_def,mpl,dfs]
 all_goals try simp only[itb]
 all_goals try simp only[itf,gS,kk]
 all_goals repeat' first|refine exI λ_=>?_|refine anJ λ_ _=>?_|refine anI λ_=>?_|refine orE2 ?_ ?_|exact False.elim
 all_goals (intro h;first|refine run Zb1z rfl ?_)
 all_goals (refine Yb ?_ h;clear h;simp +decide[*,kk,tI,tII,Zbid])
abbrev Zb7i:=Zb7h
@[simp] theorem Zca(a b c:Int):Zba a b c=some (Bo (inR a b c),[]):=by
 refine Zb10 ?_;by_cases h:b<=a<;>simp[inR,h]
@[simp] theorem Zbu(a b c:Int):Zbb a b c=some (Bo (inR a b c),[]):=by
 refine Zb4w ?_;by_cases h:b<=a<;>simp[inR,h]
theorem lIndexI(xs:List Int)(v:Int)(hx:Le xs):∀i,i<=xs.length->
  Zrc xs v xs.length i=some (I (Zc2 (λx=>decide (v=x)) (xs.drop i) i),[]):=by
 refine down _ ?_ ?_
 .refine Zbi1 ?_;simp[Zc2]
 .intro i hi ih;refine Zbi1 ?_;have h4:=Z6 (i:=i) (by omega);rw[Z1i _ hi];simp at ih;by_cases e:v=xs[i]<;>simp[hi,h4,e,ih]
@[simp] theorem xIndexI(xs:List Int)(v:Int)(hx:Le xs):Zwb xs v=some (I (Zc2 (λx=>decide (v=x)) xs 0),[]):=by
 refine Zb2s ?_;have:=lIndexI xs v hx 0 (Ya _);simpa using this
@[simp] theorem Zlz(xs:List Int)(v:Int)(hx:Le xs):Zfj xs v=some (Bo (has xs v),[]):=by
 refine Zb2t ?_;unfold has;rcases tf (xs.any (λx=>decide (v=x)))with e|e
 .simp[hx,Zbb4 _ _ _ e,e]
 .have:=Zbb5 _ _ 0 e;simp[hx,this,e]
theorem lIndexB(xs:List Bool)(v:Bool)(hx:Le xs):∀i,i<=xs.length->
  Zrs xs v xs.length i=some (I (Zc2 (λx=>v == x) (xs.drop i) i),[]):=by
 refine down _ ?_ ?_
 .refine Zbjn ?_;simp[Zc2]
 .intro i hi ih;refine Zbjn ?_;have h4:=Z6 (i:=i) (by omega);rw[Z1i _ hi];simp at ih;by_cases e:v=xs[i]<;>simp[hi,h4,e,ih]
@[simp] theorem Zb7j(xs:List Bool)(v:Bool)(hx:Le xs):Zwp xs v=some (Bo (xs.any (λx=>v == x)),[]):=by
 refine Zb3k ?_;have q:Zwo xs v=some (I (Zc2 (λx=>v == x) xs 0),[]):=by
  refine Zb3j ?_;have:=lIndexB xs v hx 0 (Ya _);simpa using this
 rcases tf (xs.any (λx=>v == x))with e|e
 .rw[Zbb4 _ _ _ e]at q;rw[e];simp[q]
 .have:=Zbb5 _ _ 0 e;rw[e];simp[q,this]
theorem l_l7Has(xs:List Int)(v:Int)(hx:Le xs):∀i,i<=xs.length->Zs0 xs v i=some (Bo (has (xs.drop i) v),[]):=by
 unfold has;refine down _ ?_ ?_
 .refine Zbky ?_;simp
 .intro i hi ih;refine Zbky ?_;have h4:=Z6 (i:=i) (by omega);rw[drop_any _ hi];simp at ih;by_cases e:v=xs[i]
  .simp[hi,h4,<-e]
  .have e':¬xs[i]=v:=λhc=>e hc.symm
   simp[hi,h4,e,e',ih]
@[simp] theorem Zyo(xs:List Int)(v:Int)(hx:Le xs):Zic xs v=some (Bo (has xs v),[]):=by
 refine Zb5k ?_;have:=l_l7Has xs v hx 0 (Ya _);simpa using this
theorem nm_aux(s:ByteArray)(P:Prop):(if(s.size:Int)=1 then(∃(b1:UInt8),s[0]?=some b1/\(if 97<=(b1.toNat:Int)then(some (Bo (decide ((b1.toNat:Int)<=122)),[])=some (Bo (nmOk s),([]:List Blk)))else(some (Bo false,[])=some (Bo (nmOk s),([]:List Blk)))))else(some (Bo false,[])=some (Bo (nmOk s),([]:List Blk)))):=by
 by_cases h:s.size=1
 .obtain⟨b,hb⟩:=get0 h;rw[if_pos (by omega)];refine⟨b,hb,?_⟩;have e:nmOk s=(decide (97<=(b.toNat:Int)) && decide ((b.toNat:Int)<=122)):=by
   unfold nmOk;rw[hb];simp only[h,decide_true,Yx]
  by_cases h1:(97:Int)<=(b.toNat:Int)
  .rw[if_pos h1,e,decide_eq_true h1,Yx]
  .rw[if_neg h1,e,decide_eq_false h1,Ydi]
 .have h':¬(s.size:Int)=1:=by omega
  have:nmOk s=false:=by unfold nmOk;split<;>simp[h]
  simp[h',this]
@[simp] theorem x_nameOk(s:ByteArray):Zm6 s=some (Bo (nmOk s),[]):=Zb12 (nm_aux s True)
@[simp] theorem Zbmf(s:ByteArray):Zia s=some (Bo (nmOk s),[]):=Zb4v (nm_aux s True)
def LeQ(q:Ze):Prop:=Le q.Atoms/\∀a∈q.Atoms,Le a.Vars
def blB(p:Nat->Bool)(n:Nat):List Bool:=(List.range n).map p
theorem blB_set(p:Nat->Bool)(n:Nat){v:Int}(h:inR v 0 ((n:Int)-1)=true):(blB p n).set v.toNat true=blB (addV p [v]) n:=by
 simp[inR]at h;apply Ycv
 .simp[blB]
 .intro i h1 h2;simp only[blB,Ych,Yba,List.length_range]at h1;rw[List.getElem_set];simp only[blB,List.getElem_map,List.getElem_range];by_cases e:v.toNat=i
  .have:(i:Int)=v:=by omega
   simp[e,addV,has,this]
  .have:¬(i:Int)=v:=by omega
   simp[e,addV,has,this]
theorem Zb7k(q:Ze)(n:Nat)(hn:n<=4)(hq:q.Zg=n)(a:Atom)(qa:List Atom)(l j:Int)(hv:Le a.Vars)(r:AV×List Blk):∀k,k<=a.Vars.length->∀p,
  (if Zfi n (a.Vars.take k) (a.Vars.drop k)=true then Zkx q (blB (addV p (a.Vars.drop k)) n) qa l (w (j+1))=some r else some (Bo false,[])=some r)->
  Zrt q (blB p n) a qa l j a.Vars a.Vars.length k=some r:=by
 refine down _ ?_ ?_
 .intro p h;refine Zbjp ?_;simpa[Zfi,Z1g]using h
 .intro k hk ih p h;have h4:=Z6 (i:=k) (by omega);have hw:w (q.Zg-1)=(n:Int)-1:=by rw[hq];exact Z2 (by omega) (by omega)
  have hl:=Zlz (a.Vars.take k) a.Vars[k] (by simp;omega);refine Zbjp ?_;rw[Zbb6 _ hk]at h;rcases tf (inR a.Vars[k] 0 ((n:Int)-1))with e1|e1
  .simp[e1]at h;simp[hk,h4,hw,e1,<-h]
  .rcases tf (has (a.Vars.take k) a.Vars[k])with e2|e2
   .rw[Z1h p hk]at h;simp only[e1,e2,Yx,Bool.not_false]at h;have ih:=ih _ h;have e0:=e1;simp[inR]at e0;have e5:(a.Vars[k]).toNat<(blB p n).length:=by simp[blB];omega
    have e6:=blB_set p n e1;have e7:k<=a.Vars.length:=by omega
    simp at ih;simp[hk,h4,hw,e1,e2,hl,e0,e5,e6,e7,ih]
   .simp[e1,e2]at h;have e7:k<=a.Vars.length:=by omega
    simp[hk,h4,hw,e1,e2,hl,e7,<-h]
theorem Zb7l(q:Ze)(n:Nat)(hn:n<=4)(hq:q.Zg=n)(qa:List Atom)(hl:Le qa)(hv:∀a∈qa,Le a.Vars):∀k,k<=qa.length->∀p,
  Zkx q (blB p n) qa qa.length k=some (Bo ((qa.drop k).all (Zc3 n) && (List.range n).all (addA p (qa.drop k))),[]):=by
 refine down _ ?_ ?_
 .intro p;refine Zbjo ?_;have e:addA p []=p:=by funext u;simp[addA]
  have q1:=Zb7j (blB p n) false (by simp[blB];omega);have q2:(blB p n).any (λx=>false == x)=!(List.range n).all p:=bl_any p n;rw[q2]at q1;simp[q1,e]
 .intro k hk ih p;refine Zbjo ?_;have h4:=Z6 (i:=k) (by omega);rw[Zqq _ hk];rcases tf (nmOk qa[k].Name)with e1|e1
  .simp[hk,e1,Zc3]
  rcases tf (inR qa[k].Vars.length 1 3)with e2|e2
  .simp[hk,e1,e2,Zc3]
  have b:=Zb7k q n hn hq qa[k] qa qa.length k (hv _ (Yd hk)) (Bo (Zc3 n qa[k] && (qa.drop (k+1)).all (Zc3 n) && (List.range n).all (addA p (qa.drop k))),[]) 0 (Ya _) p ?_
  .simp at b;simp[hk,e1,e2,b]
  .simp only[List.take_zero,Yj,Zc3,e1,e2,Yx];rcases tf (Zfi n [] qa[k].Vars)with e3|e3
   .simp[e3]
   .have ih:=ih (addV p qa[k].Vars);simp only[e3,if_true,Yx,Zbb7 p hk];simp at ih;rw[show w ((k:Int)+1)=(k:Int)+1 from h4,ih]
@[simp] theorem Zue(q:Ze)(h:LeQ q):Zhf q=some (Bo (Zx q.Zg q.Atoms),[]):=by
 refine Zb3n ?_;unfold Zx;rcases tf (inR q.Zg 1 4)with e1|e1
 .simp[e1]
 rcases tf (inR q.Atoms.length 1 4)with e2|e2
 .simp[e1,e2]
 have e0:=e1;simp[inR]at e0;have hn:q.Zg=(q.Zg.toNat:Int):=by omega
 have b:=Zb7l q q.Zg.toNat (by omega) hn q.Atoms h.1 h.2 0 (Ya _) (λ_=>false);have r1:q.Zg.toNat<=room:=room2 (by omega);have r2:q.Zg<=room:=by
  have:(q.Zg.toNat:Int)<=room:=by exact_mod_cast r1
  omega
 have r3:q.Zg<=140737488355328:=by omega
 have ez:blB (λ_=>false) q.Zg.toNat=List.replicate q.Zg.toNat false:=by
  apply Ycv<;>simp[blB]
 rw[ez,<-hn]at b;simp at b;simp[e1,e2,e0,r1,r2,r3,b];omega
theorem Zb7m(q:Ze)(n:Nat)(c:1<=n)(hn:n<=4)(hq:q.Zg=n)(a:Atom)(j:Int)(hv:Le a.Vars)(r:AV×List Blk):∀k,k<=a.Vars.length->∀p,
  (if Zfi n (a.Vars.take k) (a.Vars.drop k)=true then Zo3 q (Zbm (addV p (a.Vars.drop k))) (w (j+1))=some r else some (Bo false,[])=some r)->
  Zth q a (Zbm p) j k=some r:=by
 refine down _ ?_ ?_
 .intro p h;refine Zblp ?_;simpa[Zfi,Z1g]using h
 .intro k hk ih p h;have h4:=Z6 (i:=k) (by omega);have hw:w (q.Zg-1)=(n:Int)-1:=by rw[hq];exact Z2 (by omega) (by omega)
  have hl:=Zyo (a.Vars.take k) a.Vars[k] (by simp;omega);have e7:k<=a.Vars.length:=by omega
  refine Zblp ?_;rw[Zbb6 _ hk]at h;rcases tf (inR a.Vars[k] 0 ((n:Int)-1))with e1|e1
  .simp[e1]at h;simp[hk,h4,hw,e1,<-h]
  .rcases tf (has (a.Vars.take k) a.Vars[k])with e2|e2
   .rw[Z1h p hk]at h;simp only[e1,e2,Yx,Bool.not_false]at h;have ih:=ih _ h;have e0:=e1;simp[inR]at e0;have e6:=Zvx p (v:=a.Vars[k]) (by simp[inR];omega);have e8:¬a.Vars[k]<0:=by omega
    simp at ih;simp[hk,h4,hw,e1,e2,hl,e0,e6,e7,e8,ih]
   .simp[e1,e2]at h;simp[hk,h4,hw,e1,e2,hl,e7,<-h]
def Zuf(n:Int)(p:Nat->Bool):Bool:=decide (Zbm p=w (shlI 1 n-1))
theorem Zb7n(q:Ze)(n:Nat)(c:1<=n)(hn:n<=4)(hq:q.Zg=n)(hl:Le q.Atoms)(hv:∀a∈q.Atoms,Le a.Vars):∀k,k<=q.Atoms.length->∀p,
  Zo3 q (Zbm p) k=some (Bo ((q.Atoms.drop k).all (Zc3 n) && Zuf n (addA p (q.Atoms.drop k))),[]):=by
 refine down _ ?_ ?_
 .intro p;refine Zblo ?_;have e:addA p []=p:=by funext u;simp[addA]
  have h0:¬(n:Int)<0:=by omega
  simp[e,hq,h0,Zuf]
 .intro k hk ih p;refine Zblo ?_;have h4:=Z6 (i:=k) (by omega);rw[Zqq _ hk];rcases tf (nmOk q.Atoms[k].Name)with e1|e1
  .simp[hk,e1,Zc3]
  rcases tf (inR q.Atoms[k].Vars.length 1 3)with e2|e2
  .simp[hk,e1,e2,Zc3]
  have b:=Zb7m q n c hn hq q.Atoms[k] k (hv _ (Yd hk)) (Bo (Zc3 n q.Atoms[k] && (q.Atoms.drop (k+1)).all (Zc3 n) && Zuf n (addA p (q.Atoms.drop k))),[]) 0 (Ya _) p ?_
  .simp at b;simp[hk,e1,e2,b]
  .simp only[List.take_zero,Yj,Zc3,e1,e2,Yx];rcases tf (Zfi n [] q.Atoms[k].Vars)with e3|e3
   .simp[e3]
   .have ih:=ih (addV p q.Atoms[k].Vars);simp only[e3,if_true,Yx,Zbb7 p hk];simp at ih;rw[show w ((k:Int)+1)=(k:Int)+1 from h4,ih]
@[simp] theorem Zyp(q:Ze)(h:LeQ q):Zig q=some (Bo (Zx q.Zg q.Atoms),[]):=by
 refine Zb6a ?_;unfold Zx;rcases tf (inR q.Zg 1 4)with e1|e1
 .simp[e1]
 rcases tf (inR q.Atoms.length 1 4)with e2|e2
 .simp[e1,e2]
 have e0:=e1;simp[inR]at e0;obtain⟨k,hk⟩:∃k:Nat,q.Zg=k:=⟨q.Zg.toNat,by omega⟩;have b:=Zb7n q k (by omega) (by omega) hk h.1 h.2 0 (Ya _) (λ_=>false);have ez:Zbm (λ_=>false)=0:=rfl;rw[ez]at b;simp only[Yj,Int.ofNat_zero]at b;have e3:(q.Atoms.all (Zc3 k) && Zuf k (addA (λ_=>false) q.Atoms))=(q.Atoms.all (Zc3 k) && (List.range k).all (addA (λ_=>false) q.Atoms)):=by
  rcases tf (q.Atoms.all (Zc3 k))with e3|e3
  .simp[e3]
  .have hk':k=1\/k=2\/k=3\/k=4:=by omega
   have hz:=all_in e3;have hz':∀u:Nat,k<=u->addA (λ_=>false) q.Atoms u=false:=λu hu=>by simp only[addA,Yb4];exact hz u (by omega)
   rw[e3,Yx,Yx,Ybk,Zuf,decide_eq_true_eq,Zbm];rcases hk' with rfl|rfl|rfl|rfl
   .simp[shlI,Z2,Zvy,hz' 1 (by omega),hz' 2 (by omega),hz' 3 (by omega),Yc4]
   .simp[shlI,Z2,Zvy,hz' 2 (by omega),hz' 3 (by omega),Yc4]
   .simp[shlI,Z2,Zvy,hz' 3 (by omega),Yc4,and_assoc]
   .simp[shlI,Z2,Zvy,Yc4,and_assoc]
 rw[e3]at b;rw[hk]at e1;simp only[Zbu,Ybg,Ybl,AV.t.injEq,T.bool.injEq,and_true,exists_eq_left',e1,e2,if_true,b,hk,Yg];simp
@[simp] theorem Zjz(q:Ze)(h:LeQ q):Zer q=some (I (Zbd q.Zg q.Atoms),[]):=by
 refine Zb3p ?_;have q1:=Zue q h;unfold Zbd;rcases tf (Zx q.Zg q.Atoms)with e|e
 .simp[q1,e]
 .have:=(Zki e).2.2.1;have h0:¬((q.Atoms.length:Int)<0):=by omega
  simp[q1,e,this,h0]
@[simp] theorem Zug(q:Ze)(h:LeQ q):Zhk q=some (I (Zbd q.Zg q.Atoms),[]):=by
 refine Zb6b ?_;have q1:=Zyp q h;unfold Zbd;rcases tf (Zx q.Zg q.Atoms)with e|e
 .simp[q1,e]
 .have:=(Zki e).2.2.1;have h0:¬((q.Atoms.length:Int)<0):=by omega
  simp[q1,e,this,h0]
theorem Zb7o(xs:List Int)(hx:Le xs):∀i,i<=xs.length->Ztk xs i=some (Bo (Zi7 (xs.drop i) && decide ((xs.length:Int)<=16)),[]):=by
 refine down _ ?_ ?_
 .refine Zblt ?_;simp[Zi7]
 .intro i hi ih;refine Zblt ?_;have h4:=Z6 (i:=i) (by omega);rw[Zbb1 hi];simp at ih;rcases tf (inR xs[i] 0 7)with h|h<;>simp[hi,h4,h,ih]
@[simp] theorem Zyq(xs:List Int)(hx:Le xs):Zlp xs=some (Bo (Zb8 xs),[]):=by
 refine Zb6h ?_;have:=Zb7o xs hx 0 (Ya _);simpa[Zb8]using this
theorem Zb7p(xs:List Int)(hx:Le xs):∀i,i<=xs.length->Zru xs xs xs.length i=some (Bo (Zi7 (xs.drop i) && decide ((xs.length:Int)<=16)),[]):=by
 refine down _ ?_ ?_
 .refine Zbjq ?_;simp[Zi7]
 .intro i hi ih;refine Zbjq ?_;have h4:=Z6 (i:=i) (by omega);rw[Zbb1 hi];simp at ih;rcases tf (inR xs[i] 0 7)with h|h<;>simp[hi,h4,h,ih]
@[simp] theorem Zyr(xs:List Int)(hx:Le xs):Zjn xs=some (Bo (Zb8 xs),[]):=by
 refine Zb3l ?_;have:=Zb7p xs hx 0 (Ya _);simpa[Zb8]using this
theorem Zb7q(xs ys:List Int)(hx:Le xs)(hl:ys.length=xs.length):∀i,i<=xs.length->Ztl xs ys i=some (Bo (Zhx (xs.drop i) (ys.drop i)),[]):=by
 refine down _ ?_ ?_
 .refine Zblu ?_;simp[Zhx]
 .intro i hi ih;refine Zblu ?_;have hi2:i<ys.length:=by omega
  have h4:=Z6 (i:=i) (by omega);rw[Zbb2 hi hi2];simp at ih;by_cases h:xs[i]<ys[i]
  .simp[hi,hi2,h4,h,show ¬ys[i]<=xs[i] by omega]
  .simp[hi,hi2,h4,h,show ys[i]<=xs[i] by omega,ih]
@[simp] theorem Zb7r(xs ys:List Int)(hx:Le xs):Zx1 xs ys=some (Bo (dom xs ys),[]):=by
 refine Zb6i ?_;by_cases hl:ys.length=xs.length
 .have:=Zb7q xs ys hx hl 0 (Ya _);simp at this;simp[hl,this,dom]
 .have h2:¬((xs.length:Int)=ys.length):=by omega
  have h1:¬(xs.length=ys.length):=by omega
  simp[h1,h2,dom]
theorem Zb7s(xs ys:List Int)(hx:Le xs)(hl:ys.length=xs.length):∀i,i<=xs.length->Zrw xs ys xs.length i=some (Bo (Zhx (xs.drop i) (ys.drop i)),[]):=by
 refine down _ ?_ ?_
 .refine Zbjr ?_;simp[Zhx]
 .intro i hi ih;refine Zbjr ?_;have hi2:i<ys.length:=by omega
  have h4:=Z6 (i:=i) (by omega);rw[Zbb2 hi hi2];simp at ih;by_cases h:xs[i]<ys[i]
  .simp[hi,hi2,h4,h,show ¬ys[i]<=xs[i] by omega]
  .simp[hi,hi2,h4,h,show ys[i]<=xs[i] by omega,ih]
@[simp] theorem Zb7t(xs ys:List Int)(hx:Le xs):Zrv xs ys=some (Bo (dom xs ys),[]):=by
 refine Zb3m ?_;by_cases hl:ys.length=xs.length
 .have:=Zb7s xs ys hx hl 0 (Ya _);simp at this;simp[hl,this,dom]
 .have h2:¬((xs.length:Int)=ys.length):=by omega
  have h1:¬(xs.length=ys.length):=by omega
  simp[h1,h2,dom]
def LeX(b:Box):Prop:=Le b.Low/\Le b.High
@[simp] theorem Zb7u(b:Box)(h:LeX b):Zwt b=some (Bo (Zhy b.Low b.High),[]):=by
 refine Zb3o ?_;have q1:=Zyr b.Low h.1;have q2:=Zyr b.High h.2;have q3:=Zb7t b.High b.Low h.2;unfold Zhy;rcases tf (Zb8 b.Low)with e1|e1<;>rcases tf (Zb8 b.High)with e2|e2<;>by_cases e3:0<b.Low.length<;>simp[q1,q2,q3,e1,e2,e3]
@[simp] theorem Zb7v(b:Box)(h:LeX b):Zx2 b=some (Bo (Zhy b.Low b.High),[]):=by
 refine Zb6j ?_;have q1:=Zyq b.Low h.1;have q2:=Zyq b.High h.2;have q3:=Zb7r b.High b.Low h.2;unfold Zhy;rcases tf (Zb8 b.Low)with e1|e1<;>rcases tf (Zb8 b.High)with e2|e2<;>by_cases e3:0<b.Low.length<;>simp[q1,q2,q3,e1,e2,e3]
theorem l_vars0(q:Ze)(m:Int)(hl:Le q.Atoms)(hv:∀a∈q.Atoms,Le a.Vars)(v:Nat)(c:v<8)(out:List Int)(ho:out.length<=8)(r:AV×List Blk):∀i,i<=q.Atoms.length->
  Zky q (out++if hasV m (q.Atoms.drop i) i v=true then[(v:Int)]else[]) m (w ((v:Int)+1))=some r->
  Znq q out m v q.Atoms q.Atoms.length i=some r:=by
 refine down _ ?_ ?_
 .intro h;refine Zbjt ?_;simpa[hasV]using h
 .intro i hi ih h;refine Zbjt ?_;have h4:=Z6 (i:=i) (by omega);have c1:=Zlz q.Atoms[i].Vars v (hv _ (Yd hi));have h0:¬(i:Int)<0:=by omega
  rw[Z1k _ hi]at h;by_cases e1:andI (shrI m i) 1=1
  .have e2:Z9 m i=true:=by simp[Z9,e1]
   rcases tf (has q.Atoms[i].Vars v)with e3|e3
   .simp[e2,e3]at h;have ih:=ih (by simpa using h);simp at ih;simp[hi,h4,h0,e1,c1,e3,ih]
   .simp[e2,e3]at h;have e4:out.length+1<=68719476736:=by omega
    simp[hi,h4,h0,e1,c1,e3,e4,h]
  .have e2:Z9 m i=false:=by simp[Z9,e1]
   simp[e2]at h;have ih:=ih (by simpa using h);simp at ih;simp[hi,h4,h0,e1,ih]
theorem l_vars1(q:Ze)(m:Int)(hl:Le q.Atoms)(hv:∀a∈q.Atoms,Le a.Vars)(n:Nat)(hq:q.Zg=n)(hn:n<=4):∀k,k<=n->
  Zky q (varL m q.Atoms k) m k=some (.own 0,[.arr Zbc 1 true ((varL m q.Atoms n).map ic)]):=by
 refine down _ ?_ ?_
 .refine Zbjs ?_;simp[hq]
 .intro k hk ih;refine Zbjs ?_;have h4:=Z6 (i:=k) (by omega)
  have b:=l_vars0 q m hl hv k (by omega) (varL m q.Atoms k) (by have:=Zm2 m q.Atoms k;omega) _ 0 (Ya _) (by
   rw[Yj,<-Zbug,show w ((k:Int)+1)=(k:Int)+1 from h4];simpa using ih)
  simp at b;simp[hq,hk,b]
@[simp] theorem Zuh(q:Ze)(m:Int)(h:LeQ q)(hv:Zx q.Zg q.Atoms=true):Zh4 q m=some (.own 0,[.arr Zbc 1 true ((varL m q.Atoms q.Zg.toNat).map ic)]):=by
 refine Zb3r ?_;have hn:=Zfy hv;have b:=l_vars1 q m h.1 h.2 q.Zg.toNat (by omega) (by omega) 0 (Ya _);simpa[varL]using b
theorem l_both(b xs:List Int)(hb:Le b)(hx:xs.length<=1000000):∀i,i<=xs.length->
  Znr ((xs.take i).filter (has b)) b xs xs.length i=some (.own 0,[.arr Zbc 1 true ((xs.filter (has b)).map ic)]):=by
 refine down _ ?_ ?_
 .refine Zbju ?_;simp
 .intro i hi ih;refine Zbju ?_;have h4:=Z6 (i:=i) (by omega);have c1:=Zlz b xs[i] hb;have e4:((xs.take i).filter (has b)).length+1<=68719476736:=by
   have:=Ybv (has b) (xs.take i);simp at this;omega
  rw[Z1l _ hi]at ih;rcases tf (has b xs[i])with e|e
  .simp[e]at ih;simp[hi,h4,c1,e,ih]
  .simp[e]at ih;simp[hi,h4,c1,e,e4,ih]
@[simp] theorem x_both(xs b:List Int)(hb:Le b)(hx:xs.length<=1000000):Zkz xs b=some (.own 0,[.arr Zbc 1 true ((xs.filter (has b)).map ic)]):=by
 refine Zb3s ?_;have:=l_both b xs hb hx 0 (Ya _);simpa using this
theorem l_bits0(q:Ze)(m:Int)(hv:∀a∈q.Atoms,Le a.Vars)(c:Var4 q.Atoms)(i:Nat)(hi:i<q.Atoms.length)(hm:Z9 m i=true)(r:AV×List Blk):∀k,k<=q.Atoms[i].Vars.length->∀p,
  Zlm q m (Zbm (addV p (q.Atoms[i].Vars.drop k))) (w ((i:Int)+1))=some r->Zo4 q m (Zbm p) i k=some r:=by
 have e1:andI (shrI m i) 1=1:=by simpa[Z9]using hm
 have h0:¬(i:Int)<0:=by omega
 have ha:=Yd hi;refine down _ ?_ ?_
 .intro p h;refine Z7w ?_;rw[Yk,Z1g]at h;simp[hi,h]
 .intro k hk ih p h;refine Z7w ?_;have h4:=Z6 (i:=k) (by have:=hv _ ha;omega);have e6:=Zvx p (v:=q.Atoms[i].Vars[k]) (c _ ha _ (Yd hk));have e7:=c _ ha _ (Yd hk);simp[inR]at e7;have e8:¬q.Atoms[i].Vars[k]<0:=by omega
  rw[Z1h p hk]at h;have ih:=ih _ h;simp at ih;simp[hi,hk,h0,e1,h4,e6,e7,e8,ih]
theorem l_bits1(q:Ze)(m:Int)(hl:Le q.Atoms)(hv:∀a∈q.Atoms,Le a.Vars)(c:Var4 q.Atoms):∀i,i<=q.Atoms.length->∀p,
  Zlm q m (Zbm p) i=some (I (Zbm (addM m p q.Atoms i)),[]):=by
 refine down _ ?_ ?_
 .intro p;refine Zblq ?_;have e:addM m p q.Atoms q.Atoms.length=p:=by funext u;simp[addM,hasV]
  simp[e]
 .intro i hi ih p;refine Zblq ?_;have h4:=Z6 (i:=i) (by omega);have h0:¬(i:Int)<0:=by omega
  rw[Zbuf m p hi];rcases tf (Z9 m i)with e|e
  .have e1:¬andI (shrI m i) 1=1:=by simpa[Z9]using e
   have ih:=ih p;simp at ih;have b:Zo4 q m (Zbm p) i 0=some (I (Zbm (addM m p q.Atoms (i+1))),[]):=by
    refine Z7w ?_;simp[hi,h0,e1,h4,ih]
   simp[hi,e,b]
  .have ih:=ih (addV p q.Atoms[i].Vars);have b:=l_bits0 q m hv c i hi e _ 0 (Ya _) p (by rw[Yj,show w ((i:Int)+1)=(i:Int)+1 from h4];simpa using ih);simp at b;simp[hi,e,b]
@[simp] theorem Zpm(q:Ze)(m:Int)(h:LeQ q)(c:Var4 q.Atoms):Zes q m=some (I (Zbm (pV m q.Atoms)),[]):=by
 refine Zb6d ?_;have b:=l_bits1 q m h.1 h.2 c 0 (Ya _) (λ_=>false);have ez:Zbm (λ_=>false)=0:=rfl;have e:addM m (λ_=>false) q.Atoms 0=pV m q.Atoms:=by funext u;simp[addM,pV]
 rw[ez,e]at b;simpa using b
theorem Zb7w(q:Ze)(hq:LeQ q)(h:Zx q.Zg q.Atoms=true)(x:Zc)(info:List Zj)(st:List Int)(hs:StOk info st)(cc:info.length<=100)(cd:st.length<=100) :
  match Zd1 q.Atoms x info st with
  |some y=>Zns q x info st=some (.tup [.agg (y.c.map .t),Bo true],[])
  |none=>∃y:Zj,Zns q x info st=some (.tup [.agg (y.c.map .t),Bo false],[]):=by
 have hl:=Zcx h;have wl:w ((q.Atoms.length:Int)-1)=(q.Atoms.length:Int)-1:=Z2 (by omega) (by omega);unfold Zd1;by_cases k1:x.Kind=1
 .rw[if_pos k1];by_cases c1:inR x.Atom 0 (q.Atoms.length-1)=true/\x.Order=0
  .rw[if_pos c1];have c2:=c1.1;simp[inR]at c2;have hlt:x.Atom.toNat<q.Atoms.length:=by omega
   have hv:=Zm1 h _ (Yd hlt);have h0:¬x.Atom<0:=by omega
   simp only;refine Zjy ?_;have e:q.Atoms[x.Atom.toNat].Vars.headD 0=q.Atoms[x.Atom.toNat].Vars[0]'(by omega):=by
    rw[Ydj,hd0 (by omega)]
   rw[Ydj]at e;simp[k1,wl,c1,h0,hlt,c2,e,show 0<q.Atoms[x.Atom.toNat].Vars.length by omega]
  .rw[if_neg c1];refine⟨⟨0,-1,-1,-1⟩,Zjy ?_⟩;rcases tf (inR x.Atom 0 (q.Atoms.length-1))with e|e
   .simp[k1,wl,e]
   .have e2:¬x.Order=0:=λhc=>c1 ⟨e,hc⟩
    simp[k1,wl,e,e2]
 rw[if_neg k1];by_cases k0:x.Atom=0
 rotate_left
 .rw[if_pos k0];exact⟨⟨0,-1,-1,-1⟩,Zjy (by simp[k1,k0])⟩
 rw[if_neg (by simpa using k0)];have w1:w ((st.length:Int)-1)=(st.length:Int)-1:=Z2 (by omega) (by omega);have w2:w ((st.length:Int)-2)=(st.length:Int)-2:=Z2 (by omega) (by omega);by_cases k2:x.Kind=2
 .rw[if_pos k2];by_cases n1:st.length<1
  .have:Zcg st info 1=none:=by unfold Zcg;rw[if_neg (by omega)]
   rw[this];have n1':(st.length:Int)<1:=by omega
   exact⟨⟨0,-1,-1,-1⟩,Zjy (by simp[k1,k2,k0,n1'])⟩
  .have n1':¬(st.length:Int)<1:=by omega
   obtain⟨s,y,t1,t2,t3,t4⟩:=Zkk hs (by omega:1<=1) (by omega:1<=st.length);have z1:(0:Int)<=(st.length:Int)-1:=by omega
   have z5:(1:Int)<=(st.length:Int):=by omega
   have z2:((st.length:Int)-1).toNat=st.length-1:=by omega
   have q1:=Zuh q y.Mask hq h;have q2:=Zlz (varL y.Mask q.Atoms q.Zg.toNat) x.Order (by have:=Zm2 y.Mask q.Atoms q.Zg.toNat;have:=Zfy h;omega);rw[Zqr h]at q2;rw[t1];simp only;by_cases c1:vin q.Atoms y.Mask x.Order=true/\y.Order≠x.Order
   .rw[if_pos c1];refine Zjy ?_;simp[k1,k2,k0,n1',w1,z1,z2,z5,t2,t3,t4,q1,q2,c1]
   .rw[if_neg c1];refine⟨⟨0,-1,-1,-1⟩,Zjy ?_⟩;rcases tf (vin q.Atoms y.Mask x.Order)with e|e
    .simp[k1,k2,k0,n1',w1,z1,z2,z5,t2,t3,t4,q1,q2,e]
    .have e2:y.Order=x.Order:=Decidable.byContradiction λhc=>c1 ⟨e,hc⟩
     simp[k1,k2,k0,n1',w1,z1,z2,z5,t2,t3,t4,q1,q2,e,e2]
 rw[if_neg k2];by_cases n2:st.length<2
 .have:Zcg st info 2=none:=by unfold Zcg;rw[if_neg (by omega)]
  rw[this];have n2':(st.length:Int)<2:=by omega
  exact⟨⟨0,-1,-1,-1⟩,Zjy (by simp[k1,k2,k0,n2'])⟩
 have n2':¬(st.length:Int)<2:=by omega
 obtain⟨s,y,t1,t2,t3,t4⟩:=Zkk hs (by omega:1<=2) (by omega:2<=st.length);obtain⟨t,z,u1,u2,u3,u4⟩:=Zkk hs (by omega:1<=1) (by omega:1<=st.length);have z1:(0:Int)<=(st.length:Int)-1:=by omega
 have z2:((st.length:Int)-1).toNat=st.length-1:=by omega
 have z3:(0:Int)<=(st.length:Int)-2:=by omega
 have z4:((st.length:Int)-2).toNat=st.length-2:=by omega
 have hn:=Zfy h;have q1:=Zuh q y.Mask hq h;have q2:=Zuh q z.Mask hq h;have l1:=Zm2 y.Mask q.Atoms q.Zg.toNat;have l2:=Zm2 z.Mask q.Atoms q.Zg.toNat;have q3:=x_both (varL y.Mask q.Atoms q.Zg.toNat) (varL z.Mask q.Atoms q.Zg.toNat) (by omega) (by omega)
 have q4:=Zlz ((varL y.Mask q.Atoms q.Zg.toNat).filter (has (varL z.Mask q.Atoms q.Zg.toNat))) x.Order (by
  have:=Ybv (has (varL z.Mask q.Atoms q.Zg.toNat)) (varL y.Mask q.Atoms q.Zg.toNat);omega)
 rw[Zbui h]at q4;have q5:=Zbuh h y.Mask z.Mask;generalize hS:(varL y.Mask q.Atoms q.Zg.toNat).filter (has (varL z.Mask q.Atoms q.Zg.toNat))=S at q3 q4 q5;rw[t1,u1];simp only
 have base:∀(r:AV×List Blk),(if andI y.Mask z.Mask=0 then
    if((S.length:Int)=0)then some (.tup [.agg [I (orI y.Mask z.Mask),I (-1),I s,I t],Bo false],[])=some r
    else if x.Kind=3 then some (.tup [.agg [I (orI y.Mask z.Mask),I (-1),I s,I t],Bo (decide (x.Order=0))],[])=some r
    else if x.Kind=5 then some (.tup [.agg [I (orI y.Mask z.Mask),I y.Order,I s,I t],Bo (decide (x.Order=0))],[])=some r
    else if x.Kind=4 then
     if(vin q.Atoms y.Mask x.Order && vin q.Atoms z.Mask x.Order)=true then
      if y.Order=x.Order then some (.tup [.agg [I (orI y.Mask z.Mask),I x.Order,I s,I t],Bo (decide (z.Order=x.Order))],[])=some r
      else some (.tup [.agg [I (orI y.Mask z.Mask),I x.Order,I s,I t],Bo false],[])=some r
     else some (.tup [.agg [I (orI y.Mask z.Mask),I x.Order,I s,I t],Bo false],[])=some r
    else some (.tup [.agg [I (orI y.Mask z.Mask),I (-1),I s,I t],Bo false],[])=some r
   else some (.tup [.agg [I (orI y.Mask z.Mask),I (-1),I s,I t],Bo false],[])=some r)->Zns q x info st=some r:=by
  intro r hr;refine Zjy ?_;simp only[k1,k0,k2,if_false,if_true,n2',w1,w2,z1,z2,z3,z4,t2,t3,t4,u2,u3,u4,q1,q2,true_and,Ybg,exists_eq_left'];refine⟨_,rfl,_,rfl,S,?_,?_⟩
  .simpa using q3
  .simp only[q4,Ybg,Ybl,AV.t.injEq,T.bool.injEq,and_true,exists_eq_left'];simpa using hr
 by_cases c1:andI y.Mask z.Mask=0/\shr q.Atoms y.Mask z.Mask=true
 rotate_left
 .rw[if_neg c1];refine⟨⟨orI y.Mask z.Mask,-1,s,t⟩,base _ ?_⟩;by_cases c2:andI y.Mask z.Mask=0
  .have c3:S.length=0:=q5.2 (by rcases tf (shr q.Atoms y.Mask z.Mask)with e|e;exact e;exact absurd ⟨c2,e⟩ c1);have c4:(S.length:Int)=0:=by omega
   rw[if_pos c2,if_pos c4];simp
  .rw[if_neg c2];simp
 rw[if_pos c1];have c4:¬(S.length:Int)=0:=λhc=>by
  have:=q5.1 (by omega);rw[c1.2]at this;cases this
 have c5:¬S=[]:=λhc=>c4 (by simp[hc])
 unfold Zc7;by_cases j1:x.Kind=3/\x.Order=0
 .rw[if_pos j1];exact base _ (by simp[c1.1,c4,c5,j1])
 rw[if_neg j1];by_cases j2:x.Kind=5/\x.Order=0
 .rw[if_pos j2];exact base _ (by simp[c1.1,c4,c5,j2])
 rw[if_neg j2];by_cases j3:x.Kind=4/\vin q.Atoms y.Mask x.Order=true/\vin q.Atoms z.Mask x.Order=true/\y.Order=x.Order/\z.Order=x.Order
 .rw[if_pos j3];exact base _ (by simp[c1.1,c4,c5,j3])
 rw[if_neg j3];simp only[Option.map_none];by_cases k3:x.Kind=3
 .have e:¬x.Order=0:=λhc=>j1 ⟨k3,hc⟩
  exact⟨⟨orI y.Mask z.Mask,-1,s,t⟩,base _ (by simp[c1.1,c4,c5,k3,e])⟩
 by_cases k5:x.Kind=5
 .have e:¬x.Order=0:=λhc=>j2 ⟨k5,hc⟩
  exact⟨⟨orI y.Mask z.Mask,y.Order,s,t⟩,base _ (by simp[c1.1,c4,c5,k5,e])⟩
 by_cases k4:x.Kind=4
 .refine⟨⟨orI y.Mask z.Mask,x.Order,s,t⟩,base _ ?_⟩;rcases tf (vin q.Atoms y.Mask x.Order)with e1|e1<;>rcases tf (vin q.Atoms z.Mask x.Order)with e2|e2<;>by_cases e3:y.Order=x.Order<;>simp[c1.1,c4,c5,k4,e1,e2,e3];exact λe4=>j3 ⟨k4,e1,e2,e3,e4⟩
 .exact⟨⟨orI y.Mask z.Mask,-1,s,t⟩,base _ (by simp[c1.1,c4,c5,k3,k4,k5])⟩
@[simp] theorem Zys(b v:Int):Zo5 b v=some (Bo (inR v 0 3 && decide (andI (shrI b v) 1=1)),[]):=by
 refine Zb6k ?_;rcases tf (inR v 0 3)with e|e
 .simp[e]
 .have e0:=e;simp[inR]at e0
  have:¬v<0:=by omega
  simp[e,this]
def Zbz(x:Zc):Option Zj->AV×List Blk
 |some y=>(.tup [.agg (y.c.map .t),I (popsI x)],[])
 |none=>(.tup [.agg [I 0,I 0,I 0,I 0],I (-1)],[])
theorem Zb7x(q:Ze)(hq:LeQ q)(h:Zx q.Zg q.Atoms=true)(x:Zc)(info:List Zj)(st:List Int)(hs:StOk info st)(cc:info.length<=100)(cd:st.length<=100) :
  Zlq q x info st=some (Zbz x (Zd1 q.Atoms x info st)):=by
 have hl:=Zcx h;have wl:w ((q.Atoms.length:Int)-1)=(q.Atoms.length:Int)-1:=Z2 (by omega) (by omega);unfold Zd1;by_cases k1:x.Kind=1
 .rw[if_pos k1];by_cases c1:inR x.Atom 0 (q.Atoms.length-1)=true/\x.Order=0
  .rw[if_pos c1];have c2:=c1.1;simp[inR]at c2;have hlt:x.Atom.toNat<q.Atoms.length:=by omega
   have hv:=Zm1 h _ (Yd hlt);have h0:¬x.Atom<0:=by omega
   refine Zhn ?_;have e:q.Atoms[x.Atom.toNat].Vars.headD 0=q.Atoms[x.Atom.toNat].Vars[0]'(by omega):=by
    rw[Ydj,hd0 (by omega)]
   rw[Ydj]at e;simp[k1,wl,c1,h0,hlt,c2,e,Zbz,popsI,show 0<q.Atoms[x.Atom.toNat].Vars.length by omega]
  .rw[if_neg c1];refine Zhn ?_;rcases tf (inR x.Atom 0 (q.Atoms.length-1))with e|e
   .simp[k1,wl,e,Zbz]
   .have e2:¬x.Order=0:=λhc=>c1 ⟨e,hc⟩
    simp[k1,wl,e,e2,Zbz]
 rw[if_neg k1];have w1:w ((st.length:Int)-1)=(st.length:Int)-1:=Z2 (by omega) (by omega);have w2:w ((st.length:Int)-2)=(st.length:Int)-2:=Z2 (by omega) (by omega);by_cases k0:x.Atom=0
 rotate_left
 .rw[if_pos k0];refine Zhn ?_;have j:∀b,Zlr q x ⟨0,0,0,0⟩ info st st.length x.Kind b=some (Zbz x none):=by
   intro b;refine Zud ?_;cases b<;>simp[k0,Zbz]
  by_cases k2:x.Kind=2
  .simp[k1,k2,k0,Zbz]
  .by_cases k3:x.Kind=3<;>by_cases k4:x.Kind=4<;>simp[k1,k2,k0,k3,k4,j]<;>first|(simp only[k3]at j;simp[j,Zbz])|(simp only[k4]at j;simp[j,Zbz])|simp[Zbz]
 rw[if_neg (by simpa using k0)];by_cases k2:x.Kind=2
 .rw[if_pos k2];refine Zhn ?_;by_cases n1:st.length<1
  .have:Zcg st info 1=none:=by unfold Zcg;rw[if_neg (by omega)]
   rw[this];have n1':(st.length:Int)<1:=by omega
   simp[k1,k2,k0,n1',Zbz]
  .have n1':¬(st.length:Int)<1:=by omega
   obtain⟨s,y,t1,t2,t3,t4⟩:=Zkk hs (by omega:1<=1) (by omega:1<=st.length);have z1:(0:Int)<=(st.length:Int)-1:=by omega
   have z5:(1:Int)<=(st.length:Int):=by omega
   have z2:((st.length:Int)-1).toNat=st.length-1:=by omega
   have q1:=Zpm q y.Mask hq (Zkj h);have q2:(inR x.Order 0 3 && decide (andI (shrI (Zbm (pV y.Mask q.Atoms)) x.Order) 1=1))=vin q.Atoms y.Mask x.Order:=by
    unfold vin;rcases tf (inR x.Order 0 3)with e|e
    .simp[e]
    .rw[e,Yx,Yx,Ybk,decide_eq_true_eq];exact at_bit _ e
   rw[t1];simp only;by_cases e2:y.Order=x.Order
   .simp[k1,k2,k0,n1',w1,z1,z2,z5,t2,t3,t4,e2,Zbz]
   .rcases tf (vin q.Atoms y.Mask x.Order)with e|e
    .simp only[k1,k2,k0,n1',w1,z1,z2,t2,t3,t4,q1,Zys,q2,e,e2,if_false,if_true,true_and,Ybg,exists_eq_left',Ybl,AV.t.injEq,T.int.injEq,T.bool.injEq,and_true];simp[Zbz]
    .simp only[k1,k2,k0,n1',w1,z1,z2,t2,t3,t4,q1,Zys,q2,e,e2,if_false,if_true,true_and,Ybg,exists_eq_left',Ybl,AV.t.injEq,T.int.injEq,T.bool.injEq,and_true];simp[Zbz,popsI,k1,k2,e2]
 rw[if_neg k2]
 -- a join
 have q0:∀(b:Zj) (c:Zj) (y:Zj) (f:Bool),x.Kind=4->∀m1 m2,Zjv q x ⟨0,0,0,0⟩ b c y (andI (Zbm (pV m1 q.Atoms)) (Zbm (pV m2 q.Atoms))) f =
   if vin q.Atoms m1 x.Order=true/\vin q.Atoms m2 x.Order=true/\b.Order=x.Order/\c.Order=x.Order then some (.tup [.agg [I y.Mask,I x.Order,I y.Left,I y.Right],I 2],[])else some (Zbz x none):=by
  intro b c y f k4 m1 m2;have e:(inR x.Order 0 3 && decide (andI (shrI (andI (Zbm (pV m1 q.Atoms)) (Zbm (pV m2 q.Atoms))) x.Order) 1=1))=(vin q.Atoms m1 x.Order && vin q.Atoms m2 x.Order):=by
   unfold vin;rcases tf (inR x.Order 0 3)with e|e
   .simp[e]
   .rw[e,Yx,Yx,Yx,Ybk,decide_eq_true_eq,Zbb3];simpa using at_bit (λu=>pV m1 q.Atoms u && pV m2 q.Atoms u) e
  split
  .rename_i hc;refine Z7x ?_;simp only[Zys,e,hc];simp[k4]
  .rename_i hc;refine Z7x ?_;simp only[Zys,e];rcases tf (vin q.Atoms m1 x.Order)with e1|e1<;>rcases tf (vin q.Atoms m2 x.Order)with e2|e2<;>by_cases e3:b.Order=x.Order<;>by_cases e4:c.Order=x.Order<;>simp[k4,e1,e2,e3,e4,Zbz];exact hc ⟨e1,e2,e3,e4⟩
 have q3:∀(b:Zj) (c:Zj) (y:Zj) (v:Int) (f:Bool),x.Kind≠4->Zjv q x ⟨0,0,0,0⟩ b c y v f=some (.tup [.agg (y.c.map .t),I 2],[]):=by
  intro b c y v f k4;exact Z7x (by simp[k4])
 have q5:∀(b:Zj) (c:Zj) (y:Zj) (v:Int),x.Kind≠4->Zo6 q x ⟨0,0,0,0⟩ b c y v=some (.tup [.agg (y.c.map .t),I 2],[]):=by
  intro b c y v k4;exact Zb6l (by simp[k4])
 by_cases kk:x.Kind=3\/x.Kind=4\/x.Kind=5
 rotate_left
 .have k3:¬x.Kind=3:=λhc=>kk (.inl hc)
  have k4:¬x.Kind=4:=λhc=>kk (.inr (.inl hc))
  have k5:¬x.Kind=5:=λhc=>kk (.inr (.inr hc))
  have hj:∀y z,Zc7 q.Atoms x y z=none:=by intro y z;simp[Zc7,k3,k4,k5]
  refine Yb (b:=some (Zbz x none)) (Zhn (by simp[k1,k2,k3,k4,k5,Zbz])) ?_;simp only[hj,Option.map_none,ite_self];split<;>rfl
 have k5':x.Kind≠3->x.Kind≠4->x.Kind=5:=λa b=>by rcases kk with h|h|h;exact absurd h a;exact absurd h b;exact h
 have red:∀r,Zlr q x ⟨0,0,0,0⟩ info st st.length x.Kind true=some r->(x.Kind=5->Zlq q x info st=some r)->Zlq q x info st=some r:=by
  intro r hr h5;by_cases k5:x.Kind=5
  .exact h5 k5
  .refine Zhn ?_;by_cases k3:x.Kind=3
   .rw[if_neg k1,if_neg k2,if_pos k3];exact hr
   .by_cases k4:x.Kind=4
    .rw[if_neg k1,if_neg k2,if_neg k3,if_pos k4];exact hr
    .exact absurd (k5' k3 k4) k5
 by_cases n2:st.length<2
 .have:Zcg st info 2=none:=by unfold Zcg;rw[if_neg (by omega)]
  rw[this];have n2':(st.length:Int)<2:=by omega
  refine red _ ?_ ?_
  .exact Zud (by simp[k0,n2',Zbz])
  .intro k5;exact Zhn (by simp[k5,k0,n2',Zbz])
 have n2':¬(st.length:Int)<2:=by omega
 obtain⟨s,y,t1,t2,t3,t4⟩:=Zkk hs (by omega:1<=2) (by omega:2<=st.length);obtain⟨t,z,u1,u2,u3,u4⟩:=Zkk hs (by omega:1<=1) (by omega:1<=st.length);have z1:(0:Int)<=(st.length:Int)-1:=by omega
 have z2:((st.length:Int)-1).toNat=st.length-1:=by omega
 have z3:(0:Int)<=(st.length:Int)-2:=by omega
 have z4:((st.length:Int)-2).toNat=st.length-2:=by omega
 have b1:=Zpm q y.Mask hq (Zkj h);have b2:=Zpm q z.Mask hq (Zkj h);have b3:=Z1m q.Atoms y.Mask z.Mask;rw[t1,u1];simp only;by_cases c1:andI y.Mask z.Mask=0
 rotate_left
 .rw[if_neg (λhc=>c1 hc.1)];refine red _ ?_ ?_
  .refine Zud ?_;simp only[k0,n2',w1,w2,z1,z2,z3,z4,t2,t3,t4,u2,u3,u4,b1,b2,c1,if_true,if_false,true_and,Ybg,exists_eq_left',Ybl,AV.t.injEq,T.int.injEq,and_true];simp[Zbz]
  .intro k5;refine Zhn ?_;simp only[k5,k0,n2',w1,w2,z1,z2,z3,z4,t2,t3,t4,u2,u3,u4,b1,b2,c1,if_true,if_false,true_and,Ybg,exists_eq_left',Ybl,AV.t.injEq,T.int.injEq,and_true];simp[Zbz]
 rcases tf (shr q.Atoms y.Mask z.Mask)with c2|c2
 .rw[if_neg (λhc=>by rw[hc.2]at c2;cases c2)];have c3:=b3.2 c2;refine red _ ?_ ?_
  .refine Zud ?_;simp only[k0,n2',w1,w2,z1,z2,z3,z4,t2,t3,t4,u2,u3,u4,b1,b2,c1,c3,if_true,if_false,true_and,Ybg,exists_eq_left',Ybl,AV.t.injEq,T.int.injEq,and_true];simp[Zbz]
  .intro k5;refine Zhn ?_;simp only[k5,k0,n2',w1,w2,z1,z2,z3,z4,t2,t3,t4,u2,u3,u4,b1,b2,c1,c3,if_true,if_false,true_and,Ybg,exists_eq_left',Ybl,AV.t.injEq,T.int.injEq,and_true];simp[Zbz]
 rw[if_pos ⟨c1,c2⟩];have c3:¬andI (Zbm (pV y.Mask q.Atoms)) (Zbm (pV z.Mask q.Atoms))=0:=λhc=>by rw[b3.1 hc]at c2;cases c2
 have p2:popsI x=2:=by unfold popsI;rw[if_neg k1,if_neg k2]
 refine red _ ?_ ?_
 .refine Zud ?_;simp only[k0,n2',w1,w2,z1,z2,z3,z4,t2,t3,t4,u2,u3,u4,b1,b2,c1,c3,if_true,if_false,true_and,Ybg,exists_eq_left',Ybl,AV.t.injEq,T.int.injEq,and_true];by_cases k4:x.Kind=4
  .have k3:¬x.Kind=3:=by omega
   have k5:¬x.Kind=5:=by omega
   rw[if_pos k4,q0 _ _ _ _ k4];simp only[Zc7,k3,k4,k5,false_and,true_and,if_false];split
   .rename_i hc;simp[Zbz,p2]
   .rfl
  .by_cases e:x.Order=0
   .by_cases k5:x.Kind=5
    .rw[if_neg k4,if_pos e,if_pos k5,q5 _ _ _ _ k4];simp[Zc7,k5,e,Zbz,p2]
    .have k3:x.Kind=3:=by omega
     rw[if_neg k4,if_pos e,if_neg k5,q3 _ _ _ _ _ k4];simp[Zc7,k3,e,Zbz,p2]
   .rw[if_neg k4,if_neg e];simp[Zc7,k4,e,Zbz]
 .intro k5;refine Zhn ?_;have k4:x.Kind≠4:=by omega
  simp only[k5,k0,n2',w1,w2,z1,z2,z3,z4,t2,t3,t4,u2,u3,u4,b1,b2,c1,c3,if_true,if_false,true_and,Ybg,exists_eq_left',Ybl,AV.t.injEq,T.int.injEq,and_true];by_cases e:x.Order=0
  .simp[e,q5 _ _ _ _ k4,Zc7,k5,Zbz,p2]
  .simp[e,Zc7,k5,Zbz]
theorem Zb7y(q:Ze)(hq:LeQ q)(h:Zx q.Zg q.Atoms=true)(p:Plan)(hl:p.Steps.length<=14):∀i,i<=p.Steps.length->∀info st,StOk info st->info.length=i->st.length<=i->
  Ztm q p info st i=some (match Zcl q.Atoms (p.Steps.drop i) i info st with
   |some (info',st')=>if st'.length=1 then(.tup [.own 0,Bo true],[.arr Zko 4 true (info'.map Zj.c)])else(.tup [.own 0,Bo false],[.arr Zko 4 true []])
   |none=>(.tup [.own 0,Bo false],[.arr Zko 4 true []])):=by
 refine down _ ?_ ?_
 .intro info st _ _ _;rw[Yk,Zcl];refine Zblv ?_;by_cases c:st.length=1
  .simp[c]
  .have c':¬(st.length:Int)=1:=by omega
   simp[c,c']
 .intro i hi ih info st hs hil hst;have h5:=Z6 (i:=i) (by omega);have s1:=Zb7x q hq h p.Steps[i] info st hs (by omega) (by omega);rw[Zbb8 q.Atoms hi];refine Zblv ?_
  cases he:Zd1 q.Atoms p.Steps[i] info st with
  |none =>
   rw[he,Zbz]at s1;have e0:Zlq q p.Steps[i] info st=some (.tup [.agg ((⟨0,0,0,0⟩:Zj).c.map .t),I (-1)],[]):=s1;rw[if_pos (by omega)];refine⟨by omega,_,Yc hi,_,_,e0,?_⟩
   simp
  |some y =>
   rw[he,Zbz]at s1;obtain⟨f1,f2,f3⟩:=Z1n hs he;rw[f1]at s1;have hn:=Zqs hs y (st.length-pops y);rw[hil]at hn;have ih:=ih (info++[y]) (st.take (st.length-pops y)++[(i:Int)]) hn (by simp[hil]) (st_len hst _);have w2:w ((st.length:Int)-(pops y:Int))=(st.length:Int)-(pops y:Int):=Z2 (by omega) (by omega);have z2:((st.length:Int)-(pops y:Int)).toNat=st.length-pops y:=by omega
   rw[if_pos (by omega)];refine⟨by omega,_,Yc hi,_,_,s1,?_⟩;rw[if_neg (by omega),w2,z2];refine⟨by omega,by omega,by omega,by omega,by omega,?_⟩;rw[show w ((i:Int)+1)=(i:Int)+1 from h5];simpa using ih
@[simp] theorem Zbmg(q:Ze)(p:Plan)(hq:LeQ q):Zo7 q p=some (match Zcm q.Zg q.Atoms p.Steps with
  |some info=>(.tup [.own 0,Bo true],[.arr Zko 4 true (info.map Zj.c)])
  |none=>(.tup [.own 0,Bo false],[.arr Zko 4 true []])):=by
 refine Zb6m ?_;have q1:=Zyp q hq;unfold Zcm;rcases tf (Zx q.Zg q.Atoms)with e|e
 .simp[q1,e]
 rcases tf (inR p.Steps.length 1 14)with e2|e2
 .simp[q1,e,e2]
 .have e3:=e2;simp[inR]at e3;have b:=Zb7y q hq e p (by omega) 0 (Ya _) [] [] (λs hs=>by cases hs) rfl (Yh _);simp only[Yj]at b;simp only[q1,e,e2,Zbu,Ybg,Ybl,AV.t.injEq,T.bool.injEq,and_true,exists_eq_left',if_true,and_self];refine Yb b ?_
  cases Zcl q.Atoms p.Steps 0 [] []with
  |none=>rfl
  |some r=>obtain⟨a,b⟩:=r;simp only;split<;>rfl
theorem Zb7z(q:Ze)(hq:LeQ q)(h:Zx q.Zg q.Atoms=true)(steps:List Zc)(hl:steps.length<=14):∀i,i<=steps.length->∀info st,StOk info st->info.length=i->st.length<=i->
  Zk0 q info st steps steps.length i=some (match Zcl q.Atoms (steps.drop i) i info st with
   |some (info',st')=>if st'.length=1 then(.tup [.own 0,Bo true],[.arr Zko 4 true (info'.map Zj.c)])else(.tup [.t .nil,Bo false],[])
   |none=>(.tup [.t .nil,Bo false],[])):=by
 refine down _ ?_ ?_
 .intro info st _ _ _;rw[Yk,Zcl];refine Zbjv ?_;by_cases c:st.length=1
  .simp[c]
  .have c':¬(st.length:Int)=1:=by omega
   simp[c,c']
 .intro i hi ih info st hs hil hst;have h5:=Z6 (i:=i) (by omega);have s1:=Zb7w q hq h steps[i] info st hs (by omega) (by omega);rw[Zbb8 q.Atoms hi];refine Zbjv ?_
  cases he:Zd1 q.Atoms steps[i] info st with
  |none =>
   rw[he]at s1;obtain⟨y,s1⟩:=s1;rw[if_pos (by omega)];refine⟨by omega,_,Yc hi,_,_,s1,?_⟩
   simp
  |some y =>
   rw[he]at s1;obtain⟨f1,f2,f3⟩:=Z1n hs he;have hn:=Zqs hs y (st.length-pops y);rw[hil]at hn;have ih:=ih (info++[y]) (st.take (st.length-pops y)++[(i:Int)]) hn (by simp[hil]) (st_len hst _);rw[if_pos (by omega)];refine⟨by omega,_,Yc hi,_,_,s1,?_⟩;rw[if_pos rfl];refine⟨by omega,?_⟩;simp only;unfold pops at ih f2|-;rw[show w ((i:Int)+1)=(i:Int)+1 from h5];by_cases r:0<=y.Right
   .simp only[if_pos r]at ih f2|-;have w2:w ((st.length:Int)-2)=(st.length:Int)-2:=Z2 (by omega) (by omega);have z2:((st.length:Int)-2).toNat=st.length-2:=by omega
    rw[w2,z2];refine⟨by omega,by omega,by omega,by simpa using ih⟩
   .simp only[if_neg r]at ih f2|-;by_cases l:0<=y.Left
    .simp only[if_pos l]at ih f2|-;have w2:w ((st.length:Int)-1)=(st.length:Int)-1:=Z2 (by omega) (by omega);have z2:((st.length:Int)-1).toNat=st.length-1:=by omega
     rw[w2,z2];refine⟨by omega,by omega,by omega,by simpa using ih⟩
    .simp only[if_neg l]at ih f2|-;exact⟨by omega,by simpa using ih⟩
@[simp] theorem Zbmh(q:Ze)(p:Plan)(hq:LeQ q):Zjo q p=some (match Zcm q.Zg q.Atoms p.Steps with
  |some info=>(.tup [.own 0,Bo true],[.arr Zko 4 true (info.map Zj.c)])
  |none=>(.tup [.t .nil,Bo false],[])):=by
 refine Zb3t ?_;have q1:=Zue q hq;unfold Zcm;rcases tf (Zx q.Zg q.Atoms)with e|e
 .simp[q1,e]
 rcases tf (inR p.Steps.length 1 14)with e2|e2
 .simp[q1,e,e2]
 .have e3:=e2;simp[inR]at e3;have b:=Zb7z q hq e p.Steps (by omega) 0 (Ya _) [] [] (λs hs=>by cases hs) rfl (Yh _);simp only[Yj]at b;simp only[q1,e,e2,Zca,Ybg,Ybl,AV.t.injEq,T.bool.injEq,and_true,exists_eq_left',if_true,and_self];refine Yb b ?_
  cases Zcl q.Atoms p.Steps 0 [] []with
  |none=>rfl
  |some r=>obtain⟨a,b⟩:=r;simp only;split<;>rfl
@[simp] theorem Zb70(q:Ze)(p:Plan)(hq:LeQ q):Zwx q p=some (I (Zi9 q.Zg q.Atoms p.Steps),[]):=by
 refine Zb3u ?_;have q1:=Zbmh q p hq;unfold Zi9
 cases he:Zcm q.Zg q.Atoms p.Steps with
 |none=>rw[he]at q1;exact .inl ⟨q1,rfl⟩
 |some info =>
  obtain⟨l1,l2,l3,l4⟩:=Zkl he;rw[he]at q1;have hlt:info.length-1<info.length:=by omega
  have w1:w ((info.length:Int)-1)=(info.length:Int)-1:=Z2 (by omega) (by omega);have z2:((info.length:Int)-1).toNat=info.length-1:=by omega
  refine .inr ⟨info,q1,?_⟩;rw[w1,z2];refine⟨by omega,_,Yc hlt,?_⟩;simp[Yc hlt]
@[simp] theorem Zb71(q:Ze)(p:Plan)(hq:LeQ q):Zx5 q p=some (I (Zi9 q.Zg q.Atoms p.Steps),[]):=by
 refine Zb6n ?_;have q1:=Zbmg q p hq;unfold Zi9
 cases he:Zcm q.Zg q.Atoms p.Steps with
 |none=>rw[he]at q1;exact⟨[],false,q1,by simp⟩
 |some info =>
  obtain⟨l1,l2,l3,l4⟩:=Zkl he;rw[he]at q1;have hlt:info.length-1<info.length:=by omega
  have w1:w ((info.length:Int)-1)=(info.length:Int)-1:=Z2 (by omega) (by omega);have z2:((info.length:Int)-1).toNat=info.length-1:=by omega
  refine⟨info,true,q1,?_⟩;rw[if_pos rfl,w1,z2];refine⟨by omega,_,Yc hlt,?_⟩;simp[Yc hlt]
def Zf7:Int->List Zf->Bool
 |_,[]=>true
 |p,s::r=>inR s.From 1 8192 && inR s.Add (-99) 99 && decide (p<s.From) && Zf7 s.From r
def Zea(l:List Zf):Nat->Int
 |0=>0
 |i+1=>match l[i]? with|some s=>s.From|none=>0
def Zeb(n:Int):Bool:=inR n (-99) 99
def Zcb(o:Zq):Bool:=Zeb o.Fixed && Zeb o.Zr && Zeb o.Zs && Zeb o.Zu && Zeb o.Zt && decide (o.Steps.length<=4) && Zf7 0 o.Steps
theorem Zbmi(p:Int){l:List Zf}{i:Nat}(h:i<l.length):Zf7 p (l.drop i)=(inR l[i].From 1 8192 && inR l[i].Add (-99) 99 && decide (p<l[i].From) && Zf7 l[i].From (l.drop (i+1))):=by
 rw[Yf h,Zf7]
@[simp] theorem Zb72(n:Int):Zie n=some (Bo (Zeb n),[]):=by
 refine Zb50 ?_;simp[Zeb]
theorem Zb73(o:Zq)(hl:Le o.Steps):∀i,i<=o.Steps.length->Zli o i=some (Bo (Zf7 (Zea o.Steps i) (o.Steps.drop i)),[]):=by
 refine down _ ?_ ?_
 .refine Zblf ?_;simp[Zf7]
 .intro i hi ih;refine Zblf ?_;have h4:=Z6 (i:=i) (by omega);rw[Zbmi _ hi];have pn:Zea o.Steps (i+1)=o.Steps[i].From:=by simp[Zea,Yc hi]
  rw[pn]at ih;simp only[Yt,Yu]at ih;rw[if_pos (by omega)];refine⟨by omega,o.Steps[i],by rw[Yg];exact Yc hi,_,Zbu _ _ _,?_⟩;rcases tf (inR o.Steps[i].From 1 8192)with e1|e1
  .rw[e1];simp
  rw[e1,if_pos rfl];refine⟨_,Zb72 _,?_⟩;unfold Zeb;rcases tf (inR o.Steps[i].Add (-99) 99)with e2|e2
  .rw[e2];simp
  rw[e2,if_pos rfl,show w ((i:Int)+1)=(i:Int)+1 from h4]
  cases i with
  |zero =>
   rw[if_neg (by omega),ih]
   have:Zea o.Steps 0<o.Steps[0].From:=by simp[inR]at e1;simp[Zea];omega
   simp[this]
  |succ j =>
   have hj:j<o.Steps.length:=by omega
   have w2:w (((j+1:Nat):Int)-1)=j:=by rw[show((j+1:Nat):Int)-1=j by omega];exact Z2 (by omega) (by omega)
   have pj:Zea o.Steps (j+1)=o.Steps[j].From:=by simp[Zea,Yc hj]
   rw[if_pos (by omega),w2,pj];refine⟨by omega,o.Steps[j],by rw[Yg];exact Yc hj,?_⟩;by_cases e3:o.Steps[j+1].From<=o.Steps[j].From
   .rw[if_pos e3,decide_eq_false (by omega)];simp
   .rw[if_neg e3,decide_eq_true (by omega),ih];simp
@[simp] theorem Zui(o:Zq)(hl:Le o.Steps):Zjs o=some (Bo (Zcb o),[]):=by
 refine Zb51 ?_;have b:=Zb73 o hl 0 (Ya _);simp only[Zea,Yj,Int.ofNat_zero]at b;have b:Zli o 0=_:=b;unfold Zcb;rcases tf (Zeb o.Fixed)with e1|e1
 .simp[e1]
 rcases tf (Zeb o.Zr)with e2|e2
 .simp[e1,e2]
 rcases tf (Zeb o.Zs)with e3|e3
 .simp[e1,e2,e3]
 rcases tf (Zeb o.Zu)with e4|e4
 .simp[e1,e2,e3,e4]
 rcases tf (Zeb o.Zt)with e5|e5
 .simp[e1,e2,e3,e4,e5]
 by_cases e6:o.Steps.length<=4
 .have e7:¬(4:Int)<o.Steps.length:=by omega
  simp[e1,e2,e3,e4,e5,e6,e7,b]
 .have e7:(4:Int)<o.Steps.length:=by omega
  simp[e1,e2,e3,e4,e5,e6,e7]
theorem Zb74(o:Zq)(hl:Le o.Steps):∀i,i<=o.Steps.length->Zje o o.Steps o.Steps.length i=some (Bo (Zf7 (Zea o.Steps i) (o.Steps.drop i) && decide (o.Steps.length<=4)),[]):=by
 refine down _ ?_ ?_
 .refine Zbjc ?_;rw[if_neg (by omega)];by_cases e:o.Steps.length<=4
  .simp[Zf7,e];omega
  .simp[Zf7,e];omega
 .intro i hi ih;refine Zbjc ?_;have h4:=Z6 (i:=i) (by omega);rw[Zbmi _ hi];have pn:Zea o.Steps (i+1)=o.Steps[i].From:=by simp[Zea,Yc hi]
  rw[pn]at ih;simp only[Yt,Yu]at ih;rw[if_pos (by omega)];refine⟨by omega,o.Steps[i],by rw[Yg];exact Yc hi,_,Zca _ _ _,?_⟩;rcases tf (inR o.Steps[i].Add (-99) 99)with e2|e2
  .rw[e2];simp
  rw[e2,if_pos rfl];refine⟨_,Zca _ _ _,?_⟩;rcases tf (inR o.Steps[i].From 1 8192)with e1|e1
  .rw[e1];simp
  rw[e1,if_pos rfl,show w ((i:Int)+1)=(i:Int)+1 from h4]
  cases i with
  |zero =>
   rw[if_neg (by omega),ih]
   have:Zea o.Steps 0<o.Steps[0].From:=by simp[inR]at e1;simp[Zea];omega
   simp[this]
  |succ j =>
   have hj:j<o.Steps.length:=by omega
   have w2:w (((j+1:Nat):Int)-1)=j:=by rw[show((j+1:Nat):Int)-1=j by omega];exact Z2 (by omega) (by omega)
   have pj:Zea o.Steps (j+1)=o.Steps[j].From:=by simp[Zea,Yc hj]
   rw[if_pos (by omega),w2,pj];refine⟨by omega,o.Steps[j],by rw[Yg];exact Yc hj,?_⟩;by_cases e3:o.Steps[j+1].From<=o.Steps[j].From
   .rw[if_pos e3,decide_eq_false (by omega)];simp
   .rw[if_neg e3,decide_eq_true (by omega),ih];simp
@[simp] theorem Zec(o:Zq)(hl:Le o.Steps):Zct o=some (Bo (Zcb o),[]):=by
 refine Zb3b ?_;have hc:Zwj o=some (.bsl 1 5,[.box (o.c.map .t),.box [.ptr 0 0,.ptr 0 1,.ptr 0 2,.ptr 0 3,.ptr 0 4]]):=Zb3a rfl;refine⟨hc,?_⟩;have b:=Zb74 o hl 0 (Ya _);simp only[Zea,Yj]at b;have b:Zje o o.Steps o.Steps.length 0=_:=b;have w1:w (0+1)=1:=by decide
 have w2:w (1+1)=2:=by decide
 have w3:w (2+1)=3:=by decide
 have w4:w (3+1)=4:=by decide
 have w5:w (4+1)=5:=by decide
 unfold Zcb Zeb;refine Zpk ?_;rw[if_pos (by omega),if_pos rfl];refine⟨_,Zca _ _ _,?_⟩;rcases tf (inR o.Fixed (-99) 99)with e1|e1
 .rw[e1];simp
 rw[e1,if_pos rfl,w1];refine Zpk ?_;rw[if_pos (by omega),if_neg (by omega),if_pos rfl];refine⟨_,Zca _ _ _,?_⟩;rcases tf (inR o.Zr (-99) 99)with e2|e2
 .rw[e2];simp
 rw[e2,if_pos rfl,w2];refine Zpk ?_;rw[if_pos (by omega),if_neg (by omega),if_neg (by omega),if_pos rfl];refine⟨_,Zca _ _ _,?_⟩;rcases tf (inR o.Zs (-99) 99)with e3|e3
 .rw[e3];simp
 rw[e3,if_pos rfl,w3];refine Zpk ?_;rw[if_pos (by omega),if_neg (by omega),if_neg (by omega),if_neg (by omega),if_pos rfl];refine⟨_,Zca _ _ _,?_⟩;rcases tf (inR o.Zu (-99) 99)with e4|e4
 .rw[e4];simp
 rw[e4,if_pos rfl,w4];refine Zpk ?_;rw[if_pos (by omega),if_neg (by omega),if_neg (by omega),if_neg (by omega),if_neg (by omega),if_pos rfl];refine⟨_,Zca _ _ _,?_⟩;rcases tf (inR o.Zt (-99) 99)with e5|e5
 .rw[e5];simp
 rw[e5,if_pos rfl,w5];refine Zpk ?_;rw[if_neg (by omega),b];simp[Bool.and_comm]
def Zil(o:Zq)(l r n:Int):Int:=w (w (w (w (o.Fixed+w (o.Zr*l))+w (o.Zs*r))+w (o.Zu*n))+w (w (o.Zt*l)*r))
def Zf8(l r n:Int)(s:Zf):Int:=if s.From<=w (l+r)then w (n+s.Add)else n
def Zpn(o:Zq)(l r n:Int):Int:=o.Steps.foldl (Zf8 l r) (Zil o l r n)
def Zb0(o:Zq)(l r n:Int):Int:=if(Zcb o && inR l 0 4096 && inR r 0 4096 && inR n 0 4096)=true then Zpn o l r n else 0
theorem Zb75(l r:Int)(st:List Zf)(hl:Le st):∀i,i<=st.length->∀n,Zno l r n st st.length i=some (I ((st.drop i).foldl (Zf8 l r) n),[]):=by
 refine down _ ?_ ?_
 .intro n;refine Zbjg ?_;simp
 .intro i hi ih n;refine Zbjg ?_;have h4:=Z6 (i:=i) (by omega);rw[Yf hi,Y1];simp only[Yt,Yu]at ih;by_cases e:st[i].From<=w (l+r)
  .simp[hi,h4,e,ih,Zf8]
  .simp[hi,h4,e,ih,Zf8]
@[simp] theorem Zcib(o:Zq)(hl:Le o.Steps)(l r n:Int):Zku o l r n=some (I (Zpn o l r n),[]):=by
 refine Zb3e ?_;have b:=Zb75 l r o.Steps hl 0 (Ya _) (Zil o l r n);simpa[Zpn,Zil]using b
@[simp] theorem Zho(o:Zq)(hl:Le o.Steps)(l r n:Int):Zcq o l r n=some (I (Zb0 o l r n),[]):=by
 refine Zb31 ?_;unfold Zb0;rcases tf (Zcb o)with e1|e1<;>rcases tf (inR l 0 4096)with e2|e2<;>rcases tf (inR r 0 4096)with e3|e3<;>rcases tf (inR n 0 4096)with e4|e4<;>simp[hl,e1,e2,e3,e4]
theorem Zb76(o:Zq)(l r:Int)(hl:Le o.Steps):∀i,i<=o.Steps.length->∀n,Zlj o l r n i=some (I ((o.Steps.drop i).foldl (Zf8 l r) n),[]):=by
 refine down _ ?_ ?_
 .intro n;refine Zblg ?_;simp
 .intro i hi ih n;refine Zblg ?_;have h4:=Z6 (i:=i) (by omega);rw[Yf hi,Y1];simp only[Yt,Yu]at ih;by_cases e:o.Steps[i].From<=w (l+r)
  .simp[hi,h4,e,ih,Zf8]
  .simp[hi,h4,e,ih,Zf8]
@[simp] theorem Zgy(o:Zq)(hl:Le o.Steps)(l r n:Int):Zd8 o l r n=some (I (Zb0 o l r n),[]):=by
 refine Zb54 ?_;have b:=Zb76 o l r hl 0 (Ya _) (Zil o l r n);simp only[Yj,Zil]at b;have b:Zlj o l r _ 0=_:=b;unfold Zb0;rcases tf (Zcb o)with e1|e1<;>rcases tf (inR l 0 4096)with e2|e2<;>rcases tf (inR r 0 4096)with e3|e3<;>rcases tf (inR n 0 4096)with e4|e4<;>simp[hl,e1,e2,e3,e4,b,Zpn,Zil]
end Go.Proofs.YtdioodopdlpinaaGreat
