/-
  Parts of the proofs for this seat: G21 G22 G23 G24.
-/
import Derived.Test.YtnnjbejcffjgfaaGreatP11
import Derived.Test.YtnnjbejcffjgfaaGreatP12
set_option linter.unusedSimpArgs false
set_option linter.unusedVariables false
set_option maxRecDepth 100000
set_option maxHeartbeats 4000000
namespace Go.Proofs.YtnnjbejcffjgfaaGreat
open Go.AM
theorem Zdp:((((∀⦃p cd d n r⦄,Im (Zht p cd d n=some r) (if n<300 then(∃v,Zt8 d=some (I v,[])/\(if v<0 then(Zzu p cd d d.Value 0=some r)else(∃v7,Zt9 d v=some (I v7,[])/\(if v7<0 then(some (.tup [.agg [I 0,I 0,.own 0,.own 1],Bo false],[.arr 149 2 true (([]:List Za).map Za.c),.arr 149 2 true (([]:List Za).map Za.c)])=some r)else((∃(v11:List Int),∃(v12:List Int),∃(v13:List (List Za)),∃(v14:List Za),∃(v15:List Za),∃(v16:Za),∃v17,Zo4 d v7 v=some (.tup [.agg [.own 0,.own 1,.own 2,.own 3,.own 4,I v16.Num,I v16.Den],Bo v17],[.arr 3 1 true (v11.map ic),.arr 3 1 true (v12.map ic),.arr 179 1 true (v13.map (lc 2 Za.c)),.arr 149 2 true (v14.map Za.c),.arr 149 2 true (v15.map Za.c)])/\(if v17=true then(Zht p cd (⟨v11,v12,v13,v14,v15,v16⟩:Zl) (w (n+1))=some r)else(some (.tup [.agg [I 0,I 0,.own 0,.own 1],Bo false],[.arr 149 2 true (([]:List Za).map Za.c),.arr 149 2 true (([]:List Za).map Za.c)])=some r)))\/(∃(v18:List Int),∃(v19:List Int),∃v20,∃(v21:List (List Za)),∃(v22:List Za),∃(v23:List Za),∃(v24:Za),Zo4 d v7 v=some (.tup [.agg [.own 0,.own 1,.own 2,.own 3,.own 4,I v24.Num,I v24.Den],Bo true],[.arr 3 1 true (v18.map ic),.arr 3 1 true (v19.map ic),.arr 179 1 v20 (v21.map (lc 2 Za.c)),.arr 149 2 true (v22.map Za.c),.arr 149 2 true (v23.map Za.c)])/\(Zht p cd (⟨v18,v19,v21,v22,v23,v24⟩:Zl) (w (n+1))=some r)))))))else(some (.tup [.agg [I 0,I 0,.own 0,.own 1],Bo false],[.arr 149 2 true (([]:List Za).map Za.c),.arr 149 2 true (([]:List Za).map Za.c)])=some r)))/\
 (∀⦃p cd d cc k r⦄,Im (Zzu p cd d cc k=some r) (if k<(p.Objective.length:Int)then(∃(v:Za),Zb3 0=some (.agg (v.c.map .t),[])/\(Zuj p cd d cc ([v]) (w (k+1))=some r))else(Zbm9 p cd d cc 0=some r))))/\
 ((∀⦃p cd d cc x k r⦄,Im (Zuj p cd d cc x k=some r) (if k<(p.Objective.length:Int)then(∃(v:Za),Zb3 0=some (.agg (v.c.map .t),[])/\(x.length+1<=68719476736/\(Zuj p cd d cc (x++[v]) (w (k+1))=some r)))else(Z97 p cd d cc x 0=some r)))/\
 (∀⦃p cd d cc x i r⦄,Im (Z97 p cd d cc x i=some r) (if i<(p.Rows.length:Int)then(∃(v:Za),Zb3 0=some (.agg (v.c.map .t),[])/\(Zuk p cd d cc x ([v]) (w (i+1))=some r))else(Zbna p cd d cc x 0=some r)))))/\
 (((∀⦃p cd d cc x x1 i r⦄,Im (Zuk p cd d cc x x1 i=some r) (if i<(p.Rows.length:Int)then(∃(v:Za),Zb3 0=some (.agg (v.c.map .t),[])/\(x1.length+1<=68719476736/\(Zuk p cd d cc x (x1++[v]) (w (i+1))=some r)))else(Zo7 p cd d cc x x1 0=some r)))/\
 (∀⦃p cd d cc x x1 i r⦄,Im (Zo7 p cd d cc x x1 i=some r) (if i<(d.Basic.length:Int)then(0<=i/\(∃e1,d.Basic[i.toNat]?=some e1/\(if e1<(p.Objective.length:Int)then(∃e2,d.Limits[i.toNat]?=some e2/\(0<=e1/\(∃e3,x[e1.toNat]?=some e3/\(Zo7 p cd d cc (x.set e1.toNat e2) x1 (w (i+1))=some r))))else(Zo7 p cd d cc x x1 (w (i+1))=some r))))else(Zo8 p cd d cc x x1 0=some r))))/\
 ((∀⦃p cd d cc x x1 k r⦄,Im (Zo8 p cd d cc x x1 k=some r) (if k<(d.Free.length:Int)then(0<=k/\(∃e1,d.Free[k.toNat]?=some e1/\(if(p.Objective.length:Int)<=e1 then(∃e2,d.Costs[k.toNat]?=some e2/\(0<=(w (e1-(p.Objective.length:Int)))/\(∃e3,x1[(w (e1-(p.Objective.length:Int))).toNat]?=some e3/\(Zo8 p cd d cc x (x1.set ((w (e1-(p.Objective.length:Int))).toNat) (⟨(w (0-e2.Num)),e2.Den⟩:Za)) (w (k+1))=some r))))else(Zo8 p cd d cc x x1 (w (k+1))=some r))))else(some (.tup [.agg [I cc.Num,I cc.Den,.own 0,.own 1],Bo true],[.arr 149 2 true (x.map Za.c),.arr 149 2 true (x1.map Za.c)])=some r)))/\
 (∀⦃a r⦄,Im (Zui a=some r) (∃(v:List Int),∃(v1:List Int),∃(v2:List (List Za)),∃(v3:List Za),∃(v4:List Za),∃(v5:Za),∃v6,Ztz a=some (.tup [.agg [.own 0,.own 1,.own 2,.own 3,.own 4,I v5.Num,I v5.Den],Bo v6],[.arr 3 1 true (v.map ic),.arr 3 1 true (v1.map ic),.arr 179 1 true (v2.map (lc 2 Za.c)),.arr 149 2 true (v3.map Za.c),.arr 149 2 true (v4.map Za.c)])/\(if v6=true then(Zht a (⟨0,0⟩:Za) (⟨v,v1,v2,v3,v4,v5⟩:Zl) 0=some r)else(some (.tup [.agg [I 0,I 0,.own 0,.own 1],Bo false],[.arr 149 2 true (([]:List Za).map Za.c),.arr 149 2 true (([]:List Za).map Za.c)])=some r)))))))/\
 ((((∀⦃a a1 a2 r⦄,Im (Zzv a a1 a2=some r) (∃(v:List Int),∃(v1:List (List Int)),∃(v2:List Int),∃v3,Zzd a a1 a2=some (.tup [.agg [.own 0,.own 1,.own 2],Bo v3],[.arr 3 1 true (v.map ic),.arr 56 1 true (v1.map isc),.arr 3 1 true (v2.map ic)])/\(if v3=true then(∃(v7:List Za),∃(v8:List Za),∃(v9:Za),∃v10,Zui (⟨v,v1,v2⟩:Program)=some (.tup [.agg [I v9.Num,I v9.Den,.own 0,.own 1],Bo v10],[.arr 149 2 true (v7.map Za.c),.arr 149 2 true (v8.map Za.c)])/\(some (.tup [.agg [I v9.Num,I v9.Den,.own 0,.own 1],Bo v10],[.arr 149 2 true (v7.map Za.c),.arr 149 2 true (v8.map Za.c)])=some r))else(some (.tup [.agg [I 0,I 0,.own 0,.own 1],Bo false],[.arr 149 2 true (([]:List Za).map Za.c),.arr 149 2 true (([]:List Za).map Za.c)])=some r))))/\
 (∀⦃a a1 a2 r⦄,Im (Zul a a1 a2=some r) (∃(v:List Za),∃(v1:List Za),∃(v2:Za),∃v3,Zzv a a1 a2=some (.tup [.agg [I v2.Num,I v2.Den,.own 0,.own 1],Bo v3],[.arr 149 2 true (v.map Za.c),.arr 149 2 true (v1.map Za.c)])/\(some (.tup [.agg (v2.c.map .t),Bo v3],[])=some r))))/\
 ((∀⦃a r⦄,Im (Zzw a=some r) (∃v,Zck a=some (Bo v,[])/\(if v=true then(¬a.Den=0/\(if(w ((w (Int.tdiv a.Num a.Den))*a.Den))<a.Num then(some (I (w ((w (Int.tdiv a.Num a.Den))+1)),[])=some r)else(some (I (w (Int.tdiv a.Num a.Den)),[])=some r)))else(some (I 0,[])=some r))))/\
 (∀⦃a r⦄,Im (Z98 a=some r) (if 12<a then(some (I 4096,[])=some r)else(¬a<0/\(some (I (shlI 1 a),[])=some r))))))/\
 (((∀⦃n co cl x i r⦄,Im (Zum n co cl x i=some r) (if i<co then(¬cl<0/\(if(shlI 1 cl)<(w (x*n))then(some (Bo false,[])=some r)else(Zum n co cl (w (x*n)) (w (i+1))=some r)))else(some (Bo true,[])=some r)))/\
 (∀⦃a a1 a2 r⦄,Im (Zzx a a1 a2=some r) (Zum a a1 a2 1 0=some r)))/\
 ((∀⦃cn n r⦄,Im (Zuo cn n=some r) (if n<4096 then(∃v,Zzx (w (n+1)) cn.Den cn.Num=some (Bo v,[])/\(if v=true then(Zuo cn (w (n+1))=some r)else(some (I n,[])=some r)))else(some (I n,[])=some r)))/\
 (∀⦃a r⦄,Im (Zun a=some r) (∃v,Zck a=some (Bo v,[])/\(if v=true then(if a.Num<0 then(some (I (-1),[])=some r)else(if 40<a.Num then(∃v7,Zzw a=some (I v7,[])/\(∃v11,Z98 v7=some (I v11,[])/\(some (I v11,[])=some r)))else(Zuo a 1=some r)))else(some (I (-1),[])=some r))))))):=by
 and_intros
 all_goals intros
 all_goals unfold Im
 all_goals try simp only[Zht,Zzu,Zuj,Z97,Zuk,Zo7,Zo8,Zui,Zzv,Zul,Zzw,Z98,Zum,Zzx,Zuo,Zun,Zt8,Zt9,Zo4,Zl.c_def,Za.c_def,Zb3,Ztz,Program.c_def,Zzd,Zn.c_def,Zh.c_def,Zg.c_def,Zj.c_def,Zck,Zbm9,Zbna,mpl,dfs]
 all_goals try simp only[itb]
 all_goals try simp only[itf,gS,kk]
 all_goals repeat' first|refine exI λ_=>?_|refine anJ λ_ _=>?_|refine anI λ_=>?_|refine orE2 ?_ ?_|exact False.elim
 all_goals (intro h;first|rw[Ze Zf4.eq_1]|rw[Ze Zzq.eq_1]|rw[Ze Zug.eq_1]|rw[Ze Zzr.eq_1]|rw[Ze Z95.eq_1]|refine run Zb7s rfl ?_|refine run Zb7t rfl ?_|refine run Zb7u rfl ?_|refine run Zb7v rfl ?_|refine run Zb7w rfl ?_|rw[Ze Zbaa.eq_1]|refine run Zb7x rfl ?_|rw[Ze Zbad.eq_1]|refine run Zb7y rfl ?_)
 all_goals (refine Yf ?_ h;clear h;simp +decide[*,kk,tI,tII,Zgy,Zgz,Zf5,Zzt,Zuh,Zbm6,Zzs,Zbm7,Z96,Zbm8,Zbnb,Zbnc,Zbnf,Zbne,Zbng,Zbab,Zbnh,Zbae,Zbni])
abbrev Zux:=Zdp.1.1.1.1
abbrev Zcd7:=Zdp.1.1.1.2
abbrev Zbsm:=Zdp.1.1.2.1
abbrev Zcd8:=Zdp.1.1.2.2
abbrev Zbsn:=Zdp.1.2.1.1
abbrev Zbaw:=Zdp.1.2.1.2
abbrev Zbax:=Zdp.1.2.2.1
abbrev Zbso:=Zdp.1.2.2.2
abbrev Zbay:=Zdp.2.1.1.1
abbrev Zcd9:=Zdp.2.1.1.2
abbrev Zcea:=Zdp.2.1.2.1
abbrev Zceb:=Zdp.2.1.2.2
abbrev Zbsp:=Zdp.2.2.1.1
abbrev Zcec:=Zdp.2.2.1.2
abbrev Zbsq:=Zdp.2.2.2.1
abbrev Zced:=Zdp.2.2.2.2
theorem Zlr:((∀⦃s q cc i r⦄,Im (Zpa s q cc i=some r) (if i<(q.Atoms.length:Int)then(¬i<0/\(if(andI (shrI cc i) 1)=1 then(∃(v:List Zf),∃v1,∃v2,∃v3,Zf3 s q i=some (.agg [.t (.str v1),I v2,I v3,.own 0],[.arr 200 3 true (v.map Zf.c)])/\(if v3=0 then(some (I 0,[])=some r)else(Zpa s q cc (w (i+1))=some r)))else(Zpa s q cc (w (i+1))=some r)))else(∃(v4:Za),∃v5,Zul s q cc=some (.tup [.agg (v4.c.map .t),Bo v5],[])/\(if v5=true then(∃v6,Zun v4=some (I v6,[])/\(some (I v6,[])=some r))else(some (I 4096,[])=some r)))))/\
 ((∀⦃a a1 a2 r⦄,Im (Zo9 a a1 a2=some r) (∃v,Zfr a a1 a2=some (Bo v,[])/\(if v=true then(Zpa a a1 a2 0=some r)else(some (I (-1),[])=some r))))/\
 (∀⦃s q l cc n cd r⦄,Im (Zur s q l cc n cd=some r) (if 1<(l.length:Int)then(∃v,Zo9 s q cc=some (I v,[])/\(if v<n then(some (.tup [I v,I 4],[])=some r)else(some (.tup [I n,I cd],[])=some r)))else(some (.tup [I n,I cd],[])=some r)))))/\
 (((∀⦃s q l cc n cd x x1 r⦄,Im (Zus s q l cc n cd x x1=some r) (if 1<(l.length:Int)then(∃v,Zo9 s q cc=some (I v,[])/\(if v<n then(some (.tup [I v,I 4],[])=some r)else(some (.tup [I n,I cd],[])=some r)))else(some (.tup [I n,I cd],[])=some r)))/\
 (∀⦃s q l cc n cd x r⦄,Im (Zut s q l cc n cd x=some r) (if 1<(l.length:Int)then(∃v,Zo9 s q cc=some (I v,[])/\(if v<n then(some (.tup [I v,I 4],[])=some r)else(some (.tup [I n,I cd],[])=some r)))else(some (.tup [I n,I cd],[])=some r))))/\
 ((∀⦃a a1 a2 r⦄,Im (Zuq a a1 a2=some r) (∃v,Zfr a a1 a2=some (Bo v,[])/\(if v=true then(∃v4,Ztf a a1 a2=some (I v4,[])/\(∃v6,Zth a a1 a2=some (I v6,[])/\(if v6<v4 then(∃(v7:List Int),Zoq a2=some (.own 0,[.arr 3 1 true (v7.map ic)])/\(if(v7.length:Int)=2 then(∃e5,v7[0]?=some e5/\(∃e6,v7[1]?=some e6/\(∃v8,Zov a a1 e5 e6=some (I v8,[])/\(if v8<v6 then(Zur a a1 v7 a2 v8 3=some r)else(Zus a a1 v7 a2 v6 2 v8 false=some r)))))else(Zut a a1 v7 a2 v6 2 false=some r)))else(∃(v9:List Int),Zoq a2=some (.own 0,[.arr 3 1 true (v9.map ic)])/\(if(v9.length:Int)=2 then(∃e9,v9[0]?=some e9/\(∃e10,v9[1]?=some e10/\(∃v10,Zov a a1 e9 e10=some (I v10,[])/\(if v10<v4 then(Zur a a1 v9 a2 v10 3=some r)else(Zus a a1 v9 a2 v4 1 v10 false=some r)))))else(Zut a a1 v9 a2 v4 1 false=some r))))))else(some (.tup [I (-1),I 0],[])=some r))))/\
 (∀⦃a a1 a2 r⦄,Im (Zzz a a1 a2=some r) (∃v v1,Zuq a a1 a2=some (.tup [I v,I v1],[])/\(some (I v,[])=some r))))):=by
 and_intros
 all_goals intros
 all_goals unfold Im
 all_goals try simp only[Zpa,Zo9,Zuq,Zzz,Zf3,Zul,Zun,Zn.c_def,Zh.c_def,Zg.c_def,Za.c_def,Zj.c_def,Zfr,Ztf,Zth,Zoq,Zov,Zur,Zus,Zut,mpl,dfs]
 all_goals try simp only[itb]
 all_goals try simp only[itf,gS,kk]
 all_goals repeat' first|refine exI λ_=>?_|refine anJ λ_ _=>?_|refine anI λ_=>?_|refine orE2 ?_ ?_|exact False.elim
 all_goals (intro h;first|rw[Ze Zbag.eq_1]|refine run Zb7z rfl ?_|rw[Ev_eq Zup.eq_1]|refine run Zb70 rfl ?_|refine run Zb71 rfl ?_)
 all_goals (refine Yf ?_ h;clear h;simp +decide[*,kk,tI,tII,Zbah,Zbnj,Zbnk,Zbnm,Zbnl,Zbnn])
abbrev Zbsr:=Zlr.1.1
abbrev Zcee:=Zlr.1.2.1
abbrev Zcef:=Zlr.1.2.2
abbrev Zceg:=Zlr.2.1.1
abbrev Zceh:=Zlr.2.1.2
abbrev Zbss:=Zlr.2.2.1
abbrev Zcei:=Zlr.2.2.2
theorem Zcej:∀⦃a r⦄,Im (Zbai a=some r) (∃v,Z4 a 0 7=some (Bo v,[])/\(if v=true then(if a=0 then(some (I 0,[])=some r)else(¬(w (2*(w (a-1))))<0/\(some (I (shlI 1 (w (2*(w (a-1))))),[])=some r)))else(some (I (-1),[])=some r))):=by
 all_goals intros
 all_goals unfold Im
 all_goals try simp only[Zbai,Z4,mpl,dfs]
 all_goals try simp only[itb]
 all_goals try simp only[itf,gS,kk]
 all_goals repeat' first|refine exI λ_=>?_|refine anJ λ_ _=>?_|refine anI λ_=>?_|refine orE2 ?_ ?_|exact False.elim
 all_goals (intro h;first|refine run Zb72 rfl ?_)
 all_goals (refine Yf ?_ h;clear h;simp +decide[*,kk,tI,tII,Zbno])
abbrev Zcek:=Zcej
theorem Zbst:(∀⦃k n i r⦄,Im (Zpb k n i=some r) (if i<k then(Zpb k (if 1<(w (n*4))then(w (n*4))else 1) (w (i+1))=some r)else(some (I n,[])=some r)))/\
 (∀⦃a r⦄,Im (Zbam a=some r) (∃v,Zv a 0 7=some (Bo v,[])/\(if v=true then(Zpb a 0 0=some r)else(some (I (-1),[])=some r)))):=by
 and_intros
 all_goals intros
 all_goals unfold Im
 all_goals try simp only[Zpb,Zbam,Zv,mpl,dfs]
 all_goals try simp only[itb]
 all_goals try simp only[itf,gS,kk]
 all_goals repeat' first|refine exI λ_=>?_|refine anJ λ_ _=>?_|refine anI λ_=>?_|refine orE2 ?_ ?_|exact False.elim
 all_goals (intro h;first|rw[Ze Zbak.eq_1]|refine run Zb73 rfl ?_)
 all_goals (refine Yf ?_ h;clear h;simp +decide[*,kk,tI,tII,Zbal,Zbnp])
abbrev Zcel:=Zbst.1
abbrev Zcem:=Zbst.2
end Go.Proofs.YtnnjbejcffjgfaaGreat
