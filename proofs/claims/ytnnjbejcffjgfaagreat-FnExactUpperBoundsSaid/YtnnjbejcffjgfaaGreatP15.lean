/-
  Parts of the proofs for this seat: G9 G10 G11 G12.
-/
import Derived.Test.YtnnjbejcffjgfaaGreatP11
import Derived.Test.YtnnjbejcffjgfaaGreatP12
set_option linter.unusedSectionVars false
set_option linter.unusedSimpArgs false
set_option linter.unusedVariables false
set_option maxRecDepth 100000
set_option maxHeartbeats 4000000
namespace Go.Proofs.YtnnjbejcffjgfaaGreat
open Go.AM
theorem Zdd:((((∀⦃p cd cc x x1 n k r⦄,Im (Zbc2 p cd cc x x1 n k=some r) (if k<n then(Zva p cd cc ([k]) x x1 n (w (k+1))=some r)else(Zbs4 cd cc x x1 n p.Rows (p.Rows.length:Int) 0=some r)))/\
 (∀⦃p cd cc x x1 x2 n k r⦄,Im (Zva p cd cc x x1 x2 n k=some r) (if k<n then(x.length+1<=68719476736/\(Zva p cd cc (x++[k]) x1 x2 n (w (k+1))=some r))else(Zbc3 cd cc x x1 x2 n p.Rows (p.Rows.length:Int) 0=some r))))/\
 ((∀⦃cd cc x x1 x2 n x3 x4 x5 r⦄,Im (Zbc3 cd cc x x1 x2 n x3 x4 x5=some r) (if x5<x4 then(0<=x5/\(∃e1,x3[x5.toNat]?=some e1/\(∃(v2:List Za),Zgd e1=some (.own 0,[.arr 149 2 true (v2.map Za.c)])/\(Zvb cd cc ([(w (n+x5))]) x ([v2]) x1 x2 n x3 x4 (w (x5+1))=some r))))else(some (.tup [.agg [.own 0,.own 1,.own 2,.own 3,.own 4,I cc.Num,I cc.Den],Bo true],[.arr 3 1 true (([]:List Int).map ic),.arr 3 1 true (x.map ic),.arr 179 1 true (([]:List (List Za)).map (lc 2 Za.c)),.arr 149 2 true (x1.map Za.c),.arr 149 2 true (x2.map Za.c)])=some r)))/\
 (∀⦃cd cc x x1 x2 x3 x4 n x5 x6 x7 r⦄,Im (Zvb cd cc x x1 x2 x3 x4 n x5 x6 x7=some r) (if x7<x6 then(0<=x7/\(∃e1,x5[x7.toNat]?=some e1/\(x.length+1<=68719476736/\(∃(v2:List Za),Zgd e1=some (.own 0,[.arr 149 2 true (v2.map Za.c)])/\(x2.length+1<=68719476736/\(Zvb cd cc (x++[(w (n+x7))]) x1 (x2++[v2]) x3 x4 n x5 x6 (w (x7+1))=some r))))))else(some (.tup [.agg [.own 0,.own 1,.own 2,.own 3,.own 4,I cc.Num,I cc.Den],Bo true],[.arr 3 1 true (x.map ic),.arr 3 1 true (x1.map ic),.arr 179 1 true (x2.map (lc 2 Za.c)),.arr 149 2 true (x3.map Za.c),.arr 149 2 true (x4.map Za.c)])=some r)))))/\
 (((∀⦃a r⦄,Im (Zu9 a=some r) (∃v,Zmr a=some (Bo v,[])/\(if v=true then(∃(v2:List Za),Zgd a.Limits=some (.own 0,[.arr 149 2 true (v2.map Za.c)])/\(∃(v3:List Za),Zgd a.Objective=some (.own 0,[.arr 149 2 true (v3.map Za.c)])/\(∃(v5:Za),Zkm 0=some (.agg (v5.c.map .t),[])/\(Zbc2 a (⟨0,0⟩:Za) v5 v2 v3 (a.Objective.length:Int) 0=some r))))else(some (.tup [.agg [.own 0,.own 1,.own 2,.own 3,.own 4,I 0,I 0],Bo false],[.arr 3 1 true (([]:List Int).map ic),.arr 3 1 true (([]:List Int).map ic),.arr 179 1 true (([]:List (List Za)).map (lc 2 Za.c)),.arr 149 2 true (([]:List Za).map Za.c),.arr 149 2 true (([]:List Za).map Za.c)])=some r))))/\
 (∀⦃d cl x x1 x2 r⦄,Im (Zkn d cl x x1 x2=some r) (if x2<x1 then(0<=x2/\(∃e1,x[x2.toNat]?=some e1/\(if 0<e1.Num then(if cl<0 then(Zkn d x2 x x1 (w (x2+1))=some r)else(∃e2,d.Free[x2.toNat]?=some e2/\(0<=cl/\(∃e3,d.Free[cl.toNat]?=some e3/\(if e2<e3 then(Zkn d x2 x x1 (w (x2+1))=some r)else(Zkn d cl x x1 (w (x2+1))=some r))))))else(Zkn d cl x x1 (w (x2+1))=some r))))else(some (I cl,[])=some r))))/\
 ((∀⦃a r⦄,Im (Zvc a=some r) (Zkn a (-1) a.Costs (a.Costs.length:Int) 0=some r))/\
 ((∀⦃a b r⦄,Im (Zvd a b=some r) (if b=0 then(some (I (if a<(w (0-a))then(w (0-a))else a),[])=some r)else(¬b=0/\(Zvd b (Int.tmod a b)=some r))))/\
 (∀⦃a a1 r⦄,Im (Zgy a a1=some r) (Zvd a a1=some r))))))/\
 ((((∀⦃a r⦄,Im (Zcm a=some r) (∃v,Z7 a.Den 1 2147483647=some (Bo v,[])/\(if v=true then(∃v2,Z7 a.Num (-2147483647) 2147483647=some (Bo v2,[])/\(if v2=true then(∃v3,Zgy a.Num a.Den=some (I v3,[])/\(some (Bo (decide (v3=1)),[])=some r))else(some (Bo false,[])=some r)))else(some (Bo false,[])=some r))))/\
 (∀⦃a a1 r⦄,Im (Zve a a1=some r) (∃v,Zcm a=some (Bo v,[])/\(if v=true then(∃v2,Zcm a1=some (Bo v2,[])/\(if v2=true then(∃(v3:Za),∃v4,Zms (w (a.Num*a1.Den)) (w (a.Den*a1.Num))=some (.tup [.agg (v3.c.map .t),Bo v4],[])/\(some (.tup [.agg (v3.c.map .t),Bo v4],[])=some r))else(some (.tup [.agg [I 0,I 0],Bo false],[])=some r)))else(some (.tup [.agg [I 0,I 0],Bo false],[])=some r)))))/\
 ((∀⦃a a1 r⦄,Im (Z2a a a1=some r) (∃v,Zcm a=some (Bo v,[])/\(if v=true then(∃v2,Zcm a1=some (Bo v2,[])/\(if v2=true then(if(w (a.Num*a1.Den))<(w (a1.Num*a.Den))then(some (I (-1),[])=some r)else(if(w (a1.Num*a.Den))<(w (a.Num*a1.Den))then(some (I 1,[])=some r)else(some (I 0,[])=some r)))else(some (I 0,[])=some r)))else(some (I 0,[])=some r))))/\
 (∀⦃d co cn cl x x1 r⦄,Im (Zhr d co cn cl x x1=some r) (if x1<x then(0<=x1/\(∃e1,d.Cells[x1.toNat]?=some e1/\(0<=cn/\(∃e2,e1[cn.toNat]?=some e2/\(if e2.Num<=0 then(Zhr d co cn cl x (w (x1+1))=some r)else(∃e3,d.Limits[x1.toNat]?=some e3/\(∃(v5:Za),∃v6,Zve e3 e2=some (.tup [.agg (v5.c.map .t),Bo v6],[])/\(if v6=true then(∃v7,Z2a v5 co=some (I v7,[])/\(if cl<0 then(Zhr d v5 cn x1 x (w (x1+1))=some r)else(if v7<0 then(Zhr d v5 cn x1 x (w (x1+1))=some r)else(if v7=0 then(∃e6,d.Basic[x1.toNat]?=some e6/\(0<=cl/\(∃e7,d.Basic[cl.toNat]?=some e7/\(if e6<e7 then(Zhr d v5 cn x1 x (w (x1+1))=some r)else(Zhr d co cn cl x (w (x1+1))=some r)))))else(Zhr d co cn cl x (w (x1+1))=some r)))))else(some (I (-1),[])=some r)))))))))else(some (I cl,[])=some r)))))/\
 (((∀⦃a a1 r⦄,Im (Zvf a a1=some r) (Zhr a (⟨0,0⟩:Za) a1 (-1) (a.Basic.length:Int) 0=some r))/\
 (∀⦃x a a1 r⦄,Im (Ziq x a a1=some r) (∃(v:Za),∃v1,Zve a a1=some (.tup [.agg (v.c.map .t),Bo v1],[])/\(if x.bad=true then(some (.agg (v.c.map .t),[.box [Bo true]])=some r)else(some (.agg (v.c.map .t),[.box [Bo (!v1)]])=some r)))))/\
 ((∀⦃a r⦄,Im (Zfp a=some r) (some (.agg [I (w (0-a.Num)),I a.Den],[])=some r))/\
 ((∀⦃a a1 r⦄,Im (Zvg a a1=some r) (∃v,Zcm a=some (Bo v,[])/\(if v=true then(∃v2,Zcm a1=some (Bo v2,[])/\(if v2=true then(∃(v3:Za),∃v4,Zms (w (a.Num*a1.Num)) (w (a.Den*a1.Den))=some (.tup [.agg (v3.c.map .t),Bo v4],[])/\(some (.tup [.agg (v3.c.map .t),Bo v4],[])=some r))else(some (.tup [.agg [I 0,I 0],Bo false],[])=some r)))else(some (.tup [.agg [I 0,I 0],Bo false],[])=some r))))/\
 (∀⦃a a1 r⦄,Im (Zvh a a1=some r) (∃v,Zcm a=some (Bo v,[])/\(if v=true then(∃v2,Zcm a1=some (Bo v2,[])/\(if v2=true then(∃(v3:Za),∃v4,Zms (w ((w (a.Num*a1.Den))+(w (a1.Num*a.Den)))) (w (a.Den*a1.Den))=some (.tup [.agg (v3.c.map .t),Bo v4],[])/\(some (.tup [.agg (v3.c.map .t),Bo v4],[])=some r))else(some (.tup [.agg [I 0,I 0],Bo false],[])=some r)))else(some (.tup [.agg [I 0,I 0],Bo false],[])=some r)))))))):=by
 and_intros
 all_goals intros
 all_goals unfold Im
 all_goals try simp only[Zbc2,Zva,Zbc3,Zvb,Zu9,Zkn,Zvc,Zvd,Zgy,Zcm,Zve,Z2a,Zhr,Zvf,Ziq,Zfp,Zvg,Zvh,Zgd,Zmr,Zkm,Program.c_def,Za.c_def,Z7,Zms,Zbs4,mpl,dfs]
 all_goals try simp only[itb]
 all_goals try simp only[itf,gS,kk]
 all_goals repeat' first|refine exI λ_=>?_|refine anJ λ_ _=>?_|refine anI λ_=>?_|refine orE2 ?_ ?_|exact False.elim
 all_goals (intro h;first|rw[Zd Z17.eq_1]|rw[Zd Zu7.eq_1]|refine run Zch6 rfl ?_|rw[Zd Zbc4.eq_1]|refine run Zch7 rfl ?_|rw[Zd Zbc7.eq_1]|refine run Zch8 rfl ?_|refine run Zch9 rfl ?_|refine run Zcib rfl ?_|refine run Zcic rfl ?_|rw[Zd Zbc9.eq_1]|refine run Zcid rfl ?_|refine runM Zcif rfl ?_|refine run Zcig rfl ?_|refine run Zcih rfl ?_|refine run Zcii rfl ?_)
 all_goals (refine Yf ?_ h;clear h;simp +decide[*,kk,tI,tII,Z18,Zu8,Zbs3,Zbs5,Zbc5,Zbs6,Zbc8,Zbs7,Zbs8,Zbtc,Zbtd,Zbte,Zbda,Zbtf,Zbth,Zbti,Zbtj,Zbtk])
abbrev Zcol:=Zdd.1.1.1.1
abbrev Zb0n:=Zdd.1.1.1.2
abbrev Zcom:=Zdd.1.1.2.1
abbrev Zb0o:=Zdd.1.1.2.2
abbrev Zcon:=Zdd.1.2.1.1
abbrev Zb0p:=Zdd.1.2.1.2
abbrev Zcoo:=Zdd.1.2.2.1
abbrev Zb0q:=Zdd.1.2.2.2.1
abbrev Zcop:=Zdd.1.2.2.2.2
abbrev Zcoq:=Zdd.2.1.1.1
abbrev Zcor:=Zdd.2.1.1.2
abbrev Zcos:=Zdd.2.1.2.1
abbrev Zb0r:=Zdd.2.1.2.2
abbrev Zcot:=Zdd.2.2.1.1
abbrev Zcou:=Zdd.2.2.1.2
abbrev Zcov:=Zdd.2.2.2.1
abbrev Zcow:=Zdd.2.2.2.2.1
abbrev Zcox:=Zdd.2.2.2.2.2
theorem Zcoy:∀⦃x a a1 a2 r⦄,Im (Zfq x a a1 a2=some r) (if a1.Num=0 then(some (.agg (a.c.map .t),[.box (x.c.map .t)])=some r)else(if a2.Num=0 then(some (.agg (a.c.map .t),[.box (x.c.map .t)])=some r)else(∃(v:Za),∃v1,Zvg a1 a2=some (.tup [.agg (v.c.map .t),Bo v1],[])/\(∃(v2:Za),∃v3,Zvh a v=some (.tup [.agg (v2.c.map .t),Bo v3],[])/\(if x.bad=true then(some (.agg (v2.c.map .t),[.box [Bo true]])=some r)else(if v1=true then(some (.agg (v2.c.map .t),[.box [Bo (!v3)]])=some r)else(some (.agg (v2.c.map .t),[.box [Bo true]])=some r))))))):=by
 all_goals intros
 all_goals unfold Im
 all_goals try simp only[Zfq,Zvg,Zvh,Za.c_def,mpl,dfs]
 all_goals try simp only[itb]
 all_goals try simp only[itf,gS,kk]
 all_goals repeat' first|refine exI λ_=>?_|refine anJ λ_ _=>?_|refine anI λ_=>?_|refine orE2 ?_ ?_|exact False.elim
 all_goals (intro h;first|refine runM Zcij rfl ?_)
 all_goals (refine Yf ?_ h;clear h;simp +decide[*,kk,tI,tII,Zbtl])
abbrev Zcoz:=Zcoy
theorem Zco0{a a1:Int}{r:AV×List Blk}(h:(if a1=0 then(some (.tup [.agg [I 0,I 0],Bo false],[])=some r)else(if a=(w (0-a))then(if a=0 then(if a1=(w (0-a1))then(some (.tup [.agg [I 0,I 0],Bo false],[])=some r)else(if a1<0 then(∃(v:Int),Zgy (w (0-a)) (w (0-a1))=some (I v,[])/\(¬v=0/\(∃(v1:Bool),Zcm (⟨(w (Int.tdiv (w (0-a)) v)),(w (Int.tdiv (w (0-a1)) v))⟩:Za)=some (Bo v1,[])/\(if v1=true then(some (.tup [.agg [I (w (Int.tdiv (w (0-a)) v)),I (w (Int.tdiv (w (0-a1)) v))],Bo true],[])=some r)else(some (.tup [.agg [I 0,I 0],Bo false],[])=some r)))))else(∃(v2:Int),Zgy a a1=some (I v2,[])/\(¬v2=0/\(∃(v3:Bool),Zcm (⟨(w (Int.tdiv a v2)),(w (Int.tdiv a1 v2))⟩:Za)=some (Bo v3,[])/\(if v3=true then(some (.tup [.agg [I (w (Int.tdiv a v2)),I (w (Int.tdiv a1 v2))],Bo true],[])=some r)else(some (.tup [.agg [I 0,I 0],Bo false],[])=some r)))))))else(some (.tup [.agg [I 0,I 0],Bo false],[])=some r))else(if a1=(w (0-a1))then(some (.tup [.agg [I 0,I 0],Bo false],[])=some r)else(if a1<0 then(∃(v4:Int),Zgy (w (0-a)) (w (0-a1))=some (I v4,[])/\(¬v4=0/\(∃(v5:Bool),Zcm (⟨(w (Int.tdiv (w (0-a)) v4)),(w (Int.tdiv (w (0-a1)) v4))⟩:Za)=some (Bo v5,[])/\(if v5=true then(some (.tup [.agg [I (w (Int.tdiv (w (0-a)) v4)),I (w (Int.tdiv (w (0-a1)) v4))],Bo true],[])=some r)else(some (.tup [.agg [I 0,I 0],Bo false],[])=some r)))))else(∃(v6:Int),Zgy a a1=some (I v6,[])/\(¬v6=0/\(∃(v7:Bool),Zcm (⟨(w (Int.tdiv a v6)),(w (Int.tdiv a1 v6))⟩:Za)=some (Bo v7,[])/\(if v7=true then(some (.tup [.agg [I (w (Int.tdiv a v6)),I (w (Int.tdiv a1 v6))],Bo true],[])=some r)else(some (.tup [.agg [I 0,I 0],Bo false],[])=some r)))))))))):Zms a a1=some r:=by
 unfold Zms;refine run Zcia rfl ?_;simp only[Zgy,Zcm,Za.c_def,mpl,dfs]at h
 try simp only[itb]at h
 try simp only[itf,gS,kk]at h
 rcases h with⟨q1,h⟩|⟨q1,(⟨q2,(⟨q3,(⟨q4,h⟩|⟨q4,(⟨q5,v,q6,q7,v1,q8,(⟨q9,h⟩|⟨q9,h⟩)⟩|⟨q5,v2,q10,q11,v3,q12,(⟨q13,h⟩|⟨q13,h⟩)⟩)⟩)⟩|⟨q3,h⟩)⟩|⟨q2,(⟨q14,h⟩|⟨q14,(⟨q15,v4,q16,q17,v5,q18,(⟨q19,h⟩|⟨q19,h⟩)⟩|⟨q15,v6,q20,q21,v7,q22,(⟨q23,h⟩|⟨q23,h⟩)⟩)⟩)⟩)⟩
 all_goals (try simp only[Int.zero_sub]at *)
 all_goals (refine Yf ?_ h;clear h;simp +decide[*,kk,tI,tII,Zbtb,Zbta])
theorem Zco1{a:List Za}{r:AV×List Blk}(h:(a≠[]/\(a.length<=68719476736/\(some (.own 0,[.arr 149 2 true (a.map Za.c)])=some r)))):Zko a=some r:=by
 unfold Zko;refine run Zcie rfl ?_;obtain⟨q1,h⟩:=h;obtain⟨yq1,ysq1,eq1⟩:=List.exists_cons_of_ne_nil q1
 first|subst eq1|skip
 obtain⟨q2,h⟩:=h;have rq2:=Zfm (b:=16) q2 (by omega);have sq2:=Zfn q2
 try simp[*]at rq2
 try simp[*]at sq2
 refine Yf ?_ h;clear h;simp +decide[*,Zbtg,tI,tII]
theorem Zi6:(((∀⦃l x x1 x2 x3 c x4 x5 r⦄,Im (Zp0 l x x1 x2 x3 c x4 x5=some r) (if x5<x4 then(if x5=x then(∃(v:Z4) (v1:Za),Ziq x1 c x2=some (.agg (v1.c.map .t),[.box (v.c.map .t)])/\(∃(v2:Za),Zfp v1=some (.agg (v2.c.map .t),[])/\(0<=x5/\(∃e3,l[x5.toNat]?=some e3/\(Zp0 (l.set x5.toNat v2) x v x2 x3 c x4 (w (x5+1))=some r)))))else(0<=x5/\(∃e4,l[x5.toNat]?=some e4/\(∃(v10:Za),Zfp c=some (.agg (v10.c.map .t),[])/\(∃e6,x3[x5.toNat]?=some e6/\(∃(v13:Z4) (v14:Za),Zfq x1 e4 v10 e6=some (.agg (v14.c.map .t),[.box (v13.c.map .t)])/\(Zp0 (l.set x5.toNat v14) x v13 x2 x3 c x4 (w (x5+1))=some r)))))))else(some (.own 6,[.box [I x],.box [.ptr 2 0],.box (x1.c.map .t),.box (x2.c.map .t),.box [.own 5],.arr 149 2 true (x3.map Za.c),.arr 149 2 true (l.map Za.c)])=some r)))/\
 (∀⦃x x1 x2 x3 a r⦄,Im (Zmt x x1 x2 x3 a=some r) (0<=x/\(∃e1,a[x.toNat]?=some e1/\(∃(v2:List Za),Zko a=some (.own 0,[.arr 149 2 true (v2.map Za.c)])/\(Zp0 v2 x x1 x2 x3 e1 (v2.length:Int) 0=some r))))))/\
 ((∀⦃l x x1 x2 x3 c x4 x5 r⦄,Im (Zp1 l x x1 x2 x3 c x4 x5=some r) (if x5<x4 then(if x5=x then(∃(v:Z4) (v1:Za),Ziq x1 c x2=some (.agg (v1.c.map .t),[.box (v.c.map .t)])/\(∃(v2:Za),Zfp v1=some (.agg (v2.c.map .t),[])/\(0<=x5/\(∃e3,l[x5.toNat]?=some e3/\(Zp1 (l.set x5.toNat v2) x v x2 x3 c x4 (w (x5+1))=some r)))))else(0<=x5/\(∃e4,l[x5.toNat]?=some e4/\(∃(v10:Za),Zfp c=some (.agg (v10.c.map .t),[])/\(∃e6,x3[x5.toNat]?=some e6/\(∃(v13:Z4) (v14:Za),Zfq x1 e4 v10 e6=some (.agg (v14.c.map .t),[.box (v13.c.map .t)])/\(Zp1 (l.set x5.toNat v14) x v13 x2 x3 c x4 (w (x5+1))=some r)))))))else(some (.own 5,[.box [I x],.box [.ptr 2 0],.box (x1.c.map .t),.box (x2.c.map .t),.box [L 2 (x3.map Za.c)],.arr 149 2 true (l.map Za.c)])=some r)))/\
 (∀⦃x x1 x2 x3 a r⦄,Im (Zvi x x1 x2 x3 a=some r) (0<=x/\(∃e1,a[x.toNat]?=some e1/\(∃(v2:List Za),Zko a=some (.own 0,[.arr 149 2 true (v2.map Za.c)])/\(Zp1 v2 x x1 x2 x3 e1 (v2.length:Int) 0=some r)))))))/\
 (((∀⦃d cc cn x a cl x1 x2 x3 x4 x5 co x6 x7 x8 r⦄,Im (Zp2 d cc cn x a cl x1 x2 x3 x4 x5 co x6 x7 x8=some r) (if x8<x7 then(0<=x8/\(∃e1,x6[x8.toNat]?=some e1/\(if x8=cc then(∃(v2:Za),Zkm 1=some (.agg (v2.c.map .t),[])/\(∃(v3:Z4) (v4:Za),Ziq x v2 a=some (.agg (v4.c.map .t),[.box (v3.c.map .t)])/\(x5.length+1<=68719476736/\(Zp2 d cc cn v3 a cl x1 x2 x3 x4 (x5++[v4]) co x6 x7 (w (x8+1))=some r))))else(∃(v8:Z4) (v9:Za),Ziq x e1 a=some (.agg (v9.c.map .t),[.box (v8.c.map .t)])/\(x5.length+1<=68719476736/\(Zp2 d cc cn v8 a cl x1 x2 x3 x4 (x5++[v9]) co x6 x7 (w (x8+1))=some r))))))else(0<=co/\(∃e5,d.Limits[co.toNat]?=some e5/\(∃(v11:Z4) (v12:Za),Ziq x e5 a=some (.agg (v12.c.map .t),[.box (v11.c.map .t)])/\(Z2f d cc cn v11 cl x1 x2 x3 x4 x5 v12 a co d.Cells (d.Cells.length:Int) 0=some r))))))/\
 (∀⦃d cc cn x cl x1 x2 x3 x4 x5 cd x6 co x7 x8 x9 r⦄,Im (Z2f d cc cn x cl x1 x2 x3 x4 x5 cd x6 co x7 x8 x9=some r) (if x9<x8 then(0<=x9/\(∃e1,x7[x9.toNat]?=some e1/\(if x9=co then(∃e2,x3[x9.toNat]?=some e2/\(Zmw d cc cn x cl x1 x2 false ([x5]) (x3.set x9.toNat cd) x4 x5 cd x6 co x7 x8 (w (x9+1))=some r))else(∃v3,∃(v4:Z4),∃(v5:Za),∃(v6:List Za),∃(v7:List Za),Zmt cc x x6 x5 e1=some (.own 6,[.box [I v3],.box [.ptr 2 0],.box (v4.c.map .t),.box (v5.c.map .t),.box [.own 5],.arr 149 2 true (v6.map Za.c),.arr 149 2 true (v7.map Za.c)])/\(∃e4,d.Limits[x9.toNat]?=some e4/\(0<=v3/\(∃e5,e1[v3.toNat]?=some e5/\(∃(v11:Za),Zfp e5=some (.agg (v11.c.map .t),[])/\(∃(v13:Z4) (v14:Za),Zfq v4 e4 v11 cd=some (.agg (v14.c.map .t),[.box (v13.c.map .t)])/\(∃e8,x3[x9.toNat]?=some e8/\(Zvl d v3 cn v13 cl x1 x2 ([v7]) (x3.set x9.toNat v14) x4 v6 cd v5 co x7 x8 (w (x9+1))=some r)))))))))))else(∃v15,∃(v16:Z4),∃(v17:Za),∃(v18:List Za),∃(v19:List Za),Zmt cc x x6 x5 d.Costs=some (.own 6,[.box [I v15],.box [.ptr 2 0],.box (v16.c.map .t),.box (v17.c.map .t),.box [.own 5],.arr 149 2 true (v18.map Za.c),.arr 149 2 true (v19.map Za.c)])/\(0<=v15/\(∃e10,d.Costs[v15.toNat]?=some e10/\(∃(v20:Z4) (v21:Za),Zfq v16 d.Value e10 cd=some (.agg (v21.c.map .t),[.box (v20.c.map .t)])/\(if v20.bad=true then(some (.tup [.agg [.own 0,.own 1,.own 2,.own 3,.own 4,I 0,I 0],Bo false],[.arr 3 1 true (([]:List Int).map ic),.arr 3 1 true (([]:List Int).map ic),.arr 179 1 true (([]:List (List Za)).map (lc 2 Za.c)),.arr 149 2 true (([]:List Za).map Za.c),.arr 149 2 true (([]:List Za).map Za.c)])=some r)else(some (.tup [.agg [.own 0,.own 1,.own 2,.own 3,.own 4,I v21.Num,I v21.Den],Bo true],[.arr 3 1 true (x1.map ic),.arr 3 1 true (x2.map ic),.arr 179 1 true (([]:List (List Za)).map (lc 2 Za.c)),.arr 149 2 true (x3.map Za.c),.arr 149 2 true (v19.map Za.c)])=some r)))))))))/\
 ((∀⦃d cc cn x cl x1 x2 fr x3 x4 x5 cp cd x6 co x7 x8 x9 r⦄,Im (Zmw d cc cn x cl x1 x2 fr x3 x4 x5 cp cd x6 co x7 x8 x9=some r) (if x9<x8 then(0<=x9/\(∃e1,x7[x9.toNat]?=some e1/\(if x9=co then(x3.length+1<=68719476736/\(∃e2,x4[x9.toNat]?=some e2/\(Zmw d cc cn x cl x1 x2 false (x3++[cp]) (x4.set x9.toNat cd) x5 cp cd x6 co x7 x8 (w (x9+1))=some r)))else(∃v3,∃(v4:Z4),∃(v5:Za),∃(v6:List Za),∃(v7:List Za),Zvi cc x x6 cp e1=some (.own 5,[.box [I v3],.box [.ptr 2 0],.box (v4.c.map .t),.box (v5.c.map .t),.box [L 2 (v6.map Za.c)],.arr 149 2 true (v7.map Za.c)])/\(x3.length+1<=68719476736/\(∃e4,d.Limits[x9.toNat]?=some e4/\(0<=v3/\(∃e5,e1[v3.toNat]?=some e5/\(∃(v11:Za),Zfp e5=some (.agg (v11.c.map .t),[])/\(∃(v13:Z4) (v14:Za),Zfq v4 e4 v11 cd=some (.agg (v14.c.map .t),[.box (v13.c.map .t)])/\(∃e8,x4[x9.toNat]?=some e8/\(Zmw d v3 cn v13 cl x1 x2 fr (x3++[v7]) (x4.set x9.toNat v14) x5 v6 cd v5 co x7 x8 (w (x9+1))=some r))))))))))))else(∃v15,∃(v16:Z4),∃(v17:Za),∃(v18:List Za),∃(v19:List Za),Zvi cc x x6 cp d.Costs=some (.own 5,[.box [I v15],.box [.ptr 2 0],.box (v16.c.map .t),.box (v17.c.map .t),.box [L 2 (v18.map Za.c)],.arr 149 2 true (v19.map Za.c)])/\(0<=v15/\(∃e10,d.Costs[v15.toNat]?=some e10/\(∃(v20:Z4) (v21:Za),Zfq v16 d.Value e10 cd=some (.agg (v21.c.map .t),[.box (v20.c.map .t)])/\(if v20.bad=true then(some (.tup [.agg [.own 0,.own 1,.own 2,.own 3,.own 4,I 0,I 0],Bo false],[.arr 3 1 true (([]:List Int).map ic),.arr 3 1 true (([]:List Int).map ic),.arr 179 1 true (([]:List (List Za)).map (lc 2 Za.c)),.arr 149 2 true (([]:List Za).map Za.c),.arr 149 2 true (([]:List Za).map Za.c)])=some r)else(some (.tup [.agg [.own 0,.own 1,.own 2,.own 3,.own 4,I v21.Num,I v21.Den],Bo true],[.arr 3 1 true (x1.map ic),.arr 3 1 true (x2.map ic),.arr 179 1 fr (x3.map (lc 2 Za.c)),.arr 149 2 true (x4.map Za.c),.arr 149 2 true (v19.map Za.c)])=some r))))))))/\
 ((∀⦃d cc cn x cl x1 x2 x3 x4 x5 x6 cd x7 co x8 x9 cu r⦄,Im (Zvl d cc cn x cl x1 x2 x3 x4 x5 x6 cd x7 co x8 x9 cu=some r) (if cu<x9 then(0<=cu/\(∃e1,x8[cu.toNat]?=some e1/\(if cu=co then(x3.length+1<=68719476736/\(∃e2,x4[cu.toNat]?=some e2/\(Zmw d cc cn x cl x1 x2 false (x3++[x6]) (x4.set cu.toNat cd) x5 x6 cd x7 co x8 x9 (w (cu+1))=some r)))else(∃v3,∃(v4:Z4),∃(v5:Za),∃(v6:List Za),∃(v7:List Za),Zmt cc x x7 x6 e1=some (.own 6,[.box [I v3],.box [.ptr 2 0],.box (v4.c.map .t),.box (v5.c.map .t),.box [.own 5],.arr 149 2 true (v6.map Za.c),.arr 149 2 true (v7.map Za.c)])/\(x3.length+1<=68719476736/\(∃e4,d.Limits[cu.toNat]?=some e4/\(0<=v3/\(∃e5,e1[v3.toNat]?=some e5/\(∃(v11:Za),Zfp e5=some (.agg (v11.c.map .t),[])/\(∃(v13:Z4) (v14:Za),Zfq v4 e4 v11 cd=some (.agg (v14.c.map .t),[.box (v13.c.map .t)])/\(∃e8,x4[cu.toNat]?=some e8/\(Zvl d v3 cn v13 cl x1 x2 (x3++[v7]) (x4.set cu.toNat v14) x5 v6 cd v5 co x8 x9 (w (cu+1))=some r))))))))))))else(∃v15,∃(v16:Z4),∃(v17:Za),∃(v18:List Za),∃(v19:List Za),Zmt cc x x7 x6 d.Costs=some (.own 6,[.box [I v15],.box [.ptr 2 0],.box (v16.c.map .t),.box (v17.c.map .t),.box [.own 5],.arr 149 2 true (v18.map Za.c),.arr 149 2 true (v19.map Za.c)])/\(0<=v15/\(∃e10,d.Costs[v15.toNat]?=some e10/\(∃(v20:Z4) (v21:Za),Zfq v16 d.Value e10 cd=some (.agg (v21.c.map .t),[.box (v20.c.map .t)])/\(if v20.bad=true then(some (.tup [.agg [.own 0,.own 1,.own 2,.own 3,.own 4,I 0,I 0],Bo false],[.arr 3 1 true (([]:List Int).map ic),.arr 3 1 true (([]:List Int).map ic),.arr 179 1 true (([]:List (List Za)).map (lc 2 Za.c)),.arr 149 2 true (([]:List Za).map Za.c),.arr 149 2 true (([]:List Za).map Za.c)])=some r)else(some (.tup [.agg [.own 0,.own 1,.own 2,.own 3,.own 4,I v21.Num,I v21.Den],Bo true],[.arr 3 1 true (x1.map ic),.arr 3 1 true (x2.map ic),.arr 179 1 true (x3.map (lc 2 Za.c)),.arr 149 2 true (x4.map Za.c),.arr 149 2 true (v19.map Za.c)])=some r))))))))/\
 (∀⦃a a1 a2 r⦄,Im (Zmv a a1 a2=some r) (0<=a1/\(∃e1,a.Cells[a1.toNat]?=some e1/\(0<=a2/\(∃e2,e1[a2.toNat]?=some e2/\(if e2.Num=0 then(some (.tup [.agg [.own 0,.own 1,.own 2,.own 3,.own 4,I 0,I 0],Bo false],[.arr 3 1 true (([]:List Int).map ic),.arr 3 1 true (([]:List Int).map ic),.arr 179 1 true (([]:List (List Za)).map (lc 2 Za.c)),.arr 149 2 true (([]:List Za).map Za.c),.arr 149 2 true (([]:List Za).map Za.c)])=some r)else(∃(v3:List Int),Zep a.Basic=some (.own 0,[.arr 3 1 true (v3.map ic)])/\(∃(v8:List Int),Zep a.Free=some (.own 0,[.arr 3 1 true (v8.map ic)])/\(∃(v10:List Za),Zko a.Limits=some (.own 0,[.arr 149 2 true (v10.map Za.c)])/\(∃(v11:List Za),Zko a.Costs=some (.own 0,[.arr 149 2 true (v11.map Za.c)])/\(∃e7,a.Free[a2.toNat]?=some e7/\(∃e8,a.Basic[a1.toNat]?=some e8/\(∃e9,v3[a1.toNat]?=some e9/\(∃e10,v8[a2.toNat]?=some e10/\(Zp2 a a2 (⟨0,0⟩:Za) (⟨false⟩:Z4) e2 a.Value (v3.set a1.toNat e7) (v8.set a2.toNat e8) v10 v11 ([]:List Za) a1 e1 (e1.length:Int) 0=some r)))))))))))))))))):=by
 and_intros
 all_goals intros
 all_goals unfold Im
 all_goals try simp only[Zp0,Zmt,Zp1,Zvi,Zp2,Z2f,Zmw,Zvl,Zmv,Ziq,Zfp,Zfq,Za.c_def,Z4.c_def,Zko,Zkm,Zep,mpl,dfs]
 all_goals try simp only[itb]
 all_goals try simp only[itf,gS,kk]
 all_goals repeat' first|refine exI λ_=>?_|refine anJ λ_ _=>?_|refine anI λ_=>?_|refine orE2 ?_ ?_|exact False.elim
 all_goals (intro h;first|rw[Zd Z2d.eq_1]|refine runM Zcik rfl ?_|rw[Zd Zbdb.eq_1]|rw[Zd Zvj.eq_1]|refine run Zcil rfl ?_)
 all_goals (refine Yf ?_ h;clear h;simp +decide[*,kk,tI,tII,Zbtm,Z2e,Zbtn,Zbto,Zbdc,Zbtp,Zvk,Zbtq])
abbrev Zb0s:=Zi6.1.1.1
abbrev Zco2:=Zi6.1.1.2
abbrev Zb0t:=Zi6.1.2.1
abbrev Zco3:=Zi6.1.2.2
abbrev Zb0u:=Zi6.2.1.1
abbrev Zco4:=Zi6.2.1.2
abbrev Zb0v:=Zi6.2.2.1
abbrev Zb0w:=Zi6.2.2.2.1
abbrev Zco5:=Zi6.2.2.2.2
theorem Zyl{p:Program}{cd:Za}{d:Zn}{cc:Int}{r:AV×List Blk}(h:(∃(v:Int),Zvc d=some (I v,[])/\(if 0<=v then(∃(v1:Int),Zvf d v=some (I v1,[])/\(if v1<0 then(some (.tup [.agg [I 0,I 0,.own 0,.own 1],Bo false],[.arr 149 2 true (([]:List Za).map Za.c),.arr 149 2 true (([]:List Za).map Za.c)])=some r)else(if cc=299 then(some (.tup [.agg [I 0,I 0,.own 0,.own 1],Bo false],[.arr 149 2 true (([]:List Za).map Za.c),.arr 149 2 true (([]:List Za).map Za.c)])=some r)else((∃(v2:List Int) (v3:List Int) (v4:List (List Za)) (v5:List Za) (v6:List Za) (v7:Za) (v8:Bool),Zmv d v1 v=some (.tup [.agg [.own 0,.own 1,.own 2,.own 3,.own 4,I v7.Num,I v7.Den],Bo v8],[.arr 3 1 true (v2.map ic),.arr 3 1 true (v3.map ic),.arr 179 1 true (v4.map (lc 2 Za.c)),.arr 149 2 true (v5.map Za.c),.arr 149 2 true (v6.map Za.c)])/\(if v8=true then(Zge p cd (⟨v2,v3,v4,v5,v6,v7⟩:Zn) (w (cc+1))=some r)else(some (.tup [.agg [I 0,I 0,.own 0,.own 1],Bo false],[.arr 149 2 true (([]:List Za).map Za.c),.arr 149 2 true (([]:List Za).map Za.c)])=some r)))\/(∃(v9:List Int) (v10:List Int) (v11:Bool) (v12:List (List Za)) (v13:List Za) (v14:List Za) (v15:Za),Zmv d v1 v=some (.tup [.agg [.own 0,.own 1,.own 2,.own 3,.own 4,I v15.Num,I v15.Den],Bo true],[.arr 3 1 true (v9.map ic),.arr 3 1 true (v10.map ic),.arr 179 1 v11 (v12.map (lc 2 Za.c)),.arr 149 2 true (v13.map Za.c),.arr 149 2 true (v14.map Za.c)])/\(Zge p cd (⟨v9,v10,v12,v13,v14,v15⟩:Zn) (w (cc+1))=some r))))))else(0<=(p.Objective.length:Int)/\((p.Objective.length:Int)<=(p.Objective.length:Int)/\((p.Objective.length:Int).toNat*8<=room/\((p.Objective.length:Int)<=140737488355328/\(∃(v16:List Za),Zgd (List.replicate ((p.Objective.length:Int)).toNat 0)=some (.own 0,[.arr 149 2 true (v16.map Za.c)])/\(0<=(p.Rows.length:Int)/\((p.Rows.length:Int)<=(p.Rows.length:Int)/\((p.Rows.length:Int).toNat*8<=room/\((p.Rows.length:Int)<=140737488355328/\(∃(v17:List Za),Zgd (List.replicate ((p.Rows.length:Int)).toNat 0)=some (.own 0,[.arr 149 2 true (v17.map Za.c)])/\(Zmx cd d d.Value v16 v17 (p.Objective.length:Int) d.Basic (d.Basic.length:Int) 0=some r)))))))))))))):Zge p cd d cc=some r:=by
 unfold Zge;rw[Zd Zbdd.eq_1];obtain⟨v,q1,h⟩:=h;unfold Zvc at q1
 try simp at q1
 by_cases q2:0<=v
 .rw[if_pos q2]at h;obtain⟨v1,q3,h⟩:=h;unfold Zvf at q3
  try simp at q3
  by_cases q4:v1<0
  .rw[if_pos q4]at h;refine Yf ?_ h;clear h;simp +decide[*,tI,tII]
  .rw[if_neg q4]at h;by_cases q5:cc=299
   .rw[if_pos q5]at h;replace q5:=eq_true q5;refine Yf ?_ h;clear h;simp +decide[*,tI,tII]
   .rw[if_neg q5]at h;replace q5:=eq_false q5;rcases h with h|h
    .obtain⟨v2,v3,v4,v5,v6,v7,v8,q6,h⟩:=h;unfold Zmv at q6
     try simp at q6
     by_cases q7:v8=true
     .rw[if_pos q7]at h;refine Yf ?_ h;clear h;simp +decide[*,tI,tII,Zge]
     .rw[if_neg q7]at h;refine Yf ?_ h;clear h;simp +decide[*,tI,tII]
    .obtain⟨v9,v10,v11,v12,v13,v14,v15,q8,h⟩:=h;unfold Zmv at q8
     try simp at q8
     refine Yf ?_ h;clear h;simp +decide[*,tI,tII,Zge]
 .rw[if_neg q2]at h;obtain⟨q9,h⟩:=h;have zq9:=q9;try simp at zq9
  obtain⟨q10,h⟩:=h;have zq10:=q10;try simp at zq10
  obtain⟨q11,h⟩:=h;have zq11:=q11;try simp at zq11
  obtain⟨q12,h⟩:=h;have zq12:=q12;try simp at zq12
  obtain⟨v16,q13,h⟩:=h;unfold Zgd at q13
  try simp at q13
  obtain⟨q14,h⟩:=h;have zq14:=q14;try simp at zq14
  obtain⟨q15,h⟩:=h;have zq15:=q15;try simp at zq15
  obtain⟨q16,h⟩:=h;have zq16:=q16;try simp at zq16
  obtain⟨q17,h⟩:=h;have zq17:=q17;try simp at zq17
  obtain⟨v17,q18,h⟩:=h;unfold Zgd at q18
  try simp at q18
  refine Yf ?_ h;clear h;simp +decide[*,tI,tII,Zmx,Zbdi]
theorem Zde:((((∀⦃cd d cc x x1 n x2 x3 x4 r⦄,Im (Zmx cd d cc x x1 n x2 x3 x4=some r) (if x4<x3 then(0<=x4/\(∃e1,x2[x4.toNat]?=some e1/\(if e1<n then(∃e2,d.Limits[x4.toNat]?=some e2/\(0<=e1/\(∃e3,x[e1.toNat]?=some e3/\(Zmx cd d cc (x.set e1.toNat e2) x1 n x2 x3 (w (x4+1))=some r))))else(Zmx cd d cc x x1 n x2 x3 (w (x4+1))=some r))))else(Zp3 cd d cc x x1 n d.Free (d.Free.length:Int) 0=some r)))/\
 (∀⦃cd d cc x x1 n x2 x3 x4 r⦄,Im (Zp3 cd d cc x x1 n x2 x3 x4=some r) (if x4<x3 then(0<=x4/\(∃e1,x2[x4.toNat]?=some e1/\(if n<=e1 then(∃e2,d.Costs[x4.toNat]?=some e2/\(∃(v11:Za),Zfp e2=some (.agg (v11.c.map .t),[])/\(0<=(w (e1-n))/\(∃e4,x1[(w (e1-n)).toNat]?=some e4/\(Zp3 cd d cc x (x1.set ((w (e1-n)).toNat) v11) n x2 x3 (w (x4+1))=some r)))))else(Zp3 cd d cc x x1 n x2 x3 (w (x4+1))=some r))))else(some (.tup [.agg [I cc.Num,I cc.Den,.own 0,.own 1],Bo true],[.arr 149 2 true (x.map Za.c),.arr 149 2 true (x1.map Za.c)])=some r))))/\
 ((∀⦃a r⦄,Im (Zvm a=some r) (∃(v:List Int),∃(v1:List Int),∃(v2:List (List Za)),∃(v3:List Za),∃(v4:List Za),∃(v5:Za),∃v6,Zu9 a=some (.tup [.agg [.own 0,.own 1,.own 2,.own 3,.own 4,I v5.Num,I v5.Den],Bo v6],[.arr 3 1 true (v.map ic),.arr 3 1 true (v1.map ic),.arr 179 1 true (v2.map (lc 2 Za.c)),.arr 149 2 true (v3.map Za.c),.arr 149 2 true (v4.map Za.c)])/\(if v6=true then(Zge a (⟨0,0⟩:Za) (⟨v,v1,v2,v3,v4,v5⟩:Zn) 0=some r)else(some (.tup [.agg [I 0,I 0,.own 0,.own 1],Bo false],[.arr 149 2 true (([]:List Za).map Za.c),.arr 149 2 true (([]:List Za).map Za.c)])=some r))))/\
 (∀⦃a a1 a2 r⦄,Im (Z2g a a1 a2=some r) (∃(v:List Int),∃(v1:List (List Int)),∃(v2:List Int),∃(v3:List Zm),∃v4,Z16 a a1 a2=some (.tup [.agg [.own 0,.own 1,.own 2],.own 3,Bo v4],[.arr 3 1 true (v.map ic),.arr 56 1 true (v1.map isc),.arr 3 1 true (v2.map ic),.arr 251 3 true (v3.map Zm.c)])/\(if v4=true then(∃(v7:List Za),∃(v8:List Za),∃(v9:Za),∃v10,Zvm (⟨v,v1,v2⟩:Program)=some (.tup [.agg [I v9.Num,I v9.Den,.own 0,.own 1],Bo v10],[.arr 149 2 true (v7.map Za.c),.arr 149 2 true (v8.map Za.c)])/\(some (.tup [.agg [I v9.Num,I v9.Den,.own 0,.own 1],Bo v10],[.arr 149 2 true (v7.map Za.c),.arr 149 2 true (v8.map Za.c)])=some r))else(some (.tup [.agg [I 0,I 0,.own 0,.own 1],Bo false],[.arr 149 2 true (([]:List Za).map Za.c),.arr 149 2 true (([]:List Za).map Za.c)])=some r))))))/\
 (((∀⦃a a1 a2 r⦄,Im (Z2h a a1 a2=some r) (∃(v:List Za),∃(v1:List Za),∃(v2:Za),∃v3,Z2g a a1 a2=some (.tup [.agg [I v2.Num,I v2.Den,.own 0,.own 1],Bo v3],[.arr 149 2 true (v.map Za.c),.arr 149 2 true (v1.map Za.c)])/\(some (.tup [.agg (v2.c.map .t),Bo v3],[])=some r)))/\
 (∀⦃a r⦄,Im (Z2i a=some r) (∃v,Zcm a=some (Bo v,[])/\(if v=true then(¬a.Den=0/\(if(w ((w (Int.tdiv a.Num a.Den))*a.Den))<a.Num then(some (I (w ((w (Int.tdiv a.Num a.Den))+1)),[])=some r)else(some (I (w (Int.tdiv a.Num a.Den)),[])=some r)))else(some (I 0,[])=some r)))))/\
 ((∀⦃k cv cp p r⦄,Im (Zvn k cv cp p=some r) (if 0<cv then(¬cp<0/\(if(shlI 1 cp)<(w (p*k))then(some (Bo false,[])=some r)else(Zvn k (w (cv-1)) cp (w (p*k))=some r)))else(some (Bo true,[])=some r)))/\
 ((∀⦃a a1 a2 r⦄,Im (Z2j a a1 a2=some r) (Zvn a a1 a2 1=some r))/\
 (∀⦃cu k r⦄,Im (Zvo cu k=some r) (if k<4096 then(∃v,Z2j (w (k+1)) cu.Den cu.Num=some (Bo v,[])/\(if v=true then(Zvo cu (w (k+1))=some r)else(some (I k,[])=some r)))else(some (I k,[])=some r)))))))/\
 ((((∀⦃a r⦄,Im (Z2k a=some r) (∃v,Zcm a=some (Bo v,[])/\(if v=true then(if a.Num<0 then(some (I (-1),[])=some r)else(if 40<a.Num then(∃v7,Z2i a=some (I v7,[])/\(if 12<=v7 then(some (I 4096,[])=some r)else(¬v7<0/\(some (I (shlI 1 v7),[])=some r))))else(if a.Num<a.Den then(some (I 1,[])=some r)else(Zvo a 1=some r))))else(some (I (-1),[])=some r))))/\
 (∀⦃a a1 a2 r⦄,Im (Zvp a a1 a2=some r) (∃v,Zcu a a1 a2=some (Bo v,[])/\(if v=true then(∃v7,Zuq a a1 a2=some (Bo v7,[])/\(if v7=true then(some (I 0,[])=some r)else(∃(v11:Za),∃v12,Z2h a a1 a2=some (.tup [.agg (v11.c.map .t),Bo v12],[])/\(if v12=true then(∃v13,Z2k v11=some (I v13,[])/\(some (I v13,[])=some r))else(some (I 4096,[])=some r)))))else(some (I (-1),[])=some r)))))/\
 ((∀⦃a a1 a2 r⦄,Im (Z2l a a1 a2=some r) (∃v,Zuf a a1 a2=some (I v,[])/\(∃v7,Zuk a a1 a2=some (I v7,[])/\((Zca a2=some (.t .nil,[])/\(some (.own 0,[.arr 3 1 true (([(-1),v,v7,(-1),(-1)]).map ic)])=some r))\/(∃(v13:List Int),Zca a2=some (.own 0,[.arr 3 1 true (v13.map ic)])/\(if(v13.length:Int)=2 then(∃e5,v13[0]?=some e5/\(∃e6,v13[1]?=some e6/\(∃v14,Zup a a1 e5 e6=some (I v14,[])/\(∃e8,([(-1),v,v7,(-1),(-1)])[3]?=some e8/\(if 1<(v13.length:Int)then(∃v15,Zvp a a1 a2=some (I v15,[])/\(∃e10,(([(-1),v,v7,(-1),(-1)]).set 3 v14)[4]?=some e10/\(some (.own 0,[.arr 3 1 true (((([(-1),v,v7,(-1),(-1)]).set 3 v14).set 4 v15).map ic)])=some r)))else(some (.own 0,[.arr 3 1 true ((([(-1),v,v7,(-1),(-1)]).set 3 v14).map ic)])=some r))))))else(if 1<(v13.length:Int)then(∃v16,Zvp a a1 a2=some (I v16,[])/\(∃e12,([(-1),v,v7,(-1),(-1)])[4]?=some e12/\(some (.own 0,[.arr 3 1 true ((([(-1),v,v7,(-1),(-1)]).set 4 v16).map ic)])=some r)))else(some (.own 0,[.arr 3 1 true (([(-1),v,v7,(-1),(-1)]).map ic)])=some r))))))))/\
 (∀⦃x cl cn x1 x2 r⦄,Im (Zkp x cl cn x1 x2=some r) (if x2<x1 then(0<=x2/\(∃e1,x[x2.toNat]?=some e1/\(if 0<=e1 then(if cn=0 then(Zkp x e1 x2 x1 (w (x2+1))=some r)else(if e1<cl then(Zkp x e1 x2 x1 (w (x2+1))=some r)else(Zkp x cl cn x1 (w (x2+1))=some r)))else(Zkp x cl cn x1 (w (x2+1))=some r))))else(some (.tup [I cl,I cn],[])=some r)))))/\
 (((∀⦃a a1 a2 r⦄,Im (Zp4 a a1 a2=some r) (∃(v:List Int),Z2l a a1 a2=some (.own 0,[.arr 3 1 true (v.map ic)])/\(Zkp v (-1) 0 (v.length:Int) 0=some r)))/\
 (∀⦃a r⦄,Im (Zis a=some r) (if(a.size:Int)=1 then(∃b1,a[0]?=some b1/\(if 97<=(b1.toNat:Int)then(some (Bo (decide ((b1.toNat:Int)<=122)),[])=some r)else(some (Bo false,[])=some r)))else(some (Bo false,[])=some r))))/\
 ((∀⦃a a1 a2 r⦄,Im (Z0 a a1 a2=some r) (if a1<=a then(some (Bo (decide (a<=a2)),[])=some r)else(some (Bo false,[])=some r)))/\
 ((∀⦃co n i r⦄,Im (Zvr co n i=some r) (if i<(co.length:Int)then(0<=i/\(∃e1,co[i.toNat]?=some e1/\(∃v7,Z0 e1 0 9=some (Bo v7,[])/\(if v7=true then(Zvr co n (w (i+1))=some r)else(some (Bo false,[])=some r)))))else(some (Bo (decide ((co.length:Int)=n)),[])=some r)))/\
 (∀⦃a a1 r⦄,Im (Zvq a a1=some r) (Zvr a a1 0=some r)))))):=by
 and_intros
 all_goals intros
 all_goals unfold Im
 all_goals try simp only[Zmx,Zp3,Zvm,Z2g,Z2h,Z2i,Zvn,Z2j,Zvo,Z2k,Zvp,Z2l,Zkp,Zp4,Zis,Z0,Zvr,Zvq,Zfp,Za.c_def,Zu9,Program.c_def,Z16,Zl.c_def,Zi.c_def,Zb.c_def,Zf.c_def,Zcm,Zcu,Zuq,Zuf,Zuk,Zca,Zup,Zge,mpl,dfs]
 all_goals try simp only[itb]
 all_goals try simp only[itf,gS,kk]
 all_goals repeat' first|refine exI λ_=>?_|refine anJ λ_ _=>?_|refine anI λ_=>?_|refine orE2 ?_ ?_|exact False.elim
 all_goals (intro h;first|rw[Zd Zbde.eq_1]|rw[Zd Zbdf.eq_1]|refine run Zcim rfl ?_|refine run Zcin rfl ?_|refine run Zcio rfl ?_|refine run Zcip rfl ?_|rw[Zd Zbdk.eq_1]|refine run Zciq rfl ?_|rw[Zd Zbdn.eq_1]|refine run Zcir rfl ?_|refine run Zcis rfl ?_|refine run Zcit rfl ?_|rw[Zd Zbdq.eq_1]|refine run Zciu rfl ?_|refine run Zciv rfl ?_|refine run Zciw rfl ?_|rw[Zd Zbdt.eq_1]|refine run Zcix rfl ?_)
 all_goals (refine Yf ?_ h;clear h;simp +decide[*,kk,tI,tII,Zbtr,Zbdh,Zbts,Zbdg,Zbtt,Zbtu,Zbtv,Zbty,Zbtx,Zbdl,Zbtz,Zbdo,Zbt0,Zbt1,Zbt4,Zbt2,Zbt3,Zbt5,Zbdr,Zbt6,Zbt7,Zbt8,Zbdu,Zbt9])
abbrev Zbjm:=Zde.1.1.1.1
abbrev Zbjn:=Zde.1.1.1.2
abbrev Zb0x:=Zde.1.1.2.1
abbrev Zbjo:=Zde.1.1.2.2
abbrev Zco6:=Zde.1.2.1.1
abbrev Zco7:=Zde.1.2.1.2
abbrev Zb0y:=Zde.1.2.2.1
abbrev Zco8:=Zde.1.2.2.2.1
abbrev Zb0z:=Zde.1.2.2.2.2
abbrev Zco9:=Zde.2.1.1.1
abbrev Zcpa:=Zde.2.1.1.2
abbrev Zcpb:=Zde.2.1.2.1
abbrev Zb00:=Zde.2.1.2.2
abbrev Zcpc:=Zde.2.2.1.1
abbrev Zcpd:=Zde.2.2.1.2
abbrev Zcpe:=Zde.2.2.2.1
abbrev Zb01:=Zde.2.2.2.2.1
abbrev Zcpf:=Zde.2.2.2.2.2
theorem Zbjp:(∀⦃a b i r⦄,Im (Zvs a b i=some r) (if i<(a.length:Int)then(if i<(b.length:Int)then(0<=i/\(∃e1,a[i.toNat]?=some e1/\(∃e2,b[i.toNat]?=some e2/\(if e1<e2 then(some (I (-1),[])=some r)else(if e2<e1 then(some (I 1,[])=some r)else(Zvs a b (w (i+1))=some r))))))else(Zvt a b i false=some r))else(Zvt a b i false=some r)))/\
 ((∀⦃a b i x r⦄,Im (Zvt a b i x=some r) (if(a.length:Int)<(b.length:Int)then(some (I (-1),[])=some r)else(if(b.length:Int)<(a.length:Int)then(some (I 1,[])=some r)else(some (I 0,[])=some r))))/\
 (∀⦃a a1 r⦄,Im (Zd2 a a1=some r) (Zvs a a1 0=some r))):=by
 and_intros
 all_goals intros
 all_goals unfold Im
 all_goals try simp only[Zvs,Zd2,Zvt,mpl,dfs]
 all_goals try simp only[itb]
 all_goals try simp only[itf,gS,kk]
 all_goals repeat' first|refine exI λ_=>?_|refine anJ λ_ _=>?_|refine anI λ_=>?_|refine orE2 ?_ ?_|exact False.elim
 all_goals (intro h;first|rw[Zd Zbdw.eq_1]|rw[Ev_eq Z2n.eq_1]|refine run Zciy rfl ?_)
 all_goals (refine Yf ?_ h;clear h;simp +decide[*,kk,tI,tII,Zbua])
abbrev Zb02:=Zbjp.1
abbrev Zcpg:=Zbjp.2.1
abbrev Zcph:=Zbjp.2.2
theorem Zdf:((((∀⦃t i r⦄,Im (Zp5 t i=some r) (if i<(t.Rows.length:Int)then(0<=i/\(∃e1,t.Rows[i.toNat]?=some e1/\(∃v2,Zvq e1 t.Arity=some (Bo v2,[])/\(if v2=true then(if 0<i then(0<=(w (i-1))/\(∃e3,t.Rows[(w (i-1)).toNat]?=some e3/\(∃v5,Zd2 e3 e1=some (I v5,[])/\(if 0<=v5 then(some (Bo false,[])=some r)else(Zp5 t (w (i+1))=some r)))))else(Zp5 t (w (i+1))=some r))else(some (Bo false,[])=some r)))))else(some (Bo true,[])=some r)))/\
 (∀⦃a r⦄,Im (Zhs a=some r) (∃v1,Zis a.Name=some (Bo v1,[])/\(if v1=true then(∃v2,Z0 a.Arity 1 3=some (Bo v2,[])/\(if v2=true then(if 8<(a.Rows.length:Int)then(some (Bo false,[])=some r)else(Zp5 a 0=some r))else(some (Bo false,[])=some r)))else(some (Bo false,[])=some r)))))/\
 ((∀⦃d i r⦄,Im (Zp6 d i=some r) (if i<(d.Tables.length:Int)then(0<=i/\(∃e1,d.Tables[i.toNat]?=some e1/\(∃v2,Zhs e1=some (Bo v2,[])/\(if v2=true then(if 0<i then(0<=(w (i-1))/\(∃e3,d.Tables[(w (i-1)).toNat]?=some e3/\(if(Op.bytesLess e3.Name.toList e1.Name.toList)=true then(Zp6 d (w (i+1))=some r)else(some (Bo false,[])=some r))))else(Zp6 d (w (i+1))=some r))else(some (Bo false,[])=some r)))))else(some (Bo (decide ((d.Tables.length:Int)<=6)),[])=some r)))/\
 (∀⦃a r⦄,Im (Zmy a=some r) (Zp6 a 0=some r))))/\
 (((∀⦃cc m v r⦄,Im (Zmz cc m v=some r) (if v<3 then(¬v<0/\(if(andI (shrI m v) 1)=1 then(cc.length+1<=68719476736/\(Zmz (cc++[v]) m (w (v+1))=some r))else(Zmz cc m (w (v+1))=some r)))else(some (.own 0,[.arr 3 1 true (cc.map ic)])=some r)))/\
 (∀⦃a r⦄,Im (Zer a=some r) (Zmz ([]:List Int) a 0=some r)))/\
 ((∀⦃cc n m r⦄,Im (Zm0 cc n m=some r) (∃v1,Z0 n 1 3=some (Bo v1,[])/\(if v1=true then(¬n<0/\(if m<(shlI 1 n)then(∃(v2:List Int),Zer m=some (.own 0,[.arr 3 1 true (v2.map ic)])/\(cc.length+1<=68719476736/\(Zm0 (cc++[v2]) n (w (m+1))=some r)))else(some (.own 0,[.arr 56 1 true (cc.map isc)])=some r)))else(some (.own 0,[.arr 56 1 true (cc.map isc)])=some r))))/\
 ((∀⦃a r⦄,Im (Zvw a=some r) (Zm0 ([]:List (List Int)) a 1=some r))/\
 (∀⦃t c i r⦄,Im (Zp8 t c i=some r) (if i<(c.length:Int)then(0<=i/\(∃e1,c[i.toNat]?=some e1/\(∃v2,Z0 e1 0 (w (t.Arity-1))=some (Bo v2,[])/\(if v2=true then(if 0<i then(0<=(w (i-1))/\(∃e3,c[(w (i-1)).toNat]?=some e3/\(if e1<=e3 then(some (Bo false,[])=some r)else(Zp8 t c (w (i+1))=some r))))else(Zp8 t c (w (i+1))=some r))else(some (Bo false,[])=some r)))))else(∃v5,Zhs t=some (Bo v5,[])/\(some (Bo v5,[])=some r))))))))/\
 ((((∀⦃a a1 r⦄,Im (Zp7 a a1=some r) (Zp8 a a1 0=some r))/\
 (∀⦃cc cn c i r⦄,Im (Zvz cc cn c i=some r) (if i<(c.length:Int)then(0<=i/\(∃e1,c[i.toNat]?=some e1/\(∃v2,Z0 e1 0 (w ((cn.length:Int)-1))=some (Bo v2,[])/\(if v2=true then(0<=e1/\(∃e3,cn[e1.toNat]?=some e3/\(cc.length+1<=68719476736/\(Zvz (cc++[e3]) cn c (w (i+1))=some r))))else(some (.tup [.own 0,Bo false],[.arr 3 1 true (([]:List Int).map ic)])=some r)))))else(some (.tup [.own 0,Bo true],[.arr 3 1 true (cc.map ic)])=some r))))/\
 ((∀⦃a a1 r⦄,Im (Zkq a a1=some r) (Zvz ([]:List Int) a a1 0=some r))/\
 (∀⦃cc co cn cp i r⦄,Im (Zit cc co cn cp i=some r) (if i<(co.length:Int)then(0<=i/\(∃e1,co[i.toNat]?=some e1/\(∃v2,Zd2 e1 cn=some (I v2,[])/\(if v2=0 then(if 0<v2 then(e1.length<=68719476736/\(cc.length+1<=68719476736/\(Zit (cc++[e1]) co cn true (w (i+1))=some r)))else(e1.length<=68719476736/\(cc.length+1<=68719476736/\(Zit (cc++[e1]) co cn true (w (i+1))=some r))))else(if 0<v2 then(if cp=true then(e1.length<=68719476736/\(cc.length+1<=68719476736/\(Zit (cc++[e1]) co cn true (w (i+1))=some r)))else(cn.length<=68719476736/\(cc.length+1<=68719476736/\(e1.length<=68719476736/\(cc.length+1+1<=68719476736/\(Zit ((cc++[cn])++[e1]) co cn true (w (i+1))=some r))))))else(e1.length<=68719476736/\(cc.length+1<=68719476736/\(Zit (cc++[e1]) co cn cp (w (i+1))=some r))))))))else(if cp=true then(some (.own 0,[.arr 56 1 true (cc.map isc)])=some r)else(cn.length<=68719476736/\(cc.length+1<=68719476736/\(some (.own 0,[.arr 56 1 true ((cc++[cn]).map isc)])=some r))))))))/\
 (((∀⦃a a1 r⦄,Im (Zqa a a1=some r) (Zit ([]:List (List Int)) a a1 false 0=some r))/\
 (∀⦃t cd cl c i r⦄,Im (Zv2 t cd cl c i=some r) (if i<(t.Rows.length:Int)then(0<=i/\(∃e1,t.Rows[i.toNat]?=some e1/\(∃(v2:List Int),∃v3,Zkq e1 c=some (.tup [.own 0,Bo v3],[.arr 3 1 true (v2.map ic)])/\(∃(v4:List (List Int)),Zqa cd v2=some (.own 0,[.arr 56 1 true (v4.map isc)])/\(Zv2 t v4 cl c (w (i+1))=some r)))))else(Zqc t cd cl c 0=some r))))/\
 ((∀⦃t cd cl c k r⦄,Im (Zqc t cd cl c k=some r) (if k<(cd.length:Int)then(Zqd t cd cl c k 0 0=some r)else(some (.tup [.own 0,.own 1],[.arr 56 1 true (cd.map isc),.arr 3 1 true (cl.map ic)])=some r)))/\
 ((∀⦃t cd cl c k n i r⦄,Im (Zqd t cd cl c k n i=some r) (if i<(t.Rows.length:Int)then(0<=i/\(∃e1,t.Rows[i.toNat]?=some e1/\(∃(v2:List Int),∃v3,Zkq e1 c=some (.tup [.own 0,Bo v3],[.arr 3 1 true (v2.map ic)])/\(0<=k/\(∃e3,cd[k.toNat]?=some e3/\(∃v5,Zd2 v2 e3=some (I v5,[])/\(if v5=0 then(Zqd t cd cl c k (w (n+1)) (w (i+1))=some r)else(Zqd t cd cl c k n (w (i+1))=some r))))))))else(cl.length+1<=68719476736/\(Zqc t cd (cl++[n]) c (w (k+1))=some r))))/\
 (∀⦃a a1 r⦄,Im (Zqb a a1=some r) (∃v1,Zp7 a a1=some (Bo v1,[])/\(if v1=true then(Zv2 a ([]:List (List Int)) ([]:List Int) a1 0=some r)else(some (.tup [.own 0,.own 1],[.arr 56 1 true (([]:List (List Int)).map isc),.arr 3 1 true (([]:List Int).map ic)])=some r)))))))):=by
 and_intros
 all_goals intros
 all_goals unfold Im
 all_goals try simp only[Zp5,Zhs,Zp6,Zmy,Zmz,Zer,Zm0,Zvw,Zp8,Zp7,Zvz,Zkq,Zit,Zqa,Zv2,Zqc,Zqd,Zqb,Zvq,Zd2,Zis,Z0,Ze.c_def,mpl,dfs]
 all_goals try simp only[itb]
 all_goals try simp only[itf,gS,kk]
 all_goals repeat' first|refine exI λ_=>?_|refine anJ λ_ _=>?_|refine anI λ_=>?_|refine orE2 ?_ ?_|exact False.elim
 all_goals (intro h;first|rw[Zd Zvu.eq_1]|refine run Zbyu rfl ?_|rw[Zd Zbd0.eq_1]|refine run Zciz rfl ?_|rw[Zd Zbd2.eq_1]|refine run Zci0 rfl ?_|rw[Zd Zbd5.eq_1]|refine run Zci1 rfl ?_|rw[Zd Zvx.eq_1]|refine run Zbyv rfl ?_|rw[Zd Zbea.eq_1]|refine run Zci2 rfl ?_|rw[Zd Zv0.eq_1]|refine run Zbyw rfl ?_|rw[Zd Zbee.eq_1]|rw[Zd Z2p.eq_1]|rw[Zd Zbef.eq_1]|refine run Zci3 rfl ?_)
 all_goals (refine Yf ?_ h;clear h;simp +decide[*,kk,tI,tII,Zvv,Zbdy,Zbd1,Zbub,Zbuc,Zbd3,Zbud,Zbd6,Zbue,Zvy,Zbd8,Zbeb,Zbuf,Zbug,Zbuh,Zbec,Zv1,Zbed,Zbei,Z2q,Zbui,Zbeh,Zbeg,Zbuj])
abbrev Zb03:=Zdf.1.1.1.1
abbrev Zcpi:=Zdf.1.1.1.2
abbrev Zb04:=Zdf.1.1.2.1
abbrev Zcpj:=Zdf.1.1.2.2
abbrev Zi7:=Zdf.1.2.1.1
abbrev Zb05:=Zdf.1.2.1.2
abbrev Zb06:=Zdf.1.2.2.1
abbrev Zcpk:=Zdf.1.2.2.2.1
abbrev Zb07:=Zdf.1.2.2.2.2
abbrev Zcpl:=Zdf.2.1.1.1
abbrev Zb08:=Zdf.2.1.1.2
abbrev Zcpm:=Zdf.2.1.2.1
abbrev Zb09:=Zdf.2.1.2.2
abbrev Zcpn:=Zdf.2.2.1.1
abbrev Zb1a:=Zdf.2.2.1.2
abbrev Zb1b:=Zdf.2.2.2.1
abbrev Zb1c:=Zdf.2.2.2.2.1
abbrev Zcpo:=Zdf.2.2.2.2.2
theorem Zlc:(((∀⦃t cv cu co cp cn cl l i r⦄,Im (Zbek t cv cu co cp cn cl l i=some r) (if i<(l.length:Int)then(0<=i/\(∃e1,l[i.toNat]?=some e1/\(∃(v1:List (List Int)) (v2:List Int),Zqb t e1=some (.tup [.own 0,.own 1],[.arr 56 1 true (v1.map isc),.arr 3 1 true (v2.map ic)])/\(Zv3 t cv cu co cp cn cl false ([(⟨e1,v1,v2⟩:Zh)]) l (w (i+1))=some r))))else(some (.agg [.t (.str cp),I cn,I cl,.t .nil],[])=some r)))/\
 (∀⦃t cv cu co cp cn cl fr x l i r⦄,Im (Zv3 t cv cu co cp cn cl fr x l i=some r) (if i<(l.length:Int)then(0<=i/\(∃e1,l[i.toNat]?=some e1/\(∃(v1:List (List Int)) (v2:List Int),Zqb t e1=some (.tup [.own 0,.own 1],[.arr 56 1 true (v1.map isc),.arr 3 1 true (v2.map ic)])/\(x.length+1<=68719476736/\(Zv3 t cv cu co cp cn cl false (x++[(⟨e1,v1,v2⟩:Zh)]) l (w (i+1))=some r)))))else(some (.agg [.t (.str cp),I cn,I cl,.own 0],[.arr 200 3 fr (x.map Zh.c)])=some r))))/\
 ((∀⦃a r⦄,Im (Zht a=some r) (∃v,Zhs a=some (Bo v,[])/\(if v=true then(∃(v1:List (List Int)),Zvw a.Arity=some (.own 0,[.arr 56 1 true (v1.map isc)])/\(Zbek a (⟨#[]⟩:ByteArray) 0 0 a.Name a.Arity (a.Rows.length:Int) v1 0=some r))else(some (.agg [.t (.str (⟨#[]⟩:ByteArray)),I 0,I 0,.t .nil],[])=some r))))/\
 (∀⦃d cc cd i r⦄,Im (Zbem d cc cd i=some r) (if i<(d.Tables.length:Int)then(0<=i/\(∃e1,d.Tables[i.toNat]?=some e1/\((∃v1 v2 v3,Zht e1=some (.agg [.t (.str v1),I v2,I v3,.t .nil],[])/\(Zm1 d cc cd true ([(⟨v1,v2,v3,[]⟩:Zg)]) (w (i+1))=some r))\/(∃v4,∃(v5:List Zh),∃v6,∃v7,∃v8,Zht e1=some (.agg [.t (.str v6),I v7,I v8,.own 0],[.arr 200 3 v4 (v5.map Zh.c)])/\(Zm1 d cc cd v4 ([(⟨v6,v7,v8,v5⟩:Zg)]) (w (i+1))=some r)))))else(some (.tup [.agg [I cd,.t .nil],Bo true],[])=some r)))))/\
 (((∀⦃d cc cd fr x i r⦄,Im (Zm1 d cc cd fr x i=some r) (if i<(d.Tables.length:Int)then(0<=i/\(∃e1,d.Tables[i.toNat]?=some e1/\((∃v1 v2 v3,Zht e1=some (.agg [.t (.str v1),I v2,I v3,.t .nil],[])/\(x.length+1<=68719476736/\(Zm1 d cc cd fr (x++[(⟨v1,v2,v3,[]⟩:Zg)]) (w (i+1))=some r)))\/(∃v4,∃(v5:List Zh),∃v6,∃v7,∃v8,Zht e1=some (.agg [.t (.str v6),I v7,I v8,.own 0],[.arr 200 3 v4 (v5.map Zh.c)])/\(x.length+1<=68719476736/\(Zm1 d cc cd (fr && v4) (x++[(⟨v6,v7,v8,v5⟩:Zg)]) (w (i+1))=some r))))))else(some (.tup [.agg [I cd,.own 0],Bo true],[.arr 141 4 fr (x.map Zg.c)])=some r)))/\
 (∀⦃a a1 r⦄,Im (Zqe a a1=some r) (∃v,Zmy a=some (Bo v,[])/\(if v=true then(∃v1,Z0 a1 1 999=some (Bo v1,[])/\(if v1=true then(Zbem a 0 a1 0=some r)else(some (.tup [.agg [I 0,.t .nil],Bo false],[])=some r)))else(some (.tup [.agg [I 0,.t .nil],Bo false],[])=some r)))))/\
 ((∀⦃cc b i r⦄,Im (Zbep cc b i=some r) (if i<0 then False else(some (Bo true,[])=some r)))/\
 (∀⦃cc a r⦄,Im (Zv6 cc a=some r) (if cc=a.Version then(if 0=(a.Tables.length:Int)then(Zbep cc a 0=some r)else(some (Bo false,[])=some r))else(some (Bo false,[])=some r))))):=by
 and_intros
 all_goals intros
 all_goals unfold Im
 all_goals try simp only[Zbek,Zv3,Zht,Zbem,Zm1,Zqe,Zbep,Zv6,Zqb,Ze.c_def,Zhs,Zvw,Zmy,Z0,Zi.c_def,mpl,dfs]
 all_goals try simp only[itb]
 all_goals try simp only[itf,gS,kk]
 all_goals repeat' first|refine exI λ_=>?_|refine anJ λ_ _=>?_|refine anI λ_=>?_|refine orE2 ?_ ?_|exact False.elim
 all_goals (intro h;first|rw[Zd Z2r.eq_1]|refine run Zci4 rfl ?_|rw[Zd Z2t.eq_1]|refine run Zci5 rfl ?_|rw[Zd Zv4.eq_1]|refine run Zbyx rfl ?_)
 all_goals (refine Yf ?_ h;clear h;simp +decide[*,kk,tI,tII,Z2s,Zbuk,Z2u,Zbul,Zv5,Zbeo])
abbrev Zcpp:=Zlc.1.1.1
abbrev Zb1d:=Zlc.1.1.2
abbrev Zcpq:=Zlc.1.2.1
abbrev Zcpr:=Zlc.1.2.2
abbrev Zb1e:=Zlc.2.1.1
abbrev Zcps:=Zlc.2.1.2
abbrev Zcpt:=Zlc.2.2.1
abbrev Zcpu:=Zlc.2.2.2
end Go.Proofs.YtnnjbejcffjgfaaGreat
