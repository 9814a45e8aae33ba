/-
  Parts of the proofs for this seat: G26 G27 G28 V1 V2 V3 V4 V5 V6 OP AD.
-/
import Derived.Test.YthdihnbeifcppaaGreatP14
import Derived.Test.YthdihnbeifcppaaGreatP15
import Derived.Test.YthdihnbeifcppaaGreatP16
import Derived.Test.YthdihnbeifcppaaGreatP17
import Derived.Test.YthdihnbeifcppaaGreatP18
import Derived.Test.YthdihnbeifcppaaGreatP19
import Derived.Test.YthdihnbeifcppaaGreatP20
import Derived.Test.YthdihnbeifcppaaGreatP21
import Derived.Test.YthdihnbeifcppaaGreatP22
import Derived.Test.YthdihnbeifcppaaGreatP23
set_option linter.all false
set_option maxRecDepth 100000
set_option maxHeartbeats 4000000
namespace Go.Proofs.YthdihnbeifcppaaGreat
open Go.AM
def ZFB:((((iM Zlz λa a1 a2 a3 a4 r=>qG a2 a3 (λu1=>JZ (Qe a a1) (λu2=>if u1.Left<0 then qG a4 u1.Mask (λu3=>qI (V8 u2 u3 0 u3) (λu4=>qi u4 r))else if u1.Right<0 then qG a2 u1.Left (λu3=>qG a4 u3.Mask (λu4=>qG a4 u1.Mask (λu5=>qI (V8 u2 u4 0 u5) (λu6=>qi u6 r))))else qG a2 u1.Left (λu3=>qG a4 u3.Mask (λu4=>qG a2 u1.Right (λu5=>qG a4 u5.Mask (λu6=>qG a4 u1.Mask (λu7=>qI (V8 u2 u4 u6 u7) (λu8=>qi u8 r)))))))))/\
 (iM ZhF λm p out info sizes i r=>if i<(info.length:Int)then qG p.Steps i (λu1=>qI (Zlz m u1.Kind info i sizes) (λu2=>qN out (r (ZhF m p (out++[u2]) info sizes (w (i+1))))))else qs3 out r))/\
 ((iM Zl0 λa a1 a2 a3 r=>∃(u1:List Zt),∃u2,ZdR a1 a2=some (.tup [.own 0,Bo u2],[.arr 332 4 true (u1.map Zt.c)])/\qL ([]:V6) λk1=>if u2=true then qB (ZhD a1 a3) (r (ZhF a a2 k1 u1 a3 0)) (qs3 k1 r)else qs3 k1 r)/\
 (iM ZhG λl n i r=>if i<(l.length:Int)then qG l i (λu1=>r (ZhG l (w (n+u1)) (w (i+1))))else qi n r)))/\
 (((iM Zl1 λa a1 a2 a3 r=>qs2 (Zl0 a a1 a2 a3) (λu1=>if(u1.length:Int)=0 then qi (-1) r else r (ZhG u1 0 0)))/\
 (iM Zl2 λa a1 a2 a3 r=>qs2 (ZdW a3) (λu1=>qI (Zl1 a a1 a2 u1) (λu2=>qi u2 r))))/\
 ((iM Zl3 λa a1 a2 r=>∃(u1:List Xk),Zh0 a1=some (.own 0,[.arr 335 3 true (u1.map Xk.c)])/\qs2 (ZdW a2.Box.Low) (λu2=>∃u3,∃(u4:List Zb),ZhC u1 u2 a a1=some (.own 2,[.arr 335 3 true (u1.map Xk.c),.arr 3 1 true (u2.map ic),.arr 287 4 u3 (u4.map Zb.c)])/\qI (Kh a1) (λu5=>(ZcH (Zee u4 u5) (λu6 u7 u8=>qb false r))\/(ZcI (Zee u4 u5) (λu6 u7 u8 u9=>qI (Zl2 a a1 a2.Zg a2.Box.High) (λu10=>qb (decide ((w (u10*100))<=(w (a2.Percent*u9)))) r))))))/\
 ((iM Zl4 λa a1 a2 r=>qB (ZdI a) (qI (Kh a1) (λu2=>qB (ZbQ a1 u2) (qB (Zhw a1 a2) (qV (Zl3 a a1 a2) (λu5=>qb u5 r)) (qb false r)) (qb false r))) (qb false r))/\
 (iM Zeg λm c i r=>qL (c.Entries.length:Int) λk1=>qL (qb false r) λk2=>if i<k1 then qG c.Entries i (λu1=>qB (Xg u1.Version 1 999) (qB (Xg u1.Used 1 c.Clock) (qB (Zl4 m u1.Zj u1.Region) (r (ZhI m c u1 i 0)) k2) k2) k2)else qB (Xg c.Clock 0 1000000) (qb (decide (k1<=4)) r) k2)))))/\
 ((((iM ZhI λm c e i k r=>if k<i then qG c.Entries k (λu1=>if u1.Used=e.Used then qb false r else r (ZhI m c e i (w (k+1))))else r (Zeg m c (w (i+1))))/\
 (iM Zef λa a1 r=>r (Zeg a a1 0)))/\
 ((iM ZhJ λa r=>qL (qb false r) λk1=>qB (ZbM a.Zs) (qB (ZdI a.Za) (qB (Zef a.Za a.Cache) (qB (Xg a.Ratio 2 8) (qB (Xg a.Slack 0 100) (qB (Xg a.Queries 0 1000000) (qV (Xg a.Spent 0 1000000000000) (λu7=>qb u7 r)) k1) k1) k1) k1) k1) k1)/\
 (iM ZhL λt row i r=>if i<(t.Rows.length:Int)then qB (Q6 t) (qG t.Rows i (λu2=>qI (Uj u2 row) (λu3=>if u3=0 then qb true r else r (ZhL t row (w (i+1)))))) (qb false r)else qb false r)))/\
 (((iM ZhK λa a1 r=>r (ZhL a a1 0))/\
 (iM ZhM λa a1 r=>∃(u1:V4),∃u2,∃u3,W7 a=some (.agg [.t (.str u2),I u3,.own 0],[.arr 42 1 true (u1.map isc)])/\qL (r (some (.tup [.agg [.t (.str u2),I u3,.own 0],Bo false],[.arr 42 1 true (u1.map isc)]))) λk1=>qB (Q6 a) (qB (ZbH a1 a.Arity) (qB (ZhK a a1) k1 (if(a.Rows.length:Int)=8 then k1 else KC (Zd2 u1 a1) (λu7=>r (some (.tup [.agg [.t (.str u2),I u3,.own 0],Bo true],[.arr 42 1 true (u7.map isc)]))))) k1) k1))/\
 ((iM ZhO λt Name Arity Name1 Arity1 x row i r=>if i<(t.Rows.length:Int)then qG t.Rows i (λu1=>qI (Uj u1 row) (λu2=>qL (ZhO t Name Arity Name1 Arity1) λk1=>if u2=0 then r (k1 x row (w (i+1)))else qM u1 (qN x (r (k1 (x++[u1]) row (w (i+1)))))))else r (some (.tup [.agg [.t (.str Name1),I Arity1,.own 0],Bo true],[.arr 42 1 true (x.map isc)])))/\
 ((iM ZhN λa a1 r=>∃(u1:V4),∃u2,∃u3,W7 a=some (.agg [.t (.str u2),I u3,.own 0],[.arr 42 1 true (u1.map isc)])/\qB (ZhK a a1) (r (ZhO a (⟨#[]⟩:UP) 0 u2 u3 ([]:V4) a1 0)) (r (some (.tup [.agg [.t (.str u2),I u3,.own 0],Bo false],[.arr 42 1 true (u1.map isc)]))))/\
 (iM Zl7 λi r=>if i<0 then False else qb true r))))):=by
 refine qu ?_
 and_intros
 all_goals(intros;unfold Im;(try simp only[Zlz,ZhF,Zl0,ZhG,Zl1,Zl2,Zl3,Zl4,Zeg,ZhI,Zef,ZhJ,ZhL,ZhK,ZhM,ZhO,ZhN,Zl7,Qe,V8,Za.c_def,Z0.c_def,Zt.c_def,ZdR,ZhD,Zg.c_def,Zj.c_def,ZdW,Zh0,ZhC,Kh,Zee,Xk.c_def,Zb.c_def,ZdI,ZbQ,Zhw,Box.c_def,Region.c_def,Xg,ZbM,Zu.c_def,Zl.c_def,ZH.c_def,Zs.c_def,Q6,Uj,Zc.c_def,W7,ZbH,Zd2,lpz,Zua,mpl,dfs]);(try simp only[itb]);(try simp only[itf,gS,kk]))
 all_goals(repeat' first|refine exI λ_=>?_|refine anJ λ_ _=>?_|refine anI λ_=>?_|refine orE2 ?_ ?_|exact False.elim)
 all_goals(intro h;first|refine run ZEH rfl ?_|rw[Zn ZtS.eq_1]|refine run ZEI rfl ?_|rw[Zn ZtV.eq_1]|refine run ZEJ rfl ?_|refine run ZEK rfl ?_|refine run ZEL rfl ?_|refine run ZEM rfl ?_|rw[Zn Zl5.eq_1]|rw[Zn ZtX.eq_1]|refine run ZEN rfl ?_|refine run ZEO rfl ?_|rw[Zn Zuc.eq_1]|refine run ZEP rfl ?_|refine run ZEQ rfl ?_|rw[Zn Zue.eq_1]|refine run ZER rfl ?_|rw[Zn ZgO.eq_1])
 all_goals (refine Ye ?_ h;clear h;simp +decide[*,kk,tI,tII,Z1Z,ZtT,Z2a,ZtW,Z2b,Z2c,Z2d,Z2e,ZtZ,ZtY,Z2f,Z2g,Zud,Z2h,Z2i,Z2j,Zuf,Z2k,ZgP])
abbrev Ww:=uq ZFB
def ZFC:iM ZhP λr=>r (Zl7 0):=by
 refine qu ?_
 all_goals(intros;unfold Im;(try simp only[ZhP,Zl7,lpz,mpl,dfs]);(try simp only[itb]);(try simp only[itf,gS,kk]))
 all_goals(repeat' first|refine exI λ_=>?_|refine anJ λ_ _=>?_|refine anI λ_=>?_|refine orE2 ?_ ?_|exact False.elim)
 all_goals(intro h;first|refine run Z22 rfl ?_)
 all_goals (refine Ye ?_ h;clear h;simp +decide[*,kk,tI,tII,Zr9])
abbrev ZFD:=uq ZFC
def ZFE:(((iM Zeh λd t put i r=>if i<(d.Tables.length:Int)then qL (w (i+1)) λk1=>if put=true then qG d.Tables i (λu1=>if u1.Name=t.Name then r (Zeh d t true k1)else ∃(u2:V4),∃u3,∃u4,W7 u1=some (.agg [.t (.str u3),I u4,.own 0],[.arr 42 1 true (u2.map isc)])/\r (Qg d t ([(⟨u3,u4,u2⟩:Zc)]) true k1))else qG d.Tables i (λu1=>if(Op.bytesLess u1.Name.toList t.Name.toList)=true then if u1.Name=t.Name then r (Zeh d t false k1)else ∃(u2:V4),∃u3,∃u4,W7 u1=some (.agg [.t (.str u3),I u4,.own 0],[.arr 42 1 true (u2.map isc)])/\r (Qg d t ([(⟨u3,u4,u2⟩:Zc)]) false k1)else ∃(u2:V4),∃u3,∃u4,W7 t=some (.agg [.t (.str u3),I u4,.own 0],[.arr 42 1 true (u2.map isc)])/\qL (⟨u3,u4,u2⟩:Zc) λk2=>if u1.Name=t.Name then r (Qg d t ([k2]) true k1)else ∃(u5:V4),∃u6,∃u7,W7 u1=some (.agg [.t (.str u6),I u7,.own 0],[.arr 42 1 true (u5.map isc)])/\r (Qg d t ([k2]++[(⟨u6,u7,u5⟩:Zc)]) true k1))else if put=true then qB ZhP (KE ([]:List Zc) r) (qs6 (Ux d) (λu2=>Uu u2 r))else ∃(u1:V4),∃u2,∃u3,W7 t=some (.agg [.t (.str u2),I u3,.own 0],[.arr 42 1 true (u1.map isc)])/\qL (⟨u2,u3,u1⟩:Zc) λk3=>qB (Q7 (⟨[k3]⟩:Zl)) (KE ([k3]) r) (qs6 (Ux d) (λu5=>Uu u5 r)))/\
 (iM Qg λd t x put i r=>if i<(d.Tables.length:Int)then qL (w (i+1)) λk1=>if put=true then qG d.Tables i (λu1=>if u1.Name=t.Name then r (Qg d t x true k1)else ∃(u2:V4),∃u3,∃u4,W7 u1=some (.agg [.t (.str u3),I u4,.own 0],[.arr 42 1 true (u2.map isc)])/\qN x (r (Qg d t (x++[(⟨u3,u4,u2⟩:Zc)]) true k1)))else qG d.Tables i (λu1=>if(Op.bytesLess u1.Name.toList t.Name.toList)=true then if u1.Name=t.Name then r (Qg d t x false k1)else ∃(u2:V4),∃u3,∃u4,W7 u1=some (.agg [.t (.str u3),I u4,.own 0],[.arr 42 1 true (u2.map isc)])/\qN x (r (Qg d t (x++[(⟨u3,u4,u2⟩:Zc)]) false k1))else ∃(u2:V4),∃u3,∃u4,W7 t=some (.agg [.t (.str u3),I u4,.own 0],[.arr 42 1 true (u2.map isc)])/\qN x (qL (x++[(⟨u3,u4,u2⟩:Zc)]) λk2=>if u1.Name=t.Name then r (Qg d t k2 true k1)else ∃(u5:V4),∃u6,∃u7,W7 u1=some (.agg [.t (.str u6),I u7,.own 0],[.arr 42 1 true (u5.map isc)])/\x.length+1+1<=68719476736/\r (Qg d t (k2++[(⟨u6,u7,u5⟩:Zc)]) true k1)))else if put=true then qB (Q7 (⟨x⟩:Zl)) (KE x r) (qs6 (Ux d) (λu2=>Uu u2 r))else ∃(u1:V4),∃u2,∃u3,W7 t=some (.agg [.t (.str u2),I u3,.own 0],[.arr 42 1 true (u1.map isc)])/\qN x (qL (x++[(⟨u2,u3,u1⟩:Zc)]) λk3=>qB (Q7 (⟨k3⟩:Zl)) (KE k3 r) (qs6 (Ux d) (λu5=>Uu u5 r)))))/\
 ((iM ZhR λa a1 r=>qB (Q7 a) (qB (Q6 a1) (r (Zeh a a1 false 0)) (qs6 (Ux a) (λu3=>Uu u3 r))) (qs6 (Ux a) (λu2=>Uu u2 r)))/\
 (iM Zl8 λa a1 r=>(∃(u1:V4),∃u2,∃u3,V7 a a1.Name=some (.tup [.agg [.t (.str u2),I u3,.own 0],Bo true],[.arr 42 1 true (u1.map isc)])/\qL (qs6 (Ux a) (λu8=>Zjn u8 r)) λk1=>qL (⟨u2,u3,u1⟩:Zc) λk2=>if a1.Insert=true then ∃(u4:V4),∃u5,∃u6,∃u7,ZhM k2 a1.Row=some (.tup [.agg [.t (.str u5),I u6,.own 0],Bo u7],[.arr 42 1 true (u4.map isc)])/\if u7=true then Zbm (ZhR a (⟨u5,u6,u4⟩:Zc)) (λu8 u9=>r (some (.tup [.agg [L 3 (u8.map Zc.c)],Bo u9],[])))else k1 else ∃(u4:V4),∃u5,∃u6,∃u7,ZhN k2 a1.Row=some (.tup [.agg [.t (.str u5),I u6,.own 0],Bo u7],[.arr 42 1 true (u4.map isc)])/\if u7=true then Zbm (ZhR a (⟨u5,u6,u4⟩:Zc)) (λu8 u9=>r (some (.tup [.agg [L 3 (u8.map Zc.c)],Bo u9],[])))else k1)\/(∃u1 u2,V7 a a1.Name=some (.tup [.agg [.t (.str u1),I u2,.t .nil],Bo false],[])/\qs6 (Ux a) (λu3=>Zjn u3 r)))))/\
 (((iM Zl9 λa a1 r=>qL (JY (J1 a) (λu2 u3 u4 u5 u6=>Zfh u2 u6 u3 u4 u5 r)) λk1=>qB (ZbM a) (if a.Zu.Version=999 then k1 else ∃(u2:Zl),∃u3,Zl8 a.Zl a1=some (.tup [.agg (u2.c.map .t),Bo u3],[])/\if u3=true then qB (Zd9 u2 a.Dependencies a.Inclusions) (∃(u5:Zu),∃u6,ZbL u2 (w (a.Zu.Version+1))=some (.tup [.agg (u5.c.map .t),Bo u6],[])/\Zfi (ZgE a.Dependencies) (λu7=>qM a.Inclusions (r (some (.tup [.agg [L 3 (u2.Tables.map Zc.c),I u5.Version,L 4 (u5.Tables.map Zk.c),L 3 (u7.map Zp.c),L 4 (a.Inclusions.map Zr.c)],Bo true],[]))))) (JY (J1 a) (λu5 u6 u7 u8 u9=>Zfh u5 u9 u6 u7 u8 r))else JY (J1 a) (λu4 u5 u6 u7 u8=>Zfh u4 u8 u5 u6 u7 r)) k1)/\
 (iM ZhS λc Clock Clock1 version i r=>qL (c.Entries.length:Int) λk1=>if i<k1 then qG c.Entries i (λu1=>if u1.Version=version then ∃(u2:Zo),Zar u1=some (.agg (u2.c.map .t),[])/\r (Zei c Clock Clock1 false ([u2]) version (w (i+1)))else r (ZhS c Clock Clock1 version (w (i+1))))else r (some (.tup [.agg [I Clock1,L 8 (([]:List Zo).map Zo.c)],I (w (k1-0))],[]))))/\
 ((iM Zei λc Clock Clock1 fr x version i r=>qL (c.Entries.length:Int) λk1=>if i<k1 then qG c.Entries i (λu1=>if u1.Version=version then ∃(u2:Zo),Zar u1=some (.agg (u2.c.map .t),[])/\qN x (r (Zei c Clock Clock1 false (x++[u2]) version (w (i+1))))else r (Zei c Clock Clock1 fr x version (w (i+1))))else r (some (.tup [.agg [I Clock1,L 8 (x.map Zo.c)],I (w (k1-(x.length:Int)))],[])))/\
 ((iM ZlB λa a1 a2 r=>qB (Zef a a1) (r (ZhS a1 0 a1.Clock a2 0)) (∃(u2:ZH),Zdx a1=some (.agg (u2.c.map .t),[])/\r (some (.tup [.agg (u2.c.map .t),I 0],[]))))/\
 (iM ZlC λa a1 r=>∃(u1:ZJ),ZgK a=some (.agg (u1.c.map .t),[])/\qL (r (some (.tup [.agg (u1.c.map .t),Bo false],[]))) λk1=>qB (ZhJ a) (∃(u3:Zs),∃u4,Zl9 a.Zs a1=some (.tup [.agg (u3.c.map .t),Bo u4],[])/\if u4=true then ∃(u5:ZH),∃u6,ZlB a.Za a.Cache u3.Zu.Version=some (.tup [.agg (u5.c.map .t),I u6],[])/\r (some (.tup [.agg [L 3 (u3.Zl.Tables.map Zc.c),I u3.Zu.Version,L 4 (u3.Zu.Tables.map Zk.c),L 3 (u3.Dependencies.map Zp.c),L 4 (u3.Inclusions.map Zr.c),I u1.Za.Scan.Fixed,I u1.Za.Scan.Zv,I u1.Za.Scan.Zw,I u1.Za.Scan.Zz,I u1.Za.Scan.Zx,L 2 (u1.Za.Scan.Steps.map Zd.c),I u1.Za.Sort_.Fixed,I u1.Za.Sort_.Zv,I u1.Za.Sort_.Zw,I u1.Za.Sort_.Zz,I u1.Za.Sort_.Zx,L 2 (u1.Za.Sort_.Steps.map Zd.c),I u1.Za.Hash.Fixed,I u1.Za.Hash.Zv,I u1.Za.Hash.Zw,I u1.Za.Hash.Zz,I u1.Za.Hash.Zx,L 2 (u1.Za.Hash.Steps.map Zd.c),I u1.Za.Merge.Fixed,I u1.Za.Merge.Zv,I u1.Za.Merge.Zw,I u1.Za.Merge.Zz,I u1.Za.Merge.Zx,L 2 (u1.Za.Merge.Steps.map Zd.c),I u1.Za.Nested.Fixed,I u1.Za.Nested.Zv,I u1.Za.Nested.Zw,I u1.Za.Nested.Zz,I u1.Za.Nested.Zx,L 2 (u1.Za.Nested.Steps.map Zd.c),I u5.Clock,L 8 (u5.Entries.map Zo.c),I u1.Ratio,I u1.Slack,I u1.Queries,I u1.Spent],Bo true],[]))else k1) k1)))):=by
 refine qu ?_
 and_intros
 all_goals(intros;unfold Im;(try simp only[Zeh,Qg,ZhR,Zl8,Zl9,ZhS,Zei,ZlB,ZlC,W7,ZhP,Ux,Q7,Zl.c_def,Zc.c_def,Q6,V7,ZhM,ZhN,ZbM,J1,Zd9,ZbL,ZgE,Zu.c_def,Zp.c_def,Zr.c_def,Zs.c_def,ZR.c_def,Zar,Box.c_def,Zo.c_def,Zg.c_def,Zj.c_def,Region.c_def,Zef,Zdx,Za.c_def,Z0.c_def,ZH.c_def,ZgK,ZhJ,ZJ.c_def,Zui,lpz,Zul,mpl,dfs]);(try simp only[itb]);(try simp only[itf,gS,kk]))
 all_goals(repeat' first|refine exI λ_=>?_|refine anJ λ_ _=>?_|refine anI λ_=>?_|refine orE2 ?_ ?_|exact False.elim)
 all_goals(intro h;first|rw[Zn Zug.eq_1]|refine run ZES rfl ?_|refine run ZET rfl ?_|refine run ZEU rfl ?_|rw[Zn Zuj.eq_1]|refine run ZEV rfl ?_|refine run ZEW rfl ?_)
 all_goals (refine Ye ?_ h;clear h;simp +decide[*,kk,tI,tII,Z2l,Z2m,Zuh,Z2n,Z2q,Z2p,Z2r,Z2s,Zuk,Z2t,Z2u])
abbrev Qk:=uq ZFE
def Z25{all:V4}{c:V6}{x:V4}{x1 x2:Int}{r:V3}(h:(if x2<x1 then(0<=x2/\(∃(e1:V6),x[x2.toNat]?=some e1/\((Kb e1 c=some (.tup [.t .nil,Bo false],[])/\(all.length+1<=68719476736/\(J8 (all++[[]]) c x x1 (w (x2+1))=some r)))\/(∃(v:V6),Kb e1 c=some (.tup [.own 0,Bo true],[.arr 3 1 true (v.map ic)])/\(all.length+1<=68719476736/\(J8 (all++[v]) c x x1 (w (x2+1))=some r))))))else(∃(v1:V4),Zdt all=some (.own 0,[.arr 42 1 true (v1.map isc)])/\(0<=(v1.length:Int)/\((v1.length:Int)<=(v1.length:Int)/\((v1.length:Int).toNat*8<=room/\((v1.length:Int)<=140737488355328/\(ZbX all v1 (List.replicate ((v1.length:Int)).toNat 0) (v1.length:Int) 0=some r)))))))):J8 all c x x1 x2=some r:=by
 unfold J8
 try simp only[lpz]
 rw[Zn Zum.eq_1];by_cases q1:x2<x1
 .rw[Ya q1]at h;obtain⟨q2,h⟩:=h;obtain⟨e1,q3,h⟩:=h;have gq3:=Wd q3;have kq3:=Wm q3;rcases h with h|h
  .obtain⟨q4,h⟩:=h;unfold Kb at q4
   try simp[lpz]at q4
   obtain⟨q5,h⟩:=h;have rq5:=Vw (b:=24) q5 (by omega);have sq5:=Vx q5
   try simp[*]at rq5
   try simp[*]at sq5
   refine Ye ?_ h;clear h;simp +decide[*,tI,tII,J8,lpz]
  .obtain⟨v,q6,h⟩:=h;unfold Kb at q6
   try simp[lpz]at q6
   obtain⟨q7,h⟩:=h;have rq7:=Vw (b:=24) q7 (by omega);have sq7:=Vx q7
   try simp[*]at rq7
   try simp[*]at sq7
   refine Ye ?_ h;clear h;simp +decide[*,tI,tII,J8,lpz]
 .rw[Yb q1]at h;obtain⟨v1,q8,h⟩:=h;unfold Zdt at q8
  try simp[lpz]at q8
  obtain⟨q9,h⟩:=h;have zq9:=q9;try simp[lpz]at zq9
  obtain⟨q10,h⟩:=h;have zq10:=q10;try simp[lpz]at zq10
  obtain⟨q11,h⟩:=h;have zq11:=q11;try simp[lpz]at zq11
  obtain⟨q12,h⟩:=h;have zq12:=q12;try simp[lpz]at zq12
  refine Ye ?_ h;clear h;simp +decide[*,tI,tII,ZbX,Zuq,ZlF,lpz]
def ZFF:(((iM ZbX λall groups counts x x1 r=>if x1<x then qG groups x1 (λu1=>r (Zej all groups counts x1 u1 x x1 (all.length:Int) 0))else Zfk groups counts r)/\
 (iM Zej λall groups counts i g x x1 x2 x3 r=>if x3<x2 then qG all x3 (λu1=>qB (Qa g u1) (qG counts i (λu3=>r (Zej all groups (counts.set i.toNat (w (u3+1))) i g x x1 x2 (w (x3+1))))) (r (Zej all groups counts i g x x1 x2 (w (x3+1)))))else r (ZbX all groups counts x (w (x1+1)))))/\
 ((iM ZlE λa a1 r=>qL (r (some (.tup [.t .nil,.t .nil],[]))) λk1=>qB (Q4 a) (qB (ZcS a1 a.Arity) (r (J8 ([]:V4) a1 a.Rows (a.Rows.length:Int) 0)) k1) k1)/\
 (iM ZhT λout set i r=>¬i<0/\if(shrI set i)=0 then qs3 out r else if(andI (shrI set i) 1)=1 then qN out (r (ZhT (out++[i]) set (w (i+1))))else r (ZhT out set (w (i+1))))))/\
 (((iM Kj λa r=>r (ZhT ([]:V6) a 0))/\
 (iM ZbY λout arity set r=>¬arity<0/\if set<(shlI 1 arity)then qs2 (Kj set) (λu1=>qN out (r (ZbY (out++[u1]) arity (w (set+1)))))else KB out r))/\
 ((iM ZlH λa r=>qB (ZV a 1 3) (r (ZbY ([]:V4) a 1)) (QX r))/\
 (iM Zuw λa r=>qM a.Steps (r (some (.agg [I a.Fixed,I a.Zv,I a.Zw,I a.Zz,I a.Zx,.own 0],[.arr 256 2 true (a.Steps.map Zd.c)])))))):=by
 refine qu ?_
 and_intros
 all_goals(intros;unfold Im;(try simp only[ZbX,Zej,ZlE,ZhT,Kj,ZbY,ZlH,Zuw,Qa,Q4,ZcS,Zc.c_def,ZV,J8,lpz,ZlF,mpl,dfs]);(try simp only[itb]);(try simp only[itf,gS,kk]))
 all_goals(repeat' first|refine exI λ_=>?_|refine anJ λ_ _=>?_|refine anI λ_=>?_|refine orE2 ?_ ?_|exact False.elim)
 all_goals(intro h;first|rw[Zn ZlD.eq_1]|rw[Zn Zun.eq_1]|refine run ZEX rfl ?_|rw[Zn Zur.eq_1]|refine run ZEY rfl ?_|rw[Zn Zuu.eq_1]|refine run ZEZ rfl ?_|refine run ZFa rfl ?_)
 all_goals (refine Ye ?_ h;clear h;simp +decide[*,kk,tI,tII,Zup,Z2v,Zuo,Z2w,Zus,Z2x,Z2y,Zuv,Z2z,Z20])
abbrev Wb:=uq ZFF
@[simp] def XX(a b c:Int):ZV a b c=some (Bo (inR a b c),[]):=by
 apply VL.2.1.2.1;by_cases h:b<=a<;>simp[inR,h]
@[simp] def Wo(a b c:Int):Xg a b c=some (Bo (inR a b c),[]):=by
 apply Qi.2.2.1;by_cases h:b<=a<;>simp[inR,h]
def ZFG(xs:V6)(v:Int)(hx:Le xs):∀i,i<=xs.length->
  ZfF xs v xs.length i=some (I (WT (λx=>decide (v=x)) (xs.drop i) i),[]):=by
 refine down _ ?_ ?_
 .apply WY.1.2.1.1;simp[WT]
 .intro i hi ih;apply WY.1.2.1.1;have h4:=ZL (i:=i) (by omega);rw[Zn9 _ hi];simp at ih;by_cases e:v=xs[i]<;>simp[hi,h4,e,ih]
@[simp] def xIndexI(xs:V6)(v:Int)(hx:Le xs):ZjV xs v=some (I (WT (λx=>decide (v=x)) xs 0),[]):=by
 apply WY.1.2.1.2;have:=ZFG xs v hx 0 (Yd _);simpa using this
@[simp] def Zca(xs:V6)(v:Int)(hx:Le xs):Qb xs v=some (Bo (has xs v),[]):=by
 apply WY.1.2.2.1;unfold has;rcases tf (xs.any (λx=>decide (v=x)))with e|e
 .simp[hx,ZxF _ _ _ e,e]
 .have:=ZxG _ _ 0 e;simp[hx,this,e]
def ZFH(xs:List Bool)(v:Bool)(hx:Le xs):∀i,i<=xs.length->
  ZfT xs v xs.length i=some (I (WT (λx=>v == x) (xs.drop i) i),[]):=by
 refine down _ ?_ ?_
 .apply Wi.2.1.2.2;simp[WT]
 .intro i hi ih;apply Wi.2.1.2.2;have h4:=ZL (i:=i) (by omega);rw[Zn9 _ hi];simp at ih;by_cases e:v=xs[i]<;>simp[hi,h4,e,ih]
@[simp] def ZFI(xs:List Bool)(v:Bool)(hx:Le xs):Zkh xs v=some (Bo (xs.any (λx=>v == x)),[]):=by
 apply Wi.2.2.1.2;have q:Zkg xs v=some (I (WT (λx=>v == x) xs 0),[]):=by
  apply Wi.2.2.1.1;have:=ZFH xs v hx 0 (Yd _);simpa using this
 rcases tf (xs.any (λx=>v == x))with e|e
 .rw[ZxF _ _ _ e]at q;rw[e];simp[q]
 .have:=ZxG _ _ 0 e;rw[e];simp[q,this]
def ZFJ(xs:V6)(v:Int)(hx:Le xs):∀i,i<=xs.length->Zhd xs v i=some (Bo (has (xs.drop i) v),[]):=by
 unfold has;refine down _ ?_ ?_
 .apply W8.2.1.1.1;simp
 .intro i hi ih;apply W8.2.1.1.1;have h4:=ZL (i:=i) (by omega);rw[Z9o _ hi];simp at ih;by_cases e:v=xs[i]
  .simp[hi,h4,<-e]
  .have e':¬xs[i]=v:=λhc=>e hc.symm
   simp[hi,h4,e,e',ih]
@[simp] def Zuy(xs:V6)(v:Int)(hx:Le xs):Zas xs v=some (Bo (has xs v),[]):=by
 apply W8.2.1.1.2;have:=ZFJ xs v hx 0 (Yd _);simpa using this
def Z26(s:UP)(P:Prop):(if(s.size:Int)=1 then(∃(b1:UInt8),s[0]?=some b1/\(if 97<=(b1.toNat:Int)then(some (Bo (decide ((b1.toNat:Int)<=122)),[])=some (Bo (VH s),([]:UA)))else(some (Bo false,[])=some (Bo (VH s),([]:UA)))))else(some (Bo false,[])=some (Bo (VH s),([]:UA)))):=by
 by_cases h:s.size=1
 .obtain⟨b,hb⟩:=get0 h;rw[Ypx];refine⟨b,hb,?_⟩;have e:VH s=(decide (97<=(b.toNat:Int)) && decide ((b.toNat:Int)<=122)):=by
   unfold VH;rw[hb];simp only[h,decide_true,Yw]
  by_cases h1:(97:Int)<=(b.toNat:Int)
  .rw[Ya h1,e,decide_eq_true h1,Yw]
  .rw[Yb h1,e,decide_eq_false h1,Ycq]
 .have h':¬(s.size:Int)=1:=by omega
  have:VH s=false:=by unfold VH;split<;>simp[h]
  simp[h',this]
@[simp] def ZFK(s:UP):Zbx s=some (Bo (VH s),[]):=VL.2.2.2.1 _ _ (Z26 s True)
@[simp] def ZFL(s:UP):ZbG s=some (Bo (VH s),[]):=Qi.2.1.2.2 _ _ (Z26 s True)
def LeQ(q:Zj):Prop:=Le q.Atoms/\∀a∈q.Atoms,Le a.Vars
def blB(p:Nat->Bool)(n:Nat):List Bool:=(List.range n).map p
def ZFM(p:Nat->Bool)(n:Nat){v:Int}(h:inR v 0 ((n:Int)-1)=true):(blB p n).set v.toNat true=blB (Wf p [v]) n:=by
 simp[inR]at h;apply Ycz
 .simp[blB]
 .intro i h1 h2;simp only[blB,Ycf,Y9,List.length_range]at h1;rw[List.getElem_set];simp only[blB,List.getElem_map,List.getElem_range];by_cases e:v.toNat=i
  .have:(i:Int)=v:=by omega
   simp[e,Wf,has,this]
  .have:¬(i:Int)=v:=by omega
   simp[e,Wf,has,this]
def ZFN(q:Zj)(n:Nat)(hn:n<=4)(hq:q.Zm=n)(a:Ze)(qa:List Ze)(l j:Int)(hv:Le a.Vars)(r:V3):∀k,k<=a.Vars.length->∀p,
  (if UZ n (a.Vars.take k) (a.Vars.drop k)=true then Zb4 q (blB (Wf p (a.Vars.drop k)) n) qa l (w (j+1))=some r else some (Bo false,[])=some r)->
  ZfV q (blB p n) a qa l j a.Vars a.Vars.length k=some r:=by
 refine down _ ?_ ?_
 .intro p h;apply Wi.2.2.2.2;simpa[UZ,Zn6]using h
 .intro k hk ih p h;have h4:=ZL (i:=k) (by omega);have hw:w (q.Zm-1)=(n:Int)-1:=by rw[hq];exact Z1 (by omega) (by omega)
  have hl:=Zca (a.Vars.take k) a.Vars[k] (by simp;omega);apply Wi.2.2.2.2;rw[ZxH _ hk]at h;rcases tf (inR a.Vars[k] 0 ((n:Int)-1))with e1|e1
  .simp[e1]at h;simp[hk,h4,hw,e1,<-h]
  .rcases tf (has (a.Vars.take k) a.Vars[k])with e2|e2
   .rw[Zn7 p hk]at h;simp only[e1,e2,Yw,Bool.not_false]at h;have ih:=ih _ h;have e0:=e1;simp[inR]at e0;have e5:(a.Vars[k]).toNat<(blB p n).length:=by simp[blB];omega
    have e6:=ZFM p n e1;have e7:k<=a.Vars.length:=by omega
    simp at ih;simp[hk,h4,hw,e1,e2,hl,e0,e5,e6,e7,ih]
   .simp[e1,e2]at h;have e7:k<=a.Vars.length:=by omega
    simp[hk,h4,hw,e1,e2,hl,e7,<-h]
def ZFO(q:Zj)(n:Nat)(hn:n<=4)(hq:q.Zm=n)(qa:List Ze)(hl:Le qa)(hv:∀a∈qa,Le a.Vars):∀k,k<=qa.length->∀p,
  Zb4 q (blB p n) qa qa.length k=some (Bo ((qa.drop k).all (WU n) && (List.range n).all (VI p (qa.drop k))),[]):=by
 refine down _ ?_ ?_
 .intro p;apply Wi.2.2.2.1;have e:VI p []=p:=by funext u;simp[VI]
  have q1:=ZFI (blB p n) false (by simp[blB];omega);have q2:(blB p n).any (λx=>false == x)=!(List.range n).all p:=bl_any p n;rw[q2]at q1;simp[q1,e]
 .intro k hk ih p;apply Wi.2.2.2.1;have h4:=ZL (i:=k) (by omega);rw[Zfm _ hk];rcases tf (VH qa[k].Name)with e1|e1
  .simp[hk,e1,WU]
  rcases tf (inR qa[k].Vars.length 1 3)with e2|e2
  .simp[hk,e1,e2,WU]
  have b:=ZFN q n hn hq qa[k] qa qa.length k (hv _ (Yc hk)) (Bo (WU n qa[k] && (qa.drop (k+1)).all (WU n) && (List.range n).all (VI p (qa.drop k))),[]) 0 (Yd _) p ?_
  .simp at b;simp[hk,e1,e2,b]
  .simp only[List.take_zero,Ys,WU,e1,e2,Yw];rcases tf (UZ n [] qa[k].Vars)with e3|e3
   .simp[e3]
   .have ih:=ih (Wf p qa[k].Vars);simp only[e3,if_true,Yw,ZxI p hk];simp at ih;rw[show w ((k:Int)+1)=(k:Int)+1 from h4,ih]
@[simp] def ZhV(q:Zj)(h:LeQ q):KG q=some (Bo (Z6 q.Zm q.Atoms),[]):=by
 refine ZFj ?_;unfold Z6;rcases tf (inR q.Zm 1 4)with e1|e1
 .simp[e1]
 rcases tf (inR q.Atoms.length 1 4)with e2|e2
 .simp[e1,e2]
 have e0:=e1;simp[inR]at e0;have hn:q.Zm=(q.Zm.toNat:Int):=by omega
 have b:=ZFO q q.Zm.toNat (by omega) hn q.Atoms h.1 h.2 0 (Yd _) (λ_=>false);have r1:q.Zm.toNat<=room:=room2 (by omega);have r2:q.Zm<=room:=by
  have:(q.Zm.toNat:Int)<=room:=by exact_mod_cast r1
  omega
 have r3:q.Zm<=140737488355328:=by omega
 have ez:blB (λ_=>false) q.Zm.toNat=List.replicate q.Zm.toNat false:=by
  apply Ycz<;>simp[blB]
 rw[ez,<-hn]at b;simp at b;simp[e1,e2,e0,r1,r2,r3,b];omega
def ZFP(q:Zj)(n:Nat)(c:1<=n)(hn:n<=4)(hq:q.Zm=n)(a:Ze)(j:Int)(hv:Le a.Vars)(r:V3):∀k,k<=a.Vars.length->∀p,
  (if UZ n (a.Vars.take k) (a.Vars.drop k)=true then ZdJ q (Xq (Wf p (a.Vars.drop k))) (w (j+1))=some r else some (Bo false,[])=some r)->
  Zhp q a (Xq p) j k=some r:=by
 refine down _ ?_ ?_
 .intro p h;apply XL.2.2.2.2.1;simpa[UZ,Zn6]using h
 .intro k hk ih p h;have h4:=ZL (i:=k) (by omega);have hw:w (q.Zm-1)=(n:Int)-1:=by rw[hq];exact Z1 (by omega) (by omega)
  have hl:=Zuy (a.Vars.take k) a.Vars[k] (by simp;omega);have e7:k<=a.Vars.length:=by omega
  apply XL.2.2.2.2.1;rw[ZxH _ hk]at h;rcases tf (inR a.Vars[k] 0 ((n:Int)-1))with e1|e1
  .simp[e1]at h;simp[hk,h4,hw,e1,<-h]
  .rcases tf (has (a.Vars.take k) a.Vars[k])with e2|e2
   .rw[Zn7 p hk]at h;simp only[e1,e2,Yw,Bool.not_false]at h;have ih:=ih _ h;have e0:=e1;simp[inR]at e0;have e6:=Zj7 p (v:=a.Vars[k]) (by simp[inR];omega);have e8:¬a.Vars[k]<0:=by omega
    simp at ih;simp[hk,h4,hw,e1,e2,hl,e0,e6,e7,e8,ih]
   .simp[e1,e2]at h;simp[hk,h4,hw,e1,e2,hl,e7,<-h]
def ZhW(n:Int)(p:Nat->Bool):Bool:=decide (Xq p=w (shlI 1 n-1))
def ZFQ(q:Zj)(n:Nat)(c:1<=n)(hn:n<=4)(hq:q.Zm=n)(hl:Le q.Atoms)(hv:∀a∈q.Atoms,Le a.Vars):∀k,k<=q.Atoms.length->∀p,
  ZdJ q (Xq p) k=some (Bo ((q.Atoms.drop k).all (WU n) && ZhW n (VI p (q.Atoms.drop k))),[]):=by
 refine down _ ?_ ?_
 .intro p;apply XL.2.2.2.1;have e:VI p []=p:=by funext u;simp[VI]
  have h0:¬(n:Int)<0:=by omega
  simp[e,hq,h0,ZhW]
 .intro k hk ih p;apply XL.2.2.2.1;have h4:=ZL (i:=k) (by omega);rw[Zfm _ hk];rcases tf (VH q.Atoms[k].Name)with e1|e1
  .simp[hk,e1,WU]
  rcases tf (inR q.Atoms[k].Vars.length 1 3)with e2|e2
  .simp[hk,e1,e2,WU]
  have b:=ZFP q n c hn hq q.Atoms[k] k (hv _ (Yc hk)) (Bo (WU n q.Atoms[k] && (q.Atoms.drop (k+1)).all (WU n) && ZhW n (VI p (q.Atoms.drop k))),[]) 0 (Yd _) p ?_
  .simp at b;simp[hk,e1,e2,b]
  .simp only[List.take_zero,Ys,WU,e1,e2,Yw];rcases tf (UZ n [] q.Atoms[k].Vars)with e3|e3
   .simp[e3]
   .have ih:=ih (Wf p q.Atoms[k].Vars);simp only[e3,if_true,Yw,ZxI p hk];simp at ih;rw[show w ((k:Int)+1)=(k:Int)+1 from h4,ih]
@[simp] def ZlI(q:Zj)(h:LeQ q):KK q=some (Bo (Z6 q.Zm q.Atoms),[]):=by
 apply XL.2.2.2.2.2;unfold Z6;rcases tf (inR q.Zm 1 4)with e1|e1
 .simp[e1]
 rcases tf (inR q.Atoms.length 1 4)with e2|e2
 .simp[e1,e2]
 have e0:=e1;simp[inR]at e0;obtain⟨k,hk⟩:∃k:Nat,q.Zm=k:=⟨q.Zm.toNat,by omega⟩;have b:=ZFQ q k (by omega) (by omega) hk h.1 h.2 0 (Yd _) (λ_=>false);have ez:Xq (λ_=>false)=0:=rfl;rw[ez]at b;simp only[Ys,Int.ofNat_zero]at b;have e3:(q.Atoms.all (WU k) && ZhW k (VI (λ_=>false) q.Atoms))=(q.Atoms.all (WU k) && (List.range k).all (VI (λ_=>false) q.Atoms)):=by
  rcases tf (q.Atoms.all (WU k))with e3|e3
  .simp[e3]
  .have hk':k=1\/k=2\/k=3\/k=4:=by omega
   have hz:=all_in e3;have hz':∀u:Nat,k<=u->VI (λ_=>false) q.Atoms u=false:=λu hu=>by simp only[VI,Ybz];exact hz u (by omega)
   rw[e3,Yw,Yw,Ybv,ZhW,decide_eq_true_eq,Xq];rcases hk' with rfl|rfl|rfl|rfl
   .simp[shlI,Z1,Zj8,hz' 1 (by omega),hz' 2 (by omega),hz' 3 (by omega),Yc6]
   .simp[shlI,Z1,Zj8,hz' 2 (by omega),hz' 3 (by omega),Yc6]
   .simp[shlI,Z1,Zj8,hz' 3 (by omega),Yc6,and_assoc]
   .simp[shlI,Z1,Zj8,Yc6,and_assoc]
 rw[e3]at b;rw[hk]at e1;simp only[Wo,Ybm,Ybw,AV.t.injEq,T.bool.injEq,and_true,exists_eq_left',e1,e2,if_true,b,hk,Yk];simp
@[simp] def Za4(q:Zj)(h:LeQ q):VJ q=some (I (ZW q.Zm q.Atoms),[]):=by
 apply XG.1.2.1.2;have q1:=ZhV q h;unfold ZW;rcases tf (Z6 q.Zm q.Atoms)with e|e
 .simp[q1,e]
 .have:=(Zbo e).2.2.1;have h0:¬((q.Atoms.length:Int)<0):=by omega
  simp[q1,e,this,h0]
@[simp] def ZhX(q:Zj)(h:LeQ q):Kh q=some (I (ZW q.Zm q.Atoms),[]):=by
 apply W9.1.1.1;have q1:=ZlI q h;unfold ZW;rcases tf (Z6 q.Zm q.Atoms)with e|e
 .simp[q1,e]
 .have:=(Zbo e).2.2.1;have h0:¬((q.Atoms.length:Int)<0):=by omega
  simp[q1,e,this,h0]
def ZFR(xs:V6)(hx:Le xs):∀i,i<=xs.length->Zhs xs i=some (Bo (Zaa (xs.drop i) && decide ((xs.length:Int)<=16)),[]):=by
 refine down _ ?_ ?_
 .apply W9.2.1.2.2;simp[Zaa]
 .intro i hi ih;apply W9.2.1.2.2;have h4:=ZL (i:=i) (by omega);rw[ZxC hi];simp at ih;rcases tf (inR xs[i] 0 7)with h|h<;>simp[hi,h4,h,ih]
@[simp] def ZlJ(xs:V6)(hx:Le xs):ZbR xs=some (Bo (XP xs),[]):=by
 apply W9.2.2.1.1;have:=ZFR xs hx 0 (Yd _);simpa[XP]using this
def ZFS(xs:V6)(hx:Le xs):∀i,i<=xs.length->ZfW xs xs xs.length i=some (Bo (Zaa (xs.drop i) && decide ((xs.length:Int)<=16)),[]):=by
 refine down _ ?_ ?_
 .apply XG.1.1.1.1;simp[Zaa]
 .intro i hi ih;apply XG.1.1.1.1;have h4:=ZL (i:=i) (by omega);rw[ZxC hi];simp at ih;rcases tf (inR xs[i] 0 7)with h|h<;>simp[hi,h4,h,ih]
@[simp] def ZlK(xs:V6)(hx:Le xs):Zb5 xs=some (Bo (XP xs),[]):=by
 apply XG.1.1.1.2;have:=ZFS xs hx 0 (Yd _);simpa[XP]using this
def ZFT(xs ys:V6)(hx:Le xs)(hl:ys.length=xs.length):∀i,i<=xs.length->Zht xs ys i=some (Bo (Jp (xs.drop i) (ys.drop i)),[]):=by
 refine down _ ?_ ?_
 .apply W9.2.2.1.2;simp[Jp]
 .intro i hi ih;apply W9.2.2.1.2;have hi2:i<ys.length:=by omega
  have h4:=ZL (i:=i) (by omega);rw[ZxD hi hi2];simp at ih;by_cases h:xs[i]<ys[i]
  .simp[hi,hi2,h4,h,show ¬ys[i]<=xs[i] by omega]
  .simp[hi,hi2,h4,h,show ys[i]<=xs[i] by omega,ih]
@[simp] def ZFU(xs ys:V6)(hx:Le xs):Zlj xs ys=some (Bo (dom xs ys),[]):=by
 apply W9.2.2.2.1;by_cases hl:ys.length=xs.length
 .have:=ZFT xs ys hx hl 0 (Yd _);simp at this;simp[hl,this,dom]
 .have h2:¬((xs.length:Int)=ys.length):=by omega
  have h1:¬(xs.length=ys.length):=by omega
  simp[h1,h2,dom]
def ZFV(xs ys:V6)(hx:Le xs)(hl:ys.length=xs.length):∀i,i<=xs.length->ZfX xs ys xs.length i=some (Bo (Jp (xs.drop i) (ys.drop i)),[]):=by
 refine down _ ?_ ?_
 .apply XG.1.1.2.1;simp[Jp]
 .intro i hi ih;apply XG.1.1.2.1;have hi2:i<ys.length:=by omega
  have h4:=ZL (i:=i) (by omega);rw[ZxD hi hi2];simp at ih;by_cases h:xs[i]<ys[i]
  .simp[hi,hi2,h4,h,show ¬ys[i]<=xs[i] by omega]
  .simp[hi,hi2,h4,h,show ys[i]<=xs[i] by omega,ih]
@[simp] def ZFW(xs ys:V6)(hx:Le xs):Zkl xs ys=some (Bo (dom xs ys),[]):=by
 apply XG.1.1.2.2;by_cases hl:ys.length=xs.length
 .have:=ZFV xs ys hx hl 0 (Yd _);simp at this;simp[hl,this,dom]
 .have h2:¬((xs.length:Int)=ys.length):=by omega
  have h1:¬(xs.length=ys.length):=by omega
  simp[h1,h2,dom]
def LeX(b:Box):Prop:=Le b.Low/\Le b.High
@[simp] def ZFX(b:Box)(h:LeX b):Zkm b=some (Bo (Jq b.Low b.High),[]):=by
 apply XG.1.2.1.1;have q1:=ZlK b.Low h.1;have q2:=ZlK b.High h.2;have q3:=ZFW b.High b.Low h.2;unfold Jq;rcases tf (XP b.Low)with e1|e1<;>rcases tf (XP b.High)with e2|e2<;>by_cases e3:0<b.Low.length<;>simp[q1,q2,q3,e1,e2,e3]
@[simp] def ZFY(b:Box)(h:LeX b):Zhu b=some (Bo (Jq b.Low b.High),[]):=by
 apply W9.2.2.2.2;have q1:=ZlJ b.Low h.1;have q2:=ZlJ b.High h.2;have q3:=ZFU b.High b.Low h.2;unfold Jq;rcases tf (XP b.Low)with e1|e1<;>rcases tf (XP b.High)with e2|e2<;>by_cases e3:0<b.Low.length<;>simp[q1,q2,q3,e1,e2,e3]
def ZFZ(q:Zj)(m:Int)(hl:Le q.Atoms)(hv:∀a∈q.Atoms,Le a.Vars)(v:Nat)(c:v<8)(out:V6)(ho:out.length<=8)(r:V3):∀i,i<=q.Atoms.length->
  Zb6 q (out++if Wx m (q.Atoms.drop i) i v=true then[(v:Int)]else[]) m (w ((v:Int)+1))=some r->
  ZfZ q out m v q.Atoms q.Atoms.length i=some r:=by
 refine down _ ?_ ?_
 .intro h;apply XG.1.2.2.2.2;simpa[Wx]using h
 .intro i hi ih h;apply XG.1.2.2.2.2;have h4:=ZL (i:=i) (by omega);have c1:=Zca q.Atoms[i].Vars v (hv _ (Yc hi));have h0:¬(i:Int)<0:=by omega
  rw[ZnB _ hi]at h;by_cases e1:andI (shrI m i) 1=1
  .have e2:ZP m i=true:=by simp[ZP,e1]
   rcases tf (has q.Atoms[i].Vars v)with e3|e3
   .simp[e2,e3]at h;have ih:=ih (by simpa using h);simp at ih;simp[hi,h4,h0,e1,c1,e3,ih]
   .simp[e2,e3]at h;have e4:out.length+1<=68719476736:=by omega
    simp[hi,h4,h0,e1,c1,e3,e4,h]
  .have e2:ZP m i=false:=by simp[ZP,e1]
   simp[e2]at h;have ih:=ih (by simpa using h);simp at ih;simp[hi,h4,h0,e1,ih]
def ZGa(q:Zj)(m:Int)(hl:Le q.Atoms)(hv:∀a∈q.Atoms,Le a.Vars)(n:Nat)(hq:q.Zm=n)(hn:n<=4):∀k,k<=n->
  Zb6 q (Xx m q.Atoms k) m k=some (.own 0,[.arr ZU 1 true ((Xx m q.Atoms n).map ic)]):=by
 refine down _ ?_ ?_
 .apply XG.1.2.2.2.1;simp[hq]
 .intro k hk ih;apply XG.1.2.2.2.1;have h4:=ZL (i:=k) (by omega)
  have b:=ZFZ q m hl hv k (by omega) (Xx m q.Atoms k) (by have:=ZcM m q.Atoms k;omega) _ 0 (Yd _) (by
   rw[Ys,<-Z9s,show w ((k:Int)+1)=(k:Int)+1 from h4];simpa using ih)
  simp at b;simp[hq,hk,b]
@[simp] def ZhY(q:Zj)(m:Int)(h:LeQ q)(hv:Z6 q.Zm q.Atoms=true):KH q m=some (.own 0,[.arr ZU 1 true ((Xx m q.Atoms q.Zm.toNat).map ic)]):=by
 apply XG.2.1.1.1;have hn:=Q2 hv;have b:=ZGa q m h.1 h.2 q.Zm.toNat (by omega) (by omega) 0 (Yd _);simpa[Xx]using b
def l_both(b xs:V6)(hb:Le b)(hx:xs.length<=1000000):∀i,i<=xs.length->
  Zdd ((xs.take i).filter (has b)) b xs xs.length i=some (.own 0,[.arr ZU 1 true ((xs.filter (has b)).map ic)]):=by
 refine down _ ?_ ?_
 .apply XG.2.1.1.2;simp
 .intro i hi ih;apply XG.2.1.1.2;have h4:=ZL (i:=i) (by omega);have c1:=Zca b xs[i] hb;have e4:((xs.take i).filter (has b)).length+1<=68719476736:=by
   have:=Ybs (has b) (xs.take i);simp at this;omega
  rw[ZnC _ hi]at ih;rcases tf (has b xs[i])with e|e
  .simp[e]at ih;simp[hi,h4,c1,e,ih]
  .simp[e]at ih;simp[hi,h4,c1,e,e4,ih]
@[simp] def Zuz(xs b:V6)(hb:Le b)(hx:xs.length<=1000000):Zan xs b=some (.own 0,[.arr ZU 1 true ((xs.filter (has b)).map ic)]):=by
 apply XG.2.1.2.1;have:=l_both b xs hb hx 0 (Yd _);simpa using this
def ZGb(q:Zj)(m:Int)(hv:∀a∈q.Atoms,Le a.Vars)(c:ZjA q.Atoms)(i:Nat)(hi:i<q.Atoms.length)(hm:ZP m i=true)(r:V3):∀k,k<=q.Atoms[i].Vars.length->∀p,
  ZdL q m (Xq (Wf p (q.Atoms[i].Vars.drop k))) (w ((i:Int)+1))=some r->ZdM q m (Xq p) i k=some r:=by
 have e1:andI (shrI m i) 1=1:=by simpa[ZP]using hm
 have h0:¬(i:Int)<0:=by omega
 have ha:=Yc hi;refine down _ ?_ ?_
 .intro p h;apply W9.1.2.1.1;rw[Yo,Zn6]at h;simp[hi,h]
 .intro k hk ih p h;apply W9.1.2.1.1;have h4:=ZL (i:=k) (by have:=hv _ ha;omega);have e6:=Zj7 p (v:=q.Atoms[i].Vars[k]) (c _ ha _ (Yc hk));have e7:=c _ ha _ (Yc hk);simp[inR]at e7;have e8:¬q.Atoms[i].Vars[k]<0:=by omega
  rw[Zn7 p hk]at h;have ih:=ih _ h;simp at ih;simp[hi,hk,h0,e1,h4,e6,e7,e8,ih]
def ZGc(q:Zj)(m:Int)(hl:Le q.Atoms)(hv:∀a∈q.Atoms,Le a.Vars)(c:ZjA q.Atoms):∀i,i<=q.Atoms.length->∀p,
  ZdL q m (Xq p) i=some (I (Xq (KF m p q.Atoms i)),[]):=by
 refine down _ ?_ ?_
 .intro p;apply W9.1.1.2.2;have e:KF m p q.Atoms q.Atoms.length=p:=by funext u;simp[KF,Wx]
  simp[e]
 .intro i hi ih p;apply W9.1.1.2.2;have h4:=ZL (i:=i) (by omega);have h0:¬(i:Int)<0:=by omega
  rw[Z9r m p hi];rcases tf (ZP m i)with e|e
  .have e1:¬andI (shrI m i) 1=1:=by simpa[ZP]using e
   have ih:=ih p;simp at ih;have b:ZdM q m (Xq p) i 0=some (I (Xq (KF m p q.Atoms (i+1))),[]):=by
    apply W9.1.2.1.1;simp[hi,h0,e1,h4,ih]
   simp[hi,e,b]
  .have ih:=ih (Wf p q.Atoms[i].Vars);have b:=ZGb q m hv c i hi e _ 0 (Yd _) p (by rw[Ys,show w ((i:Int)+1)=(i:Int)+1 from h4];simpa using ih);simp at b;simp[hi,e,b]
@[simp] def Zem(q:Zj)(m:Int)(h:LeQ q)(c:ZjA q.Atoms):Uy q m=some (I (Xq (pV m q.Atoms)),[]):=by
 apply W9.1.2.1.2;have b:=ZGc q m h.1 h.2 c 0 (Yd _) (λ_=>false);have ez:Xq (λ_=>false)=0:=rfl;have e:KF m (λ_=>false) q.Atoms 0=pV m q.Atoms:=by funext u;simp[KF,pV]
 rw[ez,e]at b;simpa using b
def ZGd(q:Zj)(hq:LeQ q)(h:Z6 q.Zm q.Atoms=true)(x:Zh)(info:List Zt)(st:V6)(hs:Ug info st)(cc:info.length<=100)(cd:st.length<=100) :
  match Vz q.Atoms x info st with
  |some y=>Zde q x info st=some (.tup [.agg (y.c.map .t),Bo true],[])
  |none=>∃y:Zt,Zde q x info st=some (.tup [.agg (y.c.map .t),Bo false],[]):=by
 have hl:=WH h;have wl:w ((q.Atoms.length:Int)-1)=(q.Atoms.length:Int)-1:=Z1 (by omega) (by omega);unfold Vz;by_cases k1:x.Kind=1
 .rw[Ya k1];by_cases c1:inR x.Ze 0 (q.Atoms.length-1)=true/\x.Order=0
  .rw[Ya c1];have c2:=c1.1;simp[inR]at c2;have hlt:x.Ze.toNat<q.Atoms.length:=by omega
   have hv:=ZcL h _ (Yc hlt);have h0:¬x.Ze<0:=by omega
   simp only;apply XG.2.1.2.2;have e:q.Atoms[x.Ze.toNat].Vars.headD 0=q.Atoms[x.Ze.toNat].Vars[0]'(by omega):=by
    rw[Ydm,hd0 (by omega)]
   rw[Ydm]at e;simp[k1,wl,c1,h0,hlt,c2,e,show 0<q.Atoms[x.Ze.toNat].Vars.length by omega]
  .rw[Yb c1];refine⟨⟨0,-1,-1,-1⟩,XG.2.1.2.2 _ _ _ _ _ ?_⟩;rcases tf (inR x.Ze 0 (q.Atoms.length-1))with e|e
   .simp[k1,wl,e]
   .have e2:¬x.Order=0:=λhc=>c1 ⟨e,hc⟩
    simp[k1,wl,e,e2]
 rw[Yb k1];by_cases k0:x.Ze=0
 rotate_left
 .rw[Ya k0];exact⟨⟨0,-1,-1,-1⟩,XG.2.1.2.2 _ _ _ _ _ (by simp[k1,k0])⟩
 rw[Yb (by simpa using k0)];have w1:w ((st.length:Int)-1)=(st.length:Int)-1:=Z1 (by omega) (by omega);have w2:w ((st.length:Int)-2)=(st.length:Int)-2:=Z1 (by omega) (by omega);by_cases k2:x.Kind=2
 .rw[Ya k2];by_cases n1:st.length<1
  .have:Wn st info 1=none:=by unfold Wn;rw[Ynx]
   rw[this];have n1':(st.length:Int)<1:=by omega
   exact⟨⟨0,-1,-1,-1⟩,XG.2.1.2.2 _ _ _ _ _ (by simp[k1,k2,k0,n1'])⟩
  .have n1':¬(st.length:Int)<1:=by omega
   obtain⟨s,y,t1,t2,t3,t4⟩:=Zbq hs (by omega:1<=1) (by omega:1<=st.length);have z1:(0:Int)<=(st.length:Int)-1:=by omega
   have z5:(1:Int)<=(st.length:Int):=by omega
   have z2:((st.length:Int)-1).toNat=st.length-1:=by omega
   have q1:=ZhY q y.Mask hq h;have q2:=Zca (Xx y.Mask q.Atoms q.Zm.toNat) x.Order (by have:=ZcM y.Mask q.Atoms q.Zm.toNat;have:=Q2 h;omega);rw[Zfn h]at q2;rw[t1];simp only;by_cases c1:vin q.Atoms y.Mask x.Order=true/\y.Order≠x.Order
   .rw[Ya c1];apply XG.2.1.2.2;simp[k1,k2,k0,n1',w1,z1,z2,z5,t2,t3,t4,q1,q2,c1]
   .rw[Yb c1];refine⟨⟨0,-1,-1,-1⟩,XG.2.1.2.2 _ _ _ _ _ ?_⟩;rcases tf (vin q.Atoms y.Mask x.Order)with e|e
    .simp[k1,k2,k0,n1',w1,z1,z2,z5,t2,t3,t4,q1,q2,e]
    .have e2:y.Order=x.Order:=Decidable.byContradiction λhc=>c1 ⟨e,hc⟩
     simp[k1,k2,k0,n1',w1,z1,z2,z5,t2,t3,t4,q1,q2,e,e2]
 rw[Yb k2];by_cases n2:st.length<2
 .have:Wn st info 2=none:=by unfold Wn;rw[Ynx]
  rw[this];have n2':(st.length:Int)<2:=by omega
  exact⟨⟨0,-1,-1,-1⟩,XG.2.1.2.2 _ _ _ _ _ (by simp[k1,k2,k0,n2'])⟩
 have n2':¬(st.length:Int)<2:=by omega
 obtain⟨s,y,t1,t2,t3,t4⟩:=Zbq hs (by omega:1<=2) (by omega:2<=st.length);obtain⟨t,z,u1,u2,u3,u4⟩:=Zbq hs (by omega:1<=1) (by omega:1<=st.length);have z1:(0:Int)<=(st.length:Int)-1:=by omega
 have z2:((st.length:Int)-1).toNat=st.length-1:=by omega
 have z3:(0:Int)<=(st.length:Int)-2:=by omega
 have z4:((st.length:Int)-2).toNat=st.length-2:=by omega
 have hn:=Q2 h;have q1:=ZhY q y.Mask hq h;have q2:=ZhY q z.Mask hq h;have l1:=ZcM y.Mask q.Atoms q.Zm.toNat;have l2:=ZcM z.Mask q.Atoms q.Zm.toNat;have q3:=Zuz (Xx y.Mask q.Atoms q.Zm.toNat) (Xx z.Mask q.Atoms q.Zm.toNat) (by omega) (by omega)
 have q4:=Zca ((Xx y.Mask q.Atoms q.Zm.toNat).filter (has (Xx z.Mask q.Atoms q.Zm.toNat))) x.Order (by
  have:=Ybs (has (Xx z.Mask q.Atoms q.Zm.toNat)) (Xx y.Mask q.Atoms q.Zm.toNat);omega)
 rw[Z9u h]at q4;have q5:=Z9t h y.Mask z.Mask;generalize hS:(Xx y.Mask q.Atoms q.Zm.toNat).filter (has (Xx z.Mask q.Atoms q.Zm.toNat))=S at q3 q4 q5;rw[t1,u1];simp only
 have base:∀(r:V3),(if andI y.Mask z.Mask=0 then
    if((S.length:Int)=0)then some (.tup [.agg [I (orI y.Mask z.Mask),I (-1),I s,I t],Bo false],[])=some r
    else if x.Kind=3 then some (.tup [.agg [I (orI y.Mask z.Mask),I (-1),I s,I t],Bo (decide (x.Order=0))],[])=some r
    else if x.Kind=5 then some (.tup [.agg [I (orI y.Mask z.Mask),I y.Order,I s,I t],Bo (decide (x.Order=0))],[])=some r
    else if x.Kind=4 then
     if(vin q.Atoms y.Mask x.Order && vin q.Atoms z.Mask x.Order)=true then
      if y.Order=x.Order then some (.tup [.agg [I (orI y.Mask z.Mask),I x.Order,I s,I t],Bo (decide (z.Order=x.Order))],[])=some r
      else some (.tup [.agg [I (orI y.Mask z.Mask),I x.Order,I s,I t],Bo false],[])=some r
     else some (.tup [.agg [I (orI y.Mask z.Mask),I x.Order,I s,I t],Bo false],[])=some r
    else some (.tup [.agg [I (orI y.Mask z.Mask),I (-1),I s,I t],Bo false],[])=some r
   else some (.tup [.agg [I (orI y.Mask z.Mask),I (-1),I s,I t],Bo false],[])=some r)->Zde q x info st=some r:=by
  intro r hr;apply XG.2.1.2.2;simp only[k1,k0,k2,if_false,if_true,n2',w1,w2,z1,z2,z3,z4,t2,t3,t4,u2,u3,u4,q1,q2,true_and,Ybm,exists_eq_left'];refine⟨_,rfl,_,rfl,S,?_,?_⟩
  .simpa using q3
  .simp only[q4,Ybm,Ybw,AV.t.injEq,T.bool.injEq,and_true,exists_eq_left'];simpa using hr
 by_cases c1:andI y.Mask z.Mask=0/\shr q.Atoms y.Mask z.Mask=true
 rotate_left
 .rw[Yb c1];refine⟨⟨orI y.Mask z.Mask,-1,s,t⟩,base _ ?_⟩;by_cases c2:andI y.Mask z.Mask=0
  .have c3:S.length=0:=q5.2 (by rcases tf (shr q.Atoms y.Mask z.Mask)with e|e;exact e;exact absurd ⟨c2,e⟩ c1);have c4:(S.length:Int)=0:=by omega
   rw[Ya c2,Ya c4];simp
  .rw[Yb c2];simp
 rw[Ya c1];have c4:¬(S.length:Int)=0:=λhc=>by
  have:=q5.1 (by omega);rw[c1.2]at this;cases this
 have c5:¬S=[]:=λhc=>c4 (by simp[hc])
 unfold WX;by_cases j1:x.Kind=3/\x.Order=0
 .rw[Ya j1];exact base _ (by simp[c1.1,c4,c5,j1])
 rw[Yb j1];by_cases j2:x.Kind=5/\x.Order=0
 .rw[Ya j2];exact base _ (by simp[c1.1,c4,c5,j2])
 rw[Yb j2];by_cases j3:x.Kind=4/\vin q.Atoms y.Mask x.Order=true/\vin q.Atoms z.Mask x.Order=true/\y.Order=x.Order/\z.Order=x.Order
 .rw[Ya j3];exact base _ (by simp[c1.1,c4,c5,j3])
 rw[Yb j3];simp only[Option.map_none];by_cases k3:x.Kind=3
 .have e:¬x.Order=0:=λhc=>j1 ⟨k3,hc⟩
  exact⟨⟨orI y.Mask z.Mask,-1,s,t⟩,base _ (by simp[c1.1,c4,c5,k3,e])⟩
 by_cases k5:x.Kind=5
 .have e:¬x.Order=0:=λhc=>j2 ⟨k5,hc⟩
  exact⟨⟨orI y.Mask z.Mask,y.Order,s,t⟩,base _ (by simp[c1.1,c4,c5,k5,e])⟩
 by_cases k4:x.Kind=4
 .refine⟨⟨orI y.Mask z.Mask,x.Order,s,t⟩,base _ ?_⟩;rcases tf (vin q.Atoms y.Mask x.Order)with e1|e1<;>rcases tf (vin q.Atoms z.Mask x.Order)with e2|e2<;>by_cases e3:y.Order=x.Order<;>simp[c1.1,c4,c5,k4,e1,e2,e3];exact λe4=>j3 ⟨k4,e1,e2,e3,e4⟩
 .exact⟨⟨orI y.Mask z.Mask,-1,s,t⟩,base _ (by simp[c1.1,c4,c5,k3,k4,k5])⟩
@[simp] def ZlL(b v:Int):ZdO b v=some (Bo (inR v 0 3 && decide (andI (shrI b v) 1=1)),[]):=by
 apply X6.1.1.1.1;rcases tf (inR v 0 3)with e|e
 .simp[e]
 .have e0:=e;simp[inR]at e0
  have:¬v<0:=by omega
  simp[e,this]
def XA(x:Zh):Option Zt->V3
 |some y=>(.tup [.agg (y.c.map .t),I (Zbr x)],[])
 |none=>(.tup [.agg [I 0,I 0,I 0,I 0],I (-1)],[])
def ZGe(q:Zj)(hq:LeQ q)(h:Z6 q.Zm q.Atoms=true)(x:Zh)(info:List Zt)(st:V6)(hs:Ug info st)(cc:info.length<=100)(cd:st.length<=100) :
  ZbS q x info st=some (XA x (Vz q.Atoms x info st)):=by
 have hl:=WH h;have wl:w ((q.Atoms.length:Int)-1)=(q.Atoms.length:Int)-1:=Z1 (by omega) (by omega);unfold Vz;by_cases k1:x.Kind=1
 .rw[Ya k1];by_cases c1:inR x.Ze 0 (q.Atoms.length-1)=true/\x.Order=0
  .rw[Ya c1];have c2:=c1.1;simp[inR]at c2;have hlt:x.Ze.toNat<q.Atoms.length:=by omega
   have hv:=ZcL h _ (Yc hlt);have h0:¬x.Ze<0:=by omega
   apply X6.1.1.2.2;have e:q.Atoms[x.Ze.toNat].Vars.headD 0=q.Atoms[x.Ze.toNat].Vars[0]'(by omega):=by
    rw[Ydm,hd0 (by omega)]
   rw[Ydm]at e;simp[k1,wl,c1,h0,hlt,c2,e,XA,Zbr,show 0<q.Atoms[x.Ze.toNat].Vars.length by omega]
  .rw[Yb c1];apply X6.1.1.2.2;rcases tf (inR x.Ze 0 (q.Atoms.length-1))with e|e
   .simp[k1,wl,e,XA]
   .have e2:¬x.Order=0:=λhc=>c1 ⟨e,hc⟩
    simp[k1,wl,e,e2,XA]
 rw[Yb k1];have w1:w ((st.length:Int)-1)=(st.length:Int)-1:=Z1 (by omega) (by omega);have w2:w ((st.length:Int)-2)=(st.length:Int)-2:=Z1 (by omega) (by omega);by_cases k0:x.Ze=0
 rotate_left
 .rw[Ya k0];apply X6.1.1.2.2;have j:∀b,ZdP q x ⟨0,0,0,0⟩ info st st.length x.Kind b=some (XA x none):=by
   intro b;refine ZhU ?_;cases b<;>simp[k0,XA]
  by_cases k2:x.Kind=2
  .simp[k1,k2,k0,XA]
  .by_cases k3:x.Kind=3<;>by_cases k4:x.Kind=4<;>simp[k1,k2,k0,k3,k4,j]<;>first|(simp only[k3]at j;simp[j,XA])|(simp only[k4]at j;simp[j,XA])|simp[XA]
 rw[Yb (by simpa using k0)];by_cases k2:x.Kind=2
 .rw[Ya k2];apply X6.1.1.2.2;by_cases n1:st.length<1
  .have:Wn st info 1=none:=by unfold Wn;rw[Ynx]
   rw[this];have n1':(st.length:Int)<1:=by omega
   simp[k1,k2,k0,n1',XA]
  .have n1':¬(st.length:Int)<1:=by omega
   obtain⟨s,y,t1,t2,t3,t4⟩:=Zbq hs (by omega:1<=1) (by omega:1<=st.length);have z1:(0:Int)<=(st.length:Int)-1:=by omega
   have z5:(1:Int)<=(st.length:Int):=by omega
   have z2:((st.length:Int)-1).toNat=st.length-1:=by omega
   have q1:=Zem q y.Mask hq (Zbp h);have q2:(inR x.Order 0 3 && decide (andI (shrI (Xq (pV y.Mask q.Atoms)) x.Order) 1=1))=vin q.Atoms y.Mask x.Order:=by
    unfold vin;rcases tf (inR x.Order 0 3)with e|e
    .simp[e]
    .rw[e,Yw,Yw,Ybv,decide_eq_true_eq];exact Zn8 _ e
   rw[t1];simp only;by_cases e2:y.Order=x.Order
   .simp[k1,k2,k0,n1',w1,z1,z2,z5,t2,t3,t4,e2,XA]
   .rcases tf (vin q.Atoms y.Mask x.Order)with e|e
    .simp only[k1,k2,k0,n1',w1,z1,z2,t2,t3,t4,q1,ZlL,q2,e,e2,if_false,if_true,true_and,Ybm,exists_eq_left',Ybw,AV.t.injEq,T.int.injEq,T.bool.injEq,and_true];simp[XA]
    .simp only[k1,k2,k0,n1',w1,z1,z2,t2,t3,t4,q1,ZlL,q2,e,e2,if_false,if_true,true_and,Ybm,exists_eq_left',Ybw,AV.t.injEq,T.int.injEq,T.bool.injEq,and_true];simp[XA,Zbr,k1,k2,e2]
 rw[Yb k2]
 -- a join
 have q0:∀(b:Zt) (c:Zt) (y:Zt) (f:Bool),x.Kind=4->∀m1 m2,Zay q x ⟨0,0,0,0⟩ b c y (andI (Xq (pV m1 q.Atoms)) (Xq (pV m2 q.Atoms))) f =
   if vin q.Atoms m1 x.Order=true/\vin q.Atoms m2 x.Order=true/\b.Order=x.Order/\c.Order=x.Order then some (.tup [.agg [I y.Mask,I x.Order,I y.Left,I y.Right],I 2],[])else some (XA x none):=by
  intro b c y f k4 m1 m2;have e:(inR x.Order 0 3 && decide (andI (shrI (andI (Xq (pV m1 q.Atoms)) (Xq (pV m2 q.Atoms))) x.Order) 1=1))=(vin q.Atoms m1 x.Order && vin q.Atoms m2 x.Order):=by
   unfold vin;rcases tf (inR x.Order 0 3)with e|e
   .simp[e]
   .rw[e,Yw,Yw,Yw,Ybv,decide_eq_true_eq,ZxE];simpa using Zn8 (λu=>pV m1 q.Atoms u && pV m2 q.Atoms u) e
  split
  .rename_i hc;apply X6.1.1.2.1;simp only[ZlL,e,hc];simp[k4]
  .rename_i hc;apply X6.1.1.2.1;simp only[ZlL,e];rcases tf (vin q.Atoms m1 x.Order)with e1|e1<;>rcases tf (vin q.Atoms m2 x.Order)with e2|e2<;>by_cases e3:b.Order=x.Order<;>by_cases e4:c.Order=x.Order<;>simp[k4,e1,e2,e3,e4,XA];exact hc ⟨e1,e2,e3,e4⟩
 have q3:∀(b:Zt) (c:Zt) (y:Zt) (v:Int) (f:Bool),x.Kind≠4->Zay q x ⟨0,0,0,0⟩ b c y v f=some (.tup [.agg (y.c.map .t),I 2],[]):=by
  intro b c y v f k4;exact X6.1.1.2.1 _ _ _ _ _ _ _ _ _ (by simp[k4])
 have q5:∀(b:Zt) (c:Zt) (y:Zt) (v:Int),x.Kind≠4->ZdQ q x ⟨0,0,0,0⟩ b c y v=some (.tup [.agg (y.c.map .t),I 2],[]):=by
  intro b c y v k4;exact X6.1.1.1.2 _ _ _ _ _ _ _ _ (by simp[k4])
 by_cases kk:x.Kind=3\/x.Kind=4\/x.Kind=5
 rotate_left
 .have k3:¬x.Kind=3:=λhc=>kk (.inl hc)
  have k4:¬x.Kind=4:=λhc=>kk (.inr (.inl hc))
  have k5:¬x.Kind=5:=λhc=>kk (.inr (.inr hc))
  have hj:∀y z,WX q.Atoms x y z=none:=by intro y z;simp[WX,k3,k4,k5]
  refine Ye (b:=some (XA x none)) (X6.1.1.2.2 _ _ _ _ _ (by simp[k1,k2,k3,k4,k5,XA])) ?_;simp only[hj,Option.map_none,ite_self];split<;>rfl
 have k5':x.Kind≠3->x.Kind≠4->x.Kind=5:=λa b=>by rcases kk with h|h|h;exact absurd h a;exact absurd h b;exact h
 have red:∀r,ZdP q x ⟨0,0,0,0⟩ info st st.length x.Kind true=some r->(x.Kind=5->ZbS q x info st=some r)->ZbS q x info st=some r:=by
  intro r hr h5;by_cases k5:x.Kind=5
  .exact h5 k5
  .apply X6.1.1.2.2;by_cases k3:x.Kind=3
   .rw[Yb k1,Yb k2,Ya k3];exact hr
   .by_cases k4:x.Kind=4
    .rw[Yb k1,Yb k2,Yb k3,Ya k4];exact hr
    .exact absurd (k5' k3 k4) k5
 by_cases n2:st.length<2
 .have:Wn st info 2=none:=by unfold Wn;rw[Ynx]
  rw[this];have n2':(st.length:Int)<2:=by omega
  refine red _ ?_ ?_
  .exact ZhU (by simp[k0,n2',XA])
  .intro k5;exact X6.1.1.2.2 _ _ _ _ _ (by simp[k5,k0,n2',XA])
 have n2':¬(st.length:Int)<2:=by omega
 obtain⟨s,y,t1,t2,t3,t4⟩:=Zbq hs (by omega:1<=2) (by omega:2<=st.length);obtain⟨t,z,u1,u2,u3,u4⟩:=Zbq hs (by omega:1<=1) (by omega:1<=st.length);have z1:(0:Int)<=(st.length:Int)-1:=by omega
 have z2:((st.length:Int)-1).toNat=st.length-1:=by omega
 have z3:(0:Int)<=(st.length:Int)-2:=by omega
 have z4:((st.length:Int)-2).toNat=st.length-2:=by omega
 have b1:=Zem q y.Mask hq (Zbp h);have b2:=Zem q z.Mask hq (Zbp h);have b3:=ZnE q.Atoms y.Mask z.Mask;rw[t1,u1];simp only;by_cases c1:andI y.Mask z.Mask=0
 rotate_left
 .rw[Yb (λhc=>c1 hc.1)];refine red _ ?_ ?_
  .refine ZhU ?_;simp only[k0,n2',w1,w2,z1,z2,z3,z4,t2,t3,t4,u2,u3,u4,b1,b2,c1,if_true,if_false,true_and,Ybm,exists_eq_left',Ybw,AV.t.injEq,T.int.injEq,and_true];simp[XA]
  .intro k5;apply X6.1.1.2.2;simp only[k5,k0,n2',w1,w2,z1,z2,z3,z4,t2,t3,t4,u2,u3,u4,b1,b2,c1,if_true,if_false,true_and,Ybm,exists_eq_left',Ybw,AV.t.injEq,T.int.injEq,and_true];simp[XA]
 rcases tf (shr q.Atoms y.Mask z.Mask)with c2|c2
 .rw[Yb (λhc=>by rw[hc.2]at c2;cases c2)];have c3:=b3.2 c2;refine red _ ?_ ?_
  .refine ZhU ?_;simp only[k0,n2',w1,w2,z1,z2,z3,z4,t2,t3,t4,u2,u3,u4,b1,b2,c1,c3,if_true,if_false,true_and,Ybm,exists_eq_left',Ybw,AV.t.injEq,T.int.injEq,and_true];simp[XA]
  .intro k5;apply X6.1.1.2.2;simp only[k5,k0,n2',w1,w2,z1,z2,z3,z4,t2,t3,t4,u2,u3,u4,b1,b2,c1,c3,if_true,if_false,true_and,Ybm,exists_eq_left',Ybw,AV.t.injEq,T.int.injEq,and_true];simp[XA]
 rw[Ya ⟨c1,c2⟩];have c3:¬andI (Xq (pV y.Mask q.Atoms)) (Xq (pV z.Mask q.Atoms))=0:=λhc=>by rw[b3.1 hc]at c2;cases c2
 have p2:Zbr x=2:=by unfold Zbr;rw[Yb k1,Yb k2]
 refine red _ ?_ ?_
 .refine ZhU ?_;simp only[k0,n2',w1,w2,z1,z2,z3,z4,t2,t3,t4,u2,u3,u4,b1,b2,c1,c3,if_true,if_false,true_and,Ybm,exists_eq_left',Ybw,AV.t.injEq,T.int.injEq,and_true];by_cases k4:x.Kind=4
  .have k3:¬x.Kind=3:=by omega
   have k5:¬x.Kind=5:=by omega
   rw[Ya k4,q0 _ _ _ _ k4];simp only[WX,k3,k4,k5,false_and,true_and,if_false];split
   .rename_i hc;simp[XA,p2]
   .rfl
  .by_cases e:x.Order=0
   .by_cases k5:x.Kind=5
    .rw[Yb k4,Ya e,Ya k5,q5 _ _ _ _ k4];simp[WX,k5,e,XA,p2]
    .have k3:x.Kind=3:=by omega
     rw[Yb k4,Ya e,Yb k5,q3 _ _ _ _ _ k4];simp[WX,k3,e,XA,p2]
   .rw[Yb k4,Yb e];simp[WX,k4,e,XA]
 .intro k5;apply X6.1.1.2.2;have k4:x.Kind≠4:=by omega
  simp only[k5,k0,n2',w1,w2,z1,z2,z3,z4,t2,t3,t4,u2,u3,u4,b1,b2,c1,c3,if_true,if_false,true_and,Ybm,exists_eq_left',Ybw,AV.t.injEq,T.int.injEq,and_true];by_cases e:x.Order=0
  .simp[e,q5 _ _ _ _ k4,WX,k5,XA,p2]
  .simp[e,WX,k5,XA]
def ZGf(q:Zj)(hq:LeQ q)(h:Z6 q.Zm q.Atoms=true)(p:Zg)(hl:p.Steps.length<=14):∀i,i<=p.Steps.length->∀info st,Ug info st->info.length=i->st.length<=i->
  Zhv q p info st i=some (match Wt q.Atoms (p.Steps.drop i) i info st with
   |some (info',st')=>if st'.length=1 then(.tup [.own 0,Bo true],[.arr Zbu 4 true (info'.map Zt.c)])else(.tup [.own 0,Bo false],[.arr Zbu 4 true []])
   |none=>(.tup [.own 0,Bo false],[.arr Zbu 4 true []])):=by
 refine down _ ?_ ?_
 .intro info st _ _ _;rw[Yo,Wt];apply X6.1.2.1.1;by_cases c:st.length=1
  .simp[c]
  .have c':¬(st.length:Int)=1:=by omega
   simp[c,c']
 .intro i hi ih info st hs hil hst;have h5:=ZL (i:=i) (by omega);have s1:=ZGe q hq h p.Steps[i] info st hs (by omega) (by omega);rw[ZxJ q.Atoms hi];apply X6.1.2.1.1
  cases he:Vz q.Atoms p.Steps[i] info st with
  |none =>
   rw[he,XA]at s1;have e0:ZbS q p.Steps[i] info st=some (.tup [.agg ((⟨0,0,0,0⟩:Zt).c.map .t),I (-1)],[]):=s1;rw[Ypx];refine⟨by omega,_,Yf hi,_,_,e0,?_⟩
   simp
  |some y =>
   rw[he,XA]at s1;obtain⟨f1,f2,f3⟩:=ZnF hs he;rw[f1]at s1;have hn:=Zfo hs y (st.length-XQ y);rw[hil]at hn;have ih:=ih (info++[y]) (st.take (st.length-XQ y)++[(i:Int)]) hn (by simp[hil]) (ZxK hst _);have w2:w ((st.length:Int)-(XQ y:Int))=(st.length:Int)-(XQ y:Int):=Z1 (by omega) (by omega);have z2:((st.length:Int)-(XQ y:Int)).toNat=st.length-XQ y:=by omega
   rw[Ypx];refine⟨by omega,_,Yf hi,_,_,s1,?_⟩;rw[Ynx,w2,z2];refine⟨by omega,by omega,by omega,by omega,by omega,?_⟩;rw[show w ((i:Int)+1)=(i:Int)+1 from h5];simpa using ih
@[simp] def Z27(q:Zj)(p:Zg)(hq:LeQ q):ZdR q p=some (match Wu q.Zm q.Atoms p.Steps with
  |some info=>(.tup [.own 0,Bo true],[.arr Zbu 4 true (info.map Zt.c)])
  |none=>(.tup [.own 0,Bo false],[.arr Zbu 4 true []])):=by
 apply X6.1.2.1.2;have q1:=ZlI q hq;unfold Wu;rcases tf (Z6 q.Zm q.Atoms)with e|e
 .simp[q1,e]
 rcases tf (inR p.Steps.length 1 14)with e2|e2
 .simp[q1,e,e2]
 .have e3:=e2;simp[inR]at e3;have b:=ZGf q hq e p (by omega) 0 (Yd _) [] [] (λs hs=>by cases hs) rfl (Yh _);simp only[Ys]at b;simp only[q1,e,e2,Wo,Ybm,Ybw,AV.t.injEq,T.bool.injEq,and_true,exists_eq_left',if_true,and_self];refine Ye b ?_
  cases Wt q.Atoms p.Steps 0 [] []with
  |none=>rfl
  |some r=>obtain⟨a,b⟩:=r;simp only;split<;>rfl
def ZGg(q:Zj)(hq:LeQ q)(h:Z6 q.Zm q.Atoms=true)(steps:List Zh)(hl:steps.length<=14):∀i,i<=steps.length->∀info st,Ug info st->info.length=i->st.length<=i->
  Zga q info st steps steps.length i=some (match Wt q.Atoms (steps.drop i) i info st with
   |some (info',st')=>if st'.length=1 then(.tup [.own 0,Bo true],[.arr Zbu 4 true (info'.map Zt.c)])else(.tup [.t .nil,Bo false],[])
   |none=>(.tup [.t .nil,Bo false],[])):=by
 refine down _ ?_ ?_
 .intro info st _ _ _;rw[Yo,Wt];apply XG.2.2.1.1;by_cases c:st.length=1
  .simp[c]
  .have c':¬(st.length:Int)=1:=by omega
   simp[c,c']
 .intro i hi ih info st hs hil hst;have h5:=ZL (i:=i) (by omega);have s1:=ZGd q hq h steps[i] info st hs (by omega) (by omega);rw[ZxJ q.Atoms hi];apply XG.2.2.1.1
  cases he:Vz q.Atoms steps[i] info st with
  |none =>
   rw[he]at s1;obtain⟨y,s1⟩:=s1;rw[Ypx];refine⟨by omega,_,Yf hi,_,_,s1,?_⟩
   simp
  |some y =>
   rw[he]at s1;obtain⟨f1,f2,f3⟩:=ZnF hs he;have hn:=Zfo hs y (st.length-XQ y);rw[hil]at hn;have ih:=ih (info++[y]) (st.take (st.length-XQ y)++[(i:Int)]) hn (by simp[hil]) (ZxK hst _);rw[Ypx];refine⟨by omega,_,Yf hi,_,_,s1,?_⟩;rw[Ya rfl];refine⟨by omega,?_⟩;simp only;unfold XQ at ih f2|-;rw[show w ((i:Int)+1)=(i:Int)+1 from h5];by_cases r:0<=y.Right
   .simp only[Ya r]at ih f2|-;have w2:w ((st.length:Int)-2)=(st.length:Int)-2:=Z1 (by omega) (by omega);have z2:((st.length:Int)-2).toNat=st.length-2:=by omega
    rw[w2,z2];refine⟨by omega,by omega,by omega,by simpa using ih⟩
   .simp only[Yb r]at ih f2|-;by_cases l:0<=y.Left
    .simp only[Ya l]at ih f2|-;have w2:w ((st.length:Int)-1)=(st.length:Int)-1:=Z1 (by omega) (by omega);have z2:((st.length:Int)-1).toNat=st.length-1:=by omega
     rw[w2,z2];refine⟨by omega,by omega,by omega,by simpa using ih⟩
    .simp only[Yb l]at ih f2|-;exact⟨by omega,by simpa using ih⟩
@[simp] def Z28(q:Zj)(p:Zg)(hq:LeQ q):Zao q p=some (match Wu q.Zm q.Atoms p.Steps with
  |some info=>(.tup [.own 0,Bo true],[.arr Zbu 4 true (info.map Zt.c)])
  |none=>(.tup [.t .nil,Bo false],[])):=by
 apply XG.2.2.1.2;have q1:=ZhV q hq;unfold Wu;rcases tf (Z6 q.Zm q.Atoms)with e|e
 .simp[q1,e]
 rcases tf (inR p.Steps.length 1 14)with e2|e2
 .simp[q1,e,e2]
 .have e3:=e2;simp[inR]at e3;have b:=ZGg q hq e p.Steps (by omega) 0 (Yd _) [] [] (λs hs=>by cases hs) rfl (Yh _);simp only[Ys]at b;simp only[q1,e,e2,XX,Ybm,Ybw,AV.t.injEq,T.bool.injEq,and_true,exists_eq_left',if_true,and_self];refine Ye b ?_
  cases Wt q.Atoms p.Steps 0 [] []with
  |none=>rfl
  |some r=>obtain⟨a,b⟩:=r;simp only;split<;>rfl
@[simp] def ZGh(q:Zj)(p:Zg)(hq:LeQ q):Zkr q p=some (I (Zac q.Zm q.Atoms p.Steps),[]):=by
 apply XG.2.2.2.1;have q1:=Z28 q p hq;unfold Zac
 cases he:Wu q.Zm q.Atoms p.Steps with
 |none=>rw[he]at q1;exact .inl ⟨q1,rfl⟩
 |some info =>
  obtain⟨l1,l2,l3,l4⟩:=Zbs he;rw[he]at q1;have hlt:info.length-1<info.length:=by omega
  have w1:w ((info.length:Int)-1)=(info.length:Int)-1:=Z1 (by omega) (by omega);have z2:((info.length:Int)-1).toNat=info.length-1:=by omega
  refine .inr ⟨info,q1,?_⟩;rw[w1,z2];refine⟨by omega,_,Yf hlt,?_⟩;simp[Yf hlt]
@[simp] def ZGi(q:Zj)(p:Zg)(hq:LeQ q):Zln q p=some (I (Zac q.Zm q.Atoms p.Steps),[]):=by
 apply X6.1.2.2.1;have q1:=Z27 q p hq;unfold Zac
 cases he:Wu q.Zm q.Atoms p.Steps with
 |none=>rw[he]at q1;exact⟨[],false,q1,by simp⟩
 |some info =>
  obtain⟨l1,l2,l3,l4⟩:=Zbs he;rw[he]at q1;have hlt:info.length-1<info.length:=by omega
  have w1:w ((info.length:Int)-1)=(info.length:Int)-1:=Z1 (by omega) (by omega);have z2:((info.length:Int)-1).toNat=info.length-1:=by omega
  refine⟨info,true,q1,?_⟩;rw[Ya rfl,w1,z2];refine⟨by omega,_,Yf hlt,?_⟩;simp[Yf hlt]
def Q9:Int->List Zd->Bool
 |_,[]=>true
 |p,s::r=>inR s.From 1 8192 && inR s.Add (-99) 99 && decide (p<s.From) && Q9 s.From r
def VM(l:List Zd):Nat->Int
 |0=>0
 |i+1=>match l[i]? with|some s=>s.From|none=>0
def VN(n:Int):Bool:=inR n (-99) 99
def XY(o:Z0):Bool:=VN o.Fixed && VN o.Zv && VN o.Zw && VN o.Zz && VN o.Zx && decide (o.Steps.length<=4) && Q9 0 o.Steps
def Z29(p:Int){l:List Zd}{i:Nat}(h:i<l.length):Q9 p (l.drop i)=(inR l[i].From 1 8192 && inR l[i].Add (-99) 99 && decide (p<l[i].From) && Q9 l[i].From (l.drop (i+1))):=by
 rw[Yi h,Q9]
@[simp] def ZGj(n:Int):J4 n=some (Bo (VN n),[]):=by
 apply WM.2.1.2.2;simp[VN]
def ZGk(o:Z0)(hl:Le o.Steps):∀i,i<=o.Steps.length->ZbN o i=some (Bo (Q9 (VM o.Steps i) (o.Steps.drop i)),[]):=by
 refine down _ ?_ ?_
 .apply WM.2.2.1.1;simp[Q9]
 .intro i hi ih;apply WM.2.2.1.1;have h4:=ZL (i:=i) (by omega);rw[Z29 _ hi];have pn:VM o.Steps (i+1)=o.Steps[i].From:=by simp[VM,Yf hi]
  rw[pn]at ih;simp only[Yz,Y0]at ih;rw[Ypx];refine⟨by omega,o.Steps[i],by rw[Yk];exact Yf hi,_,Wo _ _ _,?_⟩;rcases tf (inR o.Steps[i].From 1 8192)with e1|e1
  .rw[e1];simp
  rw[e1,Ya rfl];refine⟨_,ZGj _,?_⟩;unfold VN;rcases tf (inR o.Steps[i].Add (-99) 99)with e2|e2
  .rw[e2];simp
  rw[e2,Ya rfl,show w ((i:Int)+1)=(i:Int)+1 from h4]
  cases i with
  |zero =>
   rw[Ynx,ih]
   have:VM o.Steps 0<o.Steps[0].From:=by simp[inR]at e1;simp[VM];omega
   simp[this]
  |succ j =>
   have hj:j<o.Steps.length:=by omega
   have w2:w (((j+1:Nat):Int)-1)=j:=by rw[show((j+1:Nat):Int)-1=j by omega];exact Z1 (by omega) (by omega)
   have pj:VM o.Steps (j+1)=o.Steps[j].From:=by simp[VM,Yf hj]
   rw[Ypx,w2,pj];refine⟨by omega,o.Steps[j],by rw[Yk];exact Yf hj,?_⟩;by_cases e3:o.Steps[j+1].From<=o.Steps[j].From
   .rw[Ya e3,decide_eq_false (by omega)];simp
   .rw[Yb e3,decide_eq_true (by omega),ih];simp
@[simp] def ZhZ(o:Z0)(hl:Le o.Steps):Zav o=some (Bo (XY o),[]):=by
 apply WM.2.2.1.2;have b:=ZGk o hl 0 (Yd _);simp only[VM,Ys,Int.ofNat_zero]at b;have b:ZbN o 0=_:=b;unfold XY;rcases tf (VN o.Fixed)with e1|e1
 .simp[e1]
 rcases tf (VN o.Zv)with e2|e2
 .simp[e1,e2]
 rcases tf (VN o.Zw)with e3|e3
 .simp[e1,e2,e3]
 rcases tf (VN o.Zz)with e4|e4
 .simp[e1,e2,e3,e4]
 rcases tf (VN o.Zx)with e5|e5
 .simp[e1,e2,e3,e4,e5]
 by_cases e6:o.Steps.length<=4
 .have e7:¬(4:Int)<o.Steps.length:=by omega
  simp[e1,e2,e3,e4,e5,e6,e7,b]
 .have e7:(4:Int)<o.Steps.length:=by omega
  simp[e1,e2,e3,e4,e5,e6,e7]
def ZGl(o:Z0)(hl:Le o.Steps):∀i,i<=o.Steps.length->Zb0 o o.Steps o.Steps.length i=some (Bo (Q9 (VM o.Steps i) (o.Steps.drop i) && decide (o.Steps.length<=4)),[]):=by
 refine down _ ?_ ?_
 .apply XS.2.1.1.2;rw[Ynx];by_cases e:o.Steps.length<=4
  .simp[Q9,e];omega
  .simp[Q9,e];omega
 .intro i hi ih;apply XS.2.1.1.2;have h4:=ZL (i:=i) (by omega);rw[Z29 _ hi];have pn:VM o.Steps (i+1)=o.Steps[i].From:=by simp[VM,Yf hi]
  rw[pn]at ih;simp only[Yz,Y0]at ih;rw[Ypx];refine⟨by omega,o.Steps[i],by rw[Yk];exact Yf hi,_,XX _ _ _,?_⟩;rcases tf (inR o.Steps[i].Add (-99) 99)with e2|e2
  .rw[e2];simp
  rw[e2,Ya rfl];refine⟨_,XX _ _ _,?_⟩;rcases tf (inR o.Steps[i].From 1 8192)with e1|e1
  .rw[e1];simp
  rw[e1,Ya rfl,show w ((i:Int)+1)=(i:Int)+1 from h4]
  cases i with
  |zero =>
   rw[Ynx,ih]
   have:VM o.Steps 0<o.Steps[0].From:=by simp[inR]at e1;simp[VM];omega
   simp[this]
  |succ j =>
   have hj:j<o.Steps.length:=by omega
   have w2:w (((j+1:Nat):Int)-1)=j:=by rw[show((j+1:Nat):Int)-1=j by omega];exact Z1 (by omega) (by omega)
   have pj:VM o.Steps (j+1)=o.Steps[j].From:=by simp[VM,Yf hj]
   rw[Ypx,w2,pj];refine⟨by omega,o.Steps[j],by rw[Yk];exact Yf hj,?_⟩;by_cases e3:o.Steps[j+1].From<=o.Steps[j].From
   .rw[Ya e3,decide_eq_false (by omega)];simp
   .rw[Yb e3,decide_eq_true (by omega),ih];simp
@[simp] def VO(o:Z0)(hl:Le o.Steps):W6 o=some (Bo (XY o),[]):=by
 apply XS.2.1.2.1;have hc:Zka o=some (.bsl 1 5,[.box (o.c.map .t),.box [.ptr 0 0,.ptr 0 1,.ptr 0 2,.ptr 0 3,.ptr 0 4]]):=XS.2.1.1.1 _ _ rfl;refine⟨hc,?_⟩;have b:=ZGl o hl 0 (Yd _);simp only[VM,Ys]at b;have b:Zb0 o o.Steps o.Steps.length 0=_:=b;have w1:w (0+1)=1:=by decide
 have w2:w (1+1)=2:=by decide
 have w3:w (2+1)=3:=by decide
 have w4:w (3+1)=4:=by decide
 have w5:w (4+1)=5:=by decide
 unfold XY VN;refine Zek ?_;rw[Ypx,Ya rfl];refine⟨_,XX _ _ _,?_⟩;rcases tf (inR o.Fixed (-99) 99)with e1|e1
 .rw[e1];simp
 rw[e1,Ya rfl,w1];refine Zek ?_;rw[Ypx,Ynx,Ya rfl];refine⟨_,XX _ _ _,?_⟩;rcases tf (inR o.Zv (-99) 99)with e2|e2
 .rw[e2];simp
 rw[e2,Ya rfl,w2];refine Zek ?_;rw[Ypx,Ynx,Ynx,Ya rfl];refine⟨_,XX _ _ _,?_⟩;rcases tf (inR o.Zw (-99) 99)with e3|e3
 .rw[e3];simp
 rw[e3,Ya rfl,w3];refine Zek ?_;rw[Ypx,Ynx,Ynx,Ynx,Ya rfl];refine⟨_,XX _ _ _,?_⟩;rcases tf (inR o.Zz (-99) 99)with e4|e4
 .rw[e4];simp
 rw[e4,Ya rfl,w4];refine Zek ?_;rw[Ypx,Ynx,Ynx,Ynx,Ynx,Ya rfl];refine⟨_,XX _ _ _,?_⟩;rcases tf (inR o.Zx (-99) 99)with e5|e5
 .rw[e5];simp
 rw[e5,Ya rfl,w5];refine Zek ?_;rw[Ynx,b];simp[Bool.and_comm]
def J9(o:Z0)(l r n:Int):Int:=w (w (w (w (o.Fixed+w (o.Zv*l))+w (o.Zw*r))+w (o.Zz*n))+w (w (o.Zx*l)*r))
def QA(l r n:Int)(s:Zd):Int:=if s.From<=w (l+r)then w (n+s.Add)else n
def Zen(o:Z0)(l r n:Int):Int:=o.Steps.foldl (QA l r) (J9 o l r n)
def XB(o:Z0)(l r n:Int):Int:=if(XY o && inR l 0 4096 && inR r 0 4096 && inR n 0 4096)=true then Zen o l r n else 0
def ZGm(l r:Int)(st:List Zd)(hl:Le st):∀i,i<=st.length->∀n,Zb3 l r n st st.length i=some (I ((st.drop i).foldl (QA l r) n),[]):=by
 refine down _ ?_ ?_
 .intro n;apply XS.2.2.2.2.2;simp
 .intro i hi ih n;apply XS.2.2.2.2.2;have h4:=ZL (i:=i) (by omega);rw[Yi hi,Y8];simp only[Yz,Y0]at ih;by_cases e:st[i].From<=w (l+r)
  .simp[hi,h4,e,ih,QA]
  .simp[hi,h4,e,ih,QA]
@[simp] def ZPs(o:Z0)(hl:Le o.Steps)(l r n:Int):Zda o l r n=some (I (Zen o l r n),[]):=by
 apply Z24.1;have b:=ZGm l r o.Steps hl 0 (Yd _) (J9 o l r n);simpa[Zen,J9]using b
@[simp] def KN(o:Z0)(hl:Le o.Steps)(l r n:Int):Wy o l r n=some (I (XB o l r n),[]):=by
 apply Qh.1.2.1;unfold XB;rcases tf (XY o)with e1|e1<;>rcases tf (inR l 0 4096)with e2|e2<;>rcases tf (inR r 0 4096)with e3|e3<;>rcases tf (inR n 0 4096)with e4|e4<;>simp[hl,e1,e2,e3,e4]
def ZGn(o:Z0)(l r:Int)(hl:Le o.Steps):∀i,i<=o.Steps.length->∀n,ZbO o l r n i=some (I ((o.Steps.drop i).foldl (QA l r) n),[]):=by
 refine down _ ?_ ?_
 .intro n;apply XL.1.1.1.1;simp
 .intro i hi ih n;apply XL.1.1.1.1;have h4:=ZL (i:=i) (by omega);rw[Yi hi,Y8];simp only[Yz,Y0]at ih;by_cases e:o.Steps[i].From<=w (l+r)
  .simp[hi,h4,e,ih,QA]
  .simp[hi,h4,e,ih,QA]
@[simp] def Kl(o:Z0)(hl:Le o.Steps)(l r n:Int):V8 o l r n=some (I (XB o l r n),[]):=by
 apply XL.1.1.1.2;have b:=ZGn o l r hl 0 (Yd _) (J9 o l r n);simp only[Ys,J9]at b;have b:ZbO o l r _ 0=_:=b;unfold XB;rcases tf (XY o)with e1|e1<;>rcases tf (inR l 0 4096)with e2|e2<;>rcases tf (inR r 0 4096)with e3|e3<;>rcases tf (inR n 0 4096)with e4|e4<;>simp[hl,e1,e2,e3,e4,b,Zen,J9]
@[simp] def ZGo(c:Int):Js c=some (I (W5 c),[]):=by
 apply XS.2.2.2.2.1;cases h:inR c 0 7
 .simp[h,ZxB h]
 .rcases cls8 h with rfl|rfl|rfl|rfl|rfl|rfl|rfl|rfl<;>simp[inR,W5,Z1,shlI]
@[simp] def ZGp(c:Int):J5 c=some (I (W5 c),[]):=by
 apply WM.2.2.2.2;have e:∀n i r,(if i<c then ZdA c (if 1<w (n*4)then w (n*4)else 1) (w (i+1))=some r else some (I n,[])=some r)->ZdA c n i=some r:=λn i r h=>WM.2.2.2.1 _ _ _ _ h
 cases h:inR c 0 7
 .simp[h,ZxB h]
 .refine⟨_,Wo _ _ _,?_⟩;rw[h,Ya rfl];rcases cls8 h with rfl|rfl|rfl|rfl|rfl|rfl|rfl|rfl
  all_goals repeat (refine e _ _ _ ?_;first|(rw[Yb (by decide)];rfl)|rw[Ya (by decide)])
def inT(t:V6):Prop:=∃a b c:Int,t=[a,b,c]/\(0<=a/\a<=7)/\(0<=b/\b<=7)/\(0<=c/\c<=7)
def tcl(o:Z0):V6->Int
 |[a,b,c]=>Zen o (W5 a) (W5 b) (W5 c)
 |_=>0
def Zeo{c:Int}(h0:0<=c)(h7:c<=7):inR (W5 c) 0 4096=true:=by
 have:c=0\/c=1\/c=2\/c=3\/c=4\/c=5\/c=6\/c=7:=by omega
 rcases this with rfl|rfl|rfl|rfl|rfl|rfl|rfl|rfl<;>decide
def Zcb(o:Z0)(hl:Le o.Steps){t:V6}(h:inT t):Kc o t=some (I (tcl o t),[]):=by
 obtain⟨a,b,c,rfl,_⟩:=h;apply Z24.2;simp[hl,tcl]
def ZlM(o:Z0)(hl:Le o.Steps)(hv:XY o=true){t:V6}(h:inT t):ZdB o t=some (I (tcl o t),[]):=by
 obtain⟨a,b,c,rfl,h1,h2,h3⟩:=h;apply XL.1.1.2.1;have c1:=Zeo h1.1 h1.2;have c2:=Zeo h2.1 h2.2;have c3:=Zeo h3.1 h3.2;simp[hl,tcl,XB,hv,c1,c2,c3]
def Z2A{t:V6}(h:inT t){k:Nat}{e:Int}(hk:t[k]?=some e)(h7:e+1<=7):inT (t.set k (e+1)):=by
 obtain⟨a,b,c,rfl,h1,h2,h3⟩:=h
 match k,hk with
 |0,hk=>simp at hk;subst hk;exact⟨a+1,b,c,rfl,by omega,h2,h3⟩
 |1,hk=>simp at hk;subst hk;exact⟨a,b+1,c,rfl,h1,by omega,h3⟩
 |2,hk=>simp at hk;subst hk;exact⟨a,b,c+1,rfl,h1,h2,by omega⟩
 |k+3,hk=>simp at hk
def Z2B{t:V6}(h:inT t){k:Nat}(hk:k<3):∃e,t[k]?=some e/\0<=e/\e<=7:=by
 obtain⟨a,b,c,rfl,h1,h2,h3⟩:=h
 match k,hk with
 |0,_=>exact⟨a,rfl,h1⟩
 |1,_=>exact⟨b,rfl,h2⟩
 |2,_=>exact⟨c,rfl,h3⟩
def Zu0{t:V6}(h:inT t):t.length=3:=by obtain⟨a,b,c,rfl,_⟩:=h;rfl
def Zia(o:Z0)(t:V6)(k:Nat):Prop:=∃e,t[k]?=some e/\e+1<=7/\tcl o (t.set k (e+1))<tcl o t
def WA(o:Z0)(t:V6)(k:Nat):Prop:=∃j,k<=j/\j<3/\Zia o t j
def Zep(o:Z0):Prop:=∃t,inT t/\WA o t 0
def Zu1(o:Z0):Prop:=∃t,inT t/\tcl o t<1
abbrev U2(X:Rs)(p:Prop):Prop:=∃(xs ys:V6) (b:Bool),X=some (.tup [.own 0,.own 1,Bo b],[.arr ZU 1 true (xs.map ic),.arr ZU 1 true (ys.map ic)])/\(b=true↔p)
def U2.congr{X:Rs}{p q:Prop}(h:U2 X p)(e:p↔q):U2 X q:=by
 obtain⟨xs,ys,b,h1,h2⟩:=h;exact⟨xs,ys,b,h1,h2.trans e⟩
def l_fd0(o:Z0)(hl:Le o.Steps)(hv:XY o=true){t:V6}(ht:inT t)(a b e:Int)(p:Prop)(hc:U2 (ZdE o a b (w (e+1))) p):∀k:Nat,k<=3->
  U2 (Zaw o t a b e k) (WA o t k\/p):=by
 have h3:=Zu0 ht;refine down _ ?_ ?_
 .obtain⟨xs,ys,f,h1,h2⟩:=hc;refine⟨xs,ys,f,XL.1.2.2.1 _ _ _ _ _ _ _ (by rw[Ynx];exact h1),?_⟩;rw[h2];exact⟨.inr,λh=>h.elim (λ⟨j,a,b,_⟩=>by omega) id⟩
 .intro k hk ih;have h4:=ZL (i:=k) (by omega);obtain⟨x,hx,x0,x7⟩:=Z2B ht hk;have wx:w (x+1)=x+1:=Z1 (by omega) (by omega);simp only[Yz,Y0]at ih;have step:WA o t k↔(Zia o t k\/WA o t (k+1)):=by
   constructor
   .rintro⟨j,j1,j2,j3⟩;by_cases hj:j=k
    .subst hj;exact .inl j3
    .exact .inr ⟨j,by omega,j2,j3⟩
   .rintro(h|⟨j,j1,j2,j3⟩)
    .exact⟨k,Yh _,hk,h⟩
    .exact⟨j,by omega,j2,j3⟩
  have pre:∀r,(if x+1<=7 then(if tcl o (t.set k (x+1))<tcl o t then some (.tup [.own 0,.own 1,Bo true],[.arr ZU 1 true (t.map ic),.arr ZU 1 true ((t.set k (x+1)).map ic)])=some r
    else Zaw o t a b e ((k:Int)+1)=some r)else Zaw o t a b e ((k:Int)+1)=some r)->Zaw o t a b e k=some r:=by
   intro r hr;apply XL.1.2.2.1;rw[Ypx];refine⟨by omega,by omega,x,by rw[Yk];exact hx,?_⟩;rw[wx,Yk,show w ((k:Int)+1)=(k:Int)+1 from h4];by_cases h7:x+1<=7
   .rw[Ya h7]at hr|-;exact⟨_,ZlM o hl hv (Z2A ht hx h7),_,ZlM o hl hv ht,hr⟩
   .rw[Yb h7]at hr|-;exact hr
  have dk:Zia o t k↔(x+1<=7/\tcl o (t.set k (x+1))<tcl o t):=by
   constructor
   .rintro⟨y,y1,y2,y3⟩;rw[hx]at y1;cases y1;exact⟨y2,y3⟩
   .rintro⟨y2,y3⟩;exact⟨x,hx,y2,y3⟩
  by_cases h7:x+1<=7/\tcl o (t.set k (x+1))<tcl o t
  .refine⟨_,_,true,pre _ (by rw[Ya h7.1,Ya h7.2]),?_⟩;rw[step,dk];exact⟨λ_=>.inl (.inl h7),λ_=>rfl⟩
  .obtain⟨xs,ys,f,i1,i2⟩:=ih;refine⟨xs,ys,f,pre _ ?_,?_⟩
   .split
    .split
     .rename_i a1 a2;exact absurd ⟨a1,a2⟩ h7
     .exact i1
    .exact i1
   .rw[i2,step,dk];constructor
    .exact λh=>h.imp .inr id
    .exact λh=>h.imp (λh=>h.resolve_left h7) id
def Zeq{P:Nat->Prop}{i:Nat}{p:Prop}(hi:i<8):((∃z,i<=z/\z<=7/\P z)\/p)↔(P i\/(∃z,i+1<=z/\z<=7/\P z)\/p):=by
 constructor
 .rintro(⟨z,z1,z2,z3⟩|h)
  .by_cases hz:z=i
   .subst hz;exact .inl z3
   .exact .inr (.inl ⟨z,by omega,z2,z3⟩)
  .exact .inr (.inr h)
 .rintro(h|⟨z,z1,z2,z3⟩|h)
  .exact .inl ⟨i,Yh _,by omega,h⟩
  .exact .inl ⟨z,by omega,z2,z3⟩
  .exact .inr h
def Zer{P:Nat->Prop}{p:Prop}:((∃z,8<=z/\z<=7/\P z)\/p)↔p:=⟨λh=>h.elim (λ⟨z,a,b,_⟩=>by omega) id,.inr⟩
def l_fd1(o:Z0)(hl:Le o.Steps)(hv:XY o=true)(a b:Nat)(ha:a<=7)(hb:b<=7)(p:Prop)(hc:U2 (ZdD o a ((b:Int)+1)) p):∀e:Nat,e<=8->
  U2 (ZdE o a b e) ((∃z:Nat,e<=z/\z<=7/\WA o [(a:Int),(b:Int),(z:Int)] 0)\/p):=by
 have wb:w ((b:Int)+1)=(b:Int)+1:=Z1 (by omega) (by omega);refine down _ ?_ ?_
 .refine U2.congr ?_ Zer.symm;obtain⟨xs,ys,f,h1,h2⟩:=hc;exact⟨xs,ys,f,XL.1.2.1.2 _ _ _ _ _ (by rw[Ynx,wb];exact h1),h2⟩
 .intro e he ih;have we:w ((e:Int)+1)=(e:Int)+1:=Z1 (by omega) (by omega);have hT:inT [(a:Int),(b:Int),(e:Int)]:=⟨a,b,e,rfl,by omega,by omega,by omega⟩;simp only[Yz,Y0]at ih;obtain⟨xs,ys,f,h1,h2⟩:=l_fd0 o hl hv hT a b e _ (by rw[we];exact ih) 0 (by omega);exact⟨xs,ys,f,XL.1.2.1.2 _ _ _ _ _ (by rw[Ypx];exact h1),h2.trans (Zeq (P:=λz:Nat=>WA o [(a:Int),(b:Int),(z:Int)] 0) he).symm⟩
def l_fd2(o:Z0)(hl:Le o.Steps)(hv:XY o=true)(a:Nat)(ha:a<=7)(p:Prop)(hc:U2 (ZdC o ((a:Int)+1)) p):∀b:Nat,b<=8->
  U2 (ZdD o a b) ((∃y:Nat,b<=y/\y<=7/\∃z:Nat,0<=z/\z<=7/\WA o [(a:Int),(y:Int),(z:Int)] 0)\/p):=by
 have wa:w ((a:Int)+1)=(a:Int)+1:=Z1 (by omega) (by omega);refine down _ ?_ ?_
 .refine U2.congr ?_ Zer.symm;obtain⟨xs,ys,f,h1,h2⟩:=hc;exact⟨xs,ys,f,XL.1.2.1.1 _ _ _ _ (by rw[Ynx,wa];exact h1),h2⟩
 .intro b hb ih;simp only[Yz,Y0]at ih;obtain⟨xs,ys,f,h1,h2⟩:=l_fd1 o hl hv a b ha (by omega) _ ih 0 (by omega);exact⟨xs,ys,f,XL.1.2.1.1 _ _ _ _ (by rw[Ypx];exact h1),h2.trans (Zeq (P:=λy:Nat=>∃z:Nat,0<=z/\z<=7/\WA o [(a:Int),(y:Int),(z:Int)] 0) hb).symm⟩
def l_fd3(o:Z0)(hl:Le o.Steps)(hv:XY o=true):∀a:Nat,a<=8->
  U2 (ZdC o a) ((∃x:Nat,a<=x/\x<=7/\∃y:Nat,0<=y/\y<=7/\∃z:Nat,0<=z/\z<=7/\WA o [(x:Int),(y:Int),(z:Int)] 0)\/False):=by
 refine down _ ?_ ?_
 .refine U2.congr ?_ Zer.symm;exact⟨[],[],false,XL.1.1.2.2 _ _ _ (by rw[Ynx]),by simp⟩
 .intro a ha ih;simp only[Yz,Y0]at ih;obtain⟨xs,ys,f,h1,h2⟩:=l_fd2 o hl hv a (by omega) _ ih 0 (by omega);exact⟨xs,ys,f,XL.1.1.2.2 _ _ _ (by rw[Ypx];exact h1),h2.trans (Zeq (P:=λx:Nat=>∃y:Nat,0<=y/\y<=7/\∃z:Nat,0<=z/\z<=7/\WA o [(x:Int),(y:Int),(z:Int)] 0) ha).symm⟩
def Z2C(o:Z0)(P:V6->Prop):(∃t,inT t/\P t)↔∃x:Nat,0<=x/\x<=7/\∃y:Nat,0<=y/\y<=7/\∃z:Nat,0<=z/\z<=7/\P [(x:Int),(y:Int),(z:Int)]:=by
 constructor
 .rintro⟨t,⟨a,b,c,rfl,h1,h2,h3⟩,h⟩;refine⟨a.toNat,by omega,by omega,b.toNat,by omega,by omega,c.toNat,by omega,by omega,?_⟩;rw[Ycv h1.1,Ycv h2.1,Ycv h3.1];exact h
 .rintro⟨x,_,x2,y,_,y2,z,_,z2,h⟩;exact⟨_,⟨x,y,z,rfl,by omega,by omega,by omega⟩,h⟩
def ZGq(o:Z0)(hl:Le o.Steps)(hv:XY o=true):U2 (Zlb o) (Zep o):=by
 obtain⟨xs,ys,f,h1,h2⟩:=l_fd3 o hl hv 0 (by omega);refine⟨xs,ys,f,XL.1.2.2.2.1 _ _ ⟨_,ZhZ o hl,?_⟩,?_⟩
 .rw[hv,Ya rfl];exact h1
 .rw[h2,Zep,Z2C o (λt=>WA o t 0)];simp
abbrev Ql(X:Rs)(p:Prop):Prop:=∃(xs:V6),X=some (.own 0,[.arr ZU 1 true (xs.map ic)])/\(xs≠[]↔p)
def Ql.congr{X:Rs}{p q:Prop}(h:Ql X p)(e:p↔q):Ql X q:=by
 obtain⟨xs,h1,h2⟩:=h;exact⟨xs,h1,h2.trans e⟩
def l_ch0(o:Z0)(hl:Le o.Steps)(hv:XY o=true)(a b:Nat)(ha:a<=7)(hb:b<=7)(p:Prop)(hc:Ql (ZdG o a ((b:Int)+1)) p):∀e:Nat,e<=8->
  Ql (Zhn o a b e) ((∃z:Nat,e<=z/\z<=7/\tcl o [(a:Int),(b:Int),(z:Int)]<1)\/p):=by
 have wb:w ((b:Int)+1)=(b:Int)+1:=Z1 (by omega) (by omega);refine down _ ?_ ?_
 .refine Ql.congr ?_ Zer.symm;obtain⟨xs,h1,h2⟩:=hc;exact⟨xs,XL.2.1.1.2 _ _ _ _ _ (by rw[Ynx,wb];exact h1),h2⟩
 .intro e he ih;have we:w ((e:Int)+1)=(e:Int)+1:=Z1 (by omega) (by omega);have hT:inT [(a:Int),(b:Int),(e:Int)]:=⟨a,b,e,rfl,by omega,by omega,by omega⟩;simp only[Yz,Y0]at ih;refine Ql.congr ?_ (Zeq he).symm;by_cases h:tcl o [(a:Int),(b:Int),(e:Int)]<1
  .refine⟨[a,b,e],XL.2.1.1.2 _ _ _ _ _ ?_,by simp[h]⟩;rw[Ypx];exact⟨_,ZlM o hl hv hT,by rw[Ya h]⟩
  .obtain⟨xs,h1,h2⟩:=ih;refine⟨xs,XL.2.1.1.2 _ _ _ _ _ ?_,by rw[h2];simp[h]⟩;rw[Ypx];exact⟨_,ZlM o hl hv hT,by rw[Yb h,we];exact h1⟩
def l_ch1(o:Z0)(hl:Le o.Steps)(hv:XY o=true)(a:Nat)(ha:a<=7)(p:Prop)(hc:Ql (ZdF o ((a:Int)+1)) p):∀b:Nat,b<=8->
  Ql (ZdG o a b) ((∃y:Nat,b<=y/\y<=7/\∃z:Nat,0<=z/\z<=7/\tcl o [(a:Int),(y:Int),(z:Int)]<1)\/p):=by
 have wa:w ((a:Int)+1)=(a:Int)+1:=Z1 (by omega) (by omega);refine down _ ?_ ?_
 .refine Ql.congr ?_ Zer.symm;obtain⟨xs,h1,h2⟩:=hc;exact⟨xs,XL.2.1.1.1 _ _ _ _ (by rw[Ynx,wa];exact h1),h2⟩
 .intro b hb ih;simp only[Yz,Y0]at ih;obtain⟨xs,h1,h2⟩:=l_ch0 o hl hv a b ha (by omega) _ ih 0 (by omega);exact⟨xs,XL.2.1.1.1 _ _ _ _ (by rw[Ypx];exact h1),h2.trans (Zeq (P:=λy:Nat=>∃z:Nat,0<=z/\z<=7/\tcl o [(a:Int),(y:Int),(z:Int)]<1) hb).symm⟩
def l_ch2(o:Z0)(hl:Le o.Steps)(hv:XY o=true):∀a:Nat,a<=8->
  Ql (ZdF o a) ((∃x:Nat,a<=x/\x<=7/\∃y:Nat,0<=y/\y<=7/\∃z:Nat,0<=z/\z<=7/\tcl o [(x:Int),(y:Int),(z:Int)]<1)\/False):=by
 refine down _ ?_ ?_
 .refine Ql.congr ?_ Zer.symm;exact⟨[],XL.1.2.2.2.2 _ _ _ (by rw[Ynx]),by simp⟩
 .intro a ha ih;simp only[Yz,Y0]at ih;obtain⟨xs,h1,h2⟩:=l_ch1 o hl hv a (by omega) _ ih 0 (by omega);exact⟨xs,XL.1.2.2.2.2 _ _ _ (by rw[Ypx];exact h1),h2.trans (Zeq (P:=λx:Nat=>∃y:Nat,0<=y/\y<=7/\∃z:Nat,0<=z/\z<=7/\tcl o [(x:Int),(y:Int),(z:Int)]<1) ha).symm⟩
def ZGr(o:Z0)(hl:Le o.Steps)(hv:XY o=true):Ql (Zle o) (Zu1 o):=by
 obtain⟨xs,h1,h2⟩:=l_ch2 o hl hv 0 (by omega);refine⟨xs,XL.2.1.2.1 _ _ h1,?_⟩;rw[h2,Zu1,Z2C o (λt=>tcl o t<1)];simp
def KO(a b:Int)(c:Nat):V4:=(List.range' c (8-c)).map λz:Nat=>[a,b,(z:Int)]
def Za5(a:Int)(b:Nat):V4:=(List.range' b (8-b)).flatMap λy:Nat=>KO a y 0
def Zes(a:Nat):V4:=(List.range' a (8-a)).flatMap λx:Nat=>Za5 x 0
def Zu2{i:Nat}(h:i<8):List.range' i (8-i)=i::List.range' (i+1) (8-(i+1)):=by
 rw[show 8-i=(8-(i+1))+1 by omega,Yc8]
def ZGs(a b:Int)(c:Nat):(KO a b c).length=8-c:=by simp[KO]
def ZGt(a:Int):(Za5 a 0).length=64:=rfl
def l_tr0(a b:Nat)(hb:b<=7)(r:V3):∀c:Nat,c<=8->∀out:V4,out.length<=1000000->Zb2 (out++KO a b c) a ((b:Int)+1)=some r->ZcZ out a b c=some r:=by
 have wb:w ((b:Int)+1)=(b:Int)+1:=Z1 (by omega) (by omega);have key:∀c:Nat,c<=8->∀out:V4,out.length<=1000000+c->Zb2 (out++KO a b c) a ((b:Int)+1)=some r->ZcZ out a b c=some r:=by
  refine down _ ?_ ?_
  .intro out ho h;apply XS.2.2.1.2;rw[Ynx,wb];simpa[KO]using h
  .intro c hc ih out ho h;have wc:w ((c:Int)+1)=(c:Int)+1:=Z1 (by omega) (by omega);apply XS.2.2.1.2;rw[Ypx,wc];refine⟨by omega,?_⟩
   have ih:=ih (out++[[(a:Int),(b:Int),(c:Int)]]) (by simp;omega) (by
    rw[KO,Zu2 hc]at h
    simpa[KO]using h)
   simpa using ih
 exact λc hc out ho h=>key c hc out (by omega) h
def l_tr1(a:Nat)(ha:a<=7)(r:V3):∀b:Nat,b<=8->∀out:V4,out.length<=100000+8*b->ZcY (out++Za5 a b) ((a:Int)+1)=some r->Zb2 out a b=some r:=by
 have wa:w ((a:Int)+1)=(a:Int)+1:=Z1 (by omega) (by omega);refine down _ ?_ ?_
 .intro out ho h;apply XS.2.2.1.1;rw[Ynx,wa];simpa[Za5]using h
 .intro b hb ih out ho h;apply XS.2.2.1.1;rw[Ypx];refine l_tr0 a b (by omega) r 0 (by omega) out (by omega) ?_
  have ih:=ih (out++KO a b 0) (by rw[Yn,ZGs];omega) (by
   rw[Za5,Zu2 hb]at h
   simpa[Za5]using h)
  simpa using ih
def l_tr2:∀a:Nat,a<=8->∀out:V4,out.length<=64*a->ZcY out a=some (.own 0,[.arr Zfq 1 true ((out++Zes a).map isc)]):=by
 refine down _ ?_ ?_
 .intro out ho;apply XS.2.1.2.2;rw[Ynx];simp[Zes]
 .intro a ha ih out ho;apply XS.2.1.2.2;rw[Ypx];refine l_tr1 a (by omega) _ 0 (by omega) out (by omega) ?_;have ih:=ih (out++Za5 a 0) (by rw[Yn,ZGt];omega);rw[Zes,Zu2 ha];simpa[Zes]using ih
def WZ:V4:=Zes 0
def Zet:Ui=some (.own 0,[.arr Zfq 1 true (WZ.map isc)]):=XS.2.2.2.1 _ (l_tr2 0 (by omega) [] (by simp))
def QB(t:V6):t∈WZ↔inT t:=by
 simp only[WZ,Zes,Za5,KO,List.mem_flatMap,Yr,List.mem_range'_1,inT];constructor
 .rintro⟨x,hx,y,hy,z,hz,rfl⟩;exact⟨x,y,z,rfl,by omega,by omega,by omega⟩
 .rintro⟨a,b,c,rfl,h1,h2,h3⟩;refine⟨a.toNat,by omega,b.toNat,by omega,c.toNat,by omega,?_⟩;rw[Ycv h1.1,Ycv h2.1,Ycv h3.1]
set_option maxRecDepth 100000 in
def Zeu:WZ.length=512:=rfl
@[simp] def KP(xs:V6)(h:xs.length<=68719476736):Uv xs=some (.own 0,[.arr ZU 1 true (xs.map ic)]):=XW.1.1.1.1 _ _ ⟨h,rfl⟩
abbrev ZlN(X:Rs)(p:Prop):Prop:=(p/\∃xs ys:V6,X=some (.tup [L 1 (xs.map ic),.own 0,Bo true],[.arr ZU 1 true (ys.map ic)]))\/(¬p/\X=some (.tup [.t .nil,.t .nil,Bo false],[]))
def l_id0(o:Z0)(hl:Le o.Steps)(ts:V4){t:V6}(ht:inT t)(n i:Int)(p:Prop)(hc:ZlN (Zah o ts n (w (i+1))) p):∀k:Nat,k<=3->
  ZlN (Kd o ts t n i 3 k) (WA o t k\/p):=by
 have h3:=Zu0 ht;refine down _ ?_ ?_
 .have e:(WA o t 3\/p)↔p:=⟨λh=>h.elim (λ⟨j,a,b,_⟩=>by omega) id,.inr⟩;rcases hc with⟨h,xs,ys,h1⟩|⟨h,h1⟩
  .exact .inl ⟨e.2 h,xs,ys,Wi.1.1.2.1 _ _ _ _ _ _ _ _ (by rw[Ynx];exact h1)⟩
  .exact .inr ⟨λhc=>h (e.1 hc),Wi.1.1.2.1 _ _ _ _ _ _ _ _ (by rw[Ynx];exact h1)⟩
 .intro k hk ih;have h4:=ZL (i:=k) (by omega);obtain⟨x,hx,x0,x7⟩:=Z2B ht hk;have wx:w (x+1)=x+1:=Z1 (by omega) (by omega);simp only[Yz,Y0]at ih;have step:WA o t k↔(Zia o t k\/WA o t (k+1)):=by
   constructor
   .rintro⟨j,j1,j2,j3⟩;by_cases hj:j=k
    .subst hj;exact .inl j3
    .exact .inr ⟨j,by omega,j2,j3⟩
   .rintro(h|⟨j,j1,j2,j3⟩)
    .exact⟨k,Yh _,hk,h⟩
    .exact⟨j,by omega,j2,j3⟩
  have dk:Zia o t k↔(x+1<=7/\tcl o (t.set k (x+1))<tcl o t):=by
   constructor
   .rintro⟨y,y1,y2,y3⟩;rw[hx]at y1;cases y1;exact⟨y2,y3⟩
   .rintro⟨y2,y3⟩;exact⟨x,hx,y2,y3⟩
  have pre:∀r,(if x+1<=7 then(if tcl o (t.set k (x+1))<tcl o t then some (.tup [L 1 (t.map ic),.own 0,Bo true],[.arr ZU 1 true ((t.set k (x+1)).map ic)])=some r
    else Kd o ts t n i 3 ((k:Int)+1)=some r)else Kd o ts t n i 3 ((k:Int)+1)=some r)->Kd o ts t n i 3 k=some r:=by
   intro r hr;apply Wi.1.1.2.1;rw[Ypx];refine⟨by omega,x,by rw[Yk];exact hx,?_⟩;rw[show w ((k:Int)+1)=(k:Int)+1 from h4];by_cases h7:x=7
   .rw[Ya h7];rw[Ynx]at hr;exact hr
   .rw[Yb h7];have h8:x+1<=7:=by omega
    rw[Ya h8]at hr;refine⟨t,KP t (by omega),x,by rw[Yk];exact hx,?_⟩;rw[wx,Yk];exact⟨_,Zcb o hl (Z2A ht hx h8),_,Zcb o hl ht,hr⟩
  by_cases h7:x+1<=7/\tcl o (t.set k (x+1))<tcl o t
  .exact .inl ⟨.inl (step.2 (.inl (dk.2 h7))),_,_,pre _ (by rw[Ya h7.1,Ya h7.2])⟩
  .have go:∀r,Kd o ts t n i 3 ((k:Int)+1)=some r->Kd o ts t n i 3 k=some r:=by
    intro r hr;refine pre r ?_;split
    .split
     .rename_i a1 a2;exact absurd ⟨a1,a2⟩ h7
     .exact hr
    .exact hr
   have e:(WA o t k\/p)↔(WA o t (k+1)\/p):=by
    rw[step,dk];exact⟨λh=>h.imp (λh=>h.resolve_left h7) id,λh=>h.imp .inr id⟩
   rcases ih with⟨h,xs,ys,h1⟩|⟨h,h1⟩
   .exact .inl ⟨e.2 h,xs,ys,go _ h1⟩
   .exact .inr ⟨λhc=>h (e.1 hc),go _ h1⟩
def l_id1(o:Z0)(hl:Le o.Steps)(ts:V4)(c:∀t∈ts,inT t)(hn:ts.length<=1000):∀i,i<=ts.length->ZlN (Zah o ts ts.length i) (∃t∈ts.drop i,WA o t 0):=by
 refine down _ ?_ ?_
 .refine .inr ⟨by simp,Wi.1.1.1 _ _ _ _ _ (by rw[Ynx])⟩
 .intro i hi ih;have h4:=ZL (i:=i) (by omega);have ht:=c _ (Yc hi);simp only[Yz,Y0]at ih;have b:=l_id0 o hl ts ht ts.length i _ (by rw[show w ((i:Int)+1)=(i:Int)+1 from h4];exact ih) 0 (by omega);have go:∀r,Kd o ts ts[i] ts.length i 3 0=some r->Zah o ts ts.length i=some r:=by
   intro r hr;apply Wi.1.1.1;rw[Ypx];refine⟨by omega,ts[i],by rw[Yk];exact Yf hi,?_⟩;rw[Zu0 ht];exact hr
  have e:(∃t∈ts.drop i,WA o t 0)↔(WA o ts[i] 0\/∃t∈ts.drop (i+1),WA o t 0):=by
   rw[Yi hi];simp only[Y3,exists_eq_or_imp]
  rcases b with⟨h,xs,ys,h1⟩|⟨h,h1⟩
  .exact .inl ⟨e.2 h,xs,ys,go _ h1⟩
  .exact .inr ⟨λhc=>h (e.1 hc),go _ h1⟩
def Zib(o:Z0)(hl:Le o.Steps)(hv:XY o=true):ZlN (Wv o) (Zep o):=by
 have b:=l_id1 o hl WZ (λt h=>(QB t).1 h) (by rw[Zeu];omega) 0 (Yd _);have go:∀r,Zah o WZ WZ.length 0=some r->Wv o=some r:=by
  intro r hr;refine Wi.1.1.2.2 _ _ ⟨_,VO o hl,?_⟩;rw[hv,Ya rfl];exact⟨WZ,Zet,hr⟩
 have e:(∃t∈WZ.drop 0,WA o t 0)↔Zep o:=by
  simp only[Ys,QB,Zep]
 rcases b with⟨h,xs,ys,h1⟩|⟨h,h1⟩
 .exact .inl ⟨e.1 h,xs,ys,go _ h1⟩
 .exact .inr ⟨λhc=>h (e.2 hc),go _ h1⟩
def XZ(o:Z0):Prop:=XY o=true/\¬Zep o/\¬Zu1 o
def mOp(m:Za)(k:Int):Z0:=if k=1 then m.Scan else if k=2 then m.Sort_ else if k=3 then m.Hash else if k=4 then m.Merge else m.Nested
abbrev LeM(m:Za):Prop:=Le m.Scan.Steps/\Le m.Sort_.Steps/\Le m.Hash.Steps/\Le m.Merge.Steps/\Le m.Nested.Steps
def LeM.op{m:Za}(h:LeM m)(k:Int):Le (mOp m k).Steps:=by
 unfold mOp;obtain⟨h1,h2,h3,h4,h5⟩:=h
 repeat' split
 all_goals assumption
@[simp] def Zev(m:Za)(k:Int):Qe m k=some (.agg ((mOp m k).c.map .t),[]):=by
 apply WM.2.1.2.1;unfold mOp;by_cases h1:k=1
 .simp[h1]
 by_cases h2:k=2
 .simp[h2]
 by_cases h3:k=3
 .simp[h3]
 by_cases h4:k=4
 .simp[h4]
 .simp[h1,h2,h3,h4]
def V9(m:Za):Prop:=XZ m.Scan/\XZ m.Sort_/\XZ m.Hash/\XZ m.Merge/\XZ m.Nested
def ZGu(m:Za)(hm:LeM m):∀k:Nat,k<=6->1<=k->
  ∃(xs ys:V6) (n:Int),ZdH m k=some (.tup [I n,.own 0,.own 1],[.arr ZU 1 true (xs.map ic),.arr ZU 1 true (ys.map ic)])/\(n=0↔∀j:Nat,k<=j->j<=5->XZ (mOp m j)):=by
 refine down _ ?_ ?_
 .intro _;exact⟨[],[],0,XL.2.1.2.2 _ _ _ (by rw[Ynx]),⟨λ_ j h1 h2=>by omega,λ_=>rfl⟩⟩
 .intro k hk ih h1;have wk':w ((k:Int)+1)=(k:Int)+1:=Z1 (by omega) (by omega);have hl:=hm.op k;have step:(∀j:Nat,k<=j->j<=5->XZ (mOp m j))↔(XZ (mOp m k)/\∀j:Nat,k+1<=j->j<=5->XZ (mOp m j)):=by
   constructor
   .exact λh=>⟨h k (Yh _) (by omega),λj a b=>h j (by omega) b⟩
   .rintro⟨a,b⟩ j c d;by_cases hj:j=k
    .subst hj;exact a
    .exact b j (by omega) d
  have kne:(k:Int)≠0:=by omega
  have pre:∀r,(∃v,Zav (mOp m k)=some (Bo v,[])/\_)->ZdH m k=some r:=λr h=>XL.2.1.2.2 _ _ _ (by rw[Ypx];exact⟨mOp m k,Zev m k,h⟩)
  rcases tf (XY (mOp m k))with hv|hv
  .refine⟨[],[],k,pre _ ⟨false,by rw[ZhZ _ hl,hv],by rw[Yb (by simp)]⟩,?_⟩;rw[step];exact⟨λh=>absurd h kne,λh=>by have:=h.1.1;rw[hv]at this;cases this⟩
  .obtain⟨xs,ys,f,d1,d2⟩:=ZGq (mOp m k) hl hv
   cases f with
   |true =>
    refine⟨xs,ys,k,pre _ ⟨true,by rw[ZhZ _ hl,hv],?_⟩,?_⟩
    .rw[Ya rfl];exact⟨xs,ys,true,d1,by rw[Ya rfl]⟩
    .rw[step]
     exact⟨λh=>absurd h kne,λh=>absurd (d2.1 rfl) h.1.2.1⟩
   |false =>
    obtain⟨cs,c1,c2⟩:=ZGr (mOp m k) hl hv;by_cases hc:cs=[]
    .obtain⟨xs',ys',n,i1,i2⟩:=ih (by omega);simp only[Yz,Y0]at i1;refine⟨xs',ys',n,pre _ ⟨true,by rw[ZhZ _ hl,hv],?_⟩,?_⟩
     .rw[Ya rfl];refine⟨xs,ys,false,d1,?_⟩;rw[Yb (by simp)];refine⟨cs,c1,?_⟩;rw[hc,Yb (by simp),wk'];exact i1
     .rw[step,i2];refine⟨λh=>⟨⟨hv,λhd=>(by have:=d2.2 hd;cases this),λhch=>(c2.2 hch) hc⟩,h⟩,λh=>h.2⟩
    .refine⟨cs,[],k,pre _ ⟨true,by rw[ZhZ _ hl,hv],?_⟩,?_⟩
     .rw[Ya rfl];refine⟨xs,ys,false,d1,?_⟩;rw[Yb (by simp)];refine⟨cs,c1,?_⟩
      have:0<cs.length:=Ybn.2 hc
      rw[Ypx]
     .rw[step];exact⟨λh=>absurd h kne,λh=>absurd (c2.1 hc) h.1.2.2⟩
def ZGv(m:Za):(∀j:Nat,1<=j->j<=5->XZ (mOp m j))↔V9 m:=by
 constructor
 .intro h;exact⟨h 1 (by omega) (by omega),h 2 (by omega) (by omega),h 3 (by omega) (by omega),h 4 (by omega) (by omega),h 5 (by omega) (by omega)⟩
 .rintro⟨h1,h2,h3,h4,h5⟩ j a b
  have:j=1\/j=2\/j=3\/j=4\/j=5:=by omega
  rcases this with rfl|rfl|rfl|rfl|rfl
  .exact h1
  .exact h2
  .exact h3
  .exact h4
  .exact h5
open Classical in
def Z2D(m:Za)(hm:LeM m):ZdI m=some (Bo (decide (V9 m)),[]):=by
 obtain⟨xs,ys,n,h1,h2⟩:=ZGu m hm 1 (by omega) (by omega);refine XL.2.2.1.2 _ _ ⟨xs,ys,n,XL.2.2.1.1 _ _ h1,?_⟩;rw[ZGv]at h2;by_cases h:V9 m
 .rw[decide_eq_true h,decide_eq_true (h2.2 h)]
 .rw[decide_eq_false h,decide_eq_false (λhc=>h (h2.1 hc))]
abbrev X7(X:Rs)(p:Prop):Prop:=(p/\X=some (.tup [I 0,.t .nil,.t .nil],[]))\/(¬p/\∃n:Int,n≠0/\((∃xs ys:V6,X=some (.tup [I n,L 1 (xs.map ic),.own 0],[.arr ZU 1 true (ys.map ic)]))\/X=some (.tup [I n,.t .nil,.t .nil],[])\/∃xs:V6,X=some (.tup [I n,L 1 (xs.map ic),.t .nil],[])))
def X7.of{X Y:Rs}{p:Prop}(h:X7 X p)(e:∀r,X=some r->Y=some r):X7 Y p:=by
 rcases h with⟨h,h1⟩|⟨h,n,hn,⟨xs,ys,h1⟩|h1|⟨xs,h1⟩⟩
 .exact .inl ⟨h,e _ h1⟩
 .exact .inr ⟨h,n,hn,.inl ⟨xs,ys,e _ h1⟩⟩
 .exact .inr ⟨h,n,hn,.inr (.inl (e _ h1))⟩
 .exact .inr ⟨h,n,hn,.inr (.inr ⟨xs,e _ h1⟩)⟩
def X7.congr{X:Rs}{p q:Prop}(h:X7 X p)(e:p↔q):X7 X q:=by
 rw[<-e];exact h
def Zic{ts:V4}{j:Nat}(hj:j<ts.length){P:V6->Prop}{p:Prop}:((∀t∈ts.drop j,P t)/\p)↔(P ts[j]/\(∀t∈ts.drop (j+1),P t)/\p):=by
 rw[Yi hj];simp only[Y3,forall_eq_or_imp,and_assoc]
def l_rf0(m:Za)(hl:Le m.Scan.Steps)(ts:V4)(c:∀t∈ts,inT t)(hn:ts.length<=1000)(kind:Int)(hk:kind≠0)(x1 x2:Int)(p:Prop)(hc:X7 (XJ m x1 (w (x2+1))) p):∀j,j<=ts.length->
  X7 (Zai m ts kind x1 x2 ts.length j) ((∀t∈ts.drop j,¬tcl m.Scan t<1)/\p):=by
 refine down _ ?_ ?_
 .refine(hc.of λr hr=>Wi.1.2.1.1 _ _ _ _ _ _ _ _ (by rw[Ynx];exact hr)).congr (by simp)
 .intro j hj ih;have h4:=ZL (i:=j) (by omega);have ht:=c _ (Yc hj);simp only[Yz,Y0]at ih;have pre:∀r,(if tcl m.Scan ts[j]<1 then some (.tup [I kind,L 1 (ts[j].map ic),.t .nil],[])=some r else Zai m ts kind x1 x2 ts.length ((j:Int)+1)=some r)->Zai m ts kind x1 x2 ts.length j=some r:=by
   intro r hr;apply Wi.1.2.1.1;rw[Ypx];refine⟨by omega,ts[j],by rw[Yk];exact Yf hj,_,Zcb _ hl ht,?_⟩;rw[show w ((j:Int)+1)=(j:Int)+1 from h4];exact hr
  refine X7.congr ?_ (Zic (P:=λt=>¬tcl m.Scan t<1) hj).symm;by_cases h:tcl m.Scan ts[j]<1
  .exact .inr ⟨λhc=>hc.1 h,kind,hk,.inr (.inr ⟨_,pre _ (by rw[Ya h])⟩)⟩
  .exact(ih.of λr hr=>pre r (by rw[Yb h];exact hr)).congr ⟨λhh=>⟨h,hh⟩,λhh=>hh.2⟩
def l_rf1(m:Za)(hm:LeM m)(p:Prop)(hc:X7 (XJ m 5 1) p):X7 (XJ m 5 0) (XZ m.Scan/\p):=by
 have hl:Le m.Scan.Steps:=by obtain⟨h1,h2,h3,h4,h5⟩:=hm;assumption
 have w1:w (1+0)=1:=by decide
 have w2:w (0+1)=1:=by decide
 have pre:∀r,(∃v,W6 m.Scan=some (Bo v,[])/\_)->XJ m 5 0=some r:=λr h=>Zel (by rw[Ypx,Ya rfl];exact h)
 rcases tf (XY m.Scan)with hv|hv
 .refine .inr ⟨λh=>(by have:=h.1.1;rw[hv]at this;cases this),1,by decide,.inr (.inl (pre _ ⟨false,by rw[VO _ hl,hv],?_⟩))⟩;rw[Yb (by simp),w1]
 rcases Zib m.Scan hl hv with⟨hd,xs,ys,d1⟩|⟨hd,d1⟩
 .refine .inr ⟨λh=>h.1.2.1 hd,1,by decide,.inl ⟨xs,ys,pre _ ⟨true,by rw[VO _ hl,hv],?_⟩⟩⟩;rw[Ya rfl,w1];exact .inr ⟨ys,xs,d1,rfl⟩
 .have b:=l_rf0 m hl WZ (λt h=>(QB t).1 h) (by rw[Zeu];omega) 1 (by decide) 5 0 p (by rw[w2];exact hc) 0 (Yd _);refine(b.of λr hr=>pre r ⟨true,by rw[VO _ hl,hv],?_⟩).congr ?_
  .rw[Ya rfl,w1];exact .inl ⟨d1,WZ,Zet,hr⟩
  .simp only[Ys,QB];constructor
   .rintro⟨h,hp⟩;exact⟨⟨hv,hd,λ⟨t,ht,hc⟩=>h t ht hc⟩,hp⟩
   .rintro⟨h,hp⟩;exact⟨λt ht hc=>h.2.2 ⟨t,ht,hc⟩,hp⟩
def l_rf0a(m:Za)(hl:Le m.Sort_.Steps)(ts:V4)(c:∀t∈ts,inT t)(hn:ts.length<=1000)(kind:Int)(hk:kind≠0)(x1 x2:Int)(p:Prop)(hc:X7 (XJ m x1 (w (x2+1))) p):∀j,j<=ts.length->
  X7 (Zaj m ts kind x1 x2 ts.length j) ((∀t∈ts.drop j,¬tcl m.Sort_ t<1)/\p):=by
 refine down _ ?_ ?_
 .refine(hc.of λr hr=>Wi.1.2.1.2 _ _ _ _ _ _ _ _ (by rw[Ynx];exact hr)).congr (by simp)
 .intro j hj ih;have h4:=ZL (i:=j) (by omega);have ht:=c _ (Yc hj);simp only[Yz,Y0]at ih;have pre:∀r,(if tcl m.Sort_ ts[j]<1 then some (.tup [I kind,L 1 (ts[j].map ic),.t .nil],[])=some r else Zaj m ts kind x1 x2 ts.length ((j:Int)+1)=some r)->Zaj m ts kind x1 x2 ts.length j=some r:=by
   intro r hr;apply Wi.1.2.1.2;rw[Ypx];refine⟨by omega,ts[j],by rw[Yk];exact Yf hj,_,Zcb _ hl ht,?_⟩;rw[show w ((j:Int)+1)=(j:Int)+1 from h4];exact hr
  refine X7.congr ?_ (Zic (P:=λt=>¬tcl m.Sort_ t<1) hj).symm;by_cases h:tcl m.Sort_ ts[j]<1
  .exact .inr ⟨λhc=>hc.1 h,kind,hk,.inr (.inr ⟨_,pre _ (by rw[Ya h])⟩)⟩
  .exact(ih.of λr hr=>pre r (by rw[Yb h];exact hr)).congr ⟨λhh=>⟨h,hh⟩,λhh=>hh.2⟩
def l_rf1a(m:Za)(hm:LeM m)(p:Prop)(hc:X7 (XJ m 5 2) p):X7 (XJ m 5 1) (XZ m.Sort_/\p):=by
 have hl:Le m.Sort_.Steps:=by obtain⟨h1,h2,h3,h4,h5⟩:=hm;assumption
 have w1:w (1+1)=2:=by decide
 have w2:w (1+1)=2:=by decide
 have pre:∀r,(∃v,W6 m.Sort_=some (Bo v,[])/\_)->XJ m 5 1=some r:=λr h=>Zel (by rw[Ypx,Ynx,Ya rfl];exact h)
 rcases tf (XY m.Sort_)with hv|hv
 .refine .inr ⟨λh=>(by have:=h.1.1;rw[hv]at this;cases this),2,by decide,.inr (.inl (pre _ ⟨false,by rw[VO _ hl,hv],?_⟩))⟩;rw[Yb (by simp),w1]
 rcases Zib m.Sort_ hl hv with⟨hd,xs,ys,d1⟩|⟨hd,d1⟩
 .refine .inr ⟨λh=>h.1.2.1 hd,2,by decide,.inl ⟨xs,ys,pre _ ⟨true,by rw[VO _ hl,hv],?_⟩⟩⟩;rw[Ya rfl,w1];exact .inr ⟨ys,xs,d1,rfl⟩
 .have b:=l_rf0a m hl WZ (λt h=>(QB t).1 h) (by rw[Zeu];omega) 2 (by decide) 5 1 p (by rw[w2];exact hc) 0 (Yd _);refine(b.of λr hr=>pre r ⟨true,by rw[VO _ hl,hv],?_⟩).congr ?_
  .rw[Ya rfl,w1];exact .inl ⟨d1,WZ,Zet,hr⟩
  .simp only[Ys,QB];constructor
   .rintro⟨h,hp⟩;exact⟨⟨hv,hd,λ⟨t,ht,hc⟩=>h t ht hc⟩,hp⟩
   .rintro⟨h,hp⟩;exact⟨λt ht hc=>h.2.2 ⟨t,ht,hc⟩,hp⟩
def l_rf0b(m:Za)(hl:Le m.Hash.Steps)(ts:V4)(c:∀t∈ts,inT t)(hn:ts.length<=1000)(kind:Int)(hk:kind≠0)(x1 x2:Int)(p:Prop)(hc:X7 (XJ m x1 (w (x2+1))) p):∀j,j<=ts.length->
  X7 (Zak m ts kind x1 x2 ts.length j) ((∀t∈ts.drop j,¬tcl m.Hash t<1)/\p):=by
 refine down _ ?_ ?_
 .refine(hc.of λr hr=>Wi.1.2.2.1 _ _ _ _ _ _ _ _ (by rw[Ynx];exact hr)).congr (by simp)
 .intro j hj ih;have h4:=ZL (i:=j) (by omega);have ht:=c _ (Yc hj);simp only[Yz,Y0]at ih;have pre:∀r,(if tcl m.Hash ts[j]<1 then some (.tup [I kind,L 1 (ts[j].map ic),.t .nil],[])=some r else Zak m ts kind x1 x2 ts.length ((j:Int)+1)=some r)->Zak m ts kind x1 x2 ts.length j=some r:=by
   intro r hr;apply Wi.1.2.2.1;rw[Ypx];refine⟨by omega,ts[j],by rw[Yk];exact Yf hj,_,Zcb _ hl ht,?_⟩;rw[show w ((j:Int)+1)=(j:Int)+1 from h4];exact hr
  refine X7.congr ?_ (Zic (P:=λt=>¬tcl m.Hash t<1) hj).symm;by_cases h:tcl m.Hash ts[j]<1
  .exact .inr ⟨λhc=>hc.1 h,kind,hk,.inr (.inr ⟨_,pre _ (by rw[Ya h])⟩)⟩
  .exact(ih.of λr hr=>pre r (by rw[Yb h];exact hr)).congr ⟨λhh=>⟨h,hh⟩,λhh=>hh.2⟩
def l_rf1b(m:Za)(hm:LeM m)(p:Prop)(hc:X7 (XJ m 5 3) p):X7 (XJ m 5 2) (XZ m.Hash/\p):=by
 have hl:Le m.Hash.Steps:=by obtain⟨h1,h2,h3,h4,h5⟩:=hm;assumption
 have w1:w (1+2)=3:=by decide
 have w2:w (2+1)=3:=by decide
 have pre:∀r,(∃v,W6 m.Hash=some (Bo v,[])/\_)->XJ m 5 2=some r:=λr h=>Zel (by rw[Ypx,Ynx,Ynx,Ya rfl];exact h)
 rcases tf (XY m.Hash)with hv|hv
 .refine .inr ⟨λh=>(by have:=h.1.1;rw[hv]at this;cases this),3,by decide,.inr (.inl (pre _ ⟨false,by rw[VO _ hl,hv],?_⟩))⟩;rw[Yb (by simp),w1]
 rcases Zib m.Hash hl hv with⟨hd,xs,ys,d1⟩|⟨hd,d1⟩
 .refine .inr ⟨λh=>h.1.2.1 hd,3,by decide,.inl ⟨xs,ys,pre _ ⟨true,by rw[VO _ hl,hv],?_⟩⟩⟩;rw[Ya rfl,w1];exact .inr ⟨ys,xs,d1,rfl⟩
 .have b:=l_rf0b m hl WZ (λt h=>(QB t).1 h) (by rw[Zeu];omega) 3 (by decide) 5 2 p (by rw[w2];exact hc) 0 (Yd _);refine(b.of λr hr=>pre r ⟨true,by rw[VO _ hl,hv],?_⟩).congr ?_
  .rw[Ya rfl,w1];exact .inl ⟨d1,WZ,Zet,hr⟩
  .simp only[Ys,QB];constructor
   .rintro⟨h,hp⟩;exact⟨⟨hv,hd,λ⟨t,ht,hc⟩=>h t ht hc⟩,hp⟩
   .rintro⟨h,hp⟩;exact⟨λt ht hc=>h.2.2 ⟨t,ht,hc⟩,hp⟩
def l_rf0c(m:Za)(hl:Le m.Merge.Steps)(ts:V4)(c:∀t∈ts,inT t)(hn:ts.length<=1000)(kind:Int)(hk:kind≠0)(x1 x2:Int)(p:Prop)(hc:X7 (XJ m x1 (w (x2+1))) p):∀j,j<=ts.length->
  X7 (Zal m ts kind x1 x2 ts.length j) ((∀t∈ts.drop j,¬tcl m.Merge t<1)/\p):=by
 refine down _ ?_ ?_
 .refine(hc.of λr hr=>Wi.1.2.2.2 _ _ _ _ _ _ _ _ (by rw[Ynx];exact hr)).congr (by simp)
 .intro j hj ih;have h4:=ZL (i:=j) (by omega);have ht:=c _ (Yc hj);simp only[Yz,Y0]at ih;have pre:∀r,(if tcl m.Merge ts[j]<1 then some (.tup [I kind,L 1 (ts[j].map ic),.t .nil],[])=some r else Zal m ts kind x1 x2 ts.length ((j:Int)+1)=some r)->Zal m ts kind x1 x2 ts.length j=some r:=by
   intro r hr;apply Wi.1.2.2.2;rw[Ypx];refine⟨by omega,ts[j],by rw[Yk];exact Yf hj,_,Zcb _ hl ht,?_⟩;rw[show w ((j:Int)+1)=(j:Int)+1 from h4];exact hr
  refine X7.congr ?_ (Zic (P:=λt=>¬tcl m.Merge t<1) hj).symm;by_cases h:tcl m.Merge ts[j]<1
  .exact .inr ⟨λhc=>hc.1 h,kind,hk,.inr (.inr ⟨_,pre _ (by rw[Ya h])⟩)⟩
  .exact(ih.of λr hr=>pre r (by rw[Yb h];exact hr)).congr ⟨λhh=>⟨h,hh⟩,λhh=>hh.2⟩
def l_rf1c(m:Za)(hm:LeM m)(p:Prop)(hc:X7 (XJ m 5 4) p):X7 (XJ m 5 3) (XZ m.Merge/\p):=by
 have hl:Le m.Merge.Steps:=by obtain⟨h1,h2,h3,h4,h5⟩:=hm;assumption
 have w1:w (1+3)=4:=by decide
 have w2:w (3+1)=4:=by decide
 have pre:∀r,(∃v,W6 m.Merge=some (Bo v,[])/\_)->XJ m 5 3=some r:=λr h=>Zel (by rw[Ypx,Ynx,Ynx,Ynx,Ya rfl];exact h)
 rcases tf (XY m.Merge)with hv|hv
 .refine .inr ⟨λh=>(by have:=h.1.1;rw[hv]at this;cases this),4,by decide,.inr (.inl (pre _ ⟨false,by rw[VO _ hl,hv],?_⟩))⟩;rw[Yb (by simp),w1]
 rcases Zib m.Merge hl hv with⟨hd,xs,ys,d1⟩|⟨hd,d1⟩
 .refine .inr ⟨λh=>h.1.2.1 hd,4,by decide,.inl ⟨xs,ys,pre _ ⟨true,by rw[VO _ hl,hv],?_⟩⟩⟩;rw[Ya rfl,w1];exact .inr ⟨ys,xs,d1,rfl⟩
 .have b:=l_rf0c m hl WZ (λt h=>(QB t).1 h) (by rw[Zeu];omega) 4 (by decide) 5 3 p (by rw[w2];exact hc) 0 (Yd _);refine(b.of λr hr=>pre r ⟨true,by rw[VO _ hl,hv],?_⟩).congr ?_
  .rw[Ya rfl,w1];exact .inl ⟨d1,WZ,Zet,hr⟩
  .simp only[Ys,QB];constructor
   .rintro⟨h,hp⟩;exact⟨⟨hv,hd,λ⟨t,ht,hc⟩=>h t ht hc⟩,hp⟩
   .rintro⟨h,hp⟩;exact⟨λt ht hc=>h.2.2 ⟨t,ht,hc⟩,hp⟩
def l_rf0d(m:Za)(hl:Le m.Nested.Steps)(ts:V4)(c:∀t∈ts,inT t)(hn:ts.length<=1000)(kind:Int)(hk:kind≠0)(x1 x2:Int)(p:Prop)(hc:X7 (XJ m x1 (w (x2+1))) p):∀j,j<=ts.length->
  X7 (Zam m ts kind x1 x2 ts.length j) ((∀t∈ts.drop j,¬tcl m.Nested t<1)/\p):=by
 refine down _ ?_ ?_
 .refine(hc.of λr hr=>Wi.2.1.1.1 _ _ _ _ _ _ _ _ (by rw[Ynx];exact hr)).congr (by simp)
 .intro j hj ih;have h4:=ZL (i:=j) (by omega);have ht:=c _ (Yc hj);simp only[Yz,Y0]at ih;have pre:∀r,(if tcl m.Nested ts[j]<1 then some (.tup [I kind,L 1 (ts[j].map ic),.t .nil],[])=some r else Zam m ts kind x1 x2 ts.length ((j:Int)+1)=some r)->Zam m ts kind x1 x2 ts.length j=some r:=by
   intro r hr;apply Wi.2.1.1.1;rw[Ypx];refine⟨by omega,ts[j],by rw[Yk];exact Yf hj,_,Zcb _ hl ht,?_⟩;rw[show w ((j:Int)+1)=(j:Int)+1 from h4];exact hr
  refine X7.congr ?_ (Zic (P:=λt=>¬tcl m.Nested t<1) hj).symm;by_cases h:tcl m.Nested ts[j]<1
  .exact .inr ⟨λhc=>hc.1 h,kind,hk,.inr (.inr ⟨_,pre _ (by rw[Ya h])⟩)⟩
  .exact(ih.of λr hr=>pre r (by rw[Yb h];exact hr)).congr ⟨λhh=>⟨h,hh⟩,λhh=>hh.2⟩
def l_rf1d(m:Za)(hm:LeM m)(p:Prop)(hc:X7 (XJ m 5 5) p):X7 (XJ m 5 4) (XZ m.Nested/\p):=by
 have hl:Le m.Nested.Steps:=by obtain⟨h1,h2,h3,h4,h5⟩:=hm;assumption
 have w1:w (1+4)=5:=by decide
 have w2:w (4+1)=5:=by decide
 have pre:∀r,(∃v,W6 m.Nested=some (Bo v,[])/\_)->XJ m 5 4=some r:=λr h=>Zel (by rw[Ypx,Ynx,Ynx,Ynx,Ynx,Ya rfl];exact h)
 rcases tf (XY m.Nested)with hv|hv
 .refine .inr ⟨λh=>(by have:=h.1.1;rw[hv]at this;cases this),5,by decide,.inr (.inl (pre _ ⟨false,by rw[VO _ hl,hv],?_⟩))⟩;rw[Yb (by simp),w1]
 rcases Zib m.Nested hl hv with⟨hd,xs,ys,d1⟩|⟨hd,d1⟩
 .refine .inr ⟨λh=>h.1.2.1 hd,5,by decide,.inl ⟨xs,ys,pre _ ⟨true,by rw[VO _ hl,hv],?_⟩⟩⟩;rw[Ya rfl,w1];exact .inr ⟨ys,xs,d1,rfl⟩
 .have b:=l_rf0d m hl WZ (λt h=>(QB t).1 h) (by rw[Zeu];omega) 5 (by decide) 5 4 p (by rw[w2];exact hc) 0 (Yd _);refine(b.of λr hr=>pre r ⟨true,by rw[VO _ hl,hv],?_⟩).congr ?_
  .rw[Ya rfl,w1];exact .inl ⟨d1,WZ,Zet,hr⟩
  .simp only[Ys,QB];constructor
   .rintro⟨h,hp⟩;exact⟨⟨hv,hd,λ⟨t,ht,hc⟩=>h t ht hc⟩,hp⟩
   .rintro⟨h,hp⟩;exact⟨λt ht hc=>h.2.2 ⟨t,ht,hc⟩,hp⟩
open Classical in
def Zu3(m:Za)(hm:LeM m):Ju m=some (Bo (decide (V9 m)),[]):=by
 have h5:X7 (XJ m 5 5) True:=.inl ⟨trivial,Zel (by rw[Ynx])⟩;have h0:=l_rf1 m hm _ (l_rf1a m hm _ (l_rf1b m hm _ (l_rf1c m hm _ (l_rf1d m hm _ h5))));have hop:Q5 m=some (.bsl 1 5,[.box (m.c.map .t),.box [.ptr 0 0,.ptr 0 6,.ptr 0 12,.ptr 0 18,.ptr 0 24]]):=XS.1.2.2.2.2 _ _ rfl;have hR:X7 (Zdc m) (V9 m):=(h0.of λr hr=>Wi.2.1.1.2 _ _ ⟨hop,hr⟩).congr (by simp[V9]);apply Wi.2.1.2.1;rcases hR with⟨h,h1⟩|⟨h,n,hn,⟨xs,ys,h1⟩|h1|⟨xs,h1⟩⟩
 .rw[decide_eq_true h];exact .inr (.inl ⟨0,h1,rfl⟩)
 .rw[decide_eq_false h];exact .inl ⟨ys,n,xs,h1,by rw[decide_eq_false hn]⟩
 .rw[decide_eq_false h];exact .inr (.inl ⟨n,h1,by rw[decide_eq_false hn]⟩)
 .rw[decide_eq_false h];exact .inr (.inr ⟨n,xs,h1,by rw[decide_eq_false hn]⟩)
