/-
  Parts of the proofs for this seat: G18 G19.
-/
import Derived.Test.YthdihnbeifcppaaGreatP13
set_option linter.all false
set_option maxRecDepth 100000
set_option maxHeartbeats 4000000
namespace Go.Proofs.YthdihnbeifcppaaGreat
open Go.AM
def ZFy:((((iM Zrf λs Name Arity RowCount Name1 Arity1 RowCount1 i r=>if i<(s.Groups.length:Int)then qG s.Groups i (λu1=>qM u1.Columns (qM u1.Counts (r (Zrg s Name Arity RowCount Name1 Arity1 RowCount1 u1.Columns u1.Counts i 0))))else r (some (.agg [.t (.str Name1),I Arity1,I RowCount1,.own 0],[.arr 249 3 true (([]:List Zy).map Zy.c)])))/\
 (iM Zrg λs Name Arity RowCount Name1 Arity1 RowCount1 x x1 i k r=>qG s.Groups i (λu1=>if k<(u1.Values.length:Int)then qG u1.Values k (λu2=>qM u2 (r (ZgB s Name Arity RowCount Name1 Arity1 RowCount1 x ([u2]) x1 i (w (k+1)))))else r (J0 s Name Arity RowCount Name1 Arity1 RowCount1 ([(⟨x,[],x1⟩:Zy)]) (w (i+1))))))/\
 ((iM ZgB λs Name Arity RowCount Name1 Arity1 RowCount1 x x1 x2 i k r=>qG s.Groups i (λu1=>if k<(u1.Values.length:Int)then qG u1.Values k (λu2=>qM u2 (qN x1 (r (ZgB s Name Arity RowCount Name1 Arity1 RowCount1 x (x1++[u2]) x2 i (w (k+1))))))else r (J0 s Name Arity RowCount Name1 Arity1 RowCount1 ([(⟨x,x1,x2⟩:Zy)]) (w (i+1)))))/\
 (iM J0 λs Name Arity RowCount Name1 Arity1 RowCount1 x i r=>if i<(s.Groups.length:Int)then qG s.Groups i (λu1=>qM u1.Columns (qM u1.Counts (r (Zrh s Name Arity RowCount Name1 Arity1 RowCount1 x u1.Columns u1.Counts i 0))))else r (some (.agg [.t (.str Name1),I Arity1,I RowCount1,.own 0],[.arr 249 3 true (x.map Zy.c)])))))/\
 (((iM Zrh λs Name Arity RowCount Name1 Arity1 RowCount1 x x1 x2 i k r=>qG s.Groups i (λu1=>if k<(u1.Values.length:Int)then qG u1.Values k (λu2=>qM u2 (r (ZgC s Name Arity RowCount Name1 Arity1 RowCount1 x x1 ([u2]) x2 i (w (k+1)))))else qN x (r (J0 s Name Arity RowCount Name1 Arity1 RowCount1 (x++[(⟨x1,[],x2⟩:Zy)]) (w (i+1))))))/\
 (iM ZgC λs Name Arity RowCount Name1 Arity1 RowCount1 x x1 x2 x3 i k r=>qG s.Groups i (λu1=>if k<(u1.Values.length:Int)then qG u1.Values k (λu2=>qM u2 (qN x2 (r (ZgC s Name Arity RowCount Name1 Arity1 RowCount1 x x1 (x2++[u2]) x3 i (w (k+1))))))else qN x (r (J0 s Name Arity RowCount Name1 Arity1 RowCount1 (x++[(⟨x1,x2,x3⟩:Zy)]) (w (i+1)))))))/\
 ((iM Zg9 λa r=>r (Zrf a (⟨#[]⟩:UP) 0 0 a.Name a.Arity a.RowCount 0))/\
 ((iM Zrm λc Version Version1 i r=>if i<(c.Tables.length:Int)then qG c.Tables i (λu1=>∃(u2:List Zy),∃u3,∃u4,∃u5,Zg9 u1=some (.agg [.t (.str u3),I u4,I u5,.own 0],[.arr 249 3 true (u2.map Zy.c)])/\r (ZgD c Version Version1 ([(⟨u3,u4,u5,u2⟩:Zk)]) (w (i+1))))else r (some (.agg [I Version1,.own 0],[.arr 191 4 true (([]:List Zk).map Zk.c)])))/\
 (iM ZgD λc Version Version1 x i r=>if i<(c.Tables.length:Int)then qG c.Tables i (λu1=>∃(u2:List Zy),∃u3,∃u4,∃u5,Zg9 u1=some (.agg [.t (.str u3),I u4,I u5,.own 0],[.arr 249 3 true (u2.map Zy.c)])/\qN x (r (ZgD c Version Version1 (x++[(⟨u3,u4,u5,u2⟩:Zk)]) (w (i+1)))))else r (some (.agg [I Version1,.own 0],[.arr 191 4 true (x.map Zk.c)])))))))/\
 ((((iM ZkJ λa r=>r (Zrm a 0 a.Version 0))/\
 (iM ZgF λout l i r=>if i<(l.length:Int)then qG l i (λu1=>qM u1.From (qN out (r (ZgF (out++[u1]) l (w (i+1))))))else Zjp out r))/\
 ((iM ZgE λa r=>r (ZgF ([]:List Zp) a 0))/\
 (iM J1 λa r=>qs6 (Ux a.Zl) (λu1=>∃(u2:List Zk),∃u3,ZkJ a.Zu=some (.agg [I u3,.own 0],[.arr 191 4 true (u2.map Zk.c)])/\Zfi (ZgE a.Dependencies) (λu4=>qM a.Inclusions (Zjq u3 u1 u2 u4 a.Inclusions r))))))/\
 (((iM ZbF λa r=>qM a.Steps (r (some (.agg [I a.Fixed,I a.Zv,I a.Zw,I a.Zz,I a.Zx,.own 0],[.arr 256 2 true (a.Steps.map Zd.c)]))))/\
 (iM ZgG λa r=>Zbn (ZbF a.Scan) (λu1 u2 u3 u4 u5 u6=>Zbn (ZbF a.Sort_) (λu7 u8 u9 u10 u11 u12=>Zbn (ZbF a.Hash) (λu13 u14 u15 u16 u17 u18=>Zbn (ZbF a.Merge) (λu19 u20 u21 u22 u23 u24=>Zbn (ZbF a.Nested) (λu25 u26 u27 u28 u29 u30=>r (some (.agg [I u2,I u3,I u4,I u5,I u6,.own 0,I u8,I u9,I u10,I u11,I u12,.own 1,I u14,I u15,I u16,I u17,I u18,.own 2,I u20,I u21,I u22,I u23,I u24,.own 3,I u26,I u27,I u28,I u29,I u30,.own 4],[.arr 256 2 true (u1.map Zd.c),.arr 256 2 true (u7.map Zd.c),.arr 256 2 true (u13.map Zd.c),.arr 256 2 true (u19.map Zd.c),.arr 256 2 true (u25.map Zd.c)])))))))))/\
 ((iM Zru λq Zm VariableCount1 i r=>if i<(q.Atoms.length:Int)then qG q.Atoms i (λu1=>qM u1.Vars (r (ZgI q Zm VariableCount1 ([u1]) (w (i+1)))))else r (some (.agg [I VariableCount1,L 2 (([]:List Ze).map Ze.c)],[])))/\
 ((iM ZgI λq Zm VariableCount1 x i r=>if i<(q.Atoms.length:Int)then qG q.Atoms i (λu1=>qM u1.Vars (qN x (r (ZgI q Zm VariableCount1 (x++[u1]) (w (i+1))))))else r (some (.agg [I VariableCount1,L 2 (x.map Ze.c)],[])))/\
 (iM ZgH λa r=>r (Zru a 0 a.Zm 0)))))):=by
 refine qu ?_
 and_intros
 all_goals(intros;unfold Im;(try simp only[Zrf,Zrg,ZgB,J0,Zrh,ZgC,Zg9,Zrm,ZgD,ZkJ,ZgF,ZgE,J1,ZbF,ZgG,Zru,ZgI,ZgH,Zk.c_def,Ux,Zu.c_def,Zl.c_def,Zp.c_def,Z0.c_def,Zre,lpz,Zrd,ZgA,Zrl,Zrt,mpl,dfs]);(try simp only[itb]);(try simp only[itf,gS,kk]))
 all_goals(repeat' first|refine exI λ_=>?_|refine anJ λ_ _=>?_|refine anI λ_=>?_|refine orE2 ?_ ?_|exact False.elim)
 all_goals(intro h;first|rw[Zn ZkI.eq_1]|rw[Zn ZqZ.eq_1]|refine run ZDz rfl ?_|rw[Zn Zrj.eq_1]|refine run ZD0 rfl ?_|rw[Zn Zro.eq_1]|refine run ZD1 rfl ?_|refine run ZD2 rfl ?_|refine run ZD3 rfl ?_|refine run ZD4 rfl ?_|rw[Zn Zrr.eq_1]|refine run ZD5 rfl ?_)
 all_goals (refine Ye ?_ h;clear h;simp +decide[*,kk,tI,tII,Zrc,Zrb,Zra,Z0w,Zrk,Z0x,Zrp,Z0y,Z0z,Z00,Z01,Zrs,Z02])
abbrev XT:=uq ZFy
def ZFz:(((iM ZkK λa r=>qM a.Low (qM a.High (r (some (.agg (a.c.map .t),[])))))/\
 (iM ZkL λa r=>qM a.Zg.Steps (∃(u1:Box),ZkK a.Box=some (.agg (u1.c.map .t),[])/\r (some (.agg [L 3 (a.Zg.Steps.map Zh.c),L 1 (u1.Low.map ic),L 1 (u1.High.map ic),I a.Percent],[])))))/\
 ((iM Zar λa r=>∃(u1:Zj),ZgH a.Zj=some (.agg (u1.c.map .t),[])/\∃(u2:Region),ZkL a.Region=some (.agg (u2.c.map .t),[])/\r (some (.agg [I u1.Zm,L 2 (u1.Atoms.map Ze.c),L 3 (u2.Zg.Steps.map Zh.c),L 1 (u2.Box.Low.map ic),L 1 (u2.Box.High.map ic),I u2.Percent,I a.Version,I a.Used],[])))/\
 ((iM Zrz λc Clock Clock1 i r=>if i<(c.Entries.length:Int)then qG c.Entries i (λu1=>∃(u2:Zo),Zar u1=some (.agg (u2.c.map .t),[])/\r (ZgJ c Clock Clock1 false ([u2]) (w (i+1))))else r (some (.agg [I Clock1,L 8 (([]:List Zo).map Zo.c)],[])))/\
 (iM ZgJ λc Clock Clock1 fr x i r=>if i<(c.Entries.length:Int)then qG c.Entries i (λu1=>∃(u2:Zo),Zar u1=some (.agg (u2.c.map .t),[])/\qN x (r (ZgJ c Clock Clock1 false (x++[u2]) (w (i+1)))))else r (some (.agg [I Clock1,L 8 (x.map Zo.c)],[]))))))/\
 (((iM Zdx λa r=>r (Zrz a 0 a.Clock 0))/\
 ((iM ZgK λa r=>JY (J1 a.Zs) (λu1 u2 u3 u4 u5=>Zju (ZgG a.Za) (λu6 u7 u8 u9 u10 u11 u12 u13 u14 u15 u16 u17 u18 u19 u20 u21 u22 u23 u24 u25 u26 u27 u28 u29 u30 u31 u32 u33 u34 u35=>∃(u36:ZH),Zdx a.Cache=some (.agg (u36.c.map .t),[])/\r (some (.agg [L 3 (u1.map Zc.c),I u5,L 4 (u2.map Zk.c),L 3 (u3.map Zp.c),L 4 (u4.map Zr.c),I u11,I u12,I u13,I u14,I u15,L 2 (u6.map Zd.c),I u16,I u17,I u18,I u19,I u20,L 2 (u7.map Zd.c),I u21,I u22,I u23,I u24,I u25,L 2 (u8.map Zd.c),I u26,I u27,I u28,I u29,I u30,L 2 (u9.map Zd.c),I u31,I u32,I u33,I u34,I u35,L 2 (u10.map Zd.c),I u36.Clock,L 8 (u36.Entries.map Zo.c),I a.Ratio,I a.Slack,I a.Queries,I a.Spent],[])))))/\
 (iM ZbG λa r=>if(a.size:Int)=1 then ∃u1,a[0]?=some u1/\if 97<=(u1.toNat:Int)then qb (decide ((u1.toNat:Int)<=122)) r else qb false r else qb false r)))/\
 ((iM Xg λa a1 a2 r=>if a1<=a then qb (decide (a<=a2)) r else qb false r)/\
 ((iM ZgL λrow n i r=>if i<(row.length:Int)then qG row i (λu1=>qB (Xg u1 0 9) (r (ZgL row n (w (i+1)))) (qb false r))else qb (decide ((row.length:Int)=n)) r)/\
 (iM ZbH λa a1 r=>r (ZgL a a1 0))))):=by
 refine qu ?_
 and_intros
 all_goals(intros;unfold Im;(try simp only[ZkK,ZkL,Zar,Zrz,ZgJ,Zdx,ZgK,ZbG,Xg,ZgL,ZbH,Box.c_def,ZgH,Zg.c_def,Zj.c_def,Region.c_def,Zo.c_def,J1,ZgG,Zu.c_def,Zl.c_def,Za.c_def,Z0.c_def,ZH.c_def,Zs.c_def,Zry,lpz,mpl,dfs]);(try simp only[itb]);(try simp only[itf,gS,kk]))
 all_goals(repeat' first|refine exI λ_=>?_|refine anJ λ_ _=>?_|refine anI λ_=>?_|refine orE2 ?_ ?_|exact False.elim)
 all_goals(intro h;first|refine run ZD6 rfl ?_|refine run ZD7 rfl ?_|refine run ZD8 rfl ?_|rw[Zn Zrw.eq_1]|refine run ZD9 rfl ?_|refine run ZDA rfl ?_|refine run ZDB rfl ?_|refine run ZDC rfl ?_|rw[Zn Zr1.eq_1]|refine run ZDD rfl ?_)
 all_goals (refine Ye ?_ h;clear h;simp +decide[*,kk,tI,tII,Z03,Z04,Z05,Zrx,Z06,Z07,Z08,Z09,Zr2,Z0A])
abbrev Qi:=uq ZFz
def ZF0:((((iM ZgM λa b i r=>if i<(a.length:Int)then if i<(b.length:Int)then qG a i (λu1=>qH b i (λu2=>if u1<u2 then qi (-1) r else if u2<u1 then qi 1 r else r (ZgM a b (w (i+1)))))else r (ZgN a b i false)else r (ZgN a b i false))/\
 (iM ZgN λa b i x r=>if(a.length:Int)<(b.length:Int)then qi (-1) r else if(b.length:Int)<(a.length:Int)then qi 1 r else qi 0 r))/\
 ((iM Uj λa a1 r=>r (ZgM a a1 0))/\
 (iM Zdy λt i r=>if i<(t.Rows.length:Int)then qG t.Rows i (λu1=>qB (ZbH u1 t.Arity) (if 0<i then 0<=(w (i-1))/\∃u3,t.Rows[(w (i-1)).toNat]?=some u3/\qI (Uj u3 u1) (λu4=>if 0<=u4 then qb false r else r (Zdy t (w (i+1))))else r (Zdy t (w (i+1)))) (qb false r))else qb true r)))/\
 (((iM Q6 λa r=>qB (ZbG a.Name) (qB (Xg a.Arity 1 3) (if 8<(a.Rows.length:Int)then qb false r else r (Zdy a 0)) (qb false r)) (qb false r))/\
 (iM Zdz λd i r=>if i<(d.Tables.length:Int)then qG d.Tables i (λu1=>qB (Q6 u1) (if 0<i then 0<=(w (i-1))/\∃u3,d.Tables[(w (i-1)).toNat]?=some u3/\if(Op.bytesLess u3.Name.toList u1.Name.toList)=true then r (Zdz d (w (i+1)))else qb false r else r (Zdz d (w (i+1)))) (qb false r))else qb (decide ((d.Tables.length:Int)<=6)) r))/\
 ((iM Q7 λa r=>r (Zdz a 0))/\
 ((iM Zd0 λout m v r=>if v<3 then ¬v<0/\if(andI (shrI m v) 1)=1 then qN out (r (Zd0 (out++[v]) m (w (v+1))))else r (Zd0 out m (w (v+1)))else qs3 out r)/\
 (iM Q8 λa r=>r (Zd0 ([]:V6) a 0))))))/\
 ((((iM ZbI λout n m r=>qB (Xg n 1 3) (¬n<0/\if m<(shlI 1 n)then qs2 (Q8 m) (λu2=>qN out (r (ZbI (out++[u2]) n (w (m+1)))))else KB out r) (KB out r))/\
 (iM ZgQ λa r=>r (ZbI ([]:V4) a 1)))/\
 ((iM ZgR λt cols i r=>if i<(cols.length:Int)then qG cols i (λu1=>qB (Xg u1 0 (w (t.Arity-1))) (qL (r (ZgR t cols (w (i+1)))) λk1=>if 0<i then 0<=(w (i-1))/\∃u3,cols[(w (i-1)).toNat]?=some u3/\if u1<=u3 then qb false r else k1 else k1) (qb false r))else qV (Q6 t) (λu1=>qb u1 r))/\
 (iM ZbJ λa a1 r=>r (ZgR a a1 0))))/\
 (((iM ZgS λout row cols i r=>if i<(cols.length:Int)then qG cols i (λu1=>qB (Xg u1 0 (w ((row.length:Int)-1))) (qG row u1 (λu3=>qN out (r (ZgS (out++[u3]) row cols (w (i+1)))))) (r (some (.tup [.own 0,Bo false],[.arr 3 1 true (([]:V6).map ic)]))))else Zjw out r)/\
 (iM J2 λa a1 r=>r (ZgS ([]:V6) a a1 0)))/\
 ((iM Zd3 λout rows row put i r=>if i<(rows.length:Int)then qG rows i (λu1=>qI (Uj u1 row) (λu2=>qL (Zd3 (out++[u1]) rows row) λk2=>qL (qM u1 (qN out (r (k2 true (w (i+1)))))) λk1=>if u2=0 then if 0<u2 then k1 else k1 else if 0<u2 then if put=true then k1 else qM row (qN out (qM u1 (out.length+1+1<=68719476736/\r (Zd3 ((out++[row])++[u1]) rows row true (w (i+1))))))else qM u1 (qN out (r (k2 put (w (i+1)))))))else if put=true then KB out r else qM row (qN out (KB (out++[row]) r)))/\
 ((iM Zd2 λa a1 r=>r (Zd3 ([]:V4) a a1 false 0))/\
 (iM Zd4 λt values counts cols i r=>if i<(t.Rows.length:Int)then qG t.Rows i (λu1=>ZcJ (J2 u1 cols) (λu2 u3=>KC (Zd2 values u2) (λu4=>r (Zd4 t u4 counts cols (w (i+1))))))else r (ZbK t values counts cols 0)))))):=by
 refine qu ?_
 and_intros
 all_goals(intros;unfold Im;(try simp only[ZgM,Uj,Zdy,Q6,Zdz,Q7,Zd0,Q8,ZbI,ZgQ,ZgR,ZbJ,ZgS,J2,Zd3,Zd2,Zd4,ZbH,ZbG,Xg,Zc.c_def,ZgN,ZbK,lpz,ZkP,mpl,dfs]);(try simp only[itb]);(try simp only[itf,gS,kk]))
 all_goals(repeat' first|refine exI λ_=>?_|refine anJ λ_ _=>?_|refine anI λ_=>?_|refine orE2 ?_ ?_|exact False.elim)
 all_goals(intro h;first|rw[Zn Zr4.eq_1]|rw[Ev_eq ZkM.eq_1]|refine run ZDE rfl ?_|rw[Zn Zr6.eq_1]|refine run ZDF rfl ?_|rw[Zn ZgO.eq_1]|refine run Z22 rfl ?_|rw[Zn ZrA.eq_1]|refine run ZDG rfl ?_|rw[Zn ZrD.eq_1]|refine run ZDH rfl ?_|rw[Zn ZrG.eq_1]|refine run ZDI rfl ?_|rw[Zn ZrJ.eq_1]|refine run ZDJ rfl ?_|rw[Zn ZrL.eq_1]|refine run ZDK rfl ?_|rw[Zn ZrN.eq_1])
 all_goals (refine Ye ?_ h;clear h;simp +decide[*,kk,tI,tII,Z0B,Zr7,Z0C,ZgP,Zr9,Z0D,ZrB,Z0E,ZrE,Z0F,ZrH,Z0G,ZrK,Z0H,Z0I,Z0J,Z0K,ZrM,Z0L,ZrS])
abbrev X9:=uq ZF0
def ZF1:(((iM ZbK λt values counts cols k r=>if k<(values.length:Int)then r (ZgU t values counts cols k 0 0)else Zfk values counts r)/\
 (iM ZgU λt values counts cols k n i r=>if i<(t.Rows.length:Int)then qG t.Rows i (λu1=>ZcJ (J2 u1 cols) (λu2 u3=>qG values k (λu4=>qI (Uj u2 u4) (λu5=>qL (ZgU t values counts cols k) λk1=>if u5=0 then r (k1 (w (n+1)) (w (i+1)))else r (k1 n (w (i+1)))))))else qN counts (r (ZbK t values (counts++[n]) cols (w (k+1))))))/\
 ((iM ZgT λa a1 r=>qB (ZbJ a a1) (r (Zd4 a ([]:V4) ([]:V6) a1 0)) (Zfk ([]:V4) ([]:V6) r))/\
 (iM ZrX λt Name Arity RowCount Name1 Arity1 RowCount1 l i r=>if i<(l.length:Int)then qG l i (λu1=>Zj2 (ZgT t u1) (λu2 u3=>r (ZgW t Name Arity RowCount Name1 Arity1 RowCount1 false ([(⟨u1,u2,u3⟩:Zy)]) l (w (i+1)))))else r (some (.agg [.t (.str Name1),I Arity1,I RowCount1,L 3 (([]:List Zy).map Zy.c)],[])))))/\
 (((iM ZgW λt Name Arity RowCount Name1 Arity1 RowCount1 fr x l i r=>if i<(l.length:Int)then qG l i (λu1=>Zj2 (ZgT t u1) (λu2 u3=>qN x (r (ZgW t Name Arity RowCount Name1 Arity1 RowCount1 false (x++[(⟨u1,u2,u3⟩:Zy)]) l (w (i+1))))))else r (some (.agg [.t (.str Name1),I Arity1,I RowCount1,L 3 (x.map Zy.c)],[])))/\
 (iM ZgV λa r=>qB (Q6 a) (KC (ZgQ a.Arity) (λu2=>r (ZrX a (⟨#[]⟩:UP) 0 0 a.Name a.Arity (a.Rows.length:Int) u2 0))) (r (some (.agg [.t (.str (⟨#[]⟩:UP)),I 0,I 0,L 3 (([]:List Zy).map Zy.c)],[])))))/\
 ((iM Zsc λd Version Version1 i r=>if i<(d.Tables.length:Int)then qG d.Tables i (λu1=>∃(u2:Zk),ZgV u1=some (.agg (u2.c.map .t),[])/\r (ZgX d Version Version1 false ([u2]) (w (i+1))))else Zj3 Version1 ([]:List Zk) r)/\
 ((iM ZgX λd Version Version1 fr x i r=>if i<(d.Tables.length:Int)then qG d.Tables i (λu1=>∃(u2:Zk),ZgV u1=some (.agg (u2.c.map .t),[])/\qN x (r (ZgX d Version Version1 false (x++[u2]) (w (i+1)))))else Zj3 Version1 x r)/\
 (iM ZbL λa a1 r=>qL (qs62 ([]:List Zk) r) λk1=>qB (Q7 a) (qB (Xg a1 1 999) (r (Zsc a 0 a1 0)) k1) k1)))):=by
 refine qu ?_
 and_intros
 all_goals(intros;unfold Im;(try simp only[ZbK,ZgU,ZgT,ZrX,ZgW,ZgV,Zsc,ZgX,ZbL,J2,Uj,ZbJ,Zc.c_def,Q6,ZgQ,Zk.c_def,Q7,Xg,Zl.c_def,Zd4,lpz,ZkP,ZrW,Zsb,mpl,dfs]);(try simp only[itb]);(try simp only[itf,gS,kk]))
 all_goals(repeat' first|refine exI λ_=>?_|refine anJ λ_ _=>?_|refine anI λ_=>?_|refine orE2 ?_ ?_|exact False.elim)
 all_goals(intro h;first|rw[Zn ZkO.eq_1]|rw[Zn ZrO.eq_1]|refine run ZDL rfl ?_|rw[Zn ZrU.eq_1]|refine run ZDM rfl ?_|rw[Zn ZrZ.eq_1]|refine run ZDN rfl ?_)
 all_goals (refine Ye ?_ h;clear h;simp +decide[*,kk,tI,tII,ZrR,Z0M,ZrQ,ZrP,Z0N,ZrV,Z0O,Zsa,Z0P])
abbrev Qj:=uq ZF1
