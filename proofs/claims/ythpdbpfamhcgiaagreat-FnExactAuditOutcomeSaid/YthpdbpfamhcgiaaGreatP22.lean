/-
  Parts of the proofs for this seat: G22 G23 G24.
-/
import Derived.Test.YthpdbpfamhcgiaaGreatP13
import Derived.Test.YthpdbpfamhcgiaaGreatP14
set_option linter.all false
set_option maxRecDepth 100000
set_option maxHeartbeats 4000000
namespace Go.Proofs.YthpdbpfamhcgiaaGreat
open Go.AM
def ZL6:((((iM ZnY λa a1 a2 r=>(qs2 (Zf7 a2) (λu1=>qI (ZjL a a1 u1) (λu2=>qi u2 r)))\/(Zf7 a2=some (.t .nil,[])/\qI (Z6s a a1) (λu1=>qi u1 r)))/\
 (iM ZjM λa a1 a2 r=>qB (Zjz a a1 a2) (qs2 (Zj1 a1 a2) (λu2=>qI (ZnY a a2 u2) (λu3=>qi u3 r))) (qi (-1) r)))/\
 ((iM ZjN λa a1 a2 r=>qL (qb false r) λk1=>qB (J9 a1) (qB (ZT a1.Num 0 1000000) (if 10000<a1.Den then k1 else qB (ZT a 0 100000000000000) (qB (ZT a2 0 1000000000000) (qb (decide ((w (a*a1.Den))<=(w (a1.Num*a2)))) r) k1) k1) k1) k1)/\
 (iM ZfG λa a1 a2 a3 a4 r=>qB (Zi0 a a2 a3) (qB (ZiU a1 a3.Xh) (qB (Qr a1.Zp a2) (∃(u4:ZW),∃u5,ZiY a1.Zp a2=some (.tup [.agg (u4.c.map .t),Bo u5],[])/\ZeK (Zja a3) (λu6 u7=>qB (Zjb a4.ZW u4) (qI (Zfq a4.Ws) (λu9=>if a4.U0=u9 then qB (Zfs a2 a3 a4.Ws) (qI (Zf2 a a1.Zp a2 a3 a4.Ws) (λu11=>if 0<=u11 then qi 5 r else qI (ZjM a a1.Zp a2) (λu12=>qB (ZjN a4.U0 u6 u12) (qi 0 r) (qi 6 r)))) (qi 4 r)else qi 3 r)) (qi 2 r))) (qi 1 r)) (qi 1 r)) (qi 1 r))))/\
 (((iM Qs λa a1 r=>if a1=1 then r (some (.agg (a.Z1.c.map .t),[]))else if a1=2 then r (some (.agg (a.Zz.c.map .t),[]))else if a1=3 then r (some (.agg (a.Z2.c.map .t),[]))else if a1=4 then r (some (.agg (a.Z3.c.map .t),[]))else r (some (.agg (a.Z4.c.map .t),[])))/\
 (iM Xb λa a1 a2 r=>if a1<=a then qb (decide (a<=a2)) r else qb false r))/\
 ((iM Za2 λa r=>qV (Xb a (-99) 99) (λu1=>qb u1 r))/\
 ((iM Zd0 λo i r=>if i<(o.Steps.length:Int)then qG o.Steps i (λu1=>qB (Xb u1.ZY 1 8192) (qB (Za2 u1.Add) (if 0<i then 0<=(w (i-1))/\∃u4,o.Steps[(w (i-1)).toNat]?=some u4/\if u1.ZY<=u4.ZY then qb false r else r (Zd0 o (w (i+1)))else r (Zd0 o (w (i+1)))) (qb false r)) (qb false r))else qb true r)/\
 (iM Za3 λa r=>qL (qb false r) λk1=>qB (Za2 a.ZD) (qB (Za2 a.ZE) (qB (Za2 a.ZF) (qB (Za2 a.ZG) (qB (Za2 a.ZH) (if 4<(a.Steps.length:Int)then k1 else r (Zd0 a 0)) k1) k1) k1) k1) k1)))))/\
 ((((iM ZfH λk n i r=>if i<k then r (ZfH k (if 1<(w (n*4))then(w (n*4))else 1) (w (i+1)))else qi n r)/\
 (iM QL λa r=>qB (Xb a 0 7) (r (ZfH a 0 0)) (qi (-1) r)))/\
 ((iM Zd1 λo l r_1 n i r=>if i<(o.Steps.length:Int)then qG o.Steps i (λu1=>if u1.ZY<=(w (l+r_1))then r (Zd1 o l r_1 (w (n+u1.Add)) (w (i+1)))else r (Zd1 o l r_1 n (w (i+1))))else qi n r)/\
 (iM Ua λa a1 a2 a3 r=>qB (Za3 a) (qB (Xb a1 0 4096) (qB (Xb a2 0 4096) (qB (Xb a3 0 4096) (r (Zd1 a a1 a2 (w ((w ((w ((w (a.ZD+(w (a.ZE*a1))))+(w (a.ZF*a2))))+(w (a.ZG*a3))))+(w ((w (a.ZH*a1))*a2)))) 0)) (qi 0 r)) (qi 0 r)) (qi 0 r)) (qi 0 r))))/\
 (((iM Zd2 λa a1 r=>∃u1,a1[0]?=some u1/\qI (QL u1) (λu2=>∃u3,a1[1]?=some u3/\qI (QL u3) (λu4=>∃u5,a1[2]?=some u5/\qI (QL u5) (λu6=>qI (Ua a u2 u4 u6) (λu7=>qi u7 r)))))/\
 (iM Zd3 λo a r=>if a<=7 then r (ZfI o a 0)else ZmA ([]:V6) r))/\
 ((iM ZfI λo a b r=>if b<=7 then r (ZfJ o a b 0)else r (Zd3 o (w (a+1))))/\
 ((iM ZfJ λo a b e r=>if e<=7 then r (Zb6 o ([a,b,e]) a b e 0)else r (ZfI o a (w (b+1))))/\
 (iM Zb6 λo x a b e k r=>if k<3 then qM x (qG x k (λu1=>qL (r (Zb6 o x a b e (w (k+1)))) λk1=>if(w (u1+1))<=7 then qL (x.set k.toNat (w (u1+1))) λk2=>qI (Zd2 o k2) (λu2=>qI (Zd2 o x) (λu3=>if u2<u3 then r (some (.tup [.own 0,.own 1,Bo true],[.arr 3 1 true (x.map ic),.arr 3 1 true (k2.map ic)]))else k1))else k1))else r (ZfJ o a b (w (e+1)))))))):=by
 refine qu ?_
 and_intros
 all_goals(intros;unfold Im;(try simp only[ZnY,ZjM,ZjN,ZfG,Qs,Xb,Za2,Zd0,Za3,ZfH,QL,Zd1,Ua,Zd2,Zd3,ZfI,ZfJ,Zb6,Zf7,ZjL,Z6s,Zn.c_def,Z8.c_def,Zf.c_def,Zjz,Zj1,Zp.c_def,J9,ZT,XO.c_def,Zi0,ZiU,Qr,ZiY,Zja,Zjb,Zfq,Zfs,Zf2,ZW.c_def,ZM.c_def,Box.c_def,ZN.c_def,ZR.c_def,Xr.c_def,lpz,Zod,ZvP,ZvQ,mpl,dfs]);(try simp only[itb]);(try simp only[itf,gS,kk]))
 all_goals(repeat' first|refine exI λ_=>?_|refine anJ λ_ _=>?_|refine anI λ_=>?_|refine orE2 ?_ ?_|exact False.elim)
 all_goals(intro h;first|refine run ZJc rfl ?_|refine run ZJd rfl ?_|refine run ZJe rfl ?_|refine run ZJf rfl ?_|refine run ZJg rfl ?_|refine run ZJh rfl ?_|refine run ZJi rfl ?_|rw[Zr ZvD.eq_1]|refine run ZJj rfl ?_|rw[Zr ZvG.eq_1]|refine run ZJk rfl ?_|rw[Zr ZvI.eq_1]|refine run ZJl rfl ?_|refine run ZJm rfl ?_|rw[Zr Zoc.eq_1]|rw[Zr Zob.eq_1]|rw[Zr Zoa.eq_1]|rw[Zr ZvK.eq_1])
 all_goals (refine Yd ?_ h;clear h;simp +decide[*,kk,tI,tII,Z6t,Z6u,Z6v,Z6w,Z6x,Z6y,Z6z,ZvE,Z60,ZvH,Z61,Z62,ZvJ,Z63,Z64,ZvO,ZvN,ZvM,ZvL])
abbrev WY:=uq ZL6
def ZL7:((iM ZjO λa r=>qB (Za3 a) (r (Zd3 a 0)) (ZmA ([]:V6) r))/\
 (iM ZfK λo a r=>if a<=7 then r (ZfL o a 0)else qs3 ([]:V6) r))/\
 ((iM ZfL λo a b r=>if b<=7 then r (ZjQ o a b 0)else r (ZfK o (w (a+1))))/\
 ((iM ZjQ λo a b e r=>if e<=7 then qI (Zd2 o ([a,b,e])) (λu1=>if u1<1 then qs3 ([a,b,e]) r else r (ZjQ o a b (w (e+1))))else r (ZfL o a (w (b+1))))/\
 (iM ZjP λa r=>r (ZfK a 0)))):=by
 refine qu ?_
 and_intros
 all_goals(intros;unfold Im;(try simp only[ZjO,ZfK,ZfL,ZjQ,ZjP,Za3,Z8.c_def,Zd2,Zd3,lpz,ZvV,ZvW,Zod,mpl,dfs]);(try simp only[itb]);(try simp only[itf,gS,kk]))
 all_goals(repeat' first|refine exI λ_=>?_|refine anJ λ_ _=>?_|refine anI λ_=>?_|refine orE2 ?_ ?_|exact False.elim)
 all_goals(intro h;first|refine run ZJn rfl ?_|rw[Zr Zof.eq_1]|rw[Zr Zoe.eq_1]|rw[Zr ZvR.eq_1]|refine run ZJo rfl ?_)
 all_goals (refine Yd ?_ h;clear h;simp +decide[*,kk,tI,tII,Z65,ZvU,ZvT,ZvS,Z66])
abbrev ZaB:=uq ZL7
def ZL8:((((iM ZfM λm k r=>qL ([]:V6) λk1=>if k<=5 then Zaf (Qs m k) (λu1=>qB (Za3 u1) (∃(u3:V6),∃(u4:V6),∃u5,ZjO u1=some (.tup [.own 0,.own 1,Bo u5],[.arr 3 1 true (u3.map ic),.arr 3 1 true (u4.map ic)])/\if u5=true then ZmB k u3 u4 r else qs2 (ZjP u1) (λu6=>if 0<(u6.length:Int)then ZmB k u6 k1 r else r (ZfM m (w (k+1))))) (r (some (.tup [I k,.own 0,.own 1],[.arr 3 1 true (k1.map ic),.arr 3 1 true (k1.map ic)]))))else r (some (.tup [I 0,.own 0,.own 1],[.arr 3 1 true (k1.map ic),.arr 3 1 true (k1.map ic)])))/\
 (iM Zwa λa r=>r (ZfM a 1)))/\
 ((iM Za5 λa r=>∃(u1:V6),∃(u2:V6),∃u3,Zwa a=some (.tup [I u3,.own 0,.own 1],[.arr 3 1 true (u1.map ic),.arr 3 1 true (u2.map ic)])/\qb (decide (u3=0)) r)/\
 (iM Zb7 λa r=>if(a.size:Int)=1 then ∃u1,a[0]?=some u1/\if 97<=(u1.toNat:Int)then qb (decide ((u1.toNat:Int)<=122)) r else qb false r else qb false r)))/\
 (((iM ZjR λrow n i r=>if i<(row.length:Int)then qG row i (λu1=>qB (Xb u1 0 9) (r (ZjR row n (w (i+1)))) (qb false r))else qb (decide ((row.length:Int)=n)) r)/\
 (iM ZfN λa a1 r=>r (ZjR a a1 0)))/\
 ((iM ZjS λa b i r=>if i<(a.length:Int)then if i<(b.length:Int)then qG a i (λu1=>qH b i (λu2=>if u1<u2 then qi (-1) r else if u2<u1 then qi 1 r else r (ZjS a b (w (i+1)))))else r (ZjT a b i false)else r (ZjT a b i false))/\
 ((iM ZjT λa b i x r=>if(a.length:Int)<(b.length:Int)then qi (-1) r else if(b.length:Int)<(a.length:Int)then qi 1 r else qi 0 r)/\
 (iM U6 λa a1 r=>r (ZjS a a1 0))))))/\
 ((((iM ZfO λt i r=>if i<(t.Rows.length:Int)then qG t.Rows i (λu1=>qB (ZfN u1 t.Zu) (if 0<i then 0<=(w (i-1))/\∃u3,t.Rows[(w (i-1)).toNat]?=some u3/\qI (U6 u3 u1) (λu4=>if 0<=u4 then qb false r else r (ZfO t (w (i+1))))else r (ZfO t (w (i+1)))) (qb false r))else qb true r)/\
 (iM Zd5 λa r=>qB (Zb7 a.Zq) (qB (Xb a.Zu 1 3) (if 8<(a.Rows.length:Int)then qb false r else r (ZfO a 0)) (qb false r)) (qb false r)))/\
 ((iM ZfQ λd i r=>if i<(d.Z6.length:Int)then qG d.Z6 i (λu1=>qB (Zd5 u1) (if 0<i then 0<=(w (i-1))/\∃u3,d.Z6[(w (i-1)).toNat]?=some u3/\if(Op.bytesLess u3.Zq.toList u1.Zq.toList)=true then r (ZfQ d (w (i+1)))else qb false r else r (ZfQ d (w (i+1)))) (qb false r))else qb (decide ((d.Z6.length:Int)<=6)) r)/\
 (iM ZfP λa r=>r (ZfQ a 0))))/\
 (((iM ZfR λout m v r=>if v<3 then ¬v<0/\if(andI (shrI m v) 1)=1 then qN out (r (ZfR (out++[v]) m (w (v+1))))else r (ZfR out m (w (v+1)))else qs3 out r)/\
 (iM Kk λa r=>r (ZfR ([]:V6) a 0)))/\
 ((iM Zd6 λout n m r=>qB (Xb n 1 3) (¬n<0/\if m<(shlI 1 n)then qs2 (Kk m) (λu2=>qN out (r (Zd6 (out++[u2]) n (w (m+1)))))else Qm out r) (Qm out r))/\
 ((iM ZjW λa r=>r (Zd6 ([]:V4) a 1))/\
 (iM ZfT λt cols i r=>if i<(cols.length:Int)then qG cols i (λu1=>qB (Xb u1 0 (w (t.Zu-1))) (qL (r (ZfT t cols (w (i+1)))) λk1=>if 0<i then 0<=(w (i-1))/\∃u3,cols[(w (i-1)).toNat]?=some u3/\if u1<=u3 then qb false r else k1 else k1) (qb false r))else qV (Zd5 t) (λu1=>qb u1 r)))))):=by
 refine qu ?_
 and_intros
 all_goals(intros;unfold Im;(try simp only[ZfM,Zwa,Za5,Zb7,ZjR,ZfN,ZjS,U6,ZfO,Zd5,ZfQ,ZfP,ZfR,Kk,Zd6,ZjW,ZfT,Qs,Za3,ZjO,ZjP,Zn.c_def,Z8.c_def,Xb,Zt.c_def,ZjT,lpz,mpl,dfs]);(try simp only[itb]);(try simp only[itf,gS,kk]))
 all_goals(repeat' first|refine exI λ_=>?_|refine anJ λ_ _=>?_|refine anI λ_=>?_|refine orE2 ?_ ?_|exact False.elim)
 all_goals(intro h;first|rw[Zr ZvY.eq_1]|refine run ZJp rfl ?_|refine run ZJq rfl ?_|refine run ZJr rfl ?_|rw[Zr Zwc.eq_1]|refine run ZJs rfl ?_|rw[Zr Zwf.eq_1]|rw[Zbh Zog.eq_1]|refine run ZJt rfl ?_|rw[Zr ZjU.eq_1]|refine run Z8I rfl ?_|rw[Zr Zwj.eq_1]|refine run ZJu rfl ?_|rw[Zr Zwl.eq_1]|refine run ZJv rfl ?_|rw[Zr Zwo.eq_1]|refine run ZJw rfl ?_|rw[Zr ZjX.eq_1])
 all_goals (refine Yd ?_ h;clear h;simp +decide[*,kk,tI,tII,ZvZ,Z67,Z68,Z69,Zwd,Z6A,Z6B,ZjV,Zwh,Zwk,Z6C,Z6D,Zwm,Z6E,Zwp,Z6F,ZjY])
abbrev Wl:=uq ZL8
def ZL9:(((iM ZfS λa a1 r=>r (ZfT a a1 0))/\
 ((iM ZjZ λout row cols i r=>if i<(cols.length:Int)then qG cols i (λu1=>qB (Xb u1 0 (w ((row.length:Int)-1))) (qG row u1 (λu3=>qN out (r (ZjZ (out++[u3]) row cols (w (i+1)))))) (r (some (.tup [.own 0,Bo false],[.arr 3 1 true (([]:V6).map ic)]))))else Zm5 out r)/\
 (iM Zb8 λa a1 r=>r (ZjZ ([]:V6) a a1 0))))/\
 ((iM ZfW λout rows row put i r=>if i<(rows.length:Int)then qG rows i (λu1=>qI (U6 u1 row) (λu2=>qL (ZfW (out++[u1]) rows row) λk2=>qL (qM u1 (qN out (r (k2 true (w (i+1)))))) λk1=>if u2=0 then if 0<u2 then k1 else k1 else if 0<u2 then if put=true then k1 else qM row (qN out (qM u1 (out.length+1+1<=68719476736/\r (ZfW ((out++[row])++[u1]) rows row true (w (i+1))))))else qM u1 (qN out (r (k2 put (w (i+1)))))))else if put=true then Qm out r else qM row (qN out (Qm (out++[row]) r)))/\
 ((iM ZfV λa a1 r=>r (ZfW ([]:V4) a a1 false 0))/\
 (iM Zkb λt values counts cols i r=>if i<(t.Rows.length:Int)then qG t.Rows i (λu1=>ZeM (Zb8 u1 cols) (λu2 u3=>UR (ZfV values u2) (λu4=>r (Zkb t u4 counts cols (w (i+1))))))else r (ZfX t values counts cols 0)))))/\
 (((iM ZfX λt values counts cols k r=>if k<(values.length:Int)then r (Zkc t values counts cols k 0 0)else Zic values counts r)/\
 ((iM Zkc λt values counts cols k n i r=>if i<(t.Rows.length:Int)then qG t.Rows i (λu1=>ZeM (Zb8 u1 cols) (λu2 u3=>qG values k (λu4=>qI (U6 u2 u4) (λu5=>qL (Zkc t values counts cols k) λk1=>if u5=0 then r (k1 (w (n+1)) (w (i+1)))else r (k1 n (w (i+1)))))))else qN counts (r (ZfX t values (counts++[n]) cols (w (k+1)))))/\
 (iM Zka λa a1 r=>qB (ZfS a a1) (r (Zkb a ([]:V4) ([]:V6) a1 0)) (Zic ([]:V4) ([]:V6) r))))/\
 ((iM Zw8 λt Zq Zu VD Name1 Arity1 RowCount1 l i r=>if i<(l.length:Int)then qG l i (λu1=>ZeF (Zka t u1) (λu2 u3=>r (Zkd t Zq Zu VD Name1 Arity1 RowCount1 false ([(⟨u1,u2,u3⟩:ZC)]) l (w (i+1)))))else r (some (.agg [.t (.str Name1),I Arity1,I RowCount1,.t .nil],[])))/\
 ((iM Zkd λt Zq Zu VD Name1 Arity1 RowCount1 fr x l i r=>if i<(l.length:Int)then qG l i (λu1=>ZeF (Zka t u1) (λu2 u3=>qN x (r (Zkd t Zq Zu VD Name1 Arity1 RowCount1 false (x++[(⟨u1,u2,u3⟩:ZC)]) l (w (i+1))))))else r (some (.agg [.t (.str Name1),I Arity1,I RowCount1,.own 0],[.arr 389 3 fr (x.map ZC.c)])))/\
 (iM Zb9 λa r=>qB (Zd5 a) (UR (ZjW a.Zu) (λu2=>r (Zw8 a (⟨#[]⟩:YA) 0 0 a.Zq a.Zu (a.Rows.length:Int) u2 0))) (Zm6 r))))):=by
 refine qu ?_
 and_intros
 all_goals(intros;unfold Im;(try simp only[ZfS,ZjZ,Zb8,ZfW,ZfV,Zkb,ZfX,Zkc,Zka,Zw8,Zkd,Zb9,Xb,U6,Zt.c_def,Zd5,ZjW,ZfT,lpz,Zok,Zw3,Zw7,mpl,dfs]);(try simp only[itb]);(try simp only[itf,gS,kk]))
 all_goals(repeat' first|refine exI λ_=>?_|refine anJ λ_ _=>?_|refine anI λ_=>?_|refine orE2 ?_ ?_|exact False.elim)
 all_goals(intro h;first|refine run Z8J rfl ?_|rw[Zr Zwt.eq_1]|refine run ZJx rfl ?_|rw[Zr Zoi.eq_1]|refine run Z8K rfl ?_|rw[Zr Zwx.eq_1]|rw[Zr Zol.eq_1]|rw[Zr Zwy.eq_1]|refine run ZJy rfl ?_|rw[Zr Zw5.eq_1]|refine run ZJz rfl ?_)
 all_goals (refine Yd ?_ h;clear h;simp +decide[*,kk,tI,tII,Zwr,Zwu,Z6G,Z6H,Z6I,Zwv,Zoj,Zww,Zw2,Zw1,Z6J,Zw0,Zwz,Z6K,Zw6,Z6L])
abbrev Ud:=uq ZL9
def ZLA:((((iM ZwD λd Xh Version1 i r=>if i<(d.Z6.length:Int)then qG d.Z6 i (λu1=>(∃u2 u3 u4,Zb9 u1=some (.agg [.t (.str u2),I u3,I u4,.t .nil],[])/\r (Zd7 d Xh Version1 true ([(⟨u2,u3,u4,[]⟩:Z5)]) (w (i+1))))\/(∃u2,∃(u3:List ZC),∃u4,∃u5,∃u6,Zb9 u1=some (.agg [.t (.str u4),I u5,I u6,.own 0],[.arr 389 3 u2 (u3.map ZC.c)])/\r (Zd7 d Xh Version1 u2 ([(⟨u4,u5,u6,u3⟩:Z5)]) (w (i+1)))))else ZeG Version1 ([]:List Z5) r)/\
 (iM Zd7 λd Xh Version1 fr x i r=>if i<(d.Z6.length:Int)then qG d.Z6 i (λu1=>(∃u2 u3 u4,Zb9 u1=some (.agg [.t (.str u2),I u3,I u4,.t .nil],[])/\qN x (r (Zd7 d Xh Version1 fr (x++[(⟨u2,u3,u4,[]⟩:Z5)]) (w (i+1)))))\/(∃u2,∃(u3:List ZC),∃u4,∃u5,∃u6,Zb9 u1=some (.agg [.t (.str u4),I u5,I u6,.own 0],[.arr 389 3 u2 (u3.map ZC.c)])/\qN x (r (Zd7 d Xh Version1 (fr && u2) (x++[(⟨u4,u5,u6,u3⟩:Z5)]) (w (i+1))))))else ZeG Version1 x r))/\
 ((iM Zke λa a1 r=>qL (Zm1 ([]:List Z5) r) λk1=>qB (ZfP a) (qB (Xb a1 1 999) (r (ZwD a 0 a1 0)) k1) k1)/\
 (iM ZfY λa b i r=>if i<(a.Xs.length:Int)then qG a.Xs i (λu1=>qH b.Xs i (λu2=>qI (U6 u1.Ql u2.Ql) (λu3=>if u3=0 then qI (U6 u1.Ke u2.Ke) (λu4=>if u4=0 then if(u1.W7.length:Int)=(u2.W7.length:Int)then r (Zkg a b u1 u2 i 0)else qb false r else qb false r)else qb false r)))else qb true r)))/\
 (((iM Zkg λa b x y i k r=>if k<(x.W7.length:Int)then qG x.W7 k (λu1=>qH y.W7 k (λu2=>qI (U6 u1 u2) (λu3=>if u3=0 then r (Zkg a b x y i (w (k+1)))else qb false r)))else r (ZfY a b (w (i+1))))/\
 (iM Zon λa a1 r=>qL (qb false r) λk1=>if a.Zq=a1.Zq then if a.Zu=a1.Zu then if a.VD=a1.VD then if(a.Xs.length:Int)=(a1.Xs.length:Int)then r (ZfY a a1 0)else k1 else k1 else k1 else k1))/\
 ((iM Zki λa b i r=>if i<(a.Z6.length:Int)then qG a.Z6 i (λu1=>qH b.Z6 i (λu2=>qB (Zon u1 u2) (r (Zki a b (w (i+1)))) (qb false r)))else qb true r)/\
 ((iM Zkh λa a1 r=>if a.Xh=a1.Xh then if(a.Z6.length:Int)=(a1.Z6.length:Int)then r (Zki a a1 0)else qb false r else qb false r)/\
 (iM ZwP λt Zq Zu Name1 Arity1 i r=>if i<(t.Rows.length:Int)then qG t.Rows i (λu1=>qM u1 (r (Zkk t Zq Zu Name1 Arity1 ([u1]) (w (i+1)))))else r (some (.agg [.t (.str Name1),I Arity1,.t .nil],[])))))))/\
 ((((iM Zkk λt Zq Zu Name1 Arity1 x i r=>if i<(t.Rows.length:Int)then qG t.Rows i (λu1=>qM u1 (qN x (r (Zkk t Zq Zu Name1 Arity1 (x++[u1]) (w (i+1))))))else r (some (.agg [.t (.str Name1),I Arity1,.own 0],[.arr 40 1 true (x.map isc)])))/\
 (iM Zkj λa r=>r (ZwP a (⟨#[]⟩:YA) 0 a.Zq a.Zu 0)))/\
 ((iM Zkl λd Zq Zu name i r=>if i<(d.Z6.length:Int)then qB (ZfP d) (qG d.Z6 i (λu2=>if u2.Zq=name then((∃u3 u4,Zkj u2=some (.agg [.t (.str u3),I u4,.t .nil],[])/\r (some (.tup [.agg [.t (.str u3),I u4,.t .nil],Bo true],[])))\/(∃(u3:V4),∃u4,∃u5,Zkj u2=some (.agg [.t (.str u4),I u5,.own 0],[.arr 40 1 true (u3.map isc)])/\r (some (.tup [.agg [.t (.str u4),I u5,.own 0],Bo true],[.arr 40 1 true (u3.map isc)]))))else r (Zkl d Zq Zu name (w (i+1))))) (ZeH r)else ZeH r)/\
 (iM WX λa a1 r=>r (Zkl a (⟨#[]⟩:YA) 0 a1 0))))/\
 (((iM ZzK λZq Zu i r=>if i<0 then False else qb true r)/\
 (iM Zoo λZq Zu r=>qB (Zb7 Zq) (qB (Xb Zu 1 3) (r (ZzK Zq Zu 0)) (qb false r)) (qb false r)))/\
 ((iM Zlz λZq Zu cols i r=>if i<(cols.length:Int)then qG cols i (λu1=>qB (Xb u1 0 (w (Zu-1))) (qL (r (Zlz Zq Zu cols (w (i+1)))) λk1=>if 0<i then 0<=(w (i-1))/\∃u3,cols[(w (i-1)).toNat]?=some u3/\if u1<=u3 then qb false r else k1 else k1) (qb false r))else qV (Zoo Zq Zu) (λu1=>qb u1 r))/\
 ((iM Zkm λZq Zu a r=>r (Zlz Zq Zu a 0))/\
 (iM ZfZ λl x i r=>if i<(l.length:Int)then qG l i (λu1=>if u1=x then qb true r else r (ZfZ l x (w (i+1))))else qb false r))))):=by
 refine qu ?_
 and_intros
 all_goals(intros;unfold Im;(try simp only[ZwD,Zd7,Zke,ZfY,Zkg,Zon,Zki,Zkh,ZwP,Zkk,Zkj,Zkl,WX,ZzK,Zoo,Zlz,Zkm,ZfZ,Zb9,Zt.c_def,ZfP,Xb,Zp.c_def,U6,Z5.c_def,Zb7,ZwC,lpz,ZwH,ZwO,mpl,dfs]);(try simp only[itb]);(try simp only[itf,gS,kk]))
 all_goals(repeat' first|refine exI λ_=>?_|refine anJ λ_ _=>?_|refine anI λ_=>?_|refine orE2 ?_ ?_|exact False.elim)
 all_goals(intro h;first|rw[Zr ZwA.eq_1]|refine run ZJ0 rfl ?_|rw[Zr Zom.eq_1]|rw[Zr ZwE.eq_1]|refine run ZJ1 rfl ?_|rw[Zr ZwJ.eq_1]|refine run ZJ2 rfl ?_|rw[Zr ZwM.eq_1]|refine run ZJ3 rfl ?_|rw[Zr ZwR.eq_1]|refine run ZJ4 rfl ?_|rw[Zr ZjU.eq_1]|refine run Z8I rfl ?_|rw[Zr ZjX.eq_1]|refine run Z8J rfl ?_|rw[Zr ZwU.eq_1])
 all_goals (refine Yd ?_ h;clear h;simp +decide[*,kk,tI,tII,ZwB,Z6M,ZwG,ZwF,Z6N,ZwK,Z6O,ZwN,Z6P,ZwS,Z6Q,ZjV,Zwh,ZjY,Zwr,ZwV])
abbrev WI:=uq ZLA
def ZLB:((iM QM λa a1 r=>r (ZfZ a a1 0))/\
 ((iM Zga λa a1 r=>qL (qV (QM a1.ZY a1.To) (λu6=>qb (!u6) r)) λk1=>qL (qb false r) λk2=>(∃u1 u2 u3,WX a a1.Zq=some (.tup [.agg [.t (.str u1),I u2,.t .nil],Bo u3],[])/\if u3=true then qB (Zkm u1 u2 a1.ZY) (qB (Xb a1.To 0 (w (u2-1))) k1 k2) k2 else k2)\/(∃(u1:V4),∃u2,∃u3,WX a a1.Zq=some (.tup [.agg [.t (.str u2),I u3,.own 0],Bo true],[.arr 40 1 true (u1.map isc)])/\qB (ZfS (⟨u2,u3,u1⟩:Zt) a1.ZY) (qB (Xb a1.To 0 (w (u3-1))) k1 k2) k2))/\
 (iM Zxb λd f Zq Zu k r=>if k<0 then qB (Zga d f) False (qs3 ([]:V6) r)else qs3 ([]:V6) r)))/\
 (((iM Zgb λd f Zq Zu x k r=>if k<(x.length:Int)then qB (Zga d f) (qG x k (λu2=>ZeM (Zb8 u2 f.ZY) (λu3 u4=>r (ZbA d f Zq Zu x u3 k 0)))) (qs3 ([]:V6) r)else qs3 ([]:V6) r)/\
 (iM ZbA λd f Zq Zu x y k i r=>if i<k then qG x i (λu1=>ZeM (Zb8 u1 f.ZY) (λu2 u3=>qI (U6 u2 y) (λu4=>qL (r (ZbA d f Zq Zu x y k (w (i+1)))) λk1=>if u4=0 then qG u1 f.To (λu5=>qG x k (λu6=>qH u6 f.To (λu7=>if u5=u7 then k1 else qs3 ([i,k]) r)))else k1)))else r (Zgb d f Zq Zu x (w (k+1)))))/\
 ((iM Zoq λa a1 r=>(∃u1 u2 u3,WX a a1.Zq=some (.tup [.agg [.t (.str u1),I u2,.t .nil],Bo u3],[])/\r (Zxb a a1 u1 u2 0))\/(∃(u1:V4),∃u2,∃u3,WX a a1.Zq=some (.tup [.agg [.t (.str u2),I u3,.own 0],Bo true],[.arr 40 1 true (u1.map isc)])/\r (Zgb a a1 u2 u3 u1 0)))/\
 (iM Zko λa a1 r=>qB (Zga a a1) (qs2 (Zoq a a1) (λu2=>qb (decide ((u2.length:Int)=0)) r)) (qb false r)))):=by
 refine qu ?_
 and_intros
 all_goals(intros;unfold Im;(try simp only[QM,Zga,Zxb,Zgb,ZbA,Zoq,Zko,WX,Zkm,Xb,ZfS,Zp.c_def,Zt.c_def,ZA.c_def,Zb8,U6,ZfZ,Zxa,lpz,ZwZ,mpl,dfs]);(try simp only[itb]);(try simp only[itf,gS,kk]))
 all_goals(repeat' first|refine exI λ_=>?_|refine anJ λ_ _=>?_|refine anI λ_=>?_|refine orE2 ?_ ?_|exact False.elim)
 all_goals(intro h;first|refine run ZJ5 rfl ?_|refine run ZJ6 rfl ?_|rw[Zr Zop.eq_1]|rw[Zr ZwW.eq_1]|refine run ZJ7 rfl ?_|refine run ZJ8 rfl ?_)
 all_goals (refine Yd ?_ h;clear h;simp +decide[*,kk,tI,tII,Z6R,Z6S,ZwY,ZwX,Z6T,Z6U])
abbrev JK:=uq ZLB
