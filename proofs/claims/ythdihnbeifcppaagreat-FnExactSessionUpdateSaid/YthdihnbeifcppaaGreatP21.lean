/-
  Parts of the proofs for this seat: G20 G21.
-/
import Derived.Test.YthdihnbeifcppaaGreatP13
set_option linter.all false
set_option maxRecDepth 100000
set_option maxHeartbeats 4000000
namespace Go.Proofs.YthdihnbeifcppaaGreat
open Go.AM
def ZF2:(((iM Zd5 λa b i r=>if i<(a.Groups.length:Int)then qG a.Groups i (λu1=>qH b.Groups i (λu2=>qI (Uj u1.Columns u2.Columns) (λu3=>if u3=0 then qI (Uj u1.Counts u2.Counts) (λu4=>if u4=0 then if(u1.Values.length:Int)=(u2.Values.length:Int)then r (ZgZ a b u1 u2 i 0)else qb false r else qb false r)else qb false r)))else qb true r)/\
 ((iM ZgZ λa b x y i k r=>if k<(x.Values.length:Int)then qG x.Values k (λu1=>qH y.Values k (λu2=>qI (Uj u1 u2) (λu3=>if u3=0 then r (ZgZ a b x y i (w (k+1)))else qb false r)))else r (Zd5 a b (w (i+1))))/\
 (iM ZkR λa a1 r=>qL (qb false r) λk1=>if a.Name=a1.Name then if a.Arity=a1.Arity then if a.RowCount=a1.RowCount then if(a.Groups.length:Int)=(a1.Groups.length:Int)then r (Zd5 a a1 0)else k1 else k1 else k1 else k1)))/\
 (((iM Zhb λa b i r=>if i<(a.Tables.length:Int)then qG a.Tables i (λu1=>qH b.Tables i (λu2=>qB (ZkR u1 u2) (r (Zhb a b (w (i+1)))) (qb false r)))else qb true r)/\
 (iM Zha λa a1 r=>if a.Version=a1.Version then if(a.Tables.length:Int)=(a1.Tables.length:Int)then r (Zhb a a1 0)else qb false r else qb false r))/\
 ((iM Zhc λd Name Arity name i r=>if i<(d.Tables.length:Int)then qB (Q7 d) (qG d.Tables i (λu2=>if u2.Name=name then ∃(u3:V4),∃u4,∃u5,W7 u2=some (.agg [.t (.str u4),I u5,.own 0],[.arr 42 1 true (u3.map isc)])/\r (some (.tup [.agg [.t (.str u4),I u5,.own 0],Bo true],[.arr 42 1 true (u3.map isc)]))else r (Zhc d Name Arity name (w (i+1))))) (ZcF r)else ZcF r)/\
 (iM V7 λa a1 r=>r (Zhc a (⟨#[]⟩:UP) 0 a1 0)))))/\
 ((((iM Zhd λl x i r=>if i<(l.length:Int)then qG l i (λu1=>if u1=x then qb true r else r (Zhd l x (w (i+1))))else qb false r)/\
 (iM Zas λa a1 r=>r (Zhd a a1 0)))/\
 ((iM Zhe λa a1 r=>(∃(u1:V4),∃u2,∃u3,V7 a a1.Name=some (.tup [.agg [.t (.str u2),I u3,.own 0],Bo true],[.arr 42 1 true (u1.map isc)])/\qB (ZbJ (⟨u2,u3,u1⟩:Zc) a1.From) (qB (Xg a1.To 0 (w (u3-1))) (qV (Zas a1.From a1.To) (λu6=>qb (!u6) r)) (qb false r)) (qb false r))\/(∃u1 u2,V7 a a1.Name=some (.tup [.agg [.t (.str u1),I u2,.t .nil],Bo false],[])/\qb false r))/\
 (iM Zd6 λd f Name Arity x k r=>if k<(x.length:Int)then qB (Zhe d f) (qG x k (λu2=>ZcJ (J2 u2 f.From) (λu3 u4=>r (Zat d f Name Arity x u3 k 0)))) (qs3 ([]:V6) r)else qs3 ([]:V6) r)))/\
 (((iM Zat λd f Name Arity x y k i r=>if i<k then qG x i (λu1=>ZcJ (J2 u1 f.From) (λu2 u3=>qI (Uj u2 y) (λu4=>qL (r (Zat d f Name Arity x y k (w (i+1)))) λk1=>if u4=0 then qG u1 f.To (λu5=>qG x k (λu6=>qH u6 f.To (λu7=>if u5=u7 then k1 else qs3 ([i,k]) r)))else k1)))else r (Zd6 d f Name Arity x (w (k+1))))/\
 (iM ZkT λa a1 r=>(∃(u1:V4),∃u2,∃u3,V7 a a1.Name=some (.tup [.agg [.t (.str u2),I u3,.own 0],Bo true],[.arr 42 1 true (u1.map isc)])/\r (Zd6 a a1 u2 u3 u1 0))\/(∃u1 u2,V7 a a1.Name=some (.tup [.agg [.t (.str u1),I u2,.t .nil],Bo false],[])/\r (Z0W a a1 u1 u2 0))))/\
 ((iM Zhg λa a1 r=>qB (Zhe a a1) (qs2 (ZkT a a1) (λu2=>qb (decide ((u2.length:Int)=0)) r)) (qb false r))/\
 (iM Zd7 λa a1 r=>qL (V7 a a1.Into) λk1=>qL (qb false r) λk2=>(∃(u1:V4),∃u2,∃u3,V7 a a1.Name=some (.tup [.agg [.t (.str u2),I u3,.own 0],Bo true],[.arr 42 1 true (u1.map isc)])/\((∃(u4:V4),∃u5,∃u6,k1=some (.tup [.agg [.t (.str u5),I u6,.own 0],Bo true],[.arr 42 1 true (u4.map isc)])/\qB (Xg a1.Column 0 (w (u3-1))) (qV (Xg a1.IntoColumn 0 (w (u6-1))) (λu8=>qb u8 r)) k2)\/(∃u4 u5,k1=some (.tup [.agg [.t (.str u4),I u5,.t .nil],Bo false],[])/\k2)))\/(∃u1 u2,V7 a a1.Name=some (.tup [.agg [.t (.str u1),I u2,.t .nil],Bo false],[])/\((∃(u3:V4),∃u4,∃u5,k1=some (.tup [.agg [.t (.str u4),I u5,.own 0],Bo true],[.arr 42 1 true (u3.map isc)])/\k2)\/(∃u3 u4,k1=some (.tup [.agg [.t (.str u3),I u4,.t .nil],Bo false],[])/\k2))))))):=by
 refine qu ?_
 and_intros
 all_goals(intros;unfold Im;(try simp only[Zd5,ZgZ,ZkR,Zhb,Zha,Zhc,V7,Zhd,Zas,Zhe,Zd6,Zat,ZkT,Zhg,Zd7,Uj,Zk.c_def,Q7,W7,Zl.c_def,Zc.c_def,ZbJ,Xg,J2,Zp.c_def,Z0W,lpz,Zsg,Zsu,Zst,mpl,dfs]);(try simp only[itb]);(try simp only[itf,gS,kk]))
 all_goals(repeat' first|refine exI λ_=>?_|refine anJ λ_ _=>?_|refine anI λ_=>?_|refine orE2 ?_ ?_|exact False.elim)
 all_goals(intro h;first|rw[Zn ZkQ.eq_1]|rw[Zn Zsd.eq_1]|refine run ZDO rfl ?_|rw[Zn Zsi.eq_1]|refine run ZDP rfl ?_|rw[Zn Zsl.eq_1]|refine run ZDQ rfl ?_|rw[Zn Zso.eq_1]|refine run ZDR rfl ?_|refine run ZDS rfl ?_|rw[Zn ZkS.eq_1]|rw[Zn Zsq.eq_1]|refine run ZDT rfl ?_|refine run ZDU rfl ?_|refine run ZDV rfl ?_)
 all_goals (refine Ye ?_ h;clear h;simp +decide[*,kk,tI,tII,Zsf,Zse,Z0Q,Zsj,Z0R,Zsm,Z0S,Zsp,Z0T,Z0U,Zss,Zsr,Z0V,Z0X,Z0Y])
abbrev W8:=uq ZF2
def ZF3:(((iM Kg λx out Name Arity x1 Name1 Arity1 x2 v r=>if v<=9 then r (Zhj x out Name Arity x1 Name1 Arity1 x2 v false false 0)else qs3 out r)/\
 ((iM Zhj λx out Name Arity x1 Name1 Arity1 x2 v one two i r=>if i<(x1.length:Int)then qL (Zhj x out Name Arity x1 Name1 Arity1 x2 v) λk1=>if one=true then r (k1 true two (w (i+1)))else qG x1 i (λu1=>qG u1 x.Column (λu2=>r (k1 (decide (u2=v)) two (w (i+1)))))else r (Zd8 x out Name Arity x1 Name1 Arity1 x2 v one two 0))/\
 (iM Zd8 λx out Name Arity x1 Name1 Arity1 x2 v one two i r=>if i<(x2.length:Int)then qL (Zd8 x out Name Arity x1 Name1 Arity1 x2 v one) λk2=>if two=true then r (k2 true (w (i+1)))else qG x2 i (λu1=>qG u1 x.IntoColumn (λu2=>r (k2 (decide (u2=v)) (w (i+1)))))else qL (r (Kg x out Name Arity x1 Name1 Arity1 x2 (w (v+1)))) λk1=>if one=true then if two=true then k1 else qN out (r (Kg x (out++[v]) Name Arity x1 Name1 Arity1 x2 (w (v+1))))else k1)))/\
 (((iM Zs0 λa a1 r=>qL ([]:V6) λk1=>qB (Zd7 a a1) (qL (V7 a a1.Into) λk2=>(∃(u2:V4),∃u3,∃u4,V7 a a1.Name=some (.tup [.agg [.t (.str u3),I u4,.own 0],Bo true],[.arr 42 1 true (u2.map isc)])/\((∃(u5:V4),∃u6,∃u7,k2=some (.tup [.agg [.t (.str u6),I u7,.own 0],Bo true],[.arr 42 1 true (u5.map isc)])/\r (Kg a1 k1 u3 u4 u2 u6 u7 u5 0))\/(∃u5 u6,k2=some (.tup [.agg [.t (.str u5),I u6,.t .nil],Bo false],[])/\r (Z1a a1 k1 u3 u4 u2 u5 u6 0))))\/(∃u2 u3,V7 a a1.Name=some (.tup [.agg [.t (.str u2),I u3,.t .nil],Bo false],[])/\((∃(u4:V4),∃u5,∃u6,k2=some (.tup [.agg [.t (.str u5),I u6,.own 0],Bo true],[.arr 42 1 true (u4.map isc)])/\r (Z1b a1 k1 u2 u3 u5 u6 u4 0))\/(∃u4 u5,k2=some (.tup [.agg [.t (.str u4),I u5,.t .nil],Bo false],[])/\r (Z1c a1 k1 u2 u3 u4 u5 0))))) (qs3 k1 r))/\
 (iM ZkW λa a1 r=>qB (Zd7 a a1) (qs2 (Zs0 a a1) (λu2=>qb (decide ((u2.length:Int)=0)) r)) (qb false r)))/\
 ((iM Zhl λd deps incs i r=>if i<(deps.length:Int)then qG deps i (λu1=>qB (Zhg d u1) (r (Zhl d deps incs (w (i+1)))) (qb false r))else r (Zhm d incs 0))/\
 (iM Zhm λd incs i r=>if i<(incs.length:Int)then qG incs i (λu1=>qB (ZkW d u1) (r (Zhm d incs (w (i+1)))) (qb false r))else qb true r))))/\
 ((((iM Zd9 λa a1 a2 r=>if 8<(a1.length:Int)then qb false r else if 8<(a2.length:Int)then qb false r else r (Zhl a a1 a2 0))/\
 (iM ZbM λa r=>∃(u1:Zu),∃u2,ZbL a.Zl a.Zu.Version=some (.tup [.agg (u1.c.map .t),Bo u2],[])/\if u2=true then qB (Zha u1 a.Zu) (qV (Zd9 a.Zl a.Dependencies a.Inclusions) (λu4=>qb u4 r)) (qb false r)else qb false r))/\
 ((iM Qe λa a1 r=>if a1=1 then r (some (.agg (a.Scan.c.map .t),[]))else if a1=2 then r (some (.agg (a.Sort_.c.map .t),[]))else if a1=3 then r (some (.agg (a.Hash.c.map .t),[]))else if a1=4 then r (some (.agg (a.Merge.c.map .t),[]))else r (some (.agg (a.Nested.c.map .t),[])))/\
 (iM J4 λa r=>qV (Xg a (-99) 99) (λu1=>qb u1 r))))/\
 (((iM ZbN λo i r=>if i<(o.Steps.length:Int)then qG o.Steps i (λu1=>qB (Xg u1.From 1 8192) (qB (J4 u1.Add) (if 0<i then 0<=(w (i-1))/\∃u4,o.Steps[(w (i-1)).toNat]?=some u4/\if u1.From<=u4.From then qb false r else r (ZbN o (w (i+1)))else r (ZbN o (w (i+1)))) (qb false r)) (qb false r))else qb true r)/\
 (iM Zav λa r=>qL (qb false r) λk1=>qB (J4 a.Fixed) (qB (J4 a.Zv) (qB (J4 a.Zw) (qB (J4 a.Zz) (qB (J4 a.Zx) (if 4<(a.Steps.length:Int)then k1 else r (ZbN a 0)) k1) k1) k1) k1) k1))/\
 ((iM ZdA λk n i r=>if i<k then r (ZdA k (if 1<(w (n*4))then(w (n*4))else 1) (w (i+1)))else qi n r)/\
 (iM J5 λa r=>qB (Xg a 0 7) (r (ZdA a 0 0)) (qi (-1) r))))):=by
 refine qu ?_
 and_intros
 all_goals(intros;unfold Im;(try simp only[Kg,Zhj,Zd8,Zs0,ZkW,Zhl,Zhm,Zd9,ZbM,Qe,J4,ZbN,Zav,ZdA,J5,Zd7,V7,Zl.c_def,Zr.c_def,Zhg,Zp.c_def,ZbL,Zha,Zu.c_def,Xg,Z1a,Z1b,Z1c,Zhi,lpz,ZkV,mpl,dfs]);(try simp only[itb]);(try simp only[itf,gS,kk]))
 all_goals(repeat' first|refine exI λ_=>?_|refine anJ λ_ _=>?_|refine anI λ_=>?_|refine orE2 ?_ ?_|exact False.elim)
 all_goals(intro h;first|rw[Zn Zhh.eq_1]|rw[Zn Zsv.eq_1]|rw[Zn Zsw.eq_1]|refine run ZDW rfl ?_|refine run ZDX rfl ?_|rw[Zn Zs1.eq_1]|rw[Zn Zs2.eq_1]|refine run ZDY rfl ?_|refine run ZDZ rfl ?_|refine run ZEa rfl ?_|refine run ZEb rfl ?_|rw[Zn Zs6.eq_1]|refine run ZEc rfl ?_|rw[Zn Zs9.eq_1]|refine run ZEd rfl ?_)
 all_goals (refine Ye ?_ h;clear h;simp +decide[*,kk,tI,tII,Zsz,Zsy,ZkU,Zsx,Z0Z,Z1d,Zs4,Zs3,Z1e,Z1f,Z1g,Z1h,Zs7,Z1i,ZsA,Z1j])
abbrev WM:=uq ZF3
