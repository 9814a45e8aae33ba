/-
  Parts of the proofs for this seat: G25 G26 G27.
-/
import Derived.Test.YthpdbpfamhcgiaaGreatP13
import Derived.Test.YthpdbpfamhcgiaaGreatP14
set_option linter.all false
set_option maxRecDepth 100000
set_option maxHeartbeats 4000000
namespace Go.Proofs.YthpdbpfamhcgiaaGreat
open Go.AM
def ZLC:((((iM Zkp λa a1 r=>qL (qb false r) λk1=>qL (Xb a1.XC 0) λk2=>qL (Xb a1.Xu 0) λk3=>qL (WX a a1.Vr) λk4=>(∃u1 u2 u3,WX a a1.Zq=some (.tup [.agg [.t (.str u1),I u2,.t .nil],Bo u3],[])/\((∃u4 u5 u6,k4=some (.tup [.agg [.t (.str u4),I u5,.t .nil],Bo u6],[])/\if u3=true then if u6=true then qB (k3 (w (u2-1))) (qV (k2 (w (u5-1))) (λu8=>qb u8 r)) k1 else k1 else k1)\/(∃(u4:V4),∃u5,∃u6,k4=some (.tup [.agg [.t (.str u5),I u6,.own 0],Bo true],[.arr 40 1 true (u4.map isc)])/\if u3=true then qB (k3 (w (u2-1))) (qV (k2 (w (u6-1))) (λu8=>qb u8 r)) k1 else k1)))\/(∃(u1:V4),∃u2,∃u3,WX a a1.Zq=some (.tup [.agg [.t (.str u2),I u3,.own 0],Bo true],[.arr 40 1 true (u1.map isc)])/\((∃u4 u5 u6,k4=some (.tup [.agg [.t (.str u4),I u5,.t .nil],Bo u6],[])/\if u6=true then qB (k3 (w (u3-1))) (qV (k2 (w (u5-1))) (λu8=>qb u8 r)) k1 else k1)\/(∃(u4:V4),∃u5,∃u6,k4=some (.tup [.agg [.t (.str u5),I u6,.own 0],Bo true],[.arr 40 1 true (u4.map isc)])/\qB (k3 (w (u3-1))) (qV (k2 (w (u6-1))) (λu8=>qb u8 r)) k1))))/\
 (iM KT λx out Zq Zu Name1 Arity1 v r=>if v<=9 then r (Zkt x out Zq Zu Name1 Arity1 v false false 0)else qs3 out r))/\
 ((iM KU λx out Zq Zu Name1 Arity1 x1 v r=>if v<=9 then r (Zku x out Zq Zu Name1 Arity1 x1 v false false 0)else qs3 out r)/\
 (iM KV λx out Zq Zu x1 Name1 Arity1 v r=>if v<=9 then r (Zkv x out Zq Zu x1 Name1 Arity1 v false false 0)else qs3 out r)))/\
 (((iM KW λx out Zq Zu x1 Name1 Arity1 x2 v r=>if v<=9 then r (Zkw x out Zq Zu x1 Name1 Arity1 x2 v false false 0)else qs3 out r)/\
 (iM Zkt λx out Zq Zu Name1 Arity1 v one two i r=>if i<0 then if one=true then r (Zkt x out Zq Zu Name1 Arity1 v true two (w (i+1)))else False else r (Zgc x out Zq Zu Name1 Arity1 v one two 0)))/\
 ((iM Zku λx out Zq Zu Name1 Arity1 x1 v one two i r=>if i<0 then if one=true then r (Zku x out Zq Zu Name1 Arity1 x1 v true two (w (i+1)))else False else r (Zgd x out Zq Zu Name1 Arity1 x1 v one two 0))/\
 ((iM Zkv λx out Zq Zu x1 Name1 Arity1 v one two i r=>if i<(x1.length:Int)then qL (Zkv x out Zq Zu x1 Name1 Arity1 v) λk1=>if one=true then r (k1 true two (w (i+1)))else qG x1 i (λu1=>qG u1 x.Xu (λu2=>r (k1 (decide (u2=v)) two (w (i+1)))))else r (Zge x out Zq Zu x1 Name1 Arity1 v one two 0))/\
 (iM Zkw λx out Zq Zu x1 Name1 Arity1 x2 v one two i r=>if i<(x1.length:Int)then qL (Zkw x out Zq Zu x1 Name1 Arity1 x2 v) λk1=>if one=true then r (k1 true two (w (i+1)))else qG x1 i (λu1=>qG u1 x.Xu (λu2=>r (k1 (decide (u2=v)) two (w (i+1)))))else r (Zgf x out Zq Zu x1 Name1 Arity1 x2 v one two 0))))))/\
 ((((iM Zgc λx out Zq Zu Name1 Arity1 v one two i r=>if i<0 then if two=true then r (Zgc x out Zq Zu Name1 Arity1 v one true (w (i+1)))else False else qL (r (KT x out Zq Zu Name1 Arity1 (w (v+1)))) λk1=>if one=true then if two=true then k1 else qN out (r (KT x (out++[v]) Zq Zu Name1 Arity1 (w (v+1))))else k1)/\
 (iM Zgd λx out Zq Zu Name1 Arity1 x1 v one two i r=>if i<(x1.length:Int)then qL (Zgd x out Zq Zu Name1 Arity1 x1 v one) λk2=>if two=true then r (k2 true (w (i+1)))else qG x1 i (λu1=>qG u1 x.XC (λu2=>r (k2 (decide (u2=v)) (w (i+1)))))else qL (r (KU x out Zq Zu Name1 Arity1 x1 (w (v+1)))) λk1=>if one=true then if two=true then k1 else qN out (r (KU x (out++[v]) Zq Zu Name1 Arity1 x1 (w (v+1))))else k1))/\
 ((iM Zge λx out Zq Zu x1 Name1 Arity1 v one two i r=>if i<0 then if two=true then r (Zge x out Zq Zu x1 Name1 Arity1 v one true (w (i+1)))else False else qL (r (KV x out Zq Zu x1 Name1 Arity1 (w (v+1)))) λk1=>if one=true then if two=true then k1 else qN out (r (KV x (out++[v]) Zq Zu x1 Name1 Arity1 (w (v+1))))else k1)/\
 (iM Zgf λx out Zq Zu x1 Name1 Arity1 x2 v one two i r=>if i<(x2.length:Int)then qL (Zgf x out Zq Zu x1 Name1 Arity1 x2 v one) λk2=>if two=true then r (k2 true (w (i+1)))else qG x2 i (λu1=>qG u1 x.XC (λu2=>r (k2 (decide (u2=v)) (w (i+1)))))else qL (r (KW x out Zq Zu x1 Name1 Arity1 x2 (w (v+1)))) λk1=>if one=true then if two=true then k1 else qN out (r (KW x (out++[v]) Zq Zu x1 Name1 Arity1 x2 (w (v+1))))else k1)))/\
 (((iM Zxh λa a1 r=>qL ([]:V6) λk1=>qB (Zkp a a1) (qL (WX a a1.Vr) λk2=>(∃u2 u3 u4,WX a a1.Zq=some (.tup [.agg [.t (.str u2),I u3,.t .nil],Bo u4],[])/\((∃u5 u6 u7,k2=some (.tup [.agg [.t (.str u5),I u6,.t .nil],Bo u7],[])/\r (KT a1 k1 u2 u3 u5 u6 0))\/(∃(u5:V4),∃u6,∃u7,k2=some (.tup [.agg [.t (.str u6),I u7,.own 0],Bo true],[.arr 40 1 true (u5.map isc)])/\r (KU a1 k1 u2 u3 u6 u7 u5 0))))\/(∃(u2:V4),∃u3,∃u4,WX a a1.Zq=some (.tup [.agg [.t (.str u3),I u4,.own 0],Bo true],[.arr 40 1 true (u2.map isc)])/\((∃u5 u6 u7,k2=some (.tup [.agg [.t (.str u5),I u6,.t .nil],Bo u7],[])/\r (KV a1 k1 u3 u4 u2 u5 u6 0))\/(∃(u5:V4),∃u6,∃u7,k2=some (.tup [.agg [.t (.str u6),I u7,.own 0],Bo true],[.arr 40 1 true (u5.map isc)])/\r (KW a1 k1 u3 u4 u2 u6 u7 u5 0))))) (qs3 k1 r))/\
 (iM Zot λa a1 r=>qB (Zkp a a1) (qs2 (Zxh a a1) (λu2=>qb (decide ((u2.length:Int)=0)) r)) (qb false r)))/\
 ((iM Zk0 λd deps incs i r=>if i<(deps.length:Int)then qG deps i (λu1=>qB (Zko d u1) (r (Zk0 d deps incs (w (i+1)))) (qb false r))else r (Zk1 d incs 0))/\
 ((iM Zk1 λd incs i r=>if i<(incs.length:Int)then qG incs i (λu1=>qB (Zot d u1) (r (Zk1 d incs (w (i+1)))) (qb false r))else qb true r)/\
 (iM Zkz λa a1 a2 r=>if 8<(a1.length:Int)then qb false r else if 8<(a2.length:Int)then qb false r else r (Zk0 a a1 a2 0)))))):=by
 refine qu ?_
 and_intros
 all_goals(intros;unfold Im;(try simp only[Zkp,KT,KU,KV,KW,Zkt,Zku,Zkv,Zkw,Zgc,Zgd,Zge,Zgf,Zxh,Zot,Zk0,Zk1,Zkz,WX,Xb,Zp.c_def,Z7.c_def,Zko,ZA.c_def,Zkr,lpz,Zos,Zks,Zkx,mpl,dfs]);(try simp only[itb]);(try simp only[itf,gS,kk]))
 all_goals(repeat' first|refine exI λ_=>?_|refine anJ λ_ _=>?_|refine anI λ_=>?_|refine orE2 ?_ ?_|exact False.elim)
 all_goals(intro h;first|refine run ZJ9 rfl ?_|rw[Zr Zkq.eq_1]|rw[Zr Zxc.eq_1]|rw[Zr Zxd.eq_1]|refine run ZJA rfl ?_|refine run ZJB rfl ?_|rw[Zr Zxi.eq_1]|rw[Zr Zxj.eq_1]|refine run ZJC rfl ?_)
 all_goals (refine Yd ?_ h;clear h;simp +decide[*,kk,tI,tII,Z6V,Zxg,Zxf,Zor,Zxe,Z6W,Z6X,Zxl,Zxk,Z6Y])
abbrev WA:=uq ZLC
def ZLD:(iM Zou λa r=>∃(u1:ZN),∃u2,Zke a.Zp a.ZN.Xh=some (.tup [.agg (u1.c.map .t),Bo u2],[])/\if u2=true then qB (Zkh u1 a.ZN) (qV (Zkz a.Zp a.QD a.QE) (λu4=>qb u4 r)) (qb false r)else qb false r)/\
 (iM Zk2 λa a1 r=>qB (Zou a) (qb (decide (a.ZN.Xh=a1)) r) (qb false r)):=by
 refine qu ?_
 and_intros
 all_goals(intros;unfold Im;(try simp only[Zou,Zk2,Zke,Zkh,Zkz,ZN.c_def,Zp.c_def,ZA.c_def,Z7.c_def,Xr.c_def,lpz,mpl,dfs]);(try simp only[itb]);(try simp only[itf,gS,kk]))
 all_goals(repeat' first|refine exI λ_=>?_|refine anJ λ_ _=>?_|refine anI λ_=>?_|refine orE2 ?_ ?_|exact False.elim)
 all_goals(intro h;first|refine run ZJD rfl ?_|refine run ZJE rfl ?_)
 all_goals (refine Yd ?_ h;clear h;simp +decide[*,kk,tI,tII,Z6Z,Z7a])
abbrev Z8Z:=uq ZLD
def ZLE:((((iM Zgg λq seen i r=>if i<(q.Zb.length:Int)then qG q.Zb i (λu1=>qB (Zb7 u1.Zq) (qB (Xb (u1.Za.length:Int) 1 3) (r (Zk4 q u1 seen i 0)) (qb false r)) (qb false r))else ¬q.Zk<0/\qb (decide (seen=(w ((shlI 1 q.Zk)-1)))) r)/\
 (iM Zk4 λq a seen i k r=>if k<(a.Za.length:Int)then qG a.Za k (λu1=>qB (Xb u1 0 (w (q.Zk-1))) (k.toNat<=a.Za.length/\qB (QM (a.Za.take k.toNat) u1) (qb false r) (¬u1<0/\r (Zk4 q a (orI seen (shlI 1 u1)) i (w (k+1))))) (qb false r))else r (Zgg q seen (w (i+1)))))/\
 ((iM JE λa r=>qB (Xb a.Zk 1 4) (qB (Xb (a.Zb.length:Int) 1 4) (r (Zgg a 0 0)) (qb false r)) (qb false r))/\
 (iM Zgh λd q i r=>if i<(q.Zb.length:Int)then qG q.Zb i (λu1=>(∃u2 u3 u4,WX d u1.Zq=some (.tup [.agg [.t (.str u2),I u3,.t .nil],Bo u4],[])/\if u4=true then if u3=(u1.Za.length:Int)then r (Zgh d q (w (i+1)))else qb false r else qb false r)\/(∃(u2:V4),∃u3,∃u4,WX d u1.Zq=some (.tup [.agg [.t (.str u3),I u4,.own 0],Bo true],[.arr 40 1 true (u2.map isc)])/\if u4=(u1.Za.length:Int)then r (Zgh d q (w (i+1)))else qb false r))else qb true r)))/\
 (((iM QN λa a1 r=>qB (JE a1) (r (Zgh a a1 0)) (qb false r))/\
 (iM Ub λa r=>qB (JE a) (¬(a.Zb.length:Int)<0/\qi (w ((shlI 1 (a.Zb.length:Int))-1)) r) (qi 0 r)))/\
 ((iM Zgi λa a1 r=>qB (JE a) (¬(a.Zb.length:Int)<0/\qV (Xb a1 0 (w ((shlI 1 (a.Zb.length:Int))-1))) (λu2=>qb u2 r)) (qb false r))/\
 ((iM Zgj λq mask x i r=>if i<(q.Zb.length:Int)then r (Zk6 q mask x i 0)else qi x r)/\
 (iM Zk6 λq mask x i k r=>qG q.Zb i (λu1=>qL (r (Zgj q mask x (w (i+1)))) λk1=>if k<(u1.Za.length:Int)then ¬i<0/\if(andI (shrI mask i) 1)=1 then qG u1.Za k (λu2=>¬u2<0/\r (Zk6 q mask (orI x (shlI 1 u2)) i (w (k+1))))else k1 else k1))))))/\
 ((((iM Qt λa a1 r=>r (Zgj a a1 0 0))/\
 (iM Zgk λq mask out bits i r=>if i<(q.Zb.length:Int)then ¬i<0/\qL (r (Zgk q mask out bits (w (i+1)))) λk1=>if(andI (shrI mask i) 1)=0 then qI (Qt q (shlI 1 i)) (λu1=>if(andI u1 bits)=0 then k1 else r (Zgk q mask (orI out (shlI 1 i)) bits (w (i+1))))else k1 else qi out r))/\
 ((iM Zoy λa a1 r=>qI (Qt a a1) (λu1=>r (Zgk a a1 0 u1 0)))/\
 (iM Zk7 λq mask x n r=>if n<(q.Zb.length:Int)then qI (Zoy q x) (λu1=>r (Zk7 q mask (orI x (andI u1 mask)) (w (n+1))))else qb (decide (x=mask)) r)))/\
 (((iM ZbC λa a1 r=>r (Zk7 a a1 (andI a1 (w (0-a1))) 0))/\
 (iM Za7 λa a1 r=>qB (Zgi a a1) (if 0<a1 then qV (ZbC a a1) (λu2=>qb u2 r)else qb false r) (qb false r)))/\
 ((iM Zk8 λl i r=>if i<(l.length:Int)then qG l i (λu1=>qB (Xb u1 0 7) (r (Zk8 l (w (i+1)))) (qb false r))else qb (decide ((l.length:Int)<=16)) r)/\
 ((iM ZbD λa r=>r (Zk8 a 0))/\
 (iM Zgl λa b i r=>if i<(a.length:Int)then qG a i (λu1=>qH b i (λu2=>if u1<u2 then qb false r else r (Zgl a b (w (i+1)))))else qb true r))))):=by
 refine qu ?_
 and_intros
 all_goals(intros;unfold Im;(try simp only[Zgg,Zk4,JE,Zgh,QN,Ub,Zgi,Zgj,Zk6,Qt,Zgk,Zoy,Zk7,ZbC,Za7,Zk8,ZbD,Zgl,Zb7,Xb,QM,WX,Zp.c_def,Zf.c_def,lpz,Zxp,Zxw,mpl,dfs]);(try simp only[itb]);(try simp only[itf,gS,kk]))
 all_goals(repeat' first|refine exI λ_=>?_|refine anJ λ_ _=>?_|refine anI λ_=>?_|refine orE2 ?_ ?_|exact False.elim)
 all_goals(intro h;first|rw[Zr Zov.eq_1]|rw[Zr Zxm.eq_1]|refine run ZJF rfl ?_|rw[Zr Zxr.eq_1]|refine run ZJG rfl ?_|refine run ZJH rfl ?_|refine run ZJI rfl ?_|rw[Zr Zow.eq_1]|rw[Zr Zxt.eq_1]|refine run ZJJ rfl ?_|rw[Zr Zxx.eq_1]|refine run ZJK rfl ?_|rw[Zr Zx0.eq_1]|refine run ZJL rfl ?_|refine run ZJM rfl ?_|rw[Zr Zx3.eq_1]|refine run ZJN rfl ?_|rw[Zr Zx6.eq_1])
 all_goals (refine Yd ?_ h;clear h;simp +decide[*,kk,tI,tII,Zxo,Zxn,Z7b,Zxs,Z7c,Z7d,Z7e,Zxv,Zxu,Z7f,Z7g,Zxy,Z7h,Zx1,Z7i,Z7j,Zx4,Z7k,Zx7])
abbrev W6:=uq ZLE
def ZLF:((iM Zoz λa a1 r=>if(a.length:Int)=(a1.length:Int)then r (Zgl a a1 0)else qb false r)/\
 (iM Zo0 λa r=>if 0<(a.Low.length:Int)then qB (ZbD a.Low) (qB (ZbD a.ZZ) (qV (Zoz a.ZZ a.Low) (λu3=>qb u3 r)) (qb false r)) (qb false r)else qb false r))/\
 ((iM ZkA λb n i r=>if i<(b.Low.length:Int)then qG b.ZZ i (λu1=>qH b.Low i (λu2=>qL (w (n*(w ((w (u1-u2))+1)))) λk1=>r (ZkA b (if k1<401 then k1 else 401) (w (i+1)))))else qi n r)/\
 ((iM Zk9 λa r=>qB (Zo0 a) (r (ZkA a 1 0)) (qi 0 r))/\
 (iM Zd8 λa a1 r=>qB (Xb a1 0 3) (¬a1<0/\qb (decide ((andI (shrI a a1) 1)=1)) r) (qb false r)))):=by
 refine qu ?_
 and_intros
 all_goals(intros;unfold Im;(try simp only[Zoz,Zo0,ZkA,Zk9,Zd8,ZbD,Box.c_def,Xb,Zgl,lpz,mpl,dfs]);(try simp only[itb]);(try simp only[itf,gS,kk]))
 all_goals(repeat' first|refine exI λ_=>?_|refine anJ λ_ _=>?_|refine anI λ_=>?_|refine orE2 ?_ ?_|exact False.elim)
 all_goals(intro h;first|refine run ZJO rfl ?_|refine run ZJP rfl ?_|rw[Zr Zx9.eq_1]|refine run ZJQ rfl ?_|refine run ZJR rfl ?_)
 all_goals (refine Yd ?_ h;clear h;simp +decide[*,kk,tI,tII,Z7l,Z7m,ZxA,Z7n,Z7o])
abbrev ZgV:=uq ZLF
def Zl1{q:Zf}{x:Zj}{x1:Zo}{cc:List Zo}{c:V6}{n x2:Int}{x3:Bool}{r:V3}(h:(if x3=true then(if x.Ze=0 then(if n<2 then(some (.tup [.agg [I 0,I 0,I 0,I 0],I (-1)],[])=some r)else(0<=(w (n-2))/\(∃(e1:Int),c[(w (n-2)).toNat]?=some e1/\(0<=e1/\(∃(e2:Zo),cc[e1.toNat]?=some e2/\(0<=(w (n-1))/\(∃(e3:Int),c[(w (n-1)).toNat]?=some e3/\(0<=e3/\(∃(e4:Zo),cc[e3.toNat]?=some e4/\(∃(v:Int),Qt q e2.Mask=some (I v,[])/\(∃(v1:Int),Qt q e4.Mask=some (I v1,[])/\(if(andI e2.Mask e4.Mask)=0 then(if(andI v v1)=0 then(some (.tup [.agg [I 0,I 0,I 0,I 0],I (-1)],[])=some r)else(if x.Zs=4 then(ZbE q x x1 e2 e4 (⟨(orI e2.Mask e4.Mask),(-1),e1,e3⟩:Zo) (andI v v1) false=some r)else(if x.Zl=0 then(if x.Zs=5 then(Zgn q x x1 e2 e4 (⟨(orI e2.Mask e4.Mask),e2.Zl,e1,e3⟩:Zo) (andI v v1)=some r)else(ZbE q x x1 e2 e4 (⟨(orI e2.Mask e4.Mask),(-1),e1,e3⟩:Zo) (andI v v1) false=some r))else(some (.tup [.agg [I 0,I 0,I 0,I 0],I (-1)],[])=some r))))else(some (.tup [.agg [I 0,I 0,I 0,I 0],I (-1)],[])=some r)))))))))))))else(some (.tup [.agg [I 0,I 0,I 0,I 0],I (-1)],[])=some r))else(some (.tup [.agg [I 0,I 0,I 0,I 0],I (-1)],[])=some r))):Zgm q x x1 cc c n x2 x3=some r:=by
 unfold Zgm
 try simp only[lpz]
 rw[Zbh Zo3.eq_1];by_cases q1:x3=true
 .rw[Ya q1]at h;by_cases q2:x.Ze=0
  .rw[Ya q2]at h;replace q2:=eq_true q2;by_cases q3:n<2
   .rw[Ya q3]at h;refine Yd ?_ h;clear h;simp +decide[*,tI,tII,lpz]
   .rw[Yb q3]at h;obtain⟨q4,h⟩:=h;obtain⟨e1,q5,h⟩:=h;have gq5:=X3 q5;have kq5:=X4 q5;obtain⟨q6,h⟩:=h;obtain⟨e2,q7,h⟩:=h;have gq7:=X3 q7;have kq7:=X4 q7;obtain⟨q8,h⟩:=h;obtain⟨e3,q9,h⟩:=h;have gq9:=X3 q9;have kq9:=X4 q9;obtain⟨q10,h⟩:=h;obtain⟨e4,q11,h⟩:=h;have gq11:=X3 q11;have kq11:=X4 q11;obtain⟨v,q12,h⟩:=h;unfold Qt at q12
    try simp[lpz]at q12
    obtain⟨v1,q13,h⟩:=h;unfold Qt at q13
    try simp[lpz]at q13
    by_cases q14:(andI e2.Mask e4.Mask)=0
    .rw[Ya q14]at h;replace q14:=eq_true q14;by_cases q15:(andI v v1)=0
     .rw[Ya q15]at h;replace q15:=eq_true q15;refine Yd ?_ h;clear h;simp +decide[*,tI,tII,lpz]
     .rw[Yb q15]at h;replace q15:=eq_false q15;by_cases q16:x.Zs=4
      .rw[Ya q16]at h;replace q16:=eq_true q16;have q17:(x.Zs=5)=False:=eq_false (by intro hh;simp_all);refine Yd ?_ h;clear h;simp +decide[*,tI,tII,ZbE,lpz]
      .rw[Yb q16]at h;replace q16:=eq_false q16;by_cases q18:x.Zl=0
       .rw[Ya q18]at h;replace q18:=eq_true q18;by_cases q19:x.Zs=5
        .rw[Ya q19]at h;replace q19:=eq_true q19;refine Yd ?_ h;clear h;simp +decide[*,tI,tII,Zgn,lpz]
        .rw[Yb q19]at h;replace q19:=eq_false q19;refine Yd ?_ h;clear h;simp +decide[*,tI,tII,ZbE,lpz]
       .rw[Yb q18]at h;replace q18:=eq_false q18;refine Yd ?_ h;clear h;simp +decide[*,tI,tII,lpz]
    .rw[Yb q14]at h;replace q14:=eq_false q14;refine Yd ?_ h;clear h;simp +decide[*,tI,tII,lpz]
  .rw[Yb q2]at h;replace q2:=eq_false q2;refine Yd ?_ h;clear h;simp +decide[*,tI,tII,lpz]
 .rw[Yb q1]at h;refine Yd ?_ h;clear h;simp +decide[*,tI,tII,lpz]
def ZLG:((((iM Zgn λx x1 x2 a b y v r=>if x1.Zs=4 then qB (Zd8 v x1.Zl) (if a.Zl=x1.Zl then if b.Zl=x1.Zl then r (some (.tup [.agg [I y.Mask,I x1.Zl,I y.Left,I y.Right],I 2],[]))else qs9 r else qs9 r) (qs9 r)else r (some (.tup [.agg (y.c.map .t),I 2],[])))/\
 (iM ZbE λx x1 x2 a b y v x3 r=>if x1.Zs=4 then qB (Zd8 v x1.Zl) (if a.Zl=x1.Zl then if b.Zl=x1.Zl then r (some (.tup [.agg [I y.Mask,I x1.Zl,I y.Left,I y.Right],I 2],[]))else qs9 r else qs9 r) (qs9 r)else r (some (.tup [.agg (y.c.map .t),I 2],[]))))/\
 ((iM Zd9 λa a1 a2 a3 r=>if a1.Zs=1 then qB (Xb a1.Ze 0 (w ((a.Zb.length:Int)-1))) (if a1.Zl=0 then ¬a1.Ze<0/\qG a.Zb a1.Ze (λu2=>∃u3,u2.Za[0]?=some u3/\r (some (.tup [.agg [I (shlI 1 a1.Ze),I u3,I (-1),I (-1)],I 0],[])))else qs9 r) (qs9 r)else qL (a3.length:Int) λk1=>qL (w (k1-1)) λk3=>if a1.Zs=2 then if a1.Ze=0 then if k1<1 then qs9 r else 0<=k3/\∃u1,a3[k3.toNat]?=some u1/\qG a2 u1 (λu2=>if u2.Zl=a1.Zl then qs9 r else qI (Qt a u2.Mask) (λu3=>qB (Zd8 u3 a1.Zl) (r (some (.tup [.agg [I u2.Mask,I a1.Zl,I u1,I (-1)],I 1],[]))) (qs9 r)))else qs9 r else qL (⟨0,0,0,0⟩:Zo) λk4=>qL (r (Zgm a a1 k4 a2 a3 k1 a1.Zs true)) λk2=>if a1.Zs=3 then k2 else if a1.Zs=4 then k2 else if a1.Zs=5 then if a1.Ze=0 then if k1<2 then qs9 r else 0<=(w (k1-2))/\∃u1,a3[(w (k1-2)).toNat]?=some u1/\qG a2 u1 (λu2=>0<=k3/\∃u3,a3[k3.toNat]?=some u3/\qG a2 u3 (λu4=>qI (Qt a u2.Mask) (λu5=>qI (Qt a u4.Mask) (λu6=>if(andI u2.Mask u4.Mask)=0 then if(andI u5 u6)=0 then qs9 r else if a1.Zl=0 then r (Zgn a a1 k4 u2 u4 (⟨(orI u2.Mask u4.Mask),u2.Zl,u1,u3⟩:Zo) (andI u5 u6))else qs9 r else qs9 r))))else qs9 r else qs9 r)/\
 (iM ZkB λq p info stack i r=>qL (Zia ([]:List Zo) r) λk2=>if i<(p.Steps.length:Int)then qG p.Steps i (λu1=>∃(u2:Zo),∃u3,Zd9 q u1 info stack=some (.tup [.agg (u2.c.map .t),I u3],[])/\if u3<0 then k2 else qN info (qL (w ((stack.length:Int)-u3)) λk1=>0<=k1/\k1.toNat<=stack.length/\k1.toNat<=68719476736/\k1.toNat+1<=68719476736/\r (ZkB q p (info++[u2]) ((stack.take (k1.toNat))++[i]) (w (i+1)))))else if(stack.length:Int)=1 then Zm4 info r else k2)))/\
 (((iM Zgo λa a1 r=>qL ([]:List Zo) λk1=>qB (JE a) (qB (Xb (a1.Steps.length:Int) 1 14) (r (ZkB a a1 k1 ([]:V6) 0)) (Zia k1 r)) (Zia k1 r))/\
 (iM Zo4 λa a1 r=>∃(u1:List Zo),∃u2,Zgo a a1=some (.tup [.own 0,Bo u2],[.arr 255 4 true (u1.map Zo.c)])/\if u2=true then qL (w ((u1.length:Int)-1)) λk1=>0<=k1/\∃u3,u1[k1.toNat]?=some u3/\qi u3.Mask r else qi 0 r))/\
 ((iM Zgp λq b i r=>if i<(b.Xl.length:Int)then qG b.Xl i (λu1=>qI (Zo4 q u1) (λu2=>qI (Ub q) (λu3=>if u2=u3 then if u3=0 then qb false r else r (Zgp q b (w (i+1)))else qb false r)))else r (ZdC b 0))/\
 (iM ZdC λb k r=>if k<(b.ZQ.length:Int)then qG b.ZQ k (λu1=>qL (qb false r) λk1=>qB (Xb u1 1 500000000000) (if 0<k then 0<=(w (k-1))/\∃u3,b.ZQ[(w (k-1)).toNat]?=some u3/\if u1=(w (u3*b.Xk))then qH b.ZO k (λu4=>if(u4.length:Int)=0 then k1 else r (ZdD b k 0))else k1 else qH b.ZO k (λu3=>if(u3.length:Int)=0 then k1 else r (ZdD b k 0))) k1)else qb true r))))/\
 ((((iM ZdD λb k i r=>qG b.ZO k (λu1=>if i<(u1.length:Int)then qG u1 i (λu2=>qB (Xb u2 0 (w ((b.Xl.length:Int)-1))) (i.toNat<=u1.length/\qB (QM (u1.take i.toNat) u2) (qb false r) (r (ZdD b k (w (i+1))))) (qb false r))else r (ZdC b (w (k+1)))))/\
 (iM ZdB λa a1 r=>qL (qb false r) λk1=>qB (Xb a1.Xh 1 999) (qB (Xb a1.Xk 2 8) (qB (Xb a1.XL 0 100) (qI (Ub a) (λu4=>if(a1.Box.Low.length:Int)=(w (u4+1))then qI (Zk9 a1.Box) (λu5=>qB (Xb u5 1 400) (qL (a1.ZQ.length:Int) λk2=>if k2=0 then k1 else if k2=(a1.ZO.length:Int)then r (Zgp a a1 0)else k1) k1)else k1)) k1) k1) k1))/\
 ((iM ZdE λout bits v r=>if v<4 then ¬v<0/\if(andI (shrI bits v) 1)=1 then qN out (r (ZdE (out++[v]) bits (w (v+1))))else r (ZdE out bits (w (v+1)))else qs3 out r)/\
 (iM ZxM λa r=>r (ZdE ([]:V6) a 0))))/\
 (((iM Kl λa a1 r=>qB (Zgi a a1) (qI (Qt a a1) (λu2=>qs2 (ZxM u2) (λu3=>qs3 u3 r))) (qs3 ([]:V6) r))/\
 (iM Zgq λt a vars row i r=>if i<(t.Rows.length:Int)then r (Zgr t a vars row i true 0)else qb false r))/\
 ((iM Zgr λt a vars row i is k r=>if k<(a.Za.length:Int)then r (ZkD t a vars row i is k 0)else if is=true then qb true r else r (Zgq t a vars row (w (i+1))))/\
 ((iM ZkD λt a vars row i is k j r=>if j<(row.length:Int)then qL (ZkD t a vars row i) λk1=>if is=true then qG vars j (λu1=>qG a.Za k (λu2=>if u1=u2 then qH row j (λu3=>qG t.Rows i (λu4=>qH u4 k (λu5=>r (k1 (decide (u3=u5)) k (w (j+1))))))else r (k1 true k (w (j+1)))))else r (k1 false k (w (j+1)))else r (Zgr t a vars row i is (w (k+1))))/\
 (iM ZkC λa a1 a2 a3 r=>r (Zgq a a1 a2 a3 0)))))):=by
 refine qu ?_
 and_intros
 all_goals(intros;unfold Im;(try simp only[Zd9,ZkB,Zgo,Zo4,Zgp,ZdC,ZdD,ZdB,ZdE,ZxM,Kl,Zgq,Zgr,ZkD,ZkC,Zd8,Xb,Qt,Zf.c_def,Zj.c_def,Zo.c_def,JE,Zg.c_def,Ub,QM,Zk9,Box.c_def,Zgi,Zgm,Zgn,ZbE,lpz,ZxJ,ZxS,ZxT,mpl,dfs]);(try simp only[itb]);(try simp only[itf,gS,kk]))
 all_goals(repeat' first|refine exI λ_=>?_|refine anJ λ_ _=>?_|refine anI λ_=>?_|refine orE2 ?_ ?_|exact False.elim)
 all_goals(intro h;first|rw[Zbh Zo2.eq_1]|refine run ZJS rfl ?_|rw[Zr ZxC.eq_1]|refine run ZJT rfl ?_|refine run ZJU rfl ?_|rw[Zr ZxE.eq_1]|rw[Zr Zo5.eq_1]|rw[Zr ZxF.eq_1]|refine run ZJV rfl ?_|rw[Zr ZxK.eq_1]|refine run ZJW rfl ?_|refine run ZJX rfl ?_|rw[Zr Zo8.eq_1]|rw[Zr Zo7.eq_1]|rw[Zr ZxN.eq_1]|refine run ZJY rfl ?_)
 all_goals (refine Yd ?_ h;clear h;simp +decide[*,kk,tI,tII,Z7p,Z7q,Zo3,ZxD,Z7r,Z7s,ZxI,ZxH,ZxG,Z7t,Z7u,ZxL,Z7v,Z7w,ZxR,ZxP,ZxQ,ZxO,Z7x])
abbrev XB:=uq ZLG
