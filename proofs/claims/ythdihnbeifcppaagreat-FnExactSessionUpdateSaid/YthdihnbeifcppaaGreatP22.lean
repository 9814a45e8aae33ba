/-
  Parts of the proofs for this seat: G22 G23.
-/
import Derived.Test.YthdihnbeifcppaaGreatP13
set_option linter.all false
set_option maxRecDepth 100000
set_option maxHeartbeats 4000000
namespace Go.Proofs.YthdihnbeifcppaaGreat
open Go.AM
def ZF4:((((iM ZbO λo l r_1 n i r=>if i<(o.Steps.length:Int)then qG o.Steps i (λu1=>if u1.From<=(w (l+r_1))then r (ZbO o l r_1 (w (n+u1.Add)) (w (i+1)))else r (ZbO o l r_1 n (w (i+1))))else qi n r)/\
 (iM V8 λa a1 a2 a3 r=>qB (Zav a) (qB (Xg a1 0 4096) (qB (Xg a2 0 4096) (qB (Xg a3 0 4096) (r (ZbO a a1 a2 (w ((w ((w ((w (a.Fixed+(w (a.Zv*a1))))+(w (a.Zw*a2))))+(w (a.Zz*a3))))+(w ((w (a.Zx*a1))*a2)))) 0)) (qi 0 r)) (qi 0 r)) (qi 0 r)) (qi 0 r)))/\
 ((iM ZdB λa a1 r=>∃u1,a1[0]?=some u1/\qI (J5 u1) (λu2=>∃u3,a1[1]?=some u3/\qI (J5 u3) (λu4=>∃u5,a1[2]?=some u5/\qI (J5 u5) (λu6=>qI (V8 a u2 u4 u6) (λu7=>qi u7 r)))))/\
 (iM ZdC λo a r=>if a<=7 then r (ZdD o a 0)else Zj4 ([]:V6) r)))/\
 (((iM ZdD λo a b r=>if b<=7 then r (ZdE o a b 0)else r (ZdC o (w (a+1))))/\
 (iM ZdE λo a b e r=>if e<=7 then r (Zaw o ([a,b,e]) a b e 0)else r (ZdD o a (w (b+1)))))/\
 ((iM Zaw λo x a b e k r=>if k<3 then qM x (qG x k (λu1=>qL (r (Zaw o x a b e (w (k+1)))) λk1=>if(w (u1+1))<=7 then qL (x.set k.toNat (w (u1+1))) λk2=>qI (ZdB o k2) (λu2=>qI (ZdB o x) (λu3=>if u2<u3 then r (some (.tup [.own 0,.own 1,Bo true],[.arr 3 1 true (x.map ic),.arr 3 1 true (k2.map ic)]))else k1))else k1))else r (ZdE o a b (w (e+1))))/\
 ((iM Zlb λa r=>qB (Zav a) (r (ZdC a 0)) (Zj4 ([]:V6) r))/\
 (iM ZdF λo a r=>if a<=7 then r (ZdG o a 0)else qs3 ([]:V6) r)))))/\
 ((((iM ZdG λo a b r=>if b<=7 then r (Zhn o a b 0)else r (ZdF o (w (a+1))))/\
 (iM Zhn λo a b e r=>if e<=7 then qI (ZdB o ([a,b,e])) (λu1=>if u1<1 then qs3 ([a,b,e]) r else r (Zhn o a b (w (e+1))))else r (ZdG o a (w (b+1)))))/\
 ((iM Zle λa r=>r (ZdF a 0))/\
 (iM ZdH λm k r=>qL ([]:V6) λk1=>if k<=5 then JZ (Qe m k) (λu1=>qB (Zav u1) (∃(u3:V6),∃(u4:V6),∃u5,Zlb u1=some (.tup [.own 0,.own 1,Bo u5],[.arr 3 1 true (u3.map ic),.arr 3 1 true (u4.map ic)])/\if u5=true then Zj5 k u3 u4 r else qs2 (Zle u1) (λu6=>if 0<(u6.length:Int)then Zj5 k u6 k1 r else r (ZdH m (w (k+1))))) (r (some (.tup [I k,.own 0,.own 1],[.arr 3 1 true (k1.map ic),.arr 3 1 true (k1.map ic)]))))else r (some (.tup [I 0,.own 0,.own 1],[.arr 3 1 true (k1.map ic),.arr 3 1 true (k1.map ic)])))))/\
 (((iM ZsU λa r=>r (ZdH a 1))/\
 (iM ZdI λa r=>∃(u1:V6),∃(u2:V6),∃u3,ZsU a=some (.tup [I u3,.own 0,.own 1],[.arr 3 1 true (u1.map ic),.arr 3 1 true (u2.map ic)])/\qb (decide (u3=0)) r))/\
 ((iM ZdJ λq seen i r=>if i<(q.Atoms.length:Int)then qG q.Atoms i (λu1=>qB (ZbG u1.Name) (qB (Xg (u1.Vars.length:Int) 1 3) (r (Zhp q u1 seen i 0)) (qb false r)) (qb false r))else ¬q.Zm<0/\qb (decide (seen=(w ((shlI 1 q.Zm)-1)))) r)/\
 ((iM Zhp λq a seen i k r=>if k<(a.Vars.length:Int)then qG a.Vars k (λu1=>qB (Xg u1 0 (w (q.Zm-1))) (k.toNat<=a.Vars.length/\qB (Zas (a.Vars.take k.toNat) u1) (qb false r) (¬u1<0/\r (Zhp q a (orI seen (shlI 1 u1)) i (w (k+1))))) (qb false r))else r (ZdJ q seen (w (i+1))))/\
 (iM KK λa r=>qB (Xg a.Zm 1 4) (qB (Xg (a.Atoms.length:Int) 1 4) (r (ZdJ a 0 0)) (qb false r)) (qb false r)))))):=by
 refine qu ?_
 and_intros
 all_goals(intros;unfold Im;(try simp only[ZbO,V8,ZdB,ZdC,ZdD,ZdE,Zaw,Zlb,ZdF,ZdG,Zhn,Zle,ZdH,ZsU,ZdI,ZdJ,Zhp,KK,Zav,Xg,Z0.c_def,J5,Qe,Za.c_def,ZbG,Zas,lpz,ZsI,ZsJ,ZsK,ZsP,ZsQ,ZsY,mpl,dfs]);(try simp only[itb]);(try simp only[itf,gS,kk]))
 all_goals(repeat' first|refine exI λ_=>?_|refine anJ λ_ _=>?_|refine anI λ_=>?_|refine orE2 ?_ ?_|exact False.elim)
 all_goals(intro h;first|rw[Zn ZsB.eq_1]|refine run ZEe rfl ?_|refine run ZEf rfl ?_|rw[Zn Zla.eq_1]|rw[Zn ZkZ.eq_1]|rw[Zn ZkY.eq_1]|rw[Zn ZsD.eq_1]|refine run ZEg rfl ?_|rw[Zn Zld.eq_1]|rw[Zn Zlc.eq_1]|rw[Zn ZsL.eq_1]|refine run ZEh rfl ?_|rw[Zn ZsS.eq_1]|refine run ZEi rfl ?_|refine run ZEj rfl ?_|rw[Zn Zlf.eq_1]|rw[Zn ZsV.eq_1]|refine run ZEk rfl ?_)
 all_goals (refine Ye ?_ h;clear h;simp +decide[*,kk,tI,tII,Z1k,ZsC,Z1l,Z1m,ZsH,ZsG,ZsF,ZsE,Z1n,ZsO,ZsN,ZsM,Z1o,ZsT,Z1p,Z1q,ZsX,ZsW,Z1r])
abbrev XL:=uq ZF4
def ZF5:(((iM Kh λa r=>qB (KK a) (¬(a.Atoms.length:Int)<0/\qi (w ((shlI 1 (a.Atoms.length:Int))-1)) r) (qi 0 r))/\
 ((iM ZdK λa a1 r=>qB (KK a) (¬(a.Atoms.length:Int)<0/\qV (Xg a1 0 (w ((shlI 1 (a.Atoms.length:Int))-1))) (λu2=>qb u2 r)) (qb false r))/\
 (iM ZdL λq mask x i r=>if i<(q.Atoms.length:Int)then r (ZdM q mask x i 0)else qi x r)))/\
 (((iM ZdM λq mask x i k r=>qG q.Atoms i (λu1=>qL (r (ZdL q mask x (w (i+1)))) λk1=>if k<(u1.Vars.length:Int)then ¬i<0/\if(andI (shrI mask i) 1)=1 then qG u1.Vars k (λu2=>¬u2<0/\r (ZdM q mask (orI x (shlI 1 u2)) i (w (k+1))))else k1 else k1))/\
 (iM Uy λa a1 r=>r (ZdL a a1 0 0)))/\
 ((iM ZdN λq mask out bits i r=>if i<(q.Atoms.length:Int)then ¬i<0/\qL (r (ZdN q mask out bits (w (i+1)))) λk1=>if(andI (shrI mask i) 1)=0 then qI (Uy q (shlI 1 i)) (λu1=>if(andI u1 bits)=0 then k1 else r (ZdN q mask (orI out (shlI 1 i)) bits (w (i+1))))else k1 else qi out r)/\
 (iM Zli λa a1 r=>qI (Uy a a1) (λu1=>r (ZdN a a1 0 u1 0))))))/\
 ((((iM Zhr λq mask x n r=>if n<(q.Atoms.length:Int)then qI (Zli q x) (λu1=>r (Zhr q mask (orI x (andI u1 mask)) (w (n+1))))else qb (decide (x=mask)) r)/\
 (iM Zax λa a1 r=>r (Zhr a a1 (andI a1 (w (0-a1))) 0)))/\
 ((iM ZbQ λa a1 r=>qB (ZdK a a1) (if 0<a1 then qV (Zax a a1) (λu2=>qb u2 r)else qb false r) (qb false r))/\
 (iM Zhs λl i r=>if i<(l.length:Int)then qG l i (λu1=>qB (Xg u1 0 7) (r (Zhs l (w (i+1)))) (qb false r))else qb (decide ((l.length:Int)<=16)) r)))/\
 (((iM ZbR λa r=>r (Zhs a 0))/\
 (iM Zht λa b i r=>if i<(a.length:Int)then qG a i (λu1=>qH b i (λu2=>if u1<u2 then qb false r else r (Zht a b (w (i+1)))))else qb true r))/\
 ((iM Zlj λa a1 r=>if(a.length:Int)=(a1.length:Int)then r (Zht a a1 0)else qb false r)/\
 (iM Zhu λa r=>if 0<(a.Low.length:Int)then qB (ZbR a.Low) (qB (ZbR a.High) (qV (Zlj a.High a.Low) (λu3=>qb u3 r)) (qb false r)) (qb false r)else qb false r)))):=by
 refine qu ?_
 and_intros
 all_goals(intros;unfold Im;(try simp only[Kh,ZdK,ZdL,ZdM,Uy,ZdN,Zli,Zhr,Zax,ZbQ,Zhs,ZbR,Zht,Zlj,Zhu,KK,Zj.c_def,Xg,lpz,Ztc,mpl,dfs]);(try simp only[itb]);(try simp only[itf,gS,kk]))
 all_goals(repeat' first|refine exI λ_=>?_|refine anJ λ_ _=>?_|refine anI λ_=>?_|refine orE2 ?_ ?_|exact False.elim)
 all_goals(intro h;first|refine run ZEl rfl ?_|refine run ZEm rfl ?_|rw[Zn Zlg.eq_1]|rw[Zn ZsZ.eq_1]|refine run ZEn rfl ?_|rw[Zn Ztd.eq_1]|refine run ZEo rfl ?_|rw[Zn Ztg.eq_1]|refine run ZEp rfl ?_|refine run ZEq rfl ?_|rw[Zn Ztj.eq_1]|refine run ZEr rfl ?_|rw[Zn Ztm.eq_1]|refine run ZEs rfl ?_|refine run ZEt rfl ?_)
 all_goals (refine Ye ?_ h;clear h;simp +decide[*,kk,tI,tII,Z1s,Z1t,Ztb,Zta,Z1u,Z1v,Zte,Z1w,Zth,Z1x,Z1y,Ztk,Z1z,Ztn,Z10,Z11])
abbrev W9:=uq ZF5
def ZF6:((((iM ZdO λa a1 r=>qB (Xg a1 0 3) (¬a1<0/\qb (decide ((andI (shrI a a1) 1)=1)) r) (qb false r))/\
 (iM ZdQ λx x1 x2 a b y v r=>if x1.Kind=4 then qB (ZdO v x1.Order) (if a.Order=x1.Order then if b.Order=x1.Order then r (some (.tup [.agg [I y.Mask,I x1.Order,I y.Left,I y.Right],I 2],[]))else qs7 r else qs7 r) (qs7 r)else r (some (.tup [.agg (y.c.map .t),I 2],[]))))/\
 ((iM Zay λx x1 x2 a b y v x3 r=>if x1.Kind=4 then qB (ZdO v x1.Order) (if a.Order=x1.Order then if b.Order=x1.Order then r (some (.tup [.agg [I y.Mask,I x1.Order,I y.Left,I y.Right],I 2],[]))else qs7 r else qs7 r) (qs7 r)else r (some (.tup [.agg (y.c.map .t),I 2],[])))/\
 (iM ZbS λa a1 a2 a3 r=>if a1.Kind=1 then qB (Xg a1.Ze 0 (w ((a.Atoms.length:Int)-1))) (if a1.Order=0 then ¬a1.Ze<0/\qG a.Atoms a1.Ze (λu2=>∃u3,u2.Vars[0]?=some u3/\r (some (.tup [.agg [I (shlI 1 a1.Ze),I u3,I (-1),I (-1)],I 0],[])))else qs7 r) (qs7 r)else qL (a3.length:Int) λk1=>qL (w (k1-1)) λk3=>if a1.Kind=2 then if a1.Ze=0 then if k1<1 then qs7 r else 0<=k3/\∃u1,a3[k3.toNat]?=some u1/\qG a2 u1 (λu2=>if u2.Order=a1.Order then qs7 r else qI (Uy a u2.Mask) (λu3=>qB (ZdO u3 a1.Order) (r (some (.tup [.agg [I u2.Mask,I a1.Order,I u1,I (-1)],I 1],[]))) (qs7 r)))else qs7 r else qL (⟨0,0,0,0⟩:Zt) λk4=>qL (r (ZdP a a1 k4 a2 a3 k1 a1.Kind true)) λk2=>if a1.Kind=3 then k2 else if a1.Kind=4 then k2 else if a1.Kind=5 then if a1.Ze=0 then if k1<2 then qs7 r else 0<=(w (k1-2))/\∃u1,a3[(w (k1-2)).toNat]?=some u1/\qG a2 u1 (λu2=>0<=k3/\∃u3,a3[k3.toNat]?=some u3/\qG a2 u3 (λu4=>qI (Uy a u2.Mask) (λu5=>qI (Uy a u4.Mask) (λu6=>if(andI u2.Mask u4.Mask)=0 then if(andI u5 u6)=0 then qs7 r else if a1.Order=0 then r (ZdQ a a1 k4 u2 u4 (⟨(orI u2.Mask u4.Mask),u2.Order,u1,u3⟩:Zt) (andI u5 u6))else qs7 r else qs7 r))))else qs7 r else qs7 r)))/\
 (((iM Zhv λq p info stack i r=>qL (Zfg ([]:List Zt) r) λk2=>if i<(p.Steps.length:Int)then qG p.Steps i (λu1=>∃(u2:Zt),∃u3,ZbS q u1 info stack=some (.tup [.agg (u2.c.map .t),I u3],[])/\if u3<0 then k2 else qN info (qL (w ((stack.length:Int)-u3)) λk1=>0<=k1/\k1.toNat<=stack.length/\k1.toNat<=68719476736/\k1.toNat+1<=68719476736/\r (Zhv q p (info++[u2]) ((stack.take (k1.toNat))++[i]) (w (i+1)))))else if(stack.length:Int)=1 then Zjy info r else k2)/\
 (iM ZdR λa a1 r=>qL ([]:List Zt) λk1=>qB (KK a) (qB (Xg (a1.Steps.length:Int) 1 14) (r (Zhv a a1 k1 ([]:V6) 0)) (Zfg k1 r)) (Zfg k1 r)))/\
 ((iM Zln λa a1 r=>∃(u1:List Zt),∃u2,ZdR a a1=some (.tup [.own 0,Bo u2],[.arr 332 4 true (u1.map Zt.c)])/\if u2=true then qL (w ((u1.length:Int)-1)) λk1=>0<=k1/\∃u3,u1[k1.toNat]?=some u3/\qi u3.Mask r else qi 0 r)/\
 (iM Zhw λa a1 r=>qL (qb false r) λk1=>qB (Zhu a1.Box) (qI (Kh a) (λu2=>if(a1.Box.Low.length:Int)=(w (u2+1))then qI (Zln a a1.Zg) (λu3=>if u3=u2 then if 0<u2 then qV (Xg a1.Percent 100 1000) (λu4=>qb u4 r)else k1 else k1)else k1)) k1))))/\
 ((((iM ZdS λq out full m r=>if m<=full then qB (Zax q m) (qN out (r (ZdS q (out++[m]) full (w (m+1))))) (r (ZdS q out full (w (m+1))))else qs3 out r)/\
 (iM Zhx λa r=>qI (Kh a) (λu1=>r (ZdS a ([]:V6) u1 1))))/\
 ((iM ZbT λq out mask m r=>if m<mask then qL (r (ZbT q out mask (w (m+1)))) λk1=>if(andI m mask)=m then qB (Zax q m) (qB (Zax q (w (mask-m))) (qN out (r (ZbT q (out++[m]) mask (w (m+1))))) k1) k1 else k1 else qs3 out r)/\
 (iM Zhy λa a1 r=>qB (ZbQ a a1) (r (ZbT a ([]:V6) a1 1)) (qs3 ([]:V6) r))))/\
 (((iM ZdT λout bits v r=>if v<4 then ¬v<0/\if(andI (shrI bits v) 1)=1 then qN out (r (ZdT (out++[v]) bits (w (v+1))))else r (ZdT out bits (w (v+1)))else qs3 out r)/\
 (iM Ztx λa r=>r (ZdT ([]:V6) a 0)))/\
 ((iM Zhz λa a1 r=>qB (ZdK a a1) (qI (Uy a a1) (λu2=>qs2 (Ztx u2) (λu3=>qs3 u3 r))) (qs3 ([]:V6) r))/\
 ((iM ZdU λout x y i r=>if i<(x.length:Int)then qG x i (λu1=>qB (Zas y u1) (qN out (r (ZdU (out++[u1]) x y (w (i+1))))) (r (ZdU out x y (w (i+1)))))else qs3 out r)/\
 (iM ZbU λa a1 a2 r=>qs2 (Zhz a a1) (λu1=>qs2 (Zhz a a2) (λu2=>r (ZdU ([]:V6) u1 u2 0)))))))):=by
 refine qu ?_
 and_intros
 all_goals(intros;unfold Im;(try simp only[ZdO,ZbS,Zhv,ZdR,Zln,Zhw,ZdS,Zhx,ZbT,Zhy,ZdT,Ztx,Zhz,ZdU,ZbU,Xg,Uy,Zj.c_def,Zh.c_def,Zt.c_def,KK,Zg.c_def,Zhu,Kh,Box.c_def,Zax,ZbQ,ZdK,Zas,ZdP,ZdQ,Zay,lpz,mpl,dfs]);(try simp only[itb]);(try simp only[itf,gS,kk]))
 all_goals(repeat' first|refine exI λ_=>?_|refine anJ λ_ _=>?_|refine anI λ_=>?_|refine orE2 ?_ ?_|exact False.elim)
 all_goals(intro h;first|refine run ZEu rfl ?_|rw[Ev_eq Zll.eq_1]|refine run ZEv rfl ?_|rw[Zn Ztp.eq_1]|refine run ZEw rfl ?_|refine run ZEx rfl ?_|refine run ZEy rfl ?_|rw[Zn Ztr.eq_1]|refine run ZEz rfl ?_|rw[Zn Ztt.eq_1]|refine run ZE0 rfl ?_|rw[Zn Ztv.eq_1]|refine run ZE1 rfl ?_|refine run ZE2 rfl ?_|rw[Zn Zty.eq_1]|refine run ZE3 rfl ?_)
 all_goals (refine Ye ?_ h;clear h;simp +decide[*,kk,tI,tII,Z12,Z13,Z14,Zlm,Ztq,Z15,Z16,Z17,Z18,Zts,Z19,Z1A,Ztu,Z1B,Z1C,Ztw,Z1D,Z1E,Z1F,Ztz,Z1G])
abbrev X6:=uq ZF6
def ZhU{q:Zj}{x:Zh}{x1:Zt}{cc:List Zt}{c:V6}{n x2:Int}{x3:Bool}{r:V3}(h:(if x3=true then(if x.Ze=0 then(if n<2 then(some (.tup [.agg [I 0,I 0,I 0,I 0],I (-1)],[])=some r)else(0<=(w (n-2))/\(∃(e1:Int),c[(w (n-2)).toNat]?=some e1/\(0<=e1/\(∃(e2:Zt),cc[e1.toNat]?=some e2/\(0<=(w (n-1))/\(∃(e3:Int),c[(w (n-1)).toNat]?=some e3/\(0<=e3/\(∃(e4:Zt),cc[e3.toNat]?=some e4/\(∃(v:Int),Uy q e2.Mask=some (I v,[])/\(∃(v1:Int),Uy q e4.Mask=some (I v1,[])/\(if(andI e2.Mask e4.Mask)=0 then(if(andI v v1)=0 then(some (.tup [.agg [I 0,I 0,I 0,I 0],I (-1)],[])=some r)else(if x.Kind=4 then(Zay q x x1 e2 e4 (⟨(orI e2.Mask e4.Mask),(-1),e1,e3⟩:Zt) (andI v v1) false=some r)else(if x.Order=0 then(if x.Kind=5 then(ZdQ q x x1 e2 e4 (⟨(orI e2.Mask e4.Mask),e2.Order,e1,e3⟩:Zt) (andI v v1)=some r)else(Zay q x x1 e2 e4 (⟨(orI e2.Mask e4.Mask),(-1),e1,e3⟩:Zt) (andI v v1) false=some r))else(some (.tup [.agg [I 0,I 0,I 0,I 0],I (-1)],[])=some r))))else(some (.tup [.agg [I 0,I 0,I 0,I 0],I (-1)],[])=some r)))))))))))))else(some (.tup [.agg [I 0,I 0,I 0,I 0],I (-1)],[])=some r))else(some (.tup [.agg [I 0,I 0,I 0,I 0],I (-1)],[])=some r))):ZdP q x x1 cc c n x2 x3=some r:=by
 unfold ZdP
 try simp only[lpz]
 rw[Ev_eq Zlm.eq_1];by_cases q1:x3=true
 .rw[Ya q1]at h;by_cases q2:x.Ze=0
  .rw[Ya q2]at h;replace q2:=eq_true q2;by_cases q3:n<2
   .rw[Ya q3]at h;refine Ye ?_ h;clear h;simp +decide[*,tI,tII,lpz]
   .rw[Yb q3]at h;obtain⟨q4,h⟩:=h;obtain⟨e1,q5,h⟩:=h;have gq5:=Wd q5;have kq5:=Wm q5;obtain⟨q6,h⟩:=h;obtain⟨e2,q7,h⟩:=h;have gq7:=Wd q7;have kq7:=Wm q7;obtain⟨q8,h⟩:=h;obtain⟨e3,q9,h⟩:=h;have gq9:=Wd q9;have kq9:=Wm q9;obtain⟨q10,h⟩:=h;obtain⟨e4,q11,h⟩:=h;have gq11:=Wd q11;have kq11:=Wm q11;obtain⟨v,q12,h⟩:=h;unfold Uy at q12
    try simp[lpz]at q12
    obtain⟨v1,q13,h⟩:=h;unfold Uy at q13
    try simp[lpz]at q13
    by_cases q14:(andI e2.Mask e4.Mask)=0
    .rw[Ya q14]at h;replace q14:=eq_true q14;by_cases q15:(andI v v1)=0
     .rw[Ya q15]at h;replace q15:=eq_true q15;refine Ye ?_ h;clear h;simp +decide[*,tI,tII,lpz]
     .rw[Yb q15]at h;replace q15:=eq_false q15;by_cases q16:x.Kind=4
      .rw[Ya q16]at h;replace q16:=eq_true q16;have q17:(x.Kind=5)=False:=eq_false (by intro hh;simp_all);refine Ye ?_ h;clear h;simp +decide[*,tI,tII,Zay,lpz]
      .rw[Yb q16]at h;replace q16:=eq_false q16;by_cases q18:x.Order=0
       .rw[Ya q18]at h;replace q18:=eq_true q18;by_cases q19:x.Kind=5
        .rw[Ya q19]at h;replace q19:=eq_true q19;refine Ye ?_ h;clear h;simp +decide[*,tI,tII,ZdQ,lpz]
        .rw[Yb q19]at h;replace q19:=eq_false q19;refine Ye ?_ h;clear h;simp +decide[*,tI,tII,Zay,lpz]
       .rw[Yb q18]at h;replace q18:=eq_false q18;refine Ye ?_ h;clear h;simp +decide[*,tI,tII,lpz]
    .rw[Yb q14]at h;replace q14:=eq_false q14;refine Ye ?_ h;clear h;simp +decide[*,tI,tII,lpz]
  .rw[Yb q2]at h;replace q2:=eq_false q2;refine Ye ?_ h;clear h;simp +decide[*,tI,tII,lpz]
 .rw[Yb q1]at h;refine Ye ?_ h;clear h;simp +decide[*,tI,tII,lpz]
