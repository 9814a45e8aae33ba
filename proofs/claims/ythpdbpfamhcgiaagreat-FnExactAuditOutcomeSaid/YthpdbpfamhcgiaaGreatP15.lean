/-
  Parts of the proofs for this seat: G1 G2 G3.
-/
import Derived.Test.YthpdbpfamhcgiaaGreatP13
import Derived.Test.YthpdbpfamhcgiaaGreatP14
set_option linter.all false
set_option maxRecDepth 100000
set_option maxHeartbeats 4000000
namespace Go.Proofs.YthpdbpfamhcgiaaGreat
open Go.AM
def ZKX:((((iM ZT λa a1 a2 r=>if a1<=a then qb (decide (a<=a2)) r else qb false r)/\
 (iM ZeR λa r=>if(a.size:Int)=1 then ∃u1,a[0]?=some u1/\if 97<=(u1.toNat:Int)then qb (decide ((u1.toNat:Int)<=122)) r else qb false r else qb false r))/\
 ((iM Zij λs v x x1 r=>if x1<x then qG s x1 (λu1=>if v=u1 then qi x1 r else r (Zij s v x (w (x1+1))))else qi (-1) r)/\
 (iM VZ λa a1 r=>r (Zij a a1 (a.length:Int) 0))))/\
 (((iM UU λa a1 r=>qI (VZ a a1) (λu1=>qb (decide (0<=u1)) r))/\
 (iM Zik λs v x x1 r=>if x1<x then qG s x1 (λu1=>if v=u1 then qi x1 r else r (Zik s v x (w (x1+1))))else qi (-1) r))/\
 ((iM ZmN λa a1 r=>r (Zik a a1 (a.length:Int) 0))/\
 ((iM ZmO λa a1 r=>qI (ZmN a a1) (λu1=>qb (decide (0<=u1)) r))/\
 (iM ZcE λq seen x x1 x2 r=>if x2<x1 then qG x x2 (λu1=>qB (ZeR u1.Zq) (qB (ZT (u1.Za.length:Int) 1 3) (r (Zim q seen u1 x x1 x2 u1.Za (u1.Za.length:Int) 0)) (qb false r)) (qb false r))else qV (ZmO seen false) (λu1=>qb (!u1) r))))))/\
 ((((iM Zim λq seen a x x1 x2 x3 x4 x5 r=>if x5<x4 then qG x3 x5 (λu1=>qB (ZT u1 0 (w (q.Zk-1))) (x5.toNat<=a.Za.length/\qB (UU (a.Za.take x5.toNat) u1) (qb false r) (qG seen u1 (λu4=>r (Zim q (seen.set u1.toNat true) a x x1 x2 x3 x4 (w (x5+1)))))) (qb false r))else r (ZcE q seen x x1 (w (x2+1))))/\
 (iM Zin λlocation x x1 x2 r=>if x2<x1 then qG x x2 (λu1=>qB (ZT u1 0 7) (r (Zin location x x1 (w (x2+1)))) (qb false r))else qb (decide ((location.length:Int)<=16)) r))/\
 ((iM ZcF λa r=>r (Zin a a (a.length:Int) 0))/\
 (iM Zio λa b x x1 r=>if x1<x then qG a x1 (λu1=>qH b x1 (λu2=>if u1<u2 then qb false r else r (Zio a b x (w (x1+1)))))else qb true r)))/\
 (((iM ZmS λa a1 r=>if(a.length:Int)=(a1.length:Int)then r (Zio a a1 (a.length:Int) 0)else qb false r)/\
 (iM ZmT λa r=>qB (ZcF a.Low) (qB (ZcF a.ZZ) (if 0<(a.Low.length:Int)then qV (ZmS a.ZZ a.Low) (λu3=>qb u3 r)else qb false r) (qb false r)) (qb false r)))/\
 ((iM Zip λb n x x1 r=>if x1<x then qG b.ZZ x1 (λu1=>qH b.Low x1 (λu2=>r (Zip b (w (n*(w ((w (u1-u2))+1)))) x (w (x1+1)))))else qi n r)/\
 ((iM ZmU λa r=>r (Zip a 1 (a.Low.length:Int) 0))/\
 (iM Ziq λa r=>qB (ZmT a) (qI (ZmU a) (λu2=>qi (if 401<u2 then 401 else u2) r)) (qi 0 r)))))):=by
 refine qu ?_
 and_intros
 all_goals(intros;unfold Im;(try simp only[ZT,ZeR,Zij,VZ,UU,Zik,ZmN,ZmO,ZcE,Zim,Zin,ZcF,Zio,ZmS,ZmT,Zip,ZmU,Ziq,Box.c_def,lpz,ZmR,mpl,dfs]);(try simp only[itb]);(try simp only[itf,gS,kk]))
 all_goals(repeat' first|refine exI λ_=>?_|refine anJ λ_ _=>?_|refine anI λ_=>?_|refine orE2 ?_ ?_|exact False.elim)
 all_goals(intro h;first|refine run ZGM rfl ?_|refine run ZGN rfl ?_|rw[Zr Zro.eq_1]|refine run ZGO rfl ?_|refine run ZGP rfl ?_|rw[Zr Zrr.eq_1]|refine run ZGQ rfl ?_|refine run ZGR rfl ?_|rw[Zr ZmP.eq_1]|rw[Zr Zrt.eq_1]|rw[Zr Zrx.eq_1]|refine run ZGT rfl ?_|rw[Zr Zr0.eq_1]|refine run ZGU rfl ?_|refine run ZGV rfl ?_|rw[Zr Zr3.eq_1]|refine run ZGW rfl ?_|refine run ZGX rfl ?_)
 all_goals (refine Yd ?_ h;clear h;simp +decide[*,kk,tI,tII,Z35,Z36,Zrp,Z37,Z38,Zrs,Z39,Z3A,Zrv,Zru,Zry,Z3B,Zr1,Z3C,Z3D,Zr4,Z3E,Z3F])
abbrev WO:=uq ZKX
def ZKY:((iM Vd λa r=>qB (QF a) (¬(a.Zb.length:Int)<0/\qi (w ((shlI 1 (a.Zb.length:Int))-1)) r) (qi 0 r))/\
 ((iM ZcG λq out mask v r=>if v<q.Zk then r (Zis q out mask v q.Zb (q.Zb.length:Int) 0)else qs3 out r)/\
 (iM Zis λq out mask v x x1 x2 r=>if x2<x1 then qG x x2 (λu1=>¬x2<0/\qL (r (Zis q out mask v x x1 (w (x2+1)))) λk1=>if(andI (shrI mask x2) 1)=1 then qB (UU u1.Za v) (qN out (r (ZcG q (out++[v]) mask (w (v+1))))) k1 else k1)else r (ZcG q out mask (w (v+1))))))/\
 (((iM Ki λa a1 r=>r (ZcG a ([]:V6) a1 0))/\
 (iM ZeS λout b x x1 x2 r=>if x2<x1 then qG x x2 (λu1=>qB (UU b u1) (qN out (r (ZeS (out++[u1]) b x x1 (w (x2+1))))) (r (ZeS out b x x1 (w (x2+1)))))else qs3 out r))/\
 ((iM Zbo λa a1 r=>r (ZeS ([]:V6) a1 a (a.length:Int) 0))/\
 (iM ZcH λa a1 a2 a3 r=>if a1.Zs=1 then qB (ZT a1.Ze 0 (w ((a.Zb.length:Int)-1))) (if a1.Zl=0 then ¬a1.Ze<0/\qG a.Zb a1.Ze (λu2=>∃u3,u2.Za[0]?=some u3/\r (some (.tup [.agg [I (shlI 1 a1.Ze),I u3,I (-1),I (-1)],Bo true],[])))else Zac r) (Zac r)else if a1.Ze=0 then qL (a3.length:Int) λk2=>qL (w (k2-1)) λk4=>if a1.Zs=2 then if k2<1 then Zac r else 0<=k4/\∃u1,a3[k4.toNat]?=some u1/\qG a2 u1 (λu2=>qs2 (Ki a u2.Mask) (λu3=>qB (UU u3 a1.Zl) (if u2.Zl=a1.Zl then Zac r else r (some (.tup [.agg [I u2.Mask,I a1.Zl,I u1,I (-1)],Bo true],[]))) (Zac r)))else if k2<2 then Zac r else 0<=(w (k2-2))/\∃u1,a3[(w (k2-2)).toNat]?=some u1/\0<=k4/\∃u2,a3[k4.toNat]?=some u2/\qG a2 u1 (λu3=>qG a2 u2 (λu4=>qs2 (Ki a u3.Mask) (λu5=>qs2 (Ki a u4.Mask) (λu6=>qs2 (Zbo u5 u6) (λu7=>qL (orI u3.Mask u4.Mask) λk1=>qL (qs43 k1 u1 u2 r) λk5=>if(andI u3.Mask u4.Mask)=0 then if(u7.length:Int)=0 then k5 else if a1.Zs=3 then r (some (.tup [.agg [I k1,I (-1),I u1,I u2],Bo (decide (a1.Zl=0))],[]))else if a1.Zs=5 then r (some (.tup [.agg [I k1,I u3.Zl,I u1,I u2],Bo (decide (a1.Zl=0))],[]))else if a1.Zs=4 then qL (r (some (.tup [.agg [I k1,I a1.Zl,I u1,I u2],Bo false],[]))) λk3=>qB (UU u7 a1.Zl) (if u3.Zl=a1.Zl then r (some (.tup [.agg [I k1,I a1.Zl,I u1,I u2],Bo (decide (u4.Zl=a1.Zl))],[]))else k3) k3 else k5 else k5)))))else Zac r))):=by
 refine qu ?_
 and_intros
 all_goals(intros;unfold Im;(try simp only[Vd,ZcG,Zis,Ki,ZeS,Zbo,ZcH,QF,Zf.c_def,UU,ZT,lpz,Zr8,mpl,dfs]);(try simp only[itb]);(try simp only[itf,gS,kk]))
 all_goals(repeat' first|refine exI λ_=>?_|refine anJ λ_ _=>?_|refine anI λ_=>?_|refine orE2 ?_ ?_|exact False.elim)
 all_goals(intro h;first|refine run ZGY rfl ?_|rw[Zr ZmV.eq_1]|rw[Zr Zr5.eq_1]|refine run ZGZ rfl ?_|rw[Zr Zr9.eq_1]|refine run ZHa rfl ?_|refine run ZHb rfl ?_)
 all_goals (refine Yd ?_ h;clear h;simp +decide[*,kk,tI,tII,Z3G,Zr7,Zr6,Z3H,Z3I,ZrA,Z3J,Z3K])
abbrev Uq:=uq ZKY
def ZKZ{a:Zf}{r:V3}(h:(∃(v:Bool),ZT a.Zk 1 4=some (Bo v,[])/\(if v=true then(∃(v1:Bool),ZT (a.Zb.length:Int) 1 4=some (Bo v1,[])/\(if v1=true then(0<=a.Zk/\(a.Zk.toNat*1<=room/\(a.Zk<=140737488355328/\(ZcE a (List.replicate (a.Zk).toNat false) a.Zb (a.Zb.length:Int) 0=some r))))else(some (Bo false,[])=some r)))else(some (Bo false,[])=some r)))):QF a=some r:=by
 unfold QF
 try simp only[lpz]
 refine run ZGS rfl ?_;obtain⟨v,q1,h⟩:=h;unfold ZT at q1
 try simp[lpz]at q1
 by_cases q2:v=true
 .rw[Ya q2]at h;obtain⟨v1,q3,h⟩:=h;unfold ZT at q3
  try simp[lpz]at q3
  by_cases q4:v1=true
  .rw[Ya q4]at h;obtain⟨q5,h⟩:=h;obtain⟨q6,h⟩:=h;have zq6:=q6;try simp[lpz]at zq6
   obtain⟨q7,h⟩:=h;refine Yd ?_ h;clear h;simp +decide[*,ZmQ,tI,tII,ZcE,ZmR,lpz]
  .rw[Yb q4]at h;refine Yd ?_ h;clear h;simp +decide[*,ZmQ,tI,tII,lpz]
 .rw[Yb q2]at h;refine Yd ?_ h;clear h;simp +decide[*,ZmQ,tI,tII,lpz]
def ZLa:((((iM Zit λq info stack x x1 x2 r=>qL (stack.length:Int) λk1=>if x2<x1 then qG x x2 (λu1=>∃(u2:Zo),∃u3,ZcH q u1 info stack=some (.tup [.agg (u2.c.map .t),Bo u3],[])/\if u3=true then qN info (qL (Zit q (info++[u2])) λk2=>if 0<=u2.Right then qL (w (k1-2)) λk3=>0<=k3/\k3.toNat<=stack.length/\k3.toNat+1<=68719476736/\r (k2 ((stack.take (k3.toNat))++[x2]) x x1 (w (x2+1)))else if 0<=u2.Left then qL (w (k1-1)) λk4=>0<=k4/\k4.toNat<=stack.length/\k4.toNat+1<=68719476736/\r (k2 ((stack.take (k4.toNat))++[x2]) x x1 (w (x2+1)))else qN stack (r (k2 (stack++[x2]) x x1 (w (x2+1)))))else Zcx r)else if k1=1 then Zm4 info r else Zcx r)/\
 (iM KK λa a1 r=>qB (QF a) (qB (ZT (a1.Steps.length:Int) 1 14) (r (Zit a ([]:List Zo) ([]:V6) a1.Steps (a1.Steps.length:Int) 0)) (Zcx r)) (Zcx r)))/\
 ((iM ZmY λa a1 r=>(KK a a1=some (.tup [.t .nil,Bo false],[])/\qi 0 r)\/(Zib (KK a a1) (λu1=>qL (w ((u1.length:Int)-1)) λk1=>0<=k1/\∃u2,u1[k1.toNat]?=some u2/\qi u2.Mask r)))/\
 (iM Ziu λl n x x1 x2 r=>if x2<x1 then qG x x2 (λu1=>qB (ZT u1 0 (w (n-1))) (x2.toNat<=l.length/\qB (UU (l.take x2.toNat) u1) (qb false r) (r (Ziu l n x x1 (w (x2+1))))) (qb false r))else qb (decide (0<(l.length:Int))) r)))/\
 (((iM ZmZ λa a1 r=>r (Ziu a a1 a (a.length:Int) 0))/\
 (iM Ziv λq b x x1 x2 r=>if x2<x1 then qG x x2 (λu1=>qI (ZmY q u1) (λu2=>qI (Vd q) (λu3=>if u2=u3 then r (Ziv q b x x1 (w (x2+1)))else qb false r)))else r (ZeT b b.ZQ (b.ZQ.length:Int) 0)))/\
 ((iM ZeT λb x x1 x2 r=>if x2<x1 then qG x x2 (λu1=>qB (ZT u1 1 500000000000) (qL (r (ZeT b x x1 (w (x2+1)))) λk1=>if 0<x2 then 0<=(w (x2-1))/\∃u3,b.ZQ[(w (x2-1)).toNat]?=some u3/\if u1=(w (b.Xk*u3))then k1 else qb false r else k1) (qb false r))else r (ZeU b b.ZO (b.ZO.length:Int) 0))/\
 ((iM ZeU λb x x1 x2 r=>if x2<x1 then qG x x2 (λu1=>qB (ZmZ u1 (b.Xl.length:Int)) (r (ZeU b x x1 (w (x2+1)))) (qb false r))else qL (b.ZQ.length:Int) λk1=>if 0<k1 then qb (decide ((b.ZO.length:Int)=k1)) r else qb false r)/\
 (iM ZcJ λa a1 r=>qL (qb false r) λk1=>qB (QF a) (qB (ZT a1.Xh 1 999) (qB (ZT a1.Xk 2 8) (qB (ZT a1.XL 0 100) (qI (Ziq a1.Box) (λu5=>qB (ZT u5 1 400) (qI (Vd a) (λu7=>if(a1.Box.Low.length:Int)=(w (u7+1))then r (Ziv a a1 a1.Xl (a1.Xl.length:Int) 0)else k1)) k1)) k1) k1) k1) k1)))))/\
 ((((iM ZeV λa a1 r=>qB (QF a) (¬(a.Zb.length:Int)<0/\qV (ZT a1 0 (w ((shlI 1 (a.Zb.length:Int))-1))) (λu2=>qb u2 r)) (qb false r))/\
 (iM ZeW λvars mask out x x1 x2 r=>if x2<x1 then qG x x2 (λu1=>¬x2<0/\qL (r (ZeW vars mask out x x1 (w (x2+1)))) λk1=>if(andI (shrI mask x2) 1)=0 then qs2 (Zbo u1.Za vars) (λu2=>if 0<(u2.length:Int)then r (ZeW vars mask (orI out (shlI 1 x2)) x x1 (w (x2+1)))else k1)else k1)else qi out r))/\
 ((iM Znb λa a1 r=>qs2 (Ki a a1) (λu1=>r (ZeW u1 a1 0 a.Zb (a.Zb.length:Int) 0)))/\
 (iM Ziw λq mask got r=>qI (Znb q got) (λu1=>qL (orI got (andI u1 mask)) λk1=>if k1=got then qb (decide (got=mask)) r else r (Ziw q mask k1)))))/\
 (((iM Zak λa a1 r=>if a1=0 then qb false r else r (Ziw a a1 (andI a1 (w (0-a1)))))/\
 (iM Zal λa a1 r=>qB (ZeV a a1) (qV (Zak a a1) (λu2=>qb u2 r)) (qb false r)))/\
 ((iM Un λx r=>r (some (.bsl 1 5,[.box (x.c.map .t),.box [.ptr 0 0,.ptr 0 6,.ptr 0 12,.ptr 0 18,.ptr 0 24]])))/\
 ((iM Zix λx r=>r (some (.bsl 1 5,[.box (x.c.map .t),.box [.ptr 0 0,.ptr 0 1,.ptr 0 2,.ptr 0 3,.ptr 0 4]])))/\
 (iM ZcK λo x x1 x2 r=>if x2<x1 then qG x x2 (λu1=>qB (ZT u1.Add (-99) 99) (qB (ZT u1.ZY 1 8192) (qL (r (ZcK o x x1 (w (x2+1)))) λk1=>if 0<x2 then 0<=(w (x2-1))/\∃u4,o.Steps[(w (x2-1)).toNat]?=some u4/\if u1.ZY<=u4.ZY then qb false r else k1 else k1) (qb false r)) (qb false r))else qb (decide ((o.Steps.length:Int)<=4)) r))))):=by
 refine qu ?_
 and_intros
 all_goals(intros;unfold Im;(try simp only[Zit,KK,ZmY,Ziu,ZmZ,Ziv,ZeT,ZeU,ZcJ,ZeV,ZeW,Znb,Ziw,Zak,Zal,Un,Zix,ZcK,ZcH,Zj.c_def,Zf.c_def,Zo.c_def,QF,ZT,Zg.c_def,UU,Vd,Ziq,Box.c_def,Zbo,Ki,lpz,mpl,dfs]);(try simp only[itb]);(try simp only[itf,gS,kk]))
 all_goals(repeat' first|refine exI λ_=>?_|refine anJ λ_ _=>?_|refine anI λ_=>?_|refine orE2 ?_ ?_|exact False.elim)
 all_goals(intro h;first|rw[Zr ZrB.eq_1]|refine run ZHc rfl ?_|refine run ZHd rfl ?_|rw[Zr ZrE.eq_1]|refine run ZHe rfl ?_|rw[Zr ZrG.eq_1]|rw[Zr ZrH.eq_1]|rw[Zr ZrI.eq_1]|refine run ZHf rfl ?_|refine run ZHg rfl ?_|rw[Zr ZrM.eq_1]|refine run ZHh rfl ?_|rw[Zr ZrO.eq_1]|refine run ZHi rfl ?_|refine run ZHj rfl ?_|refine W8 ZHk rfl ?_|refine W8 ZHl rfl ?_|rw[Zr ZrQ.eq_1])
 all_goals (refine Yd ?_ h;clear h;simp +decide[*,kk,tI,tII,Z3L,ZrC,Z3M,Z3N,ZrF,Z3O,ZrL,ZrK,ZrJ,Z3P,Z3Q,Z3R,ZrN,Z3S,Z3U,Z3V,Z3W,Z3X,ZrR])
abbrev W5:=uq ZLa
def ZLb:((iM Vl λa r=>Zix a=some (.bsl 1 5,[.box (a.c.map .t),.box [.ptr 0 0,.ptr 0 1,.ptr 0 2,.ptr 0 3,.ptr 0 4]])/\r (Qq a 5 0))/\
 ((iM ZeX λout a r=>if a<=7 then r (ZcM out a 0)else Qm out r)/\
 (iM ZcM λout a b r=>if b<=7 then r (ZeY out a b 0)else r (ZeX out (w (a+1))))))/\
 (((iM ZeY λout a b c r=>if c<=7 then qN out (r (ZeY (out++[[a,b,c]]) a b (w (c+1))))else r (ZcM out a (w (b+1))))/\
 (iM UV λr=>r (ZeX ([]:V4) 0)))/\
 ((iM Uo λa r=>qM a (qs3 a r))/\
 (iM QG λa r=>qB (ZT a 0 7) (if a=0 then qi 0 r else ¬(w (2*(w (a-1))))<0/\qi (shlI 1 (w (2*(w (a-1))))) r) (qi (-1) r)))):=by
 refine qu ?_
 and_intros
 all_goals(intros;unfold Im;(try simp only[Vl,ZeX,ZcM,ZeY,UV,Uo,QG,Zix,Z8.c_def,ZT,Qq,lpz,ZrX,ZrY,mpl,dfs]);(try simp only[itb]);(try simp only[itf,gS,kk]))
 all_goals(repeat' first|refine exI λ_=>?_|refine anJ λ_ _=>?_|refine anI λ_=>?_|refine orE2 ?_ ?_|exact False.elim)
 all_goals(intro h;first|refine run ZHm rfl ?_|rw[Zr Znd.eq_1]|rw[Zr Znc.eq_1]|rw[Zr ZrT.eq_1]|refine run ZHn rfl ?_|refine run ZHo rfl ?_|refine run ZHp rfl ?_)
 all_goals (refine Yd ?_ h;clear h;simp +decide[*,kk,tI,tII,Z3Y,ZrW,ZrV,ZrU,Z3Z,Z4a,Z4b])
abbrev JI:=uq ZLb
def ZgR(o:Z8)(x x1:Int)(r:V3)(h:(if x1<x then(if x1=0 then(∃(v:Bool),ZT o.ZD (-99) 99=some (Bo v,[])/\(if v=true then(Qq o x (w (x1+1))=some r)else(some (Bo false,[])=some r)))else(if x1=1 then(∃(v1:Bool),ZT o.ZE (-99) 99=some (Bo v1,[])/\(if v1=true then(Qq o x (w (x1+1))=some r)else(some (Bo false,[])=some r)))else(if x1=2 then(∃(v2:Bool),ZT o.ZF (-99) 99=some (Bo v2,[])/\(if v2=true then(Qq o x (w (x1+1))=some r)else(some (Bo false,[])=some r)))else(if x1=3 then(∃(v3:Bool),ZT o.ZG (-99) 99=some (Bo v3,[])/\(if v3=true then(Qq o x (w (x1+1))=some r)else(some (Bo false,[])=some r)))else(if x1=4 then(∃(v4:Bool),ZT o.ZH (-99) 99=some (Bo v4,[])/\(if v4=true then(Qq o x (w (x1+1))=some r)else(some (Bo false,[])=some r)))else False)))))else(ZcK o o.Steps (o.Steps.length:Int) 0=some r))):Qq o x x1=some r:=by
 unfold Qq
 try simp only[lpz]
 rw[Zr ZrP.eq_1];by_cases q1:x1<x
 .rw[Ya q1]at h;by_cases q2:x1=0
  .rw[Ya q2]at h;subst q2;obtain⟨v,q3,h⟩:=h;unfold ZT at q3
   try simp[lpz]at q3
   by_cases q4:v=true
   .rw[Ya q4]at h;refine Yd ?_ h;clear h;simp +decide[*,tI,tII,Qq,lpz]
   .rw[Yb q4]at h;refine Yd ?_ h;clear h;simp +decide[*,tI,tII,lpz]
  .rw[Yb q2]at h;replace q2:=eq_false q2;by_cases q5:x1=1
   .rw[Ya q5]at h;subst q5;obtain⟨v1,q6,h⟩:=h;unfold ZT at q6
    try simp[lpz]at q6
    by_cases q7:v1=true
    .rw[Ya q7]at h;refine Yd ?_ h;clear h;simp +decide[*,tI,tII,Qq,lpz]
    .rw[Yb q7]at h;refine Yd ?_ h;clear h;simp +decide[*,tI,tII,lpz]
   .rw[Yb q5]at h;replace q5:=eq_false q5;by_cases q8:x1=2
    .rw[Ya q8]at h;subst q8;obtain⟨v2,q9,h⟩:=h;unfold ZT at q9
     try simp[lpz]at q9
     by_cases q10:v2=true
     .rw[Ya q10]at h;refine Yd ?_ h;clear h;simp +decide[*,tI,tII,Qq,lpz]
     .rw[Yb q10]at h;refine Yd ?_ h;clear h;simp +decide[*,tI,tII,lpz]
    .rw[Yb q8]at h;replace q8:=eq_false q8;by_cases q11:x1=3
     .rw[Ya q11]at h;subst q11;obtain⟨v3,q12,h⟩:=h;unfold ZT at q12
      try simp[lpz]at q12
      by_cases q13:v3=true
      .rw[Ya q13]at h;refine Yd ?_ h;clear h;simp +decide[*,tI,tII,Qq,lpz]
      .rw[Yb q13]at h;refine Yd ?_ h;clear h;simp +decide[*,tI,tII,lpz]
     .rw[Yb q11]at h;replace q11:=eq_false q11;by_cases q14:x1=4
      .rw[Ya q14]at h;subst q14;obtain⟨v4,q15,h⟩:=h;unfold ZT at q15
       try simp[lpz]at q15
       by_cases q16:v4=true
       .rw[Ya q16]at h;refine Yd ?_ h;clear h;simp +decide[*,tI,tII,Qq,lpz]
       .rw[Yb q16]at h;refine Yd ?_ h;clear h;simp +decide[*,tI,tII,lpz]
      .rw[Yb q14]at h;replace q14:=eq_false q14;cases h
 .rw[Yb q1]at h;refine Yd ?_ h;clear h;simp +decide[*,tI,tII,ZcK,ZrS,lpz]
def ZLc:((((iM ZeZ λleft right n x x1 x2 r=>if x2<x1 then qG x x2 (λu1=>if u1.ZY<=(w (left+right))then r (ZeZ left right (w (n+u1.Add)) x x1 (w (x2+1)))else r (ZeZ left right n x x1 (w (x2+1))))else qi n r)/\
 (iM ZcN λa a1 a2 a3 r=>r (ZeZ a1 a2 (w ((w ((w ((w (a.ZD+(w (a.ZE*a1))))+(w (a.ZF*a2))))+(w (a.ZG*a3))))+(w ((w (a.ZH*a1))*a2)))) a.Steps (a.Steps.length:Int) 0)))/\
 ((iM J7 λa a1 r=>∃u1,a1[0]?=some u1/\qI (QG u1) (λu2=>∃u3,a1[1]?=some u3/\qI (QG u3) (λu4=>∃u5,a1[2]?=some u5/\qI (QG u5) (λu6=>qI (ZcN a u2 u4 u6) (λu7=>qi u7 r)))))/\
 (iM Zbp λo x x1 x2 r=>if x2<x1 then qG x x2 (λu1=>r (Zam o x u1 x1 x2 (u1.length:Int) 0))else KF r)))/\
 (((iM Zam λo x t x1 x2 x3 x4 r=>if x4<x3 then qG t x4 (λu1=>qL (r (Zam o x t x1 x2 x3 (w (x4+1)))) λk1=>if u1=7 then k1 else qs2 (Uo t) (λu2=>qH u2 x4 (λu3=>qL (u2.set x4.toNat (w (u3+1))) λk2=>qI (J7 o k2) (λu4=>qI (J7 o t) (λu5=>if u4<u5 then r (some (.tup [L 1 (t.map ic),.own 0,Bo true],[.arr 3 1 true (k2.map ic)]))else k1)))))else r (Zbp o x x1 (w (x2+1))))/\
 (iM WW λa r=>qB (Vl a) (UR UV (λu2=>r (Zbp a u2 (u2.length:Int) 0))) (KF r)))/\
 ((iM Zbq λo x kind x1 x2 x3 x4 r=>if x4<x3 then qG x x4 (λu1=>qI (J7 o.Z1 u1) (λu2=>if u2<1 then Zcy kind u1 r else r (Zbq o x kind x1 x2 x3 (w (x4+1)))))else r (Ww o x1 (w (x2+1))))/\
 ((iM Zbr λo x kind x1 x2 x3 x4 r=>if x4<x3 then qG x x4 (λu1=>qI (J7 o.Zz u1) (λu2=>if u2<1 then Zcy kind u1 r else r (Zbr o x kind x1 x2 x3 (w (x4+1)))))else r (Ww o x1 (w (x2+1))))/\
 (iM Zbs λo x kind x1 x2 x3 x4 r=>if x4<x3 then qG x x4 (λu1=>qI (J7 o.Z2 u1) (λu2=>if u2<1 then Zcy kind u1 r else r (Zbs o x kind x1 x2 x3 (w (x4+1)))))else r (Ww o x1 (w (x2+1))))))))/\
 ((((iM Zbt λo x kind x1 x2 x3 x4 r=>if x4<x3 then qG x x4 (λu1=>qI (J7 o.Z3 u1) (λu2=>if u2<1 then Zcy kind u1 r else r (Zbt o x kind x1 x2 x3 (w (x4+1)))))else r (Ww o x1 (w (x2+1))))/\
 (iM Zbu λo x kind x1 x2 x3 x4 r=>if x4<x3 then qG x x4 (λu1=>qI (J7 o.Z4 u1) (λu2=>if u2<1 then Zcy kind u1 r else r (Zbu o x kind x1 x2 x3 (w (x4+1)))))else r (Ww o x1 (w (x2+1)))))/\
 ((iM Zfb λa r=>Un a=some (.bsl 1 5,[.box (a.c.map .t),.box [.ptr 0 0,.ptr 0 6,.ptr 0 12,.ptr 0 18,.ptr 0 24]])/\r (Ww a 5 0))/\
 (iM Zao λa r=>(∃(u1:V6),∃u2,∃(u3:V6),Zfb a=some (.tup [I u2,L 1 (u3.map ic),.own 0],[.arr 3 1 true (u1.map ic)])/\qb (decide (u2=0)) r)\/(∃u1,Zfb a=some (.tup [I u1,.t .nil,.t .nil],[])/\qb (decide (u1=0)) r)\/(∃u1,∃(u2:V6),Zfb a=some (.tup [I u1,L 1 (u2.map ic),.t .nil],[])/\qb (decide (u1=0)) r))))/\
 (((iM Zi0 λa a1 a2 r=>qB (ZcJ a1 a2) (qI (Vd a1) (λu2=>qB (Zal a1 u2) (qV (Zao a) (λu4=>qb u4 r)) (qb false r))) (qb false r))/\
 (iM Zi1 λrow arity x x1 x2 r=>if x2<x1 then qG x x2 (λu1=>qB (ZT u1 0 9) (r (Zi1 row arity x x1 (w (x2+1)))) (qb false r))else qb (decide ((row.length:Int)=arity)) r))/\
 ((iM ZcO λa a1 r=>r (Zi1 a a1 a (a.length:Int) 0))/\
 ((iM Znh λa r=>qb (!(decide (a=a))) r)/\
 (iM Zi2 λa a1 r=>qV (Znh a) (λu1=>qV (Znh a1) (λu2=>if u1=true then if u2=true then qi 0 r else qi (-1) r else if u2=true then qi 1 r else if a<a1 then qi (-1) r else if a1<a then qi 1 r else qi 0 r))))))):=by
 refine qu ?_
 and_intros
 all_goals(intros;unfold Im;(try simp only[ZeZ,ZcN,J7,Zbp,Zam,WW,Zbq,Zbr,Zbs,Zbt,Zbu,Zfb,Zao,Zi0,Zi1,ZcO,Znh,Zi2,QG,Z8.c_def,Uo,Vl,UV,Un,Zn.c_def,ZcJ,Vd,Zal,ZM.c_def,Box.c_def,Zf.c_def,ZT,Ww,lpz,Zse,KL,Zan,mpl,dfs]);(try simp only[itb]);(try simp only[itf,gS,kk]))
 all_goals(repeat' first|refine exI λ_=>?_|refine anJ λ_ _=>?_|refine anI λ_=>?_|refine orE2 ?_ ?_|exact False.elim)
 all_goals(intro h;first|rw[Zr ZrZ.eq_1]|refine run ZHq rfl ?_|refine run ZHr rfl ?_|rw[Zr Znf.eq_1]|rw[Zr Zsb.eq_1]|refine run ZHs rfl ?_|rw[Zr Zsf.eq_1]|refine run ZHt rfl ?_|refine run ZHu rfl ?_|refine run ZHv rfl ?_|rw[Zr Zsj.eq_1]|refine run ZHw rfl ?_|refine run ZHx rfl ?_|refine run ZHy rfl ?_)
 all_goals (refine Yd ?_ h;clear h;simp +decide[*,kk,tI,tII,Z4c,Zsa,Z4d,Z4e,Zsd,Z4f,Zsc,Z4g,Zsg,Z4h,Z4i,Z4j,Zsk,Z4k,Z4l,Z4m])
abbrev W9:=uq ZLc
def ZgS{x:Zn}{x1 x2:Int}{r:V3}(h:(if x2<x1 then(if x2=0 then(∃(v:Bool),Vl x.Z1=some (Bo v,[])/\(if v=true then((WW x.Z1=some (.tup [.t .nil,.t .nil,Bo false],[])/\(∃(v1:V4),UV=some (.own 0,[.arr 40 1 true (v1.map isc)])/\(Zbq x v1 (w (1+x2)) x1 x2 (v1.length:Int) 0=some r)))\/(∃(v2:V6) (v3:V6),WW x.Z1=some (.tup [L 1 (v3.map ic),.own 0,Bo true],[.arr 3 1 true (v2.map ic)])/\(some (.tup [I (w (1+x2)),L 1 (v3.map ic),.own 0],[.arr 3 1 true (v2.map ic)])=some r)))else(some (.tup [I (w (1+x2)),.t .nil,.t .nil],[])=some r)))else(if x2=1 then(∃(v4:Bool),Vl x.Zz=some (Bo v4,[])/\(if v4=true then((WW x.Zz=some (.tup [.t .nil,.t .nil,Bo false],[])/\(∃(v5:V4),UV=some (.own 0,[.arr 40 1 true (v5.map isc)])/\(Zbr x v5 (w (1+x2)) x1 x2 (v5.length:Int) 0=some r)))\/(∃(v6:V6) (v7:V6),WW x.Zz=some (.tup [L 1 (v7.map ic),.own 0,Bo true],[.arr 3 1 true (v6.map ic)])/\(some (.tup [I (w (1+x2)),L 1 (v7.map ic),.own 0],[.arr 3 1 true (v6.map ic)])=some r)))else(some (.tup [I (w (1+x2)),.t .nil,.t .nil],[])=some r)))else(if x2=2 then(∃(v8:Bool),Vl x.Z2=some (Bo v8,[])/\(if v8=true then((WW x.Z2=some (.tup [.t .nil,.t .nil,Bo false],[])/\(∃(v9:V4),UV=some (.own 0,[.arr 40 1 true (v9.map isc)])/\(Zbs x v9 (w (1+x2)) x1 x2 (v9.length:Int) 0=some r)))\/(∃(v10:V6) (v11:V6),WW x.Z2=some (.tup [L 1 (v11.map ic),.own 0,Bo true],[.arr 3 1 true (v10.map ic)])/\(some (.tup [I (w (1+x2)),L 1 (v11.map ic),.own 0],[.arr 3 1 true (v10.map ic)])=some r)))else(some (.tup [I (w (1+x2)),.t .nil,.t .nil],[])=some r)))else(if x2=3 then(∃(v12:Bool),Vl x.Z3=some (Bo v12,[])/\(if v12=true then((WW x.Z3=some (.tup [.t .nil,.t .nil,Bo false],[])/\(∃(v13:V4),UV=some (.own 0,[.arr 40 1 true (v13.map isc)])/\(Zbt x v13 (w (1+x2)) x1 x2 (v13.length:Int) 0=some r)))\/(∃(v14:V6) (v15:V6),WW x.Z3=some (.tup [L 1 (v15.map ic),.own 0,Bo true],[.arr 3 1 true (v14.map ic)])/\(some (.tup [I (w (1+x2)),L 1 (v15.map ic),.own 0],[.arr 3 1 true (v14.map ic)])=some r)))else(some (.tup [I (w (1+x2)),.t .nil,.t .nil],[])=some r)))else(if x2=4 then(∃(v16:Bool),Vl x.Z4=some (Bo v16,[])/\(if v16=true then((WW x.Z4=some (.tup [.t .nil,.t .nil,Bo false],[])/\(∃(v17:V4),UV=some (.own 0,[.arr 40 1 true (v17.map isc)])/\(Zbu x v17 (w (1+x2)) x1 x2 (v17.length:Int) 0=some r)))\/(∃(v18:V6) (v19:V6),WW x.Z4=some (.tup [L 1 (v19.map ic),.own 0,Bo true],[.arr 3 1 true (v18.map ic)])/\(some (.tup [I (w (1+x2)),L 1 (v19.map ic),.own 0],[.arr 3 1 true (v18.map ic)])=some r)))else(some (.tup [I (w (1+x2)),.t .nil,.t .nil],[])=some r)))else False)))))else(some (.tup [I 0,.t .nil,.t .nil],[])=some r))):Ww x x1 x2=some r:=by
 unfold Ww
 try simp only[Zan,lpz]
 rw[Zr Zng.eq_1];by_cases q1:x2<x1
 .rw[Ya q1]at h;by_cases q2:x2=0
  .rw[Ya q2]at h;subst q2;obtain⟨v,q3,h⟩:=h;unfold Vl at q3
   try simp[lpz]at q3
   by_cases q4:v=true
   .rw[Ya q4]at h;rcases h with h|h
    .obtain⟨q5,h⟩:=h;unfold WW at q5
     try simp[lpz]at q5
     obtain⟨v1,q6,h⟩:=h;unfold UV at q6
     try simp[lpz]at q6
     refine Yd ?_ h;clear h;simp +decide[*,tI,tII,Zbq,KL,Zan,lpz]
    .obtain⟨v2,v3,q7,h⟩:=h;unfold WW at q7
     try simp[lpz]at q7
     refine Yd ?_ h;clear h;simp +decide[*,tI,tII,lpz]
   .rw[Yb q4]at h;refine Yd ?_ h;clear h;simp +decide[*,tI,tII,lpz]
  .rw[Yb q2]at h;replace q2:=eq_false q2;by_cases q8:x2=1
   .rw[Ya q8]at h;subst q8;obtain⟨v4,q9,h⟩:=h;unfold Vl at q9
    try simp[lpz]at q9
    by_cases q10:v4=true
    .rw[Ya q10]at h;rcases h with h|h
     .obtain⟨q11,h⟩:=h;unfold WW at q11
      try simp[lpz]at q11
      obtain⟨v5,q12,h⟩:=h;unfold UV at q12
      try simp[lpz]at q12
      refine Yd ?_ h;clear h;simp +decide[*,tI,tII,Zbr,KL,Zan,lpz]
     .obtain⟨v6,v7,q13,h⟩:=h;unfold WW at q13
      try simp[lpz]at q13
      refine Yd ?_ h;clear h;simp +decide[*,tI,tII,lpz]
    .rw[Yb q10]at h;refine Yd ?_ h;clear h;simp +decide[*,tI,tII,lpz]
   .rw[Yb q8]at h;replace q8:=eq_false q8;by_cases q14:x2=2
    .rw[Ya q14]at h;subst q14;obtain⟨v8,q15,h⟩:=h;unfold Vl at q15
     try simp[lpz]at q15
     by_cases q16:v8=true
     .rw[Ya q16]at h;rcases h with h|h
      .obtain⟨q17,h⟩:=h;unfold WW at q17
       try simp[lpz]at q17
       obtain⟨v9,q18,h⟩:=h;unfold UV at q18
       try simp[lpz]at q18
       refine Yd ?_ h;clear h;simp +decide[*,tI,tII,Zbs,KL,Zan,lpz]
      .obtain⟨v10,v11,q19,h⟩:=h;unfold WW at q19
       try simp[lpz]at q19
       refine Yd ?_ h;clear h;simp +decide[*,tI,tII,lpz]
     .rw[Yb q16]at h;refine Yd ?_ h;clear h;simp +decide[*,tI,tII,lpz]
    .rw[Yb q14]at h;replace q14:=eq_false q14;by_cases q20:x2=3
     .rw[Ya q20]at h;subst q20;obtain⟨v12,q21,h⟩:=h;unfold Vl at q21
      try simp[lpz]at q21
      by_cases q22:v12=true
      .rw[Ya q22]at h;rcases h with h|h
       .obtain⟨q23,h⟩:=h;unfold WW at q23
        try simp[lpz]at q23
        obtain⟨v13,q24,h⟩:=h;unfold UV at q24
        try simp[lpz]at q24
        refine Yd ?_ h;clear h;simp +decide[*,tI,tII,Zbt,KL,Zan,lpz]
       .obtain⟨v14,v15,q25,h⟩:=h;unfold WW at q25
        try simp[lpz]at q25
        refine Yd ?_ h;clear h;simp +decide[*,tI,tII,lpz]
      .rw[Yb q22]at h;refine Yd ?_ h;clear h;simp +decide[*,tI,tII,lpz]
     .rw[Yb q20]at h;replace q20:=eq_false q20;by_cases q26:x2=4
      .rw[Ya q26]at h;subst q26;obtain⟨v16,q27,h⟩:=h;unfold Vl at q27
       try simp[lpz]at q27
       by_cases q28:v16=true
       .rw[Ya q28]at h;rcases h with h|h
        .obtain⟨q29,h⟩:=h;unfold WW at q29
         try simp[lpz]at q29
         obtain⟨v17,q30,h⟩:=h;unfold UV at q30
         try simp[lpz]at q30
         refine Yd ?_ h;clear h;simp +decide[*,tI,tII,Zbu,KL,Zan,lpz]
        .obtain⟨v18,v19,q31,h⟩:=h;unfold WW at q31
         try simp[lpz]at q31
         refine Yd ?_ h;clear h;simp +decide[*,tI,tII,lpz]
       .rw[Yb q28]at h;refine Yd ?_ h;clear h;simp +decide[*,tI,tII,lpz]
      .rw[Yb q26]at h;replace q26:=eq_false q26;cases h
 .rw[Yb q1]at h;refine Yd ?_ h;clear h;simp +decide[*,tI,tII,Zsh,lpz]
