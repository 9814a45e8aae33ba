/-
  Parts of the proofs for this seat: G22 G23 G24.
-/
import Derived.Test.YtggcnlojfngdeaaGreatP13
set_option linter.all false
set_option maxRecDepth 100000
set_option maxHeartbeats 4000000
namespace Go.Proofs.YtggcnlojfngdeaaGreat
open Go.AM
def ZIh:((((iM R3 λs out f i r=>if i<(f.length:Int)then qB (Jk s) (qG f i (λu2=>qL (r (R3 s out f (w (i+1)))) λk1=>qB (Z0 u2 0 (w ((s.Choices.length:Int)-1))) (qG s.Choices u2 (λu4=>qB (Vn out u4) k1 (qN out (r (R3 s (out++[u4]) f (w (i+1))))))) k1)) (A3 out r)else A3 out r)/\
 (iM gZ λa a1 r=>r (R3 a ([]:WL) a1 0)))/\
 ((iM R4 λa a1 r=>qB (Z0 a1 0 3) (¬a1<0/\qb (decide ((Aj (At a a1) 1)=1)) r) (qb false r))/\
 (iM R6 λx x1 x2 a b y v r=>if x1.Kind=4 then qB (R4 v x1.Order) (if a.Order=x1.Order then if b.Order=x1.Order then r (some (.tup [.agg [I y.Mask,I x1.Order,I y.Left,I y.Right],I 2],[]))else Wy r else Wy r) (Wy r)else r (some (.tup [.agg (y.c.map .t),I 2],[])))))/\
 (((iM L9 λx x1 x2 a b y v x3 r=>if x1.Kind=4 then qB (R4 v x1.Order) (if a.Order=x1.Order then if b.Order=x1.Order then r (some (.tup [.agg [I y.Mask,I x1.Order,I y.Left,I y.Right],I 2],[]))else Wy r else Wy r) (Wy r)else r (some (.tup [.agg (y.c.map .t),I 2],[])))/\
 (iM L8 λa a1 a2 a3 r=>if a1.Kind=1 then qB (Z0 a1.Zd 0 (w ((a.Atoms.length:Int)-1))) (if a1.Order=0 then ¬a1.Zd<0/\qG a.Atoms a1.Zd (λu2=>∃u3,u2.Vars[0]?=some u3/\r (some (.tup [.agg [I (Ac 1 a1.Zd),I u3,I (-1),I (-1)],I 0],[])))else Wy r) (Wy r)else qL (a3.length:Int) λk1=>qL (w (k1-1)) λk3=>if a1.Kind=2 then if a1.Zd=0 then if k1<1 then Wy r else 0<=k3/\∃u1,a3[k3.toNat]?=some u1/\qG a2 u1 (λu2=>if u2.Order=a1.Order then Wy r else qI (Uc a u2.Mask) (λu3=>qB (R4 u3 a1.Order) (r (some (.tup [.agg [I u2.Mask,I a1.Order,I u1,I (-1)],I 1],[]))) (Wy r)))else Wy r else qL (⟨0,0,0,0⟩:Zp) λk4=>qL (r (R5 a a1 k4 a2 a3 k1 a1.Kind true)) λk2=>if a1.Kind=3 then k2 else if a1.Kind=4 then k2 else if a1.Kind=5 then if a1.Zd=0 then if k1<2 then Wy r else 0<=(w (k1-2))/\∃u1,a3[(w (k1-2)).toNat]?=some u1/\qG a2 u1 (λu2=>0<=k3/\∃u3,a3[k3.toNat]?=some u3/\qG a2 u3 (λu4=>qI (Uc a u2.Mask) (λu5=>qI (Uc a u4.Mask) (λu6=>if(Aj u2.Mask u4.Mask)=0 then if(Aj u5 u6)=0 then Wy r else if a1.Order=0 then r (R6 a a1 k4 u2 u4 (⟨(Au u2.Mask u4.Mask),u2.Order,u1,u3⟩:Zp) (Aj u5 u6))else Wy r else Wy r))))else Wy r else Wy r))/\
 ((iM g7 λq p info stack i r=>qL (aK ([]:List Zp) r) λk2=>if i<(p.Steps.length:Int)then qG p.Steps i (λu1=>∃(u2:Zp),∃u3,L8 q u1 info stack=some (.tup [.agg (u2.c.map .t),I u3],[])/\if u3<0 then k2 else qN info (qL (w ((stack.length:Int)-u3)) λk1=>0<=k1/\k1.toNat<=stack.length/\k1.toNat<=68719476736/\k1.toNat+1<=68719476736/\r (g7 q p (info++[u2]) ((stack.take (k1.toNat))++[i]) (w (i+1)))))else if(stack.length:Int)=1 then vE info r else k2)/\
 (iM R7 λa a1 r=>qL ([]:List Zp) λk1=>qB (Q3 a) (qB (Z0 (a1.Steps.length:Int) 1 14) (r (g7 a a1 k1 ([]:WL) 0)) (aK k1 r)) (aK k1 r)))))/\
 ((((iM g8 λsizes i r=>if i<(sizes.length:Int)then qG sizes i (λu1=>qB (Z0 u1 0 4096) (r (g8 sizes (w (i+1)))) (qb false r))else qb true r)/\
 (iM R8 λa a1 r=>qB (Q3 a) (qI (Wp a) (λu2=>if(a1.length:Int)=(w (u2+1))then r (g8 a1 0)else qb false r)) (qb false r)))/\
 ((iM Zo7 λa a1 a2 a3 a4 r=>qG a2 a3 (λu1=>G3 (Kb a a1) (λu2=>if u1.Left<0 then qG a4 u1.Mask (λu3=>qI (Uu u2 u3 0 u3) (λu4=>qi u4 r))else if u1.Right<0 then qG a2 u1.Left (λu3=>qG a4 u3.Mask (λu4=>qG a4 u1.Mask (λu5=>qI (Uu u2 u4 0 u5) (λu6=>qi u6 r))))else qG a2 u1.Left (λu3=>qG a4 u3.Mask (λu4=>qG a2 u1.Right (λu5=>qG a4 u5.Mask (λu6=>qG a4 u1.Mask (λu7=>qI (Uu u2 u4 u6 u7) (λu8=>qi u8 r)))))))))/\
 (iM g9 λm p out info sizes i r=>if i<(info.length:Int)then qG p.Steps i (λu1=>qI (Zo7 m u1.Kind info i sizes) (λu2=>qN out (r (g9 m p (out++[u2]) info sizes (w (i+1))))))else A3 out r)))/\
 (((iM Zo8 λa a1 a2 a3 r=>∃(u1:List Zp),∃u2,R7 a1 a2=some (.tup [.own 0,Bo u2],[.arr 185 4 true (u1.map Zp.c)])/\qL ([]:WL) λk1=>if u2=true then qB (R8 a1 a3) (r (g9 a a2 k1 u1 a3 0)) (A3 k1 r)else A3 k1 r)/\
 (iM hH λl n i r=>if i<(l.length:Int)then qG l i (λu1=>r (hH l (w (n+u1)) (w (i+1))))else qi n r))/\
 ((iM Zo9 λa a1 a2 a3 r=>A4 (Zo8 a a1 a2 a3) (λu1=>if(u1.length:Int)=0 then qi (-1) r else r (hH u1 0 0)))/\
 ((iM ZoA λa a1 a2 a3 r=>A4 (K8 a3) (λu1=>qI (Zo9 a a1 a2 u1) (λu2=>qi u2 r)))/\
 (iM hU λa a1 a2 a3 a4 a5 r=>Kz (Kc a2.Box a4) (λu1 u2=>qL (qb false r) λk1=>if u2=true then qB (Jk a2) (qB (Z0 a3 0 (w ((a2.Plans.length:Int)-1))) (qG a2.Plans a3 (λu5=>qI (ZoA a a1 u5 u1) (λu6=>if 0<=u6 then qb (decide (u6<=a5)) r else k1))) k1) k1 else k1)))))):=by
 refine qu ?_
 and_intros
 all_goals(intros;unfold Im;(try simp only[R3,gZ,R4,L8,g7,R7,g8,R8,Zo7,g9,Zo8,hH,Zo9,ZoA,hU,Jk,Z0,Vn,Box.c_def,ZL.c_def,Uc,Zc.c_def,Zn.c_def,Zp.c_def,Q3,Wp,Kb,Uu,Zf.c_def,Zz.c_def,Zj.c_def,K8,Kc,R5,R6,L9,Ar,Bf,A7]);(try simp only[Bc]);(try simp only[Bd,gS,kk]))
 all_goals(repeat' first|refine Br λ_=>?_|refine Bq λ_ _=>?_|refine Bp λ_=>?_|refine AL ?_ ?_|exact False.elim)
 all_goals(intro h;first|rw[Zk Zxn.eq_1]|refine run ZGn rfl ?_|refine run ZGo rfl ?_|rw[B8 Zo5.eq_1]|refine run ZGp rfl ?_|rw[Zk Zxq.eq_1]|refine run ZGq rfl ?_|rw[Zk Zxt.eq_1]|refine run ZGr rfl ?_|refine run ZGs rfl ?_|rw[Zk Zxw.eq_1]|refine run ZGt rfl ?_|rw[Zk Zxz.eq_1]|refine run ZGu rfl ?_|refine run ZGv rfl ?_|refine run ZGw rfl ?_)
 all_goals (refine Yg ?_ h;clear h;simp +decide[*,kk,tI,Az,Z6A,Zxo,Z6B,Z6C,Z6D,Z6E,Zo6,Zxr,Z6F,Zxu,Z6G,Z6H,Zxx,Z6I,Zx0,Z6J,Z6K,Z6L])
abbrev X5:=uq ZIh
def ZIi:iM R5 λq x x1 info stack n x2 x3 r=>if x3=true then if x.Zd=0 then if n<2 then Wy r else 0<=(w (n-2))/\∃u1,stack[(w (n-2)).toNat]?=some u1/\qG info u1 (λu2=>0<=(w (n-1))/\∃u3,stack[(w (n-1)).toNat]?=some u3/\qG info u3 (λu4=>qI (Uc q u2.Mask) (λu5=>qI (Uc q u4.Mask) (λu6=>if(Aj u2.Mask u4.Mask)=0 then if(Aj u5 u6)=0 then Wy r else qL (r (L9 q x x1 u2 u4 (⟨(Au u2.Mask u4.Mask),(-1),u1,u3⟩:Zp) (Aj u5 u6) false)) λk1=>if x.Kind=4 then k1 else if x.Order=0 then if x.Kind=5 then r (R6 q x x1 u2 u4 (⟨(Au u2.Mask u4.Mask),u2.Order,u1,u3⟩:Zp) (Aj u5 u6))else k1 else Wy r else Wy r))))else Wy r else Wy r:=by
 refine qu ?_;intro q x x1 info stack n x2 x3 r;unfold Im;intro h;unfold R5
 try simp only[Ar]
 rw[B8 Zo6.eq_1];by_cases q1:x3=true
 .rw[Ya q1]at h;by_cases q2:x.Zd=0
  .rw[Ya q2]at h;replace q2:=eq_true q2;by_cases q3:n<2
   .rw[Ya q3]at h;refine Yg ?_ h;clear h;simp +decide[*,tI,Az,Ar]
   .rw[Yb q3]at h;obtain⟨q4,h⟩:=h;obtain⟨e1,q5,h⟩:=h;have gq5:=Wi q5;have kq5:=Wo q5;obtain⟨q6,h⟩:=h;obtain⟨e2,q7,h⟩:=h;have gq7:=Wi q7;have kq7:=Wo q7;obtain⟨q8,h⟩:=h;obtain⟨e3,q9,h⟩:=h;have gq9:=Wi q9;have kq9:=Wo q9;obtain⟨q10,h⟩:=h;obtain⟨e4,q11,h⟩:=h;have jV:=Wi q11;have jW:=Wo q11;obtain⟨v,q12,h⟩:=h;unfold Uc at q12
    try simp[Ar]at q12
    obtain⟨v1,q13,h⟩:=h;unfold Uc at q13
    try simp[Ar]at q13
    by_cases BB:(Aj e2.Mask e4.Mask)=0
    .rw[Ya BB]at h;replace BB:=eq_true BB;by_cases BW:(Aj v v1)=0
     .rw[Ya BW]at h;replace BW:=eq_true BW;refine Yg ?_ h;clear h;simp +decide[*,tI,Az,Ar]
     .rw[Yb BW]at h;replace BW:=eq_false BW;by_cases q16:x.Kind=4
      .rw[Ya q16]at h;replace q16:=eq_true q16;have EZ:(x.Kind=5)=False:=eq_false (by intro hh;simp_all);refine Yg ?_ h;clear h;simp +decide[*,tI,Az,L9,Ar]
      .rw[Yb q16]at h;replace q16:=eq_false q16;by_cases Ce:x.Order=0
       .rw[Ya Ce]at h;replace Ce:=eq_true Ce;by_cases De:x.Kind=5
        .rw[Ya De]at h;replace De:=eq_true De;refine Yg ?_ h;clear h;simp +decide[*,tI,Az,R6,Ar]
        .rw[Yb De]at h;replace De:=eq_false De;refine Yg ?_ h;clear h;simp +decide[*,tI,Az,L9,Ar]
       .rw[Yb Ce]at h;replace Ce:=eq_false Ce;refine Yg ?_ h;clear h;simp +decide[*,tI,Az,Ar]
    .rw[Yb BB]at h;replace BB:=eq_false BB;refine Yg ?_ h;clear h;simp +decide[*,tI,Az,Ar]
  .rw[Yb q2]at h;replace q2:=eq_false q2;refine Yg ?_ h;clear h;simp +decide[*,tI,Az,Ar]
 .rw[Yb q1]at h;refine Yg ?_ h;clear h;simp +decide[*,tI,Az,Ar]
abbrev jX:=uq ZIi
def ZIj:((((iM R9 λm q s out k f budget i r=>if i<(f.length:Int)then qG f i (λu1=>qB (hU m q s k u1 budget) (qN out (r (R9 m q s (out++[u1]) k f budget (w (i+1))))) (r (R9 m q s out k f budget (w (i+1)))))else A3 out r)/\
 (iM hY λa a1 a2 a3 a4 a5 r=>r (R9 a a1 a2 ([]:WL) a3 a4 a5 0)))/\
 ((iM Sb λm q s out l left f budget i r=>if i<(f.length:Int)then qG f i (λu1=>qB (Vn left u1) (r (Sb m q s out l left f budget (w (i+1)))) (qN left (r (Sb m q s out l (left++[u1]) f budget (w (i+1))))))else r (Hx m q s out l left budget))/\
 (iM Hx λm q s out l left budget r=>if 0<(left.length:Int)then r (iA m q s out l left budget (-1) 0 0)else A3 out r)))/\
 (((iM iA λm q s out l left budget best most k r=>if k<(l.length:Int)then qG l k (λu1=>A4 (hY m q s u1 left budget) (λu2=>qL (iA m q s out l left budget) λk1=>if most<(u2.length:Int)then r (k1 k (u2.length:Int) (w (k+1)))else r (k1 best most (w (k+1)))))else if best<0 then A3 out r else qG l best (λu1=>A4 (hY m q s u1 left budget) (λu2=>r (iB m q s out l left u2 ([]:WL) budget best 0))))/\
 (iM iB λm q s out l left gone next budget best i r=>if i<(left.length:Int)then qG left i (λu1=>qL (iB m q s out l left gone) λk1=>qB (Vn gone u1) (r (k1 next budget best (w (i+1)))) (qN next (r (k1 (next++[u1]) budget best (w (i+1))))))else qG l best (λu1=>qN out (r (Hx m q s (out++[u1]) l next budget)))))/\
 ((iM Sa λa a1 a2 a3 a4 r=>A4 (gZ a2 a3) (λu1=>r (Sb a a1 a2 ([]:WL) u1 ([]:WL) a3 a4 0)))/\
 ((iM ZoE λa a1 r=>∃(u1:List Zp),∃u2,R7 a a1=some (.tup [.own 0,Bo u2],[.arr 185 4 true (u1.map Zp.c)])/\if u2=true then qL (w ((u1.length:Int)-1)) λk1=>0<=k1/\∃u3,u1[k1.toNat]?=some u3/\qi u3.Mask r else qi 0 r)/\
 (iM Sc λq b i r=>if i<(b.Plans.length:Int)then qG b.Plans i (λu1=>qI (ZoE q u1) (λu2=>qI (Wp q) (λu3=>if u2=u3 then if u3=0 then qb false r else r (Sc q b (w (i+1)))else qb false r)))else r (Mb b 0))))))/\
 ((((iM Mb λb k r=>if k<(b.Budgets.length:Int)then qG b.Budgets k (λu1=>qL (qb false r) λk1=>qB (Z0 u1 1 500000000000) (if 0<k then 0<=(w (k-1))/\∃u3,b.Budgets[(w (k-1)).toNat]?=some u3/\if u1=(w (u3*b.Ratio))then qH b.Contours k (λu4=>if(u4.length:Int)=0 then k1 else r (Mc b k 0))else k1 else qH b.Contours k (λu3=>if(u3.length:Int)=0 then k1 else r (Mc b k 0))) k1)else qb true r)/\
 (iM Mc λb k i r=>qG b.Contours k (λu1=>if i<(u1.length:Int)then qG u1 i (λu2=>qB (Z0 u2 0 (w ((b.Plans.length:Int)-1))) (i.toNat<=u1.length/\qB (Vn (u1.take i.toNat) u2) (qb false r) (r (Mc b k (w (i+1))))) (qb false r))else r (Mb b (w (k+1))))))/\
 ((iM ZoF λa a1 r=>qL (qb false r) λk1=>qB (Z0 a1.Version 1 999) (qB (Z0 a1.Ratio 2 8) (qB (Z0 a1.Slack 0 100) (qI (Wp a) (λu4=>if(a1.Box.Low.length:Int)=(w (u4+1))then qI (Jj a1.Box) (λu5=>qB (Z0 u5 1 400) (qL (a1.Budgets.length:Int) λk2=>if k2=0 then k1 else if k2=(a1.Contours.length:Int)then r (Sc a a1 0)else k1) k1)else k1)) k1) k1) k1)/\
 (iM ZxK λm q s Version Ratio Slack budgets AJ BG BH x x1 x2 Bn k r=>if k<(budgets.length:Int)then qG budgets k (λu1=>A4 (L6 s u1) (λu2=>qI (L7 u1 Bn) (λu3=>A4 (Sa m q s u2 u3) (λu4=>r (iC m q s Version Ratio Slack budgets AJ BG BH x x1 x2 ([u4]) Bn (w (k+1)))))))else qB (Z6T q AJ BG BH (⟨x,x1⟩:Box) budgets x2) (vF AJ BG BH x x1 budgets x2 ([]:XV) r) (Pj ([]:WL) ([]:List Zj) ([]:XV) r))))/\
 (((iM iC λm q s Version Ratio Slack budgets AJ BG BH x x1 x2 x3 Bn k r=>if k<(budgets.length:Int)then qG budgets k (λu1=>A4 (L6 s u1) (λu2=>qI (L7 u1 Bn) (λu3=>A4 (Sa m q s u2 u3) (λu4=>qN x3 (r (iC m q s Version Ratio Slack budgets AJ BG BH x x1 x2 (x3++[u4]) Bn (w (k+1))))))))else qB (ZoF q (⟨AJ,BG,BH,(⟨x,x1⟩:Box),budgets,x2,x3⟩:Z6)) (vF AJ BG BH x x1 budgets x2 x3 r) (Pj ([]:WL) ([]:List Zj) ([]:XV) r))/\
 (iM ZoG λa a1 a2 a3 a4 a5 r=>∃u1 u2,gP a2=some (.tup [I u1,I u2],[])/\A4 (gT u1 u2 a4) (λu3=>qL (Pj ([]:WL) ([]:List Zj) ([]:XV) r) λk1=>qB (FY a) (qB (Jk a2) (qB (Z0 a3 1 999) (if(u3.length:Int)=0 then k1 else qB (Z0 a5 0 100) (vD (Hu a2.Box) (λu8 u9=>∃(cc:List Zj),gV a2.Plans=some (.own 0,[.arr 115 1 true (cc.map Zj.c)])/\r (ZxK a a1 a2 0 0 0 u3 a3 a4 a5 u8 u9 cc a5 0))) k1) k1) k1) k1)))/\
 ((iM iD λa a1 a2 a3 a4 r=>∃(u1:Box),∃u2,fR a1 a2=some (.tup [.agg (u1.c.map .t),Bo u2],[])/\qL (Pj ([]:WL) ([]:List Zj) ([]:XV) r) λk1=>if u2=true then ∃(u3:ZL),∃u4,gN a a2 u1=some (.tup [.agg (u3.c.map .t),Bo u4],[])/\if u4=true then ∃(u5:Z6),∃u6,ZoG a a2 u3 a1.Z2.Version a3 a4=some (.tup [.agg (u5.c.map .t),Bo u6],[])/\r (some (.tup [.agg (u5.c.map .t),Bo u6],[]))else k1 else k1)/\
 ((iM iE λn x x1 x2 r=>if x2<x1 then qG x x2 (λu1=>r (iE (if n<(u1.length:Int)then(u1.length:Int)else n) x x1 (w (x2+1))))else qi n r)/\
 (iM Md λa r=>r (iE 0 a.Contours (a.Contours.length:Int) 0)))))):=by
 refine qu ?_
 and_intros
 all_goals(intros;unfold Im;(try simp only[R9,hY,Sb,Hx,iA,iB,Sa,ZoE,Sc,Mb,Mc,ZoF,ZxK,iC,ZoG,iD,iE,Md,hU,Box.c_def,Zf.c_def,Zz.c_def,Zc.c_def,ZL.c_def,Vn,gZ,R7,Zj.c_def,Wp,Z0,Jj,L6,L7,Z6T,Z6.c_def,gP,gT,FY,Jk,Hu,gV,fR,gN,Z2.c_def,Zq.c_def,Zr.c_def,Ar,ZoC,ZxF,ZxJ,Bf,A7]);(try simp only[Bc]);(try simp only[Bd,gS,kk]))
 all_goals(repeat' first|refine Br λ_=>?_|refine Bq λ_ _=>?_|refine Bp λ_=>?_|refine AL ?_ ?_|exact False.elim)
 all_goals(intro h;first|rw[Zk Zx1.eq_1]|refine run ZGx rfl ?_|rw[Zk Zx3.eq_1]|rw[Zk hZ.eq_1]|rw[Zk Zx4.eq_1]|rw[Zk Zx5.eq_1]|refine run ZGy rfl ?_|refine run ZG0 rfl ?_|rw[Zk ZxA.eq_1]|rw[Zk ZoD.eq_1]|rw[Zk ZxB.eq_1]|refine run ZGz rfl ?_|rw[Zk ZxH.eq_1]|refine run ZG1 rfl ?_|refine run ZG2 rfl ?_|rw[Zk ZxM.eq_1]|refine run ZG3 rfl ?_)
 all_goals (refine Yg ?_ h;clear h;simp +decide[*,kk,tI,Az,Z6M,Zx2,Z6N,Z6O,Zx9,Zx8,Z6P,Zx7,Z6Q,Zx6,Z6R,Z6U,ZxE,ZxD,ZxC,Z6S,ZxI,Z6V,Z6W,ZxN,Z6X])
abbrev Xu:=uq ZIj
def ZIk:iM ZW λa a1 a2 r=>if a1<=a then qb (decide (a<=a2)) r else qb false r:=by
 refine qu ?_
 all_goals(intros;unfold Im;(try simp only[ZW,Ar,Bf,A7]);(try simp only[Bc]);(try simp only[Bd,gS,kk]))
 all_goals(repeat' first|refine Br λ_=>?_|refine Bq λ_ _=>?_|refine Bp λ_=>?_|refine AL ?_ ?_|exact False.elim)
 all_goals(intro h;first|refine run ZG4 rfl ?_)
 all_goals (refine Yg ?_ h;clear h;simp +decide[*,kk,tI,Az,Z6Y])
abbrev ZIl:=uq ZIk
def ZIm:((((iM iF λa b r=>if b=0 then qi (if a<(w (0-a))then(w (0-a))else a) r else ¬b=0/\r (iF b (Int.tmod a b)))/\
 (iM F3 λa a1 r=>r (iF a a1)))/\
 ((iM Jl λa r=>qB (ZW a.Den 1 2147483647) (qB (ZW a.Num (-2147483647) 2147483647) (qI (F3 a.Num a.Den) (λu3=>qb (decide (u3=1)) r)) (qb false r)) (qb false r))/\
 (iM iH λa r=>qI (Md a) (λu1=>qB (ZW u1 1 10000) (qB (ZW a.Ratio 2 8) (qB (ZW a.Slack 0 100) (Bs (iG (w ((w ((w (u1*(w (100+a.Slack))))*a.Ratio))*a.Ratio)) (w (100*(w (a.Ratio-1))))) (λu5 u6=>JL u5 u6 r)) (W7 r)) (W7 r)) (W7 r)))))/\
 (((iM iJ λb n i r=>if i<(b.Contours.length:Int)then qG b.Contours i (λu1=>r (iJ b (if n<(u1.length:Int)then(u1.length:Int)else n) (w (i+1))))else qi n r)/\
 (iM iI λa r=>r (iJ a 0 0)))/\
 ((iM iK λa a1 r=>if a1<(a.length:Int)then qG a a1 (λu1=>qi (w u1) r)else qi (Int.tmod (w ((w (a1*37))+(w ((a.length:Int)*11)))) 256) r)/\
 ((iM Jm λx r=>r (some (.bsl 1 5,[.box (x.c.map .t),.box [.ptr 0 0,.ptr 0 6,.ptr 0 12,.ptr 0 18,.ptr 0 24]])))/\
 (iM ZoH λx r=>r (some (.bsl 1 5,[.box (x.c.map .t),.box [.ptr 0 0,.ptr 0 1,.ptr 0 2,.ptr 0 3,.ptr 0 4]])))))))/\
 ((((iM Me λo x x1 x2 r=>if x2<x1 then qG x x2 (λu1=>qB (ZW u1.Add (-99) 99) (qB (ZW u1.From 1 8192) (qL (r (Me o x x1 (w (x2+1)))) λk1=>if 0<x2 then 0<=(w (x2-1))/\∃u4,o.Steps[(w (x2-1)).toNat]?=some u4/\if u1.From<=u4.From then qb false r else k1 else k1) (qb false r)) (qb false r))else qb (decide ((o.Steps.length:Int)<=4)) r)/\
 (iM WT λa r=>ZoH a=some (.bsl 1 5,[.box (a.c.map .t),.box [.ptr 0 0,.ptr 0 1,.ptr 0 2,.ptr 0 3,.ptr 0 4]])/\r (Jn a 5 0)))/\
 ((iM Sd λout a r=>if a<=7 then r (Mg out a 0)else Ky out r)/\
 (iM Mg λout a b r=>if b<=7 then r (Se out a b 0)else r (Sd out (w (a+1))))))/\
 (((iM Se λout a b c r=>if c<=7 then qN out (r (Se (out++[[a,b,c]]) a b (w (c+1))))else r (Mg out a (w (b+1))))/\
 (iM UR λr=>r (Sd ([]:XV) 0)))/\
 ((iM iN λa r=>qM a (A3 a r))/\
 ((iM F4 λa r=>qB (ZW a 0 7) (if a=0 then qi 0 r else ¬(w (2*(w (a-1))))<0/\qi (Ac 1 (w (2*(w (a-1))))) r) (qi (-1) r))/\
 (iM Mh λleft right n x x1 x2 r=>if x2<x1 then qG x x2 (λu1=>if u1.From<=(w (left+right))then r (Mh left right (w (n+u1.Add)) x x1 (w (x2+1)))else r (Mh left right n x x1 (w (x2+1))))else qi n r))))):=by
 refine qu ?_
 and_intros
 all_goals(intros;unfold Im;(try simp only[iF,F3,Jl,iH,iJ,iI,iK,Jm,ZoH,Me,WT,Sd,Mg,Se,UR,iN,F4,Mh,ZW,Md,iG,Z6.c_def,Box.c_def,Zb.c_def,Zz.c_def,Jn,Ar,Zyc,Zyd,Bf,A7]);(try simp only[Bc]);(try simp only[Bd,gS,kk]))
 all_goals(repeat' first|refine Br λ_=>?_|refine Bq λ_ _=>?_|refine Bp λ_=>?_|refine AL ?_ ?_|exact False.elim)
 all_goals(intro h;first|rw[Zk ZxP.eq_1]|refine run ZG5 rfl ?_|refine run ZG6 rfl ?_|refine run ZG8 rfl ?_|rw[Zk ZxS.eq_1]|refine run ZG9 rfl ?_|refine run ZGA rfl ?_|refine XD ZGB rfl ?_|refine XD ZGC rfl ?_|rw[Zk ZxV.eq_1]|refine run ZGD rfl ?_|rw[Zk ZoJ.eq_1]|rw[Zk ZoI.eq_1]|rw[Zk ZxY.eq_1]|refine run ZGE rfl ?_|refine run ZGF rfl ?_|refine run ZGG rfl ?_|rw[Zk Zye.eq_1])
 all_goals (refine Yg ?_ h;clear h;simp +decide[*,kk,tI,Az,ZxQ,Z6Z,Z7a,Z7e,ZxT,Z7f,Z7g,Z7h,Z7i,ZxW,Z7j,Zyb,Zya,ZxZ,Z7k,Z7l,Z7m,Z7n,Zyf])
abbrev Ws:=uq ZIm
def ZIn:((iM Sf λa a1 a2 a3 r=>r (Mh a1 a2 (w ((w ((w ((w (a.Fixed+(w (a.Vj*a1))))+(w (a.Vk*a2))))+(w (a.Vl*a3))))+(w ((w (a.Vm*a1))*a2)))) a.Steps (a.Steps.length:Int) 0))/\
 (iM KA λa a1 r=>∃u1,a1[0]?=some u1/\qI (F4 u1) (λu2=>∃u3,a1[1]?=some u3/\qI (F4 u3) (λu4=>∃u5,a1[2]?=some u5/\qI (F4 u5) (λu6=>qI (Sf a u2 u4 u6) (λu7=>qi u7 r))))))/\
 ((iM Hy λo x x1 x2 r=>if x2<x1 then qG x x2 (λu1=>r (F5 o x u1 x1 x2 (u1.length:Int) 0))else vG r)/\
 ((iM F5 λo x t x1 x2 x3 x4 r=>if x4<x3 then qG t x4 (λu1=>qL (r (F5 o x t x1 x2 x3 (w (x4+1)))) λk1=>if u1=7 then k1 else A4 (iN t) (λu2=>qH u2 x4 (λu3=>qL (u2.set x4.toNat (w (u3+1))) λk2=>qI (KA o k2) (λu4=>qI (KA o t) (λu5=>if u4<u5 then r (some (.tup [L 1 (t.map ic),.own 0,Bo true],[.arr 3 1 true (k2.map ic)]))else k1)))))else r (Hy o x x1 (w (x2+1))))/\
 (iM WC λa r=>qB (WT a) (UM UR (λu2=>r (Hy a u2 (u2.length:Int) 0))) (vG r)))):=by
 refine qu ?_
 and_intros
 all_goals(intros;unfold Im;(try simp only[Sf,KA,Hy,F5,WC,F4,Zz.c_def,iN,WT,UR,Mh,Ar,Zyj,Bf,A7]);(try simp only[Bc]);(try simp only[Bd,gS,kk]))
 all_goals(repeat' first|refine Br λ_=>?_|refine Bq λ_ _=>?_|refine Bp λ_=>?_|refine AL ?_ ?_|exact False.elim)
 all_goals(intro h;first|refine run ZGH rfl ?_|refine run ZGI rfl ?_|rw[Zk ZoL.eq_1]|rw[Zk Zyg.eq_1]|refine run ZGJ rfl ?_)
 all_goals (refine Yg ?_ h;clear h;simp +decide[*,kk,tI,Az,Z7o,Z7p,Zyi,Z7q,Zyh,Z7r])
abbrev Mr:=uq ZIn
def ZIo:iM iG λa a1 r=>if a1=0 then W7 r else qL (qL (w (0-a1)) λk2=>if a1=k2 then W7 r else if a1<0 then qI (F3 (w (0-a)) k2) (λu1=>¬u1=0/\qL (w (Int.tdiv (w (0-a)) u1)) λk3=>qB (Jl (⟨k3,(w (Int.tdiv k2 u1))⟩:Zb)) (r (some (.tup [.agg [I k3,I (w (Int.tdiv k2 u1))],Bo true],[]))) (W7 r))else qI (F3 a a1) (λu1=>¬u1=0/\qB (Jl (⟨(w (Int.tdiv a u1)),(w (Int.tdiv a1 u1))⟩:Zb)) (r (some (.tup [.agg [I (w (Int.tdiv a u1)),I (w (Int.tdiv a1 u1))],Bo true],[]))) (W7 r))) λk1=>if a=(w (0-a))then if a=0 then k1 else W7 r else k1:=by
 refine qu ?_;intro a a1 r;unfold Im;intro h;unfold iG
 try simp only[Ar]
 refine run ZG7 rfl ?_;simp only[F3,Jl,Zb.c_def,Bf,A7,Ar]at h
 try simp only[Bc]at h
 try simp only[Bd,gS,kk]at h
 rcases h with⟨q1,h⟩|⟨q1,(⟨q2,(⟨q3,(⟨q4,h⟩|⟨q4,(⟨q5,v,q6,q7,v1,q8,(⟨q9,h⟩|⟨q9,h⟩)⟩|⟨q5,v2,q10,q11,v3,q12,(⟨q13,h⟩|⟨q13,h⟩)⟩)⟩)⟩|⟨q3,h⟩)⟩|⟨q2,(⟨BB,h⟩|⟨BB,(⟨BW,v4,q16,EZ,v5,Ce,(⟨De,h⟩|⟨De,h⟩)⟩|⟨BW,v6,DO,F8,v7,q22,(⟨q23,h⟩|⟨q23,h⟩)⟩)⟩)⟩)⟩
 all_goals (try simp only[Int.zero_sub]at *)
 all_goals (refine Yg ?_ h;clear h;simp +decide[*,kk,tI,Az,Z7d,Z7c,Ar])
abbrev ZIp:=uq ZIo
def ZIq:iM Jn λo x x1 r=>if x1<x then qL (r (Jn o x (w (x1+1)))) λk1=>qL (qb false r) λk2=>if x1=0 then qB (ZW o.Fixed (-99) 99) k1 k2 else if x1=1 then qB (ZW o.Vj (-99) 99) k1 k2 else if x1=2 then qB (ZW o.Vk (-99) 99) k1 k2 else if x1=3 then qB (ZW o.Vl (-99) 99) k1 k2 else if x1=4 then qB (ZW o.Vm (-99) 99) k1 k2 else False else r (Me o o.Steps (o.Steps.length:Int) 0):=by
 refine qu ?_;intro o x x1 r;unfold Im;intro h;unfold Jn
 try simp only[Ar]
 rw[Zk ZxU.eq_1];by_cases q1:x1<x
 .rw[Ya q1]at h;by_cases q2:x1=0
  .rw[Ya q2]at h;subst q2;obtain⟨v,q3,h⟩:=h;unfold ZW at q3
   try simp[Ar]at q3
   by_cases q4:v=true
   .rw[Ya q4]at h;refine Yg ?_ h;clear h;simp +decide[*,tI,Az,Jn,Ar]
   .rw[Yb q4]at h;refine Yg ?_ h;clear h;simp +decide[*,tI,Az,Ar]
  .rw[Yb q2]at h;replace q2:=eq_false q2;by_cases q5:x1=1
   .rw[Ya q5]at h;subst q5;obtain⟨v1,q6,h⟩:=h;unfold ZW at q6
    try simp[Ar]at q6
    by_cases q7:v1=true
    .rw[Ya q7]at h;refine Yg ?_ h;clear h;simp +decide[*,tI,Az,Jn,Ar]
    .rw[Yb q7]at h;refine Yg ?_ h;clear h;simp +decide[*,tI,Az,Ar]
   .rw[Yb q5]at h;replace q5:=eq_false q5;by_cases q8:x1=2
    .rw[Ya q8]at h;subst q8;obtain⟨v2,q9,h⟩:=h;unfold ZW at q9
     try simp[Ar]at q9
     by_cases q10:v2=true
     .rw[Ya q10]at h;refine Yg ?_ h;clear h;simp +decide[*,tI,Az,Jn,Ar]
     .rw[Yb q10]at h;refine Yg ?_ h;clear h;simp +decide[*,tI,Az,Ar]
    .rw[Yb q8]at h;replace q8:=eq_false q8;by_cases q11:x1=3
     .rw[Ya q11]at h;subst q11;obtain⟨v3,q12,h⟩:=h;unfold ZW at q12
      try simp[Ar]at q12
      by_cases q13:v3=true
      .rw[Ya q13]at h;refine Yg ?_ h;clear h;simp +decide[*,tI,Az,Jn,Ar]
      .rw[Yb q13]at h;refine Yg ?_ h;clear h;simp +decide[*,tI,Az,Ar]
     .rw[Yb q11]at h;replace q11:=eq_false q11;by_cases BB:x1=4
      .rw[Ya BB]at h;subst BB;obtain⟨v4,BW,h⟩:=h;unfold ZW at BW
       try simp[Ar]at BW
       by_cases q16:v4=true
       .rw[Ya q16]at h;refine Yg ?_ h;clear h;simp +decide[*,tI,Az,Jn,Ar]
       .rw[Yb q16]at h;refine Yg ?_ h;clear h;simp +decide[*,tI,Az,Ar]
      .rw[Yb BB]at h;replace BB:=eq_false BB;cases h
 .rw[Yb q1]at h;refine Yg ?_ h;clear h;simp +decide[*,tI,Az,Me,ZxX,Ar]
abbrev St:=uq ZIq
