/-
  Parts of the proofs for this seat: G22 G23 G24.
-/
import Derived.Test.YteaiinkcanpleaaGreatP12
set_option linter.all false
set_option maxRecDepth 100000
set_option maxHeartbeats 4000000
namespace Go.Proofs.YteaiinkcanpleaaGreat
open Go.AM
def ZKO:((((iM RX λm q s out k f budget i r=>if i<(f.length:Int)then qG f i (λu1=>qB (gO m q s k u1 budget) (qN out (r (RX m q s (out++[u1]) k f budget (w (i+1))))) (r (RX m q s out k f budget (w (i+1)))))else AZ out r)/\
 (iM gP λa a1 a2 a3 a4 a5 r=>r (RX a a1 a2 ([]:WL) a3 a4 a5 0)))/\
 ((iM RZ λm q s out l left f budget i r=>if i<(f.length:Int)then qG f i (λu1=>qB (Vw left u1) (r (RZ m q s out l left f budget (w (i+1)))) (qN left (r (RZ m q s out l (left++[u1]) f budget (w (i+1))))))else r (HB m q s out l left budget))/\
 (iM HB λm q s out l left budget r=>if 0<(left.length:Int)then r (gT m q s out l left budget (-1) 0 0)else AZ out r)))/\
 (((iM gT λm q s out l left budget best most k r=>if k<(l.length:Int)then qG l k (λu1=>AO (gP m q s u1 left budget) (λu2=>qL (gT m q s out l left budget) λk1=>if most<(u2.length:Int)then r (k1 k (u2.length:Int) (w (k+1)))else r (k1 best most (w (k+1)))))else if best<0 then AZ out r else qG l best (λu1=>AO (gP m q s u1 left budget) (λu2=>r (gU m q s out l left u2 ([]:WL) budget best 0))))/\
 (iM gU λm q s out l left gone next budget best i r=>if i<(left.length:Int)then qG left i (λu1=>qL (gU m q s out l left gone) λk1=>qB (Vw gone u1) (r (k1 next budget best (w (i+1)))) (qN next (r (k1 (next++[u1]) budget best (w (i+1))))))else qG l best (λu1=>qN out (r (HB m q s (out++[u1]) l next budget)))))/\
 ((iM RY λa a1 a2 a3 a4 r=>AO (gJ a2 a3) (λu1=>r (RZ a a1 a2 ([]:WL) u1 ([]:WL) a3 a4 0)))/\
 (iM z8 λa a1 r=>∃(u1:List Zp),∃u2,RU a a1=some (.tup [.own 0,Bo u2],[.arr 143 4 true (u1.map Zp.c)])/\if u2=true then qL (w ((u1.length:Int)-1)) λk1=>0<=k1/\∃u3,u1[k1.toNat]?=some u3/\qi u3.Mask r else qi 0 r))))/\
 ((((iM R0 λq b i r=>if i<(b.Plans.length:Int)then qG b.Plans i (λu1=>qI (z8 q u1) (λu2=>qI (Wn q) (λu3=>if u2=u3 then if u3=0 then qb false r else r (R0 q b (w (i+1)))else qb false r)))else r (LZ b 0))/\
 (iM LZ λb k r=>if k<(b.Budgets.length:Int)then qG b.Budgets k (λu1=>qL (qb false r) λk1=>qB (Z0 u1 1 500000000000) (if 0<k then 0<=(w (k-1))/\∃u3,b.Budgets[(w (k-1)).toNat]?=some u3/\if u1=(w (u3*b.Ratio))then qH b.Contours k (λu4=>if(u4.length:Int)=0 then k1 else r (L0 b k 0))else k1 else qH b.Contours k (λu3=>if(u3.length:Int)=0 then k1 else r (L0 b k 0))) k1)else qb true r))/\
 ((iM L0 λb k i r=>qG b.Contours k (λu1=>if i<(u1.length:Int)then qG u1 i (λu2=>qB (Z0 u2 0 (w ((b.Plans.length:Int)-1))) (i.toNat<=u1.length/\qB (Vw (u1.take i.toNat) u2) (qb false r) (r (L0 b k (w (i+1))))) (qb false r))else r (LZ b (w (k+1)))))/\
 (iM HC λa a1 r=>qL (qb false r) λk1=>qB (Z0 a1.Version 1 999) (qB (Z0 a1.Ratio 2 8) (qB (Z0 a1.Slack 0 100) (qI (Wn a) (λu4=>if(a1.Box.Low.length:Int)=(w (u4+1))then qI (Kh a1.Box) (λu5=>qB (Z0 u5 1 400) (qL (a1.Budgets.length:Int) λk2=>if k2=0 then k1 else if k2=(a1.Contours.length:Int)then r (R0 a a1 0)else k1) k1)else k1)) k1) k1) k1)))/\
 (((iM Zy1 λm q s Version Ratio Slack budgets Az Bf Bg x x1 x2 BM k r=>if k<(budgets.length:Int)then qG budgets k (λu1=>AO (LV s u1) (λu2=>qI (KK u1 BM) (λu3=>AO (RY m q s u2 u3) (λu4=>r (gV m q s Version Ratio Slack budgets Az Bf Bg x x1 x2 ([u4]) BM (w (k+1)))))))else qB (Z8y q Az Bf Bg (⟨x,x1⟩:Box) budgets x2) (vE Az Bf Bg x x1 budgets x2 ([]:WA) r) (Pb ([]:WL) ([]:List Ze) ([]:WA) r))/\
 (iM gV λm q s Version Ratio Slack budgets Az Bf Bg x x1 x2 x3 BM k r=>if k<(budgets.length:Int)then qG budgets k (λu1=>AO (LV s u1) (λu2=>qI (KK u1 BM) (λu3=>AO (RY m q s u2 u3) (λu4=>qN x3 (r (gV m q s Version Ratio Slack budgets Az Bf Bg x x1 x2 (x3++[u4]) BM (w (k+1))))))))else qB (HC q (⟨Az,Bf,Bg,(⟨x,x1⟩:Box),budgets,x2,x3⟩:Zu)) (vE Az Bf Bg x x1 budgets x2 x3 r) (Pb ([]:WL) ([]:List Ze) ([]:WA) r)))/\
 ((iM z9 λa a1 a2 a3 a4 a5 r=>∃u1 u2,gA a2=some (.tup [I u1,I u2],[])/\AO (gC u1 u2 a4) (λu3=>qL (Pb ([]:WL) ([]:List Ze) ([]:WA) r) λk1=>qB (Kj a) (qB (J3 a2) (qB (Z0 a3 1 999) (if(u3.length:Int)=0 then k1 else qB (Z0 a5 0 100) (aO (KI a2.Box) (λu8 u9=>∃(cc:List Ze),LT a2.Plans=some (.own 0,[.arr 75 1 true (cc.map Ze.c)])/\r (Zy1 a a1 a2 0 0 0 u3 a3 a4 a5 u8 u9 cc a5 0))) k1) k1) k1) k1))/\
 (iM gW λa a1 a2 a3 a4 r=>∃(u1:Box),∃u2,fC a1 a2=some (.tup [.agg (u1.c.map .t),Bo u2],[])/\qL (Pb ([]:WL) ([]:List Ze) ([]:WA) r) λk1=>if u2=true then ∃(u3:ZY),∃u4,fY a a2 u1=some (.tup [.agg (u3.c.map .t),Bo u4],[])/\if u4=true then ∃(u5:Zu),∃u6,z9 a a2 u3 a1.ZN.Version a3 a4=some (.tup [.agg (u5.c.map .t),Bo u6],[])/\r (some (.tup [.agg (u5.c.map .t),Bo u6],[]))else k1 else k1)))):=by
 refine qu ?_
 and_intros
 all_goals(intros;unfold Im;(try simp only[RX,gP,RZ,HB,gT,gU,RY,z8,R0,LZ,L0,HC,Zy1,gV,z9,gW,gO,Box.c_def,Zf.c_def,Zz.c_def,Zc.c_def,ZY.c_def,Vw,gJ,RU,Ze.c_def,Wn,Z0,Kh,LV,KK,Z8y,Zu.c_def,gA,gC,Kj,J3,KI,LT,fC,fY,ZN.c_def,Zt.c_def,Zq.c_def,Aq,z6,Zyw,Zy0,Bc,A8]);(try simp only[Bd]);(try simp only[Be,gS,kk]))
 all_goals(repeat' first|refine Bp λ_=>?_|refine Bn λ_ _=>?_|refine Bm λ_=>?_|refine AH ?_ ?_|exact False.elim)
 all_goals(intro h;first|rw[Zl Zyi.eq_1]|refine run ZI4 rfl ?_|rw[Zl Zyk.eq_1]|rw[Zl gQ.eq_1]|rw[Zl Zyl.eq_1]|rw[Zl Zym.eq_1]|refine run ZI5 rfl ?_|refine run ZI7 rfl ?_|rw[Zl Zyr.eq_1]|rw[Zl z7.eq_1]|rw[Zl Zys.eq_1]|refine run ZI6 rfl ?_|rw[Zl Zyy.eq_1]|refine run ZI8 rfl ?_|refine run ZI9 rfl ?_)
 all_goals (refine Ye ?_ h;clear h;simp +decide[*,kk,tI,Av,Z8r,Zyj,Z8s,Z8t,Zyq,Zyp,Z8u,Zyo,Z8v,Zyn,Z8w,Z8z,Zyv,Zyu,Zyt,Z8x,Zyz,Z80,Z81])
abbrev X4:=uq ZKO
def ZKP:((((iM Zy6 λb Version Ratio Slack Az Bf Bg x x1 x2 x3 i r=>if i<(b.Contours.length:Int)then qG b.Contours i (λu1=>qM u1 (r (gX b Version Ratio Slack Az Bf Bg x x1 x2 x3 ([u1]) (w (i+1)))))else r (some (.agg [I Az,I Bf,I Bg,.own 0,.own 1,.own 2,.own 3,.t .nil],[.arr 3 1 true (x.map ic),.arr 3 1 true (x1.map ic),.arr 3 1 true (x2.map ic),.arr 75 1 true (x3.map Ze.c)])))/\
 (iM gX λb Version Ratio Slack Az Bf Bg x x1 x2 x3 x4 i r=>if i<(b.Contours.length:Int)then qG b.Contours i (λu1=>qM u1 (qN x4 (r (gX b Version Ratio Slack Az Bf Bg x x1 x2 x3 (x4++[u1]) (w (i+1))))))else r (some (.agg [I Az,I Bf,I Bg,.own 0,.own 1,.own 2,.own 3,.own 4],[.arr 3 1 true (x.map ic),.arr 3 1 true (x1.map ic),.arr 3 1 true (x2.map ic),.arr 75 1 true (x3.map Ze.c),.arr 32 1 true (x4.map AF)]))))/\
 ((iM R2 λa r=>aO (KI a.Box) (λu1 u2=>qM a.Budgets (∃(u3:List Ze),LT a.Plans=some (.own 0,[.arr 75 1 true (u3.map Ze.c)])/\r (Zy6 a 0 0 0 a.Version a.Ratio a.Slack u1 u2 a.Budgets u3 0))))/\
 (iM gY λx a r=>(∃(u1:WL),∃(u2:WL),∃(u3:WL),∃(u4:List Ze),∃u5,∃u6,∃u7,R2 a=some (.agg [I u5,I u6,I u7,.own 0,.own 1,.own 2,.own 3,.t .nil],[.arr 3 1 true (u1.map ic),.arr 3 1 true (u2.map ic),.arr 3 1 true (u3.map ic),.arr 75 1 true (u4.map Ze.c)])/\BR (Xk x 14) (λu8 u9=>if u9=0 then Vo (XI u8 ([0,2,999,1000])) (λcc cd cl=>I8 cl u6 u7 cc u1 u2 u3 u4 r)else qL (I8 u5 u6 u7 u8 u1 u2 u3 u4 r) λk2=>if u9=1 then if 0<(u3.length:Int)then Vo (XI u8 ([0,1,5,1000000])) (λcc cd cl=>∃cn,u3[0]?=some cn/\I8 u5 u6 u7 cc u1 u2 (u3.set 0 cl) u4 r)else k2 else if u9=2 then k2 else if u9=3 then Vo (XI u8 ([1,9,3])) (λcc cd cl=>I8 u5 cl u7 cc u1 u2 u3 u4 r)else if u9=4 then Vo (XI u8 ([(-1),101,10])) (λcc cd cl=>I8 u5 u6 cl cc u1 u2 u3 u4 r)else k2))\/(∃(u1:WL),∃(u2:WL),∃(u3:WL),∃(u4:List Ze),∃(u5:WA),∃u6,∃u7,∃u8,R2 a=some (.agg [I u6,I u7,I u8,.own 0,.own 1,.own 2,.own 3,.own 4],[.arr 3 1 true (u1.map ic),.arr 3 1 true (u2.map ic),.arr 3 1 true (u3.map ic),.arr 75 1 true (u4.map Ze.c),.arr 32 1 true (u5.map AF)])/\BR (Xk x 14) (λu9 cc=>if cc=0 then Vo (XI u9 ([0,2,999,1000])) (λcd cl cn=>Ha cn u7 u8 cd u1 u2 u3 u4 u5 r)else qL (Ha u6 u7 u8 u9 u1 u2 u3 u4 u5 r) λk1=>if cc=1 then if 0<(u3.length:Int)then Vo (XI u9 ([0,1,5,1000000])) (λcd cl cn=>∃co,u3[0]?=some co/\Ha u6 u7 u8 cd u1 u2 (u3.set 0 cn) u4 u5 r)else k1 else if cc=2 then if 0<(u5.length:Int)then qL (w ((u5.length:Int)-1)) λk3=>0<=k3/\∃cd,u5[k3.toNat]?=some cd/\Ha u6 u7 u8 u9 u1 u2 u3 u4 (u5.set (k3.toNat) ([0])) r else k1 else if cc=3 then Vo (XI u9 ([1,9,3])) (λcd cl cn=>Ha u6 cn u8 cd u1 u2 u3 u4 u5 r)else if cc=4 then Vo (XI u9 ([(-1),101,10])) (λcd cl cn=>Ha u6 u7 cn cd u1 u2 u3 u4 u5 r)else k1)))))/\
 (((iM Zpf λx r=>∃(u1:Zo),∃(u2:Zf),∃(u3:Zq),∃(u4:Zc),∃u5,∃u6,cQ x=some (.tup [.agg (u2.c.map .t),.agg (u3.c.map .t),.agg (u4.c.map .t),I u5,I u6],[.box (u1.c.map .t)])/\∃(u7:Zu),∃u8,gW u2 u3 u4 u5 u6=some (.tup [.agg (u7.c.map .t),Bo u8],[])/\((∃(u9:Zo),∃(cc:WL),∃(cd:WL),∃(cl:WL),∃(cn:List Ze),∃co,∃u15,∃u16,gY u1 u7=some (.agg [I co,I u15,I u16,.own 1,.own 2,.own 3,.own 4,.t .nil],[.box (u9.c.map .t),.arr 3 1 true (cc.map ic),.arr 3 1 true (cd.map ic),.arr 3 1 true (cl.map ic),.arr 75 1 true (cn.map Ze.c)])/\vF u2 u3 u4 co u15 u16 cc cd cl cn ([]:WA) u9 r)\/(∃(u9:Zo),∃(cc:WL),∃(cd:WL),∃(cl:WL),∃(cn:List Ze),∃(co:WA),∃u15,∃u16,∃Bw,gY u1 u7=some (.agg [I u15,I u16,I Bw,.own 1,.own 2,.own 3,.own 4,.own 5],[.box (u9.c.map .t),.arr 3 1 true (cc.map ic),.arr 3 1 true (cd.map ic),.arr 3 1 true (cl.map ic),.arr 75 1 true (cn.map Ze.c),.arr 32 1 true (co.map AF)])/\vF u2 u3 u4 u15 u16 Bw cc cd cl cn co u9 r)))/\
 (iM L1 λa r=>∃(u1:Zo),aQ a=some (.ptr 0 0,[.box (u1.c.map .t)])/\∃(u2:Zo) (u3:Zf) (u4:Zq) (u5:Zc) (u6:Zu),Zpf u1=some (.tup [.agg (u3.c.map .t),.agg (u4.c.map .t),.agg (u5.c.map .t),.agg (u6.c.map .t)],[.box (u2.c.map .t)])/\r (some (.tup [.agg (u3.c.map .t),.agg (u5.c.map .t),.agg (u6.c.map .t)],[]))))/\
 ((iM Xj λa a1 a2 r=>if a1<=a then qb (decide (a<=a2)) r else qb false r)/\
 ((iM Zpg λa r=>if(a.size:Int)=1 then ∃u1,a[0]?=some u1/\if 97<=(u1.toNat:Int)then qb (decide ((u1.toNat:Int)<=122)) r else qb false r else qb false r)/\
 (iM gZ λs v x x1 r=>if x1<x then qG s x1 (λu1=>if v=u1 then qi x1 r else r (gZ s v x (w (x1+1))))else qi (-1) r)))))/\
 ((((iM Zph λa a1 r=>r (gZ a a1 (a.length:Int) 0))/\
 (iM J4 λa a1 r=>qI (Zph a a1) (λu1=>qb (decide (0<=u1)) r)))/\
 ((iM g9 λs v x x1 r=>if x1<x then qG s x1 (λu1=>if v=u1 then qi x1 r else r (g9 s v x (w (x1+1))))else qi (-1) r)/\
 (iM Zpi λa a1 r=>r (g9 a a1 (a.length:Int) 0))))/\
 (((iM Zpj λa a1 r=>qI (Zpi a a1) (λu1=>qb (decide (0<=u1)) r))/\
 (iM L2 λq seen x x1 x2 r=>if x2<x1 then qG x x2 (λu1=>qB (Zpg u1.Name) (qB (Xj (u1.Vars.length:Int) 1 3) (r (hU q seen u1 x x1 x2 u1.Vars (u1.Vars.length:Int) 0)) (qb false r)) (qb false r))else qV (Zpj seen false) (λu1=>qb (!u1) r)))/\
 ((iM hU λq seen a x x1 x2 x3 x4 x5 r=>if x5<x4 then qG x3 x5 (λu1=>qB (Xj u1 0 (w (q.Zh-1))) (x5.toNat<=a.Vars.length/\qB (J4 (a.Vars.take x5.toNat) u1) (qb false r) (qG seen u1 (λu4=>r (hU q (seen.set u1.toNat true) a x x1 x2 x3 x4 (w (x5+1)))))) (qb false r))else r (L2 q seen x x1 (w (x2+1))))/\
 ((iM hY λlocation x x1 x2 r=>if x2<x1 then qG x x2 (λu1=>qB (Xj u1 0 7) (r (hY location x x1 (w (x2+1)))) (qb false r))else qb (decide ((location.length:Int)<=16)) r)/\
 (iM HD λa r=>r (hY a a (a.length:Int) 0)))))):=by
 refine qu ?_
 and_intros
 all_goals(intros;unfold Im;(try simp only[Zy6,gX,R2,gY,Zpf,L1,Xj,Zpg,gZ,Zph,J4,g9,Zpi,Zpj,L2,hU,hY,HD,KI,LT,Box.c_def,Ze.c_def,Xk,XI,Zu.c_def,Zo.c_def,tI,cQ,gW,ZN.c_def,Zt.c_def,Zf.c_def,Zz.c_def,Zc.c_def,Zq.c_def,aQ,Zy5,Aq,Zpm,Bc,A8]);(try simp only[Bd]);(try simp only[Be,gS,kk]))
 all_goals(repeat' first|refine Bp λ_=>?_|refine Bn λ_ _=>?_|refine Bm λ_=>?_|refine AH ?_ ?_|exact False.elim)
 all_goals(intro h;first|rw[Zl Zy3.eq_1]|refine run ZIA rfl ?_|refine XH ZIB rfl ?_|refine XH ZIC rfl ?_|refine run ZID rfl ?_|refine run ZIE rfl ?_|refine run ZIF rfl ?_|rw[Zl Zy8.eq_1]|refine run ZIG rfl ?_|refine run ZIH rfl ?_|rw[Zl ZyB.eq_1]|refine run ZII rfl ?_|refine run ZIJ rfl ?_|rw[Zl Zpk.eq_1]|rw[Zl ZyD.eq_1]|rw[Zl ZyH.eq_1]|refine run ZIL rfl ?_)
 all_goals (refine Ye ?_ h;clear h;simp +decide[*,kk,tI,Av,Zy4,Z82,Z85,Z84,Z86,Z87,Z88,Z89,Zy9,Z8A,Z8B,ZyC,Z8C,Z8D,ZyF,ZyE,ZyI,Z8E])
abbrev Xq:=uq ZKP
def ZKQ:iM KL λa r=>qB (Xj a.Zh 1 4) (qB (Xj (a.Atoms.length:Int) 1 4) (0<=a.Zh/\a.Zh.toNat*1<=room/\a.Zh<=140737488355328/\r (L2 a (List.replicate (a.Zh).toNat false) a.Atoms (a.Atoms.length:Int) 0)) (qb false r)) (qb false r):=by
 refine qu ?_;intro a r;unfold Im;intro h;unfold KL
 try simp only[Aq]
 refine run ZIK rfl ?_;obtain⟨v,q1,h⟩:=h;unfold Xj at q1
 try simp[Aq]at q1
 by_cases q2:v=true
 .rw[Ya q2]at h;obtain⟨v1,q3,h⟩:=h;unfold Xj at q3
  try simp[Aq]at q3
  by_cases q4:v1=true
  .rw[Ya q4]at h;obtain⟨q5,h⟩:=h;obtain⟨q6,h⟩:=h;have zq6:=q6;try simp[Aq]at zq6
   obtain⟨q7,h⟩:=h;refine Ye ?_ h;clear h;simp +decide[*,Zpl,tI,Av,L2,Zpm,Aq]
  .rw[Yb q4]at h;refine Ye ?_ h;clear h;simp +decide[*,Zpl,tI,Av,Aq]
 .rw[Yb q2]at h;refine Ye ?_ h;clear h;simp +decide[*,Zpl,tI,Av,Aq]
abbrev ZKR:=uq ZKQ
def ZKS:((((iM hZ λa b x x1 r=>if x1<x then qG a x1 (λu1=>qH b x1 (λu2=>if u1<u2 then qb false r else r (hZ a b x (w (x1+1)))))else qb true r)/\
 (iM Zpn λa a1 r=>if(a.length:Int)=(a1.length:Int)then r (hZ a a1 (a.length:Int) 0)else qb false r))/\
 ((iM R3 λa r=>qB (HD a.Low) (qB (HD a.High) (if 0<(a.Low.length:Int)then qV (Zpn a.High a.Low) (λu3=>qb u3 r)else qb false r) (qb false r)) (qb false r))/\
 (iM iA λb n x x1 r=>if x1<x then qG b.High x1 (λu1=>qH b.Low x1 (λu2=>r (iA b (w (n*(w ((w (u1-u2))+1)))) x (w (x1+1)))))else qi n r)))/\
 (((iM L3 λa r=>r (iA a 1 (a.Low.length:Int) 0))/\
 (iM L4 λa r=>qB (R3 a) (qI (L3 a) (λu2=>qi (if 401<u2 then 401 else u2) r)) (qi 0 r)))/\
 ((iM UP λa r=>qB (KL a) (¬(a.Atoms.length:Int)<0/\qi (w ((Ac 1 (a.Atoms.length:Int))-1)) r) (qi 0 r))/\
 ((iM L5 λq out mask v r=>if v<q.Zh then r (iC q out mask v q.Atoms (q.Atoms.length:Int) 0)else AZ out r)/\
 (iM iC λq out mask v x x1 x2 r=>if x2<x1 then qG x x2 (λu1=>¬x2<0/\qL (r (iC q out mask v x x1 (w (x2+1)))) λk1=>if(Ah (Au mask x2) 1)=1 then qB (J4 u1.Vars v) (qN out (r (L5 q (out++[v]) mask (w (v+1))))) k1 else k1)else r (L5 q out mask (w (v+1))))))))/\
 ((((iM J5 λa a1 r=>r (L5 a ([]:WL) a1 0))/\
 (iM R4 λout b x x1 x2 r=>if x2<x1 then qG x x2 (λu1=>qB (J4 b u1) (qN out (r (R4 (out++[u1]) b x x1 (w (x2+1))))) (r (R4 out b x x1 (w (x2+1)))))else AZ out r))/\
 ((iM HE λa a1 r=>r (R4 ([]:WL) a1 a (a.length:Int) 0))/\
 (iM R5 λa a1 a2 a3 r=>if a1.Kind=1 then qB (Xj a1.Zg 0 (w ((a.Atoms.length:Int)-1))) (if a1.Order=0 then ¬a1.Zg<0/\qG a.Atoms a1.Zg (λu2=>∃u3,u2.Vars[0]?=some u3/\r (some (.tup [.agg [I (Ac 1 a1.Zg),I u3,I (-1),I (-1)],Bo true],[])))else FG r) (FG r)else if a1.Zg=0 then qL (a3.length:Int) λk2=>qL (w (k2-1)) λk4=>if a1.Kind=2 then if k2<1 then FG r else 0<=k4/\∃u1,a3[k4.toNat]?=some u1/\qG a2 u1 (λu2=>AO (J5 a u2.Mask) (λu3=>qB (J4 u3 a1.Order) (if u2.Order=a1.Order then FG r else r (some (.tup [.agg [I u2.Mask,I a1.Order,I u1,I (-1)],Bo true],[]))) (FG r)))else if k2<2 then FG r else 0<=(w (k2-2))/\∃u1,a3[(w (k2-2)).toNat]?=some u1/\0<=k4/\∃u2,a3[k4.toNat]?=some u2/\qG a2 u1 (λu3=>qG a2 u2 (λu4=>AO (J5 a u3.Mask) (λu5=>AO (J5 a u4.Mask) (λu6=>AO (HE u5 u6) (λu7=>qL (At u3.Mask u4.Mask) λk1=>qL (Ld k1 u1 u2 r) λk5=>if(Ah u3.Mask u4.Mask)=0 then if(u7.length:Int)=0 then k5 else if a1.Kind=3 then r (some (.tup [.agg [I k1,I (-1),I u1,I u2],Bo (decide (a1.Order=0))],[]))else if a1.Kind=5 then r (some (.tup [.agg [I k1,I u3.Order,I u1,I u2],Bo (decide (a1.Order=0))],[]))else if a1.Kind=4 then qL (r (some (.tup [.agg [I k1,I a1.Order,I u1,I u2],Bo false],[]))) λk3=>qB (J4 u7 a1.Order) (if u3.Order=a1.Order then r (some (.tup [.agg [I k1,I a1.Order,I u1,I u2],Bo (decide (u4.Order=a1.Order))],[]))else k3) k3 else k5 else k5)))))else FG r)))/\
 (((iM iD λq info stack x x1 x2 r=>qL (stack.length:Int) λk1=>if x2<x1 then qG x x2 (λu1=>∃(u2:Zp),∃u3,R5 q u1 info stack=some (.tup [.agg (u2.c.map .t),Bo u3],[])/\if u3=true then qN info (qL (iD q (info++[u2])) λk2=>if 0<=u2.Right then qL (w (k1-2)) λk3=>0<=k3/\k3.toNat<=stack.length/\k3.toNat+1<=68719476736/\r (k2 ((stack.take (k3.toNat))++[x2]) x x1 (w (x2+1)))else if 0<=u2.Left then qL (w (k1-1)) λk4=>0<=k4/\k4.toNat<=stack.length/\k4.toNat+1<=68719476736/\r (k2 ((stack.take (k4.toNat))++[x2]) x x1 (w (x2+1)))else qN stack (r (k2 (stack++[x2]) x x1 (w (x2+1)))))else FH r)else if k1=1 then vD info r else FH r)/\
 (iM HF λa a1 r=>qB (KL a) (qB (Xj (a1.Steps.length:Int) 1 14) (r (iD a ([]:List Zp) ([]:WL) a1.Steps (a1.Steps.length:Int) 0)) (FH r)) (FH r)))/\
 ((iM iE λa a1 r=>(HF a a1=some (.tup [.t .nil,Bo false],[])/\qi 0 r)\/(vG (HF a a1) (λu1=>qL (w ((u1.length:Int)-1)) λk1=>0<=k1/\∃u2,u1[k1.toNat]?=some u2/\qi u2.Mask r)))/\
 ((iM iG λl n x x1 x2 r=>if x2<x1 then qG x x2 (λu1=>qB (Xj u1 0 (w (n-1))) (x2.toNat<=l.length/\qB (J4 (l.take x2.toNat) u1) (qb false r) (r (iG l n x x1 (w (x2+1))))) (qb false r))else qb (decide (0<(l.length:Int))) r)/\
 (iM iF λa a1 r=>r (iG a a1 a (a.length:Int) 0)))))):=by
 refine qu ?_
 and_intros
 all_goals(intros;unfold Im;(try simp only[hZ,Zpn,R3,iA,L3,L4,UP,L5,iC,J5,R4,HE,R5,iD,HF,iE,iG,iF,HD,Box.c_def,KL,Zc.c_def,J4,Xj,Zk.c_def,Zp.c_def,Ze.c_def,Aq,ZyS,Bc,A8]);(try simp only[Bd]);(try simp only[Be,gS,kk]))
 all_goals(repeat' first|refine Bp λ_=>?_|refine Bn λ_ _=>?_|refine Bm λ_=>?_|refine AH ?_ ?_|exact False.elim)
 all_goals(intro h;first|rw[Zl ZyK.eq_1]|refine run ZIM rfl ?_|refine run ZIN rfl ?_|rw[Zl ZyN.eq_1]|refine run ZIO rfl ?_|refine run ZIP rfl ?_|refine run ZIQ rfl ?_|rw[Zl Zpo.eq_1]|rw[Zl ZyP.eq_1]|refine run ZIR rfl ?_|rw[Zl ZyT.eq_1]|refine run ZIS rfl ?_|refine run ZIT rfl ?_|rw[Zl ZyV.eq_1]|refine run ZIU rfl ?_|refine run ZIV rfl ?_|rw[Zl ZyY.eq_1]|refine run ZIW rfl ?_)
 all_goals (refine Ye ?_ h;clear h;simp +decide[*,kk,tI,Av,ZyL,Z8F,Z8G,ZyO,Z8H,Z8I,Z8J,ZyR,ZyQ,Z8K,Z8L,ZyU,Z8M,Z8N,Z8O,ZyW,Z8P,Z8Q,ZyZ,Z8R])
abbrev XC:=uq ZKS
def ZKT:((iM iI λq b x x1 x2 r=>if x2<x1 then qG x x2 (λu1=>qI (iE q u1) (λu2=>qI (UP q) (λu3=>if u2=u3 then r (iI q b x x1 (w (x2+1)))else qb false r)))else r (R6 b b.Budgets (b.Budgets.length:Int) 0))/\
 (iM R6 λb x x1 x2 r=>if x2<x1 then qG x x2 (λu1=>qB (Xj u1 1 500000000000) (qL (r (R6 b x x1 (w (x2+1)))) λk1=>if 0<x2 then 0<=(w (x2-1))/\∃u3,b.Budgets[(w (x2-1)).toNat]?=some u3/\if u1=(w (b.Ratio*u3))then k1 else qb false r else k1) (qb false r))else r (R7 b b.Contours (b.Contours.length:Int) 0)))/\
 ((iM R7 λb x x1 x2 r=>if x2<x1 then qG x x2 (λu1=>qB (iF u1 (b.Plans.length:Int)) (r (R7 b x x1 (w (x2+1)))) (qb false r))else qL (b.Budgets.length:Int) λk1=>if 0<k1 then qb (decide ((b.Contours.length:Int)=k1)) r else qb false r)/\
 ((iM iH λa a1 r=>qL (qb false r) λk1=>qB (KL a) (qB (Xj a1.Version 1 999) (qB (Xj a1.Ratio 2 8) (qB (Xj a1.Slack 0 100) (qI (L4 a1.Box) (λu5=>qB (Xj u5 1 400) (qI (UP a) (λu7=>if(a1.Box.Low.length:Int)=(w (u7+1))then r (iI a a1 a1.Plans (a1.Plans.length:Int) 0)else k1)) k1)) k1) k1) k1) k1)/\
 (iM L7 λa a1 r=>qB (KL a) (¬(a.Atoms.length:Int)<0/\qV (Xj a1 0 (w ((Ac 1 (a.Atoms.length:Int))-1))) (λu2=>qb u2 r)) (qb false r)))):=by
 refine qu ?_
 and_intros
 all_goals(intros;unfold Im;(try simp only[iI,R6,R7,iH,L7,iE,UP,Ze.c_def,Zc.c_def,Xj,iF,KL,L4,Box.c_def,Aq,Bc,A8]);(try simp only[Bd]);(try simp only[Be,gS,kk]))
 all_goals(repeat' first|refine Bp λ_=>?_|refine Bn λ_ _=>?_|refine Bm λ_=>?_|refine AH ?_ ?_|exact False.elim)
 all_goals(intro h;first|rw[Zl Zza.eq_1]|rw[Zl Zzb.eq_1]|rw[Zl Zzc.eq_1]|refine run ZIX rfl ?_|refine run ZIY rfl ?_)
 all_goals (refine Ye ?_ h;clear h;simp +decide[*,kk,tI,Av,Zzf,Zze,Zzd,Z8S,Z8T])
abbrev HU:=uq ZKT
