/-
  Parts of the proofs for this seat: G10 G11 G12.
-/
import Derived.Test.YteaiinkcanpleaaGreatP12
set_option linter.all false
set_option maxRecDepth 100000
set_option maxHeartbeats 4000000
namespace Go.Proofs.YteaiinkcanpleaaGreat
open Go.AM
def ZKy:((((iM P6 λq s mask used best i r=>if i<(q.Atoms.length:Int)then ¬i<0/\qL (r (P6 q s mask used best (w (i+1)))) λk1=>if(Ah (Au mask i) 1)=1 then if(Ah (Au used i) 1)=0 then qG s i (λu1=>qH q.Atoms i (λu2=>qI (Ud q used) (λu3=>AO (PS u3) (λu4=>AO (Lw u2 u4) (λu5=>AO (P4 u1 u5) (λu6=>qN u6 (∃u7,(u6++[0])[0]?=some u7/\qI (P5 s q mask (At used (Ac 1 i))) (λu8=>qL (r (P6 q s mask used (w (u7*u8)) (w (i+1)))) λk2=>if best<0 then k2 else if(w (u7*u8))<best then k2 else k1))))))))else k1 else k1 else qi best r)/\
 (iM P5 λa a1 a2 a3 r=>if a3=a2 then qi 1 r else r (P6 a1 a a2 a3 (-1) 0)))/\
 ((iM dE λs q l mask i r=>if i<(q.Atoms.length:Int)then ∃(u1:List ZF),∃u2,∃u3,∃u4,QA s q i=some (.agg [.t (.str u2),I u3,I u4,.own 0],[.arr 263 3 true (u1.map ZF.c)])/\qN l (r (dE s q (l++[(⟨u2,u3,u4,u1⟩:Z5)]) mask (w (i+1))))else qI (P5 l q mask 0) (λu1=>qi u1 r))/\
 (iM dD λa a1 a2 r=>qB (Vx a a1 a2) (r (dE a a1 ([]:List Z5) a2 0)) (qi (-1) r))))/\
 (((iM P7 λout mask i r=>if i<4 then qB (Z0 mask 0 15) (¬i<0/\if(Ah (Au mask i) 1)=1 then qN out (r (P7 (out++[i]) mask (w (i+1))))else r (P7 out mask (w (i+1)))) (AZ out r)else AZ out r)/\
 (iM Hm λa r=>r (P7 ([]:WL) a 0)))/\
 ((iM P8 λa a1 r=>qB (FQ a) (AO (P4 a a1) (λu2=>AZ u2 r)) (AZ ([]:WL) r))/\
 ((iM dG λl n i r=>if i<(l.length:Int)then qG l i (λu1=>qB (Z0 u1 1 (w (8-n))) (qL (r (dG l (w (n+u1)) (w (i+1)))) λk1=>if 0<i then 0<=(w (i-1))/\∃u3,l[(w (i-1)).toNat]?=some u3/\if u3<u1 then qb false r else k1 else k1) (qb false r))else qb true r)/\
 (iM dF λa r=>r (dG a 0 0))))))/\
 ((((iM dH λa b n i r=>if i<(a.length:Int)then if i<(b.length:Int)then qB (dF a) (qB (dF b) (qG a i (λu3=>qH b i (λu4=>r (dH a b (w (n+(w (u3*u4)))) (w (i+1)))))) (qi n r)) (qi n r)else qi n r else qi n r)/\
 (iM xO λa a1 r=>r (dH a a1 0 0)))/\
 ((iM P9 λa a1 a2 a3 r=>qI (Wn a1) (λu1=>qB (Vx a a1 u1) (qL (w ((a1.Atoms.length:Int)-1)) λk1=>qB (Z0 a2 0 k1) (qB (Z0 a3 0 k1) (if a2=a3 then qi (-1) r else ¬a2<0/\¬a3<0/\AO (Jz a1 (Ac 1 a2) (Ac 1 a3)) (λu5=>∃(u6:List ZF),∃u7,∃u8,∃u9,QA a a1 a2=some (.agg [.t (.str u7),I u8,I u9,.own 0],[.arr 263 3 true (u6.map ZF.c)])/\qG a1.Atoms a2 (λu10=>AO (Lw u10 u5) (λu11=>AO (P8 (⟨u7,u8,u9,u6⟩:Z5) u11) (λu12=>∃(cc:List ZF),∃u14,∃u15,∃u16,QA a a1 a3=some (.agg [.t (.str u14),I u15,I u16,.own 0],[.arr 263 3 true (cc.map ZF.c)])/\qG a1.Atoms a3 (λBw=>AO (Lw Bw u5) (λBE=>AO (P8 (⟨u14,u15,u16,cc⟩:Z5) BE) (λCi=>qI (xO u12 Ci) (λu20=>qi u20 r))))))))) (qi (-1) r)) (qi (-1) r)) (qi (-1) r)))/\
 (iM Ra λa m x k r=>if k<(a.Vars.length:Int)then if k<3 then ¬k<0/\qL (r (Ra a m x (w (k+1)))) λk1=>if(Ah (Au m k) 1)=1 then qG a.Vars k (λu1=>qB (Z0 u1 0 3) (¬u1<0/\r (Ra a m (At x (Ac 1 u1)) (w (k+1)))) k1)else k1 else qi x r else qi x r)))/\
 (((iM dI λa a1 r=>r (Ra a a1 0 0))/\
 (iM Rb λl m i r=>if i<(l.length:Int)then qG l i (λu1=>qB (Z0 u1 0 3) (¬u1<0/\r (Rb l (At m (Ac 1 u1)) (w (i+1)))) (r (Rb l m (w (i+1)))))else qi m r))/\
 ((iM dJ λa r=>r (Rb a 0 0))/\
 ((iM dK λa a1 r=>AO (P8 a a1) (λu1=>if(u1.length:Int)=0 then qi 0 r else ∃u2,u1[0]?=some u2/\qi u2 r))/\
 (iM Rd λn b r=>¬b<0/\if(Ac 1 b)<n then r (Rd n (w (b+1)))else qi b r))))):=by
 refine qu ?_
 and_intros
 all_goals(intros;unfold Im;(try simp only[P6,P5,dE,dD,P7,Hm,P8,dG,dF,dH,xO,P9,Ra,dI,Rb,dJ,dK,Rd,Ud,PS,Lw,P4,Zg.c_def,Zc.c_def,Z5.c_def,QA,ZN.c_def,Zt.c_def,Zq.c_def,Vx,Z0,FQ,Wn,Jz,Aq,Bc,A8]);(try simp only[Bd]);(try simp only[Be,gS,kk]))
 all_goals(repeat' first|refine Bp λ_=>?_|refine Bn λ_ _=>?_|refine Bm λ_=>?_|refine AH ?_ ?_|exact False.elim)
 all_goals(intro h;first|rw[Zl Zu3.eq_1]|refine run ZGQ rfl ?_|rw[Zl Zu6.eq_1]|refine run ZGR rfl ?_|rw[Zl Zu8.eq_1]|refine run ZGS rfl ?_|refine run ZGT rfl ?_|rw[Zl ZuB.eq_1]|refine run ZGU rfl ?_|rw[Zl ZuE.eq_1]|refine run ZGV rfl ?_|refine run ZGW rfl ?_|rw[Zl ZuG.eq_1]|refine run ZGX rfl ?_|rw[Zl ZuI.eq_1]|refine run ZGY rfl ?_|refine run ZGZ rfl ?_|rw[Zl ZuL.eq_1])
 all_goals (refine Ye ?_ h;clear h;simp +decide[*,kk,tI,Av,Z6a,Zu4,Z6b,Zu7,Z6c,Z6d,Zu9,Z6e,Z6f,ZuC,Z6g,ZuF,Z6h,Z6i,Z6j,ZuH,Z6k,Z6l,ZuJ,Z6m,Z6n,ZuM])
abbrev Wo:=uq ZKy
def ZKz:(((iM xR λa r=>qB (Z0 a 1 4096) (r (Rd a 0)) (qi (-1) r))/\
 (iM dM λs a out m r=>¬s.Arity<0/\if m<(w ((Ac 1 s.Arity)-1))then qI (dI a m) (λu1=>qI (dJ a.Vars) (λu2=>AO (UM m) (λu3=>qI (dK s u3) (λu4=>qI (xR u4) (λu5=>qN out (r (dM s a (out++[(⟨u1,u2,u5⟩:ZJ)]) (w (m+1)))))))))else Jt out r))/\
 ((iM dL λa a1 r=>qL ([]:List ZJ) λk1=>qB (FQ a) (if a.RowCount=0 then Jt k1 r else if(a1.Vars.length:Int)=a.Arity then r (dM a a1 k1 0)else Jt k1 r) (Jt k1 r))/\
 (iM Re λs q out mask i r=>if i<(q.Atoms.length:Int)then ¬i<0/\if(Ah (Au mask i) 1)=0 then r (Re s q out mask (w (i+1)))else ∃(u1:List ZF),∃u2,∃u3,∃u4,QA s q i=some (.agg [.t (.str u2),I u3,I u4,.own 0],[.arr 263 3 true (u1.map ZF.c)])/\qG q.Atoms i (λu5=>aL (dL (⟨u2,u3,u4,u1⟩:Z5) u5) (λu6=>if(u6.length:Int)=0 then Jt ([]:List ZJ) r else out.length+u6.length<=68719476736/\r (Re s q (out++u6) mask (w (i+1)))))else Jt out r)))/\
 (((iM dN λa a1 a2 r=>qL ([]:List ZJ) λk1=>qB (Vx a a1 a2) (r (Re a a1 k1 a2 0)) (Jt k1 r))/\
 (iM Rf λm vars x i r=>if i<(vars.length:Int)then if i<4 then qG vars i (λu1=>qL (r (Rf m vars x (w (i+1)))) λk1=>qB (Z0 u1 0 3) (¬u1<0/\if(Ah (Au m u1) 1)=1 then ¬i<0/\r (Rf m vars (At x (Ac 1 i)) (w (i+1)))else k1) k1)else qi x r else qi x r))/\
 ((iM dO λa a1 r=>r (Rf a a1 0 0))/\
 ((iM dQ λout l vars i r=>if i<(l.length:Int)then qG l i (λu1=>qI (dO u1.From vars) (λu2=>qI (dO u1.To vars) (λu3=>qN out (r (dQ (out++[(⟨u2,u3,u1.Bits⟩:ZJ)]) l vars (w (i+1)))))))else Jt out r)/\
 (iM dP λa a1 r=>r (dQ ([]:List ZJ) a a1 0))))):=by
 refine qu ?_
 and_intros
 all_goals(intros;unfold Im;(try simp only[xR,dM,dL,Re,dN,Rf,dO,dQ,dP,Z0,dI,dJ,UM,dK,Zg.c_def,Z5.c_def,FQ,QA,ZN.c_def,Zt.c_def,Zc.c_def,Zq.c_def,Vx,Rd,Aq,Bc,A8]);(try simp only[Bd]);(try simp only[Be,gS,kk]))
 all_goals(repeat' first|refine Bp λ_=>?_|refine Bn λ_ _=>?_|refine Bm λ_=>?_|refine AH ?_ ?_|exact False.elim)
 all_goals(intro h;first|refine run ZHa rfl ?_|rw[Zl ZuO.eq_1]|refine run ZHb rfl ?_|rw[Zl ZuQ.eq_1]|refine run ZHc rfl ?_|rw[Zl ZuS.eq_1]|refine run ZHd rfl ?_|rw[Zl ZuV.eq_1]|refine run ZHe rfl ?_)
 all_goals (refine Ye ?_ h;clear h;simp +decide[*,kk,tI,Av,Z6o,ZuP,Z6p,Z6q,ZuR,Z6r,Z6s,ZuT,Z6t,ZuW,Z6u])
abbrev QD:=uq ZKz
def ZK0:(((iM LA λrow plus minus i r=>if i<(plus.length:Int)then qG plus i (λu1=>if 0<u1 then 0<=(w (u1-1))/\∃u2,row[(w (u1-1)).toNat]?=some u2/\r (LA (row.set ((w (u1-1)).toNat) 1) plus minus (w (i+1)))else r (LA row plus minus (w (i+1))))else r (Rg row minus 0))/\
 ((iM Rg λrow minus i r=>if i<(minus.length:Int)then qG minus i (λu1=>if 0<u1 then 0<=(w (u1-1))/\∃u2,row[(w (u1-1)).toNat]?=some u2/\r (Rg (row.set ((w (u1-1)).toNat) (-1)) minus (w (i+1)))else r (Rg row minus (w (i+1))))else AZ row r)/\
 (iM dS λout n full i r=>if i<n then ¬i<0/\AO (FT n ([(w (full-(Ac 1 i)))]) ([full])) (λu1=>qN out (r (dS (out++[u1]) n full (w (i+1)))))else r (Rh out n full 0))))/\
 (((iM Rh λout n full i r=>if i<n then r (Ri out n full i (w (i+1)))else Kb out r)/\
 (iM Ri λout n full i j r=>if j<n then r (Rj out n full i j 0)else r (Rh out n full (w (i+1)))))/\
 ((iM Rj λout n full i j s r=>if s<=full then ¬i<0/\qL (r (Rj out n full i j (w (s+1)))) λk1=>if(Ah (Au s i) 1)=0 then ¬j<0/\if(Ah (Au s j) 1)=0 then AO (FT n ([s,(At (At s (Ac 1 i)) (Ac 1 j))]) ([(At s (Ac 1 i)),(At s (Ac 1 j))])) (λu1=>qN out (r (Rj (out++[u1]) n full i j (w (s+1)))))else k1 else k1 else r (Ri out n full i (w (j+1))))/\
 (iM dR λa r=>qB (Z0 a 1 4) (¬a<0/\r (dS ([]:WA) a (w ((Ac 1 a)-1)) 0)) (Kb ([]:WA) r)))))/\
 (((iM dT λp n k r=>if k<n then qG p.Objective k (λu1=>qB (Z0 u1 (-9) 9) (r (dT p n (w (k+1)))) (qb false r))else r (Rl p n 0))/\
 ((iM Rl λp n i r=>if i<(p.Rows.length:Int)then qG p.Rows i (λu1=>if(u1.length:Int)=n then qH p.Limits i (λu2=>qB (Z0 u2 0 99) (r (dU p n i 0)) (qb false r))else qb false r)else qb true r)/\
 (iM dU λp n i k r=>if k<n then qG p.Rows i (λu1=>qG u1 k (λu2=>qB (Z0 u2 (-9) 9) (r (dU p n i (w (k+1)))) (qb false r)))else r (Rl p n (w (i+1))))))/\
 (((iM Rk λa r=>qL (a.Objective.length:Int) λk1=>qB (Z0 k1 1 15) (if 64<(a.Rows.length:Int)then qb false r else if(a.Rows.length:Int)=(a.Limits.length:Int)then r (dT a k1 0)else qb false r) (qb false r))/\
 (iM Rm λx x1 x2 l n full i r=>qL (aD ([]:WL) ([]:WA) r) λk1=>if i<(l.length:Int)then qG l i (λu1=>qB (Z0 u1.To 1 full) (qB (Z0 u1.From 0 full) (if(Ah u1.From u1.To)=u1.From then if u1.From=u1.To then k1 else if 64<=i then k1 else AO (FT n ([u1.To]) ([u1.From])) (λu4=>qN x1 (qN x2 (r (Rm x (x1++[u4]) (x2++[u1.Bits]) l n full (w (i+1))))))else k1) k1) k1)else qB (Rk (⟨x,x1,x2⟩:Program)) (r (some (.tup [.agg [.own 0,.own 1,.own 2],Bo true],[.arr 3 1 true (x.map ic),.arr 32 1 true (x1.map AF),.arr 3 1 true (x2.map ic)]))) k1))/\
 ((iM xX λa a1 a2 r=>aL (dN a a1 a2) (λu1=>if(u1.length:Int)=0 then aD ([]:WL) ([]:WA) r else AO (Lu a1 a2) (λu2=>aL (dP u1 u2) (λu3=>uX (LC u3 (u2.length:Int)) (λu4 u5 u6 u7=>r (some (.tup [.agg [.own 0,.own 1,.own 2],Bo u7],[.arr 3 1 true (u4.map ic),.arr 32 1 true (u5.map AF),.arr 3 1 true (u6.map ic)])))))))/\
 (iM W6 λa r=>r (some (.agg [I a,I 1],[])))))):=by
 refine qu ?_
 and_intros
 all_goals(intros;unfold Im;(try simp only[LA,Rg,dS,Rh,Ri,Rj,dR,dT,Rl,dU,Rk,Rm,xX,W6,FT,Z0,Program.c_def,dN,Lu,dP,LC,ZN.c_def,Zt.c_def,Zc.c_def,ZJ.c_def,Zq.c_def,Aq,Zvh,Zvi,Zvo,Bc,A8]);(try simp only[Bd]);(try simp only[Be,gS,kk]))
 all_goals(repeat' first|refine Bp λ_=>?_|refine Bn λ_ _=>?_|refine Bm λ_=>?_|refine AH ?_ ?_|exact False.elim)
 all_goals(intro h;first|rw[Zl ZuX.eq_1]|rw[Zl ZuY.eq_1]|rw[Zl Zvb.eq_1]|rw[Zl xV.eq_1]|rw[Zl xU.eq_1]|rw[Zl Zvc.eq_1]|refine run ZHg rfl ?_|rw[Zl Zvj.eq_1]|rw[Zl xW.eq_1]|rw[Zl Zvk.eq_1]|refine run ZHh rfl ?_|rw[Zl Zvq.eq_1]|refine run ZHj rfl ?_|refine run ZHk rfl ?_)
 all_goals (refine Ye ?_ h;clear h;simp +decide[*,kk,tI,Av,Z6v,Zva,Z6w,ZuZ,Zvg,Zvf,Zve,Z6y,Zvd,Z6z,Zvn,Zvm,Zvl,Z60,Zvr,Z61,Z62])
abbrev Wz:=uq ZK0
def ZK1:iM FT λa a1 a2 r=>¬a<0/\qL (w ((Ac 1 a)-1)) λk1=>0<=k1/\k1<=k1/\k1.toNat*8<=room/\k1<=140737488355328/\r (LA (List.replicate k1.toNat 0) a1 a2 0):=by
 refine qu ?_;intro a a1 a2 r;unfold Im;intro h;unfold FT
 try simp only[Aq]
 refine run ZHf rfl ?_;obtain⟨q1,h⟩:=h;obtain⟨q2,h⟩:=h;obtain⟨q3,h⟩:=h;obtain⟨q4,h⟩:=h;have zq4:=q4;try simp[Aq]at zq4
 obtain⟨q5,h⟩:=h;refine Ye ?_ h;clear h;simp +decide[*,Z6x,tI,Av,LA,Aq]
abbrev ZK2:=uq ZK1
def ZK3:iM LC λa a1 r=>qB (Z0 a1 1 4) (¬a1<0/\AO (FT a1 ([(w ((Ac 1 a1)-1))]) ([]:WL)) (λu2=>Uc (dR a1) (λu3=>qL (u3.length:Int) λk1=>0<=k1/\k1<=k1/\k1.toNat*8<=room/\k1<=140737488355328/\r (Rm u2 u3 (List.replicate k1.toNat 0) a a1 (w ((Ac 1 a1)-1)) 0)))) (aD ([]:WL) ([]:WA) r):=by
 refine qu ?_;intro a a1 r;unfold Im;intro h;unfold LC
 try simp only[Aq]
 refine run ZHi rfl ?_;obtain⟨v,q1,h⟩:=h;unfold Z0 at q1
 try simp[Aq]at q1
 by_cases q2:v=true
 .rw[Ya q2]at h;obtain⟨q3,h⟩:=h;obtain⟨v1,q4,h⟩:=h;unfold FT at q4
  try simp[Aq]at q4
  obtain⟨v2,q5,h⟩:=h;unfold dR at q5
  try simp[Aq]at q5
  obtain⟨q6,h⟩:=h;have zq6:=q6;try simp[Aq]at zq6
  obtain⟨q7,h⟩:=h;have zq7:=q7;try simp[Aq]at zq7
  obtain⟨q8,h⟩:=h;have j7:=q8;try simp[Aq]at j7
  obtain⟨q9,h⟩:=h;have zq9:=q9;try simp[Aq]at zq9
  refine Ye ?_ h;clear h;simp +decide[*,Zvs,tI,Av,Rm,Aq]
 .rw[Yb q2]at h;refine Ye ?_ h;clear h;simp +decide[*,Zvs,tI,Av,Aq]
abbrev ZAs:=uq ZK3
def ZK4:((((iM Zv0 λp Value Aj n k r=>if k<n then qG p.Objective k (λu1=>Vh (W6 u1) (λu2=>r (dW p Value Aj ([k]) ([u2]) n (w (k+1)))))else r (Z64 p Value Aj n 0))/\
 (iM dW λp Value Aj x x1 n k r=>if k<n then qN x (qG p.Objective k (λu1=>Vh (W6 u1) (λu2=>qN x1 (r (dW p Value Aj (x++[k]) (x1++[u2]) n (w (k+1)))))))else r (Zv2 p Value Aj x x1 n 0)))/\
 ((iM Zv2 λp Value Aj x x1 n i r=>if i<(p.Rows.length:Int)then r (dX p Value Aj x x1 ([]:List Zb) n i 0)else r (some (.tup [.agg [.own 0,.own 1,.own 2,.own 3,.own 4,I Aj.Num,I Aj.Den],Bo true],[.arr 3 1 true (([]:WL).map ic),.arr 3 1 true (x.map ic),.arr 283 1 true (([]:List (List Zb)).map (lc 2 Zb.c)),.arr 277 2 true (([]:List Zb).map Zb.c),.arr 277 2 true (x1.map Zb.c)])))/\
 (iM dX λp Value Aj x x1 row n i k r=>if k<n then qG p.Rows i (λu1=>qG u1 k (λu2=>Vh (W6 u2) (λu3=>qN row (r (dX p Value Aj x x1 (row++[u3]) n i (w (k+1)))))))else qG p.Limits i (λu1=>Vh (W6 u1) (λu2=>r (LD p Value Aj ([(w (n+i))]) x ([row]) ([u2]) x1 n (w (i+1))))))))/\
 (((iM LD λp Value Aj x x1 x2 x3 x4 n i r=>if i<(p.Rows.length:Int)then r (dY p Value Aj x x1 x2 x3 x4 ([]:List Zb) n i 0)else r (some (.tup [.agg [.own 0,.own 1,.own 2,.own 3,.own 4,I Aj.Num,I Aj.Den],Bo true],[.arr 3 1 true (x.map ic),.arr 3 1 true (x1.map ic),.arr 283 1 true (x2.map (lc 2 Zb.c)),.arr 277 2 true (x3.map Zb.c),.arr 277 2 true (x4.map Zb.c)])))/\
 (iM dY λp Value Aj x x1 x2 x3 x4 row n i k r=>if k<n then qG p.Rows i (λu1=>qG u1 k (λu2=>Vh (W6 u2) (λu3=>qN row (r (dY p Value Aj x x1 x2 x3 x4 (row++[u3]) n i (w (k+1)))))))else qN x (qN x2 (qG p.Limits i (λu1=>Vh (W6 u1) (λu2=>qN x3 (r (LD p Value Aj (x++[(w (n+i))]) x1 (x2++[row]) (x3++[u2]) x4 n (w (i+1))))))))))/\
 ((iM dV λa r=>qB (Rk a) (Vh (W6 0) (λu2=>r (Zv0 a (⟨0,0⟩:Zb) u2 (a.Objective.length:Int) 0))) (G9 ([]:WL) ([]:List Zb) r))/\
 ((iM LE λa r=>if a<0 then qi (w (0-a)) r else qi a r)/\
 (iM dZ λa b r=>if b=0 then qi a r else ¬b=0/\r (dZ b (Int.tmod a b)))))))/\
 ((((iM LF λa a1 r=>r (dZ a a1))/\
 (iM WJ λa r=>qB (Z0 a.Den 1 2147483647) (qB (Z0 a.Num (-2147483647) 2147483647) (qI (LE a.Num) (λu3=>qI (LF u3 a.Den) (λu4=>qb (decide (u4=1)) r))) (qb false r)) (qb false r)))/\
 ((iM d6 λl i r=>if i<(l.length:Int)then qG l i (λu1=>qB (WJ u1) (r (d6 l (w (i+1)))) (qb false r))else qb true r)/\
 (iM Rn λa r=>r (d6 a 0))))/\
 (((iM d8 λd all m n i r=>if i<(w (m+n))then qB (Vw all i) (r (d8 d all m n (w (i+1)))) (qb false r)else r (d9 d m n 0))/\
 (iM d9 λd m n i r=>qL (qb false r) λk1=>if i<m then qG d.Cells i (λu1=>if(u1.length:Int)=n then qB (Rn u1) (r (d9 d m n (w (i+1)))) k1 else k1)else qB (Rn d.Limits) (qB (Rn d.Costs) (qV (WJ d.Value) (λu3=>qb u3 r)) k1) k1))/\
 ((iM Ho λa r=>qL (a.Basic.length:Int) λk1=>qL (qb false r) λk3=>if 64<k1 then k3 else qL (a.Free.length:Int) λk2=>qB (Z0 k2 1 15) (if(a.Cells.length:Int)=k1 then if(a.Limits.length:Int)=k1 then if(a.Costs.length:Int)=k2 then qM a.Basic (a.Basic.length+a.Free.length<=68719476736/\r (d8 a (a.Basic++a.Free) k1 k2 0))else k3 else k3 else k3) k3)/\
 ((iM Hp λd best j r=>if j<(d.Free.length:Int)then qG d.Costs j (λu1=>qL (w (j+1)) λk1=>if 0<u1.Num then if best<0 then r (Hp d j k1)else qH d.Free j (λu2=>qG d.Free best (λu3=>if u2<u3 then r (Hp d j k1)else r (Hp d best k1)))else r (Hp d best k1))else qi best r)/\
 (iM eC λa r=>qB (Ho a) (r (Hp a (-1) 0)) (qi (-1) r)))))):=by
 refine qu ?_
 and_intros
 all_goals(intros;unfold Im;(try simp only[Zv0,dW,Zv2,dX,LD,dY,dV,LE,dZ,LF,WJ,d6,Rn,d8,d9,Ho,Hp,eC,W6,Zb.c_def,Rk,Program.c_def,Z0,Vw,Zv.c_def,Z64,Zvz,Aq,xZ,Zv1,Zv3,Bc,A8]);(try simp only[Bd]);(try simp only[Be,gS,kk]))
 all_goals(repeat' first|refine Bp λ_=>?_|refine Bn λ_ _=>?_|refine Bm λ_=>?_|refine AH ?_ ?_|exact False.elim)
 all_goals(intro h;first|rw[Zl Zvt.eq_1]|rw[Zl xY.eq_1]|rw[Zl Zvu.eq_1]|refine run ZHl rfl ?_|refine run ZHm rfl ?_|rw[Zl Zv5.eq_1]|refine run ZHn rfl ?_|refine run ZHo rfl ?_|rw[Zl Zv8.eq_1]|refine run ZHp rfl ?_|rw[Zl ZvA.eq_1]|rw[Zl ZvB.eq_1]|refine run ZHq rfl ?_|rw[Zl ZvE.eq_1]|refine run ZHr rfl ?_)
 all_goals (refine Ye ?_ h;clear h;simp +decide[*,kk,tI,Av,Zvy,Zvx,Zvw,Zvv,Z63,Z65,Zv6,Z66,Z67,Zv9,Z68,ZvD,ZvC,Z69,Z6A,ZvF,Z6B])
abbrev Ws:=uq ZK4
def ZK5:iM FV λa a1 r=>qB (WJ a) (qB (WJ a1) (if a1.Num=0 then Up r else BA (FU (w (a.Num*a1.Den)) (w (a.Den*a1.Num))) (λu3 u4=>Hb u3 u4 r)) (Up r)) (Up r):=by
 refine qu ?_
 all_goals(intros;unfold Im;(try simp only[FV,WJ,FU,Zb.c_def,Aq,Bc,A8]);(try simp only[Bd]);(try simp only[Be,gS,kk]))
 all_goals(repeat' first|refine Bp λ_=>?_|refine Bn λ_ _=>?_|refine Bm λ_=>?_|refine AH ?_ ?_|exact False.elim)
 all_goals(intro h;first|refine run ZHt rfl ?_)
 all_goals (refine Ye ?_ h;clear h;simp +decide[*,kk,tI,Av,Z6F])
abbrev ZK6:=uq ZK5
def ZK7:iM FU λa a1 r=>if a1=0 then Up r else if a<(-9223372036854775807)then Up r else if a1<(-9223372036854775807)then Up r else if a1<0 then qI (LE (w (0-a))) (λu1=>qI (LF u1 (w (0-a1))) (λu2=>¬u2=0/\qL (w (Int.tdiv (w (0-a1)) u2)) λk1=>qL (w (Int.tdiv (w (0-a)) u2)) λk2=>qB (WJ (⟨k2,k1⟩:Zb)) (r (some (.tup [.agg [I k2,I k1],Bo true],[]))) (Up r)))else qI (LE a) (λu1=>qI (LF u1 a1) (λu2=>¬u2=0/\qB (WJ (⟨(w (Int.tdiv a u2)),(w (Int.tdiv a1 u2))⟩:Zb)) (r (some (.tup [.agg [I (w (Int.tdiv a u2)),I (w (Int.tdiv a1 u2))],Bo true],[]))) (Up r))):=by
 refine qu ?_;intro a a1 r;unfold Im;intro h;unfold FU
 try simp only[Aq]
 refine run ZHs rfl ?_;simp only[LE,LF,WJ,Zb.c_def,Bc,A8,Aq]at h
 try simp only[Bd]at h
 try simp only[Be,gS,kk]at h
 rcases h with⟨q1,h⟩|⟨q1,(⟨q2,h⟩|⟨q2,(⟨q3,h⟩|⟨q3,(⟨q4,v,q5,v1,q6,q7,v2,q8,(⟨q9,h⟩|⟨q9,h⟩)⟩|⟨q4,v3,q10,v4,q11,q12,v5,q13,(⟨Bv,h⟩|⟨Bv,h⟩)⟩)⟩)⟩)⟩
 all_goals (try simp only[Int.zero_sub]at *)
 all_goals (refine Ye ?_ h;clear h;simp +decide[*,kk,tI,Av,Z6E,Z6D,Aq])
abbrev ZK8:=uq ZK7
