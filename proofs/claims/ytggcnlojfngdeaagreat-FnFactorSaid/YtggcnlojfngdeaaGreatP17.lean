/-
  Parts of the proofs for this seat: G10 G11 G12.
-/
import Derived.Test.YtggcnlojfngdeaaGreatP13
set_option linter.all false
set_option maxRecDepth 100000
set_option maxHeartbeats 4000000
namespace Go.Proofs.YtggcnlojfngdeaaGreat
open Go.AM
def ZHH:((((iM dG λa v k r=>if k<(a.Vars.length:Int)then qG a.Vars k (λu1=>if u1=v then qi k r else r (dG a v (w (k+1))))else qi (-1) r)/\
 (iM dF λa a1 r=>r (dG a a1 0)))/\
 ((iM LH λs q v mask i k r=>if k<(q.Atoms.length:Int)then ¬k<0/\qL (r (LH s q v mask i (w (k+1)))) λk2=>if(Aj (At mask k) 1)=0 then k2 else qG q.Atoms k (λu1=>∃u2,v[0]?=some u2/\qB (Vn u1.Vars u2) (qI (dF u1 u2) (λu4=>qG q.Atoms i (λu5=>qI (dF u5 u2) (λu6=>qL (r (dI s q v (⟨u1.Name,u4,u5.Name,u6⟩:Zw) mask i k 0)) λk1=>if u1.Name=u5.Name then if u4=u6 then qb true r else k1 else k1)))) k2)else qb false r)/\
 (iM dI λs q v want mask i k j r=>if j<(s.Inclusions.length:Int)then qG s.Inclusions j (λu1=>if u1.Name=want.Name/\u1.Column=want.Column/\u1.Into=want.Into/\u1.IntoColumn=want.IntoColumn then qb true r else r (dI s q v want mask i k (w (j+1))))else r (LH s q v mask i (w (k+1))))))/\
 (((iM w9 λa a1 a2 a3 r=>qL (qb false r) λk1=>qB (VL a a1 a2) (qB (Z0 a3 0 (w ((a1.Atoms.length:Int)-1))) (¬a3<0/\if(Aj (At a2 a3) 1)=1 then k1 else A4 (K7 a1 a2 (Ac 1 a3)) (λu3=>if(u3.length:Int)=1 then r (LH a a1 u3 a2 a3 0)else k1)) k1) k1)/\
 (iM dJ λorder s q mask used i r=>if i<(order.length:Int)then qG order i (λu1=>¬u1<0/\r (dJ order s q mask (Au used (Ac 1 u1)) (w (i+1))))else if used=mask then A3 order r else r (Ka order s q mask used 0)))/\
 ((iM Ka λorder s q mask used i r=>if i<(q.Atoms.length:Int)then ¬i<0/\qL (r (Ka order s q mask used (w (i+1)))) λk1=>if(Aj (At mask i) 1)=1 then qB (w9 s q used i) (qM order (qN order (qL (QZ (order++[i]) s q mask) λk2=>(A4 k2 (λu2=>if 0<(u2.length:Int)then aO order u2 r else k1))\/(uX k2 (λu2 u3=>if 0<(u3.length:Int)then aO order u3 r else k1))))) k1 else k1 else aO order ([]:WL) r)/\
 ((iM QZ λx a a1 a2 r=>r (dJ x a a1 a2 0 0))/\
 (iM P9 λa a1 a2 a3 r=>qL (A3 ([]:WL) r) λk1=>qB (VL a a1 a2) (qB (Z0 a3 0 (w ((a1.Atoms.length:Int)-1))) (¬a3<0/\if(Aj (At a2 a3) 1)=0 then k1 else(A4 (QZ ([a3]) a a1 a2) (λu3=>A3 u3 r))\/(uX (QZ ([a3]) a a1 a2) (λu3 u4=>A3 u4 r))) k1) k1)))))/\
 ((((iM Zt3 λName Arity Al Ad rows i r=>if i<(rows.length:Int)then qG rows i (λu1=>UM (G9 u1) (λu2=>r (dK Name Arity Al Ad u2 rows (w (i+1)))))else qB (Ha Al Ad) (r (some (.tup [.agg [.t (.str Al),I Ad,.own 0],Bo true],[.arr 44 1 true (([]:XV).map AA)]))) (aJ ([]:XV) r))/\
 (iM dK λName Arity Al Ad x rows i r=>qL (qB (Je (⟨Al,Ad,x⟩:Zm)) (r (some (.tup [.agg [.t (.str Al),I Ad,.own 0],Bo true],[.arr 44 1 true (x.map AA)]))) (aJ ([]:XV) r)) λk1=>if i<(rows.length:Int)then if(x.length:Int)<=8 then qG rows i (λu1=>UM (Jd x u1) (λu2=>r (dK Name Arity Al Ad u2 rows (w (i+1)))))else k1 else k1))/\
 ((iM xA λa a1 a2 r=>r (Zt3 (⟨#[]⟩:V5) 0 a a1 a2 0))/\
 (iM xC λa r=>qL (a.Groups.length:Int) λk1=>if k1=0 then aJ ([]:XV) r else 0<=(w (k1-1))/\∃u1,a.Groups[(w (k1-1)).toNat]?=some u1/\∃(u2:XV),∃u3,∃u4,∃u5,xA a.Name a.Arity u1.Values=some (.tup [.agg [.t (.str u3),I u4,.own 0],Bo u5],[.arr 44 1 true (u2.map AA)])/\r (some (.tup [.agg [.t (.str u3),I u4,.own 0],Bo u5],[.arr 44 1 true (u2.map AA)])))))/\
 (((iM FR λa r=>∃(u1:XV),∃u2,∃u3,∃u4,xC a=some (.tup [.agg [.t (.str u2),I u3,.own 0],Bo u4],[.arr 44 1 true (u1.map AA)])/\if u4=true then ∃(u5:Zu),Ly (⟨u2,u3,u1⟩:Zm)=some (.agg (u5.c.map .t),[])/\qV (P1 u5 a) (λu6=>qb u6 r)else qb false r)/\
 (iM xK λs Name Arity RowCount Al Ad As i r=>if i<(s.Groups.length:Int)then qG s.Groups i (λu1=>qM u1.Columns (qM u1.Counts (r (Zt5 s Name Arity RowCount Al Ad As u1.Columns u1.Counts i 0))))else r (some (.agg [.t (.str Al),I Ad,I As,.own 0],[.arr 251 3 true (([]:List ZC).map ZC.c)]))))/\
 ((iM Zt5 λs Name Arity RowCount Al Ad As x x1 i k r=>qG s.Groups i (λu1=>if k<(u1.Values.length:Int)then qG u1.Values k (λu2=>qM u2 (r (dL s Name Arity RowCount Al Ad As x ([u2]) x1 i (w (k+1)))))else r (Jf s Name Arity RowCount Al Ad As ([(⟨x,[],x1⟩:ZC)]) (w (i+1)))))/\
 ((iM dL λs Name Arity RowCount Al Ad As x x1 x2 i k r=>qG s.Groups i (λu1=>if k<(u1.Values.length:Int)then qG u1.Values k (λu2=>qM u2 (qN x1 (r (dL s Name Arity RowCount Al Ad As x (x1++[u2]) x2 i (w (k+1))))))else r (Jf s Name Arity RowCount Al Ad As ([(⟨x,x1,x2⟩:ZC)]) (w (i+1)))))/\
 (iM Jf λs Name Arity RowCount Al Ad As x i r=>if i<(s.Groups.length:Int)then qG s.Groups i (λu1=>qM u1.Columns (qM u1.Counts (r (xL s Name Arity RowCount Al Ad As x u1.Columns u1.Counts i 0))))else r (some (.agg [.t (.str Al),I Ad,I As,.own 0],[.arr 251 3 true (x.map ZC.c)]))))))):=by
 refine qu ?_
 and_intros
 all_goals(intros;unfold Im;(try simp only[dG,dF,LH,dI,w9,dJ,Ka,QZ,P9,Zt3,dK,xA,xC,FR,xK,Zt5,dL,Jf,Vn,Zd.c_def,VL,Z0,K7,Z2.c_def,Zq.c_def,Zc.c_def,Zr.c_def,G9,Ha,Jd,Je,Zm.c_def,Ly,P1,Zu.c_def,xL,Ar,Ztu,Zt2,xJ,xI,Rb,Bf,A7]);(try simp only[Bc]);(try simp only[Bd,gS,kk]))
 all_goals(repeat' first|refine Br λ_=>?_|refine Bq λ_ _=>?_|refine Bp λ_=>?_|refine AL ?_ ?_|exact False.elim)
 all_goals(intro h;first|rw[Zk Ztp.eq_1]|refine run ZE3 rfl ?_|rw[Zk w8.eq_1]|rw[Zk Ztr.eq_1]|refine run ZE4 rfl ?_|rw[Zk Ztv.eq_1]|rw[Zk Ztw.eq_1]|refine XD ZE5 rfl ?_|refine run ZE6 rfl ?_|rw[Zk Zt0.eq_1]|refine run ZE7 rfl ?_|refine run ZE8 rfl ?_|refine run ZE9 rfl ?_|rw[Zk xG.eq_1]|rw[Zk xD.eq_1])
 all_goals (refine Yg ?_ h;clear h;simp +decide[*,kk,tI,Az,Ztq,Z4k,Zts,Ztt,Z4l,Zty,Z4m,Ztx,Z4n,Z4o,Zt1,Z4p,Z4q,Z4r,Zt4,xF,xE])
abbrev Wa:=uq ZHH
def ZHI:((iM xL λs Name Arity RowCount Al Ad As x x1 x2 i k r=>qG s.Groups i (λu1=>if k<(u1.Values.length:Int)then qG u1.Values k (λu2=>qM u2 (r (dM s Name Arity RowCount Al Ad As x x1 ([u2]) x2 i (w (k+1)))))else qN x (r (Jf s Name Arity RowCount Al Ad As (x++[(⟨x1,[],x2⟩:ZC)]) (w (i+1))))))/\
 ((iM dM λs Name Arity RowCount Al Ad As x x1 x2 x3 i k r=>qG s.Groups i (λu1=>if k<(u1.Values.length:Int)then qG u1.Values k (λu2=>qM u2 (qN x2 (r (dM s Name Arity RowCount Al Ad As x x1 (x2++[u2]) x3 i (w (k+1))))))else qN x (r (Jf s Name Arity RowCount Al Ad As (x++[(⟨x1,x2,x3⟩:ZC)]) (w (i+1))))))/\
 (iM xH λa r=>r (xK a (⟨#[]⟩:V5) 0 0 a.Name a.Arity a.RowCount 0))))/\
 ((iM dN λc Name Arity RowCount name i r=>if i<(c.Tables.length:Int)then qG c.Tables i (λu1=>qL (r (dN c Name Arity RowCount name (w (i+1)))) λk1=>if u1.Name=name then qB (FR u1) (∃(u3:List ZC),∃u4,∃u5,∃u6,xH u1=some (.agg [.t (.str u4),I u5,I u6,.own 0],[.arr 251 3 true (u3.map ZC.c)])/\r (some (.tup [.agg [.t (.str u4),I u5,I u6,.own 0],Bo true],[.arr 251 3 true (u3.map ZC.c)]))) k1 else k1)else r (some (.tup [.agg [.t (.str (⟨#[]⟩:V5)),I 0,I 0,.own 0],Bo false],[.arr 251 3 true (([]:List ZC).map ZC.c)])))/\
 ((iM xM λa a1 r=>r (dN a (⟨#[]⟩:V5) 0 0 a1 0))/\
 (iM Q5 λa a1 a2 r=>qG a1.Atoms a2 (λu1=>∃(u2:List ZC),∃u3,∃u4,∃u5,∃u6,xM a.Z2 u1.Name=some (.tup [.agg [.t (.str u3),I u4,I u5,.own 0],Bo u6],[.arr 251 3 true (u2.map ZC.c)])/\r (some (.agg [.t (.str u3),I u4,I u5,.own 0],[.arr 251 3 true (u2.map ZC.c)])))))):=by
 refine qu ?_
 and_intros
 all_goals(intros;unfold Im;(try simp only[xL,dM,xH,dN,xM,Q5,FR,Zu.c_def,Z2.c_def,Jf,xK,Rb,Ar,xI,xJ,Bf,A7]);(try simp only[Bc]);(try simp only[Bd,gS,kk]))
 all_goals(repeat' first|refine Br λ_=>?_|refine Bq λ_ _=>?_|refine Bp λ_=>?_|refine AL ?_ ?_|exact False.elim)
 all_goals(intro h;first|rw[Zk xD.eq_1]|refine run ZEA rfl ?_|rw[Zk Zt7.eq_1]|refine run ZEB rfl ?_|refine run ZEC rfl ?_)
 all_goals (refine Yg ?_ h;clear h;simp +decide[*,kk,tI,Az,xF,xE,Z4s,Zt8,Z4t,Z4u])
abbrev Mq:=uq ZHI
def ZHJ:((((iM Rd λs q mask n i r=>if i<(q.Atoms.length:Int)then A4 (P9 s q mask i) (λu1=>if 0<(u1.length:Int)then ∃(u2:List ZC),∃u3,∃u4,∃u5,Q5 s q i=some (.agg [.t (.str u3),I u4,I u5,.own 0],[.arr 251 3 true (u2.map ZC.c)])/\r (Rd s q mask (if n<u5 then u5 else n) (w (i+1)))else r (Rd s q mask n (w (i+1))))else qi n r)/\
 (iM xO λa a1 a2 r=>qB (VL a a1 a2) (r (Rd a a1 a2 0 0)) (qi (-1) r)))/\
 ((iM Re λs q out m r=>qI (Wp q) (λu1=>if m<=u1 then qB (Q4 q m) (qI (xO s q m) (λu3=>qN out (r (Re s q (out++[u3]) (w (m+1)))))) (qN out (r (Re s q (out++[0]) (w (m+1)))))else A3 out r))/\
 (iM dO λa a1 r=>qI (Wp a1) (λu1=>qB (VL a a1 u1) (r (Re a a1 ([]:WL) 0)) (A3 ([]:WL) r)))))/\
 (((iM Rf λs q mask n i r=>if i<(q.Atoms.length:Int)then ¬i<0/\if(Aj (At mask i) 1)=1 then ∃(u1:List ZC),∃u2,∃u3,∃u4,Q5 s q i=some (.agg [.t (.str u2),I u3,I u4,.own 0],[.arr 251 3 true (u1.map ZC.c)])/\r (Rf s q mask (w (n*u4)) (w (i+1)))else r (Rf s q mask n (w (i+1)))else qi n r)/\
 (iM dP λa a1 a2 r=>qB (VL a a1 a2) (r (Rf a a1 a2 1 0)) (qi (-1) r)))/\
 ((iM Rg λa out vars i r=>if i<(a.Vars.length:Int)then qG a.Vars i (λu1=>qB (Vn vars u1) (qN out (r (Rg a (out++[i]) vars (w (i+1))))) (r (Rg a out vars (w (i+1)))))else A3 out r)/\
 ((iM LI λa a1 r=>r (Rg a ([]:WL) a1 0))/\
 (iM FS λout l i r=>if i<(l.length:Int)then r (LK out l i (out.length:Int))else A3 out r)))))/\
 ((((iM xW λa r=>r (FS ([]:WL) a 0))/\
 (iM dQ λs cols i r=>if i<(s.Groups.length:Int)then qG s.Groups i (λu1=>qI (Ut u1.Columns cols) (λu2=>if u2=0 then A4 (xW u1.Counts) (λu3=>A3 u3 r)else r (dQ s cols (w (i+1)))))else A3 ([]:WL) r))/\
 ((iM Ri λa a1 r=>if(a1.length:Int)=0 then if a.RowCount=0 then A3 ([]:WL) r else A3 ([a.RowCount]) r else r (dQ a a1 0))/\
 (iM Rk λq s mask used best i r=>if i<(q.Atoms.length:Int)then ¬i<0/\qL (r (Rk q s mask used best (w (i+1)))) λk1=>if(Aj (At mask i) 1)=1 then if(Aj (At used i) 1)=0 then qG s i (λu1=>qH q.Atoms i (λu2=>qI (Uc q used) (λu3=>A4 (P5 u3) (λu4=>A4 (LI u2 u4) (λu5=>A4 (Ri u1 u5) (λu6=>qN u6 (∃u7,(u6++[0])[0]?=some u7/\qI (Rj s q mask (Au used (Ac 1 i))) (λu8=>qL (r (Rk q s mask used (w (u7*u8)) (w (i+1)))) λk2=>if best<0 then k2 else if(w (u7*u8))<best then k2 else k1))))))))else k1 else k1 else qi best r)))/\
 (((iM Rj λa a1 a2 a3 r=>if a3=a2 then qi 1 r else r (Rk a1 a a2 a3 (-1) 0))/\
 (iM dS λs q l mask i r=>if i<(q.Atoms.length:Int)then ∃(u1:List ZC),∃u2,∃u3,∃u4,Q5 s q i=some (.agg [.t (.str u2),I u3,I u4,.own 0],[.arr 251 3 true (u1.map ZC.c)])/\qN l (r (dS s q (l++[(⟨u2,u3,u4,u1⟩:Zu)]) mask (w (i+1))))else qI (Rj l q mask 0) (λu1=>qi u1 r)))/\
 ((iM dR λa a1 a2 r=>qB (VL a a1 a2) (r (dS a a1 ([]:List Zu) a2 0)) (qi (-1) r))/\
 ((iM Rl λout mask i r=>if i<4 then qB (Z0 mask 0 15) (¬i<0/\if(Aj (At mask i) 1)=1 then qN out (r (Rl (out++[i]) mask (w (i+1))))else r (Rl out mask (w (i+1)))) (A3 out r)else A3 out r)/\
 (iM Hh λa r=>r (Rl ([]:WL) a 0)))))):=by
 refine qu ?_
 and_intros
 all_goals(intros;unfold Im;(try simp only[Rd,xO,Re,dO,Rf,dP,Rg,LI,FS,xW,dQ,Ri,Rk,Rj,dS,dR,Rl,Hh,P9,Q5,Z2.c_def,Zq.c_def,Zc.c_def,Zr.c_def,VL,Wp,Q4,Vn,Ut,Uc,P5,Zd.c_def,Zu.c_def,Z0,LK,Ar,LJ,Bf,A7]);(try simp only[Bc]);(try simp only[Bd,gS,kk]))
 all_goals(repeat' first|refine Br λ_=>?_|refine Bq λ_ _=>?_|refine Bp λ_=>?_|refine AL ?_ ?_|exact False.elim)
 all_goals(intro h;first|rw[Zk Zt9.eq_1]|refine run ZED rfl ?_|rw[Zk ZtB.eq_1]|refine run ZEE rfl ?_|rw[Zk ZtD.eq_1]|refine run ZEF rfl ?_|rw[Zk ZtF.eq_1]|refine run ZEG rfl ?_|rw[Zk xV.eq_1]|refine run ZEH rfl ?_|rw[Zk ZtK.eq_1]|refine run ZEI rfl ?_|rw[Zk ZtM.eq_1]|refine run ZEJ rfl ?_|rw[Zk ZtP.eq_1]|refine run ZEK rfl ?_|rw[Zk ZtR.eq_1]|refine run ZEL rfl ?_)
 all_goals (refine Yg ?_ h;clear h;simp +decide[*,kk,tI,Az,Z4v,ZtA,Z4w,Z4x,ZtC,Z4y,Z4z,ZtE,Z40,Z41,ZtG,Z42,ZtI,Z43,ZtL,Z44,Z45,ZtN,Z46,ZtQ,Z47,Z48,ZtS,Z49])
abbrev Wq:=uq ZHJ
def ZHK:((iM LL λa a1 r=>qB (FR a) (A4 (Ri a a1) (λu2=>A3 u2 r)) (A3 ([]:WL) r))/\
 (iM dU λl n i r=>if i<(l.length:Int)then qG l i (λu1=>qB (Z0 u1 1 (w (8-n))) (qL (r (dU l (w (n+u1)) (w (i+1)))) λk1=>if 0<i then 0<=(w (i-1))/\∃u3,l[(w (i-1)).toNat]?=some u3/\if u3<u1 then qb false r else k1 else k1) (qb false r))else qb true r))/\
 ((iM dT λa r=>r (dU a 0 0))/\
 ((iM dW λa b n i r=>if i<(a.length:Int)then if i<(b.length:Int)then qB (dT a) (qB (dT b) (qG a i (λu3=>qH b i (λu4=>r (dW a b (w (n+(w (u3*u4)))) (w (i+1)))))) (qi n r)) (qi n r)else qi n r else qi n r)/\
 (iM dV λa a1 r=>r (dW a a1 0 0)))):=by
 refine qu ?_
 and_intros
 all_goals(intros;unfold Im;(try simp only[LL,dU,dT,dW,dV,FR,Ri,Zu.c_def,Z0,Ar,Bf,A7]);(try simp only[Bc]);(try simp only[Bd,gS,kk]))
 all_goals(repeat' first|refine Br λ_=>?_|refine Bq λ_ _=>?_|refine Bp λ_=>?_|refine AL ?_ ?_|exact False.elim)
 all_goals(intro h;first|refine run ZEM rfl ?_|rw[Zk ZtU.eq_1]|refine run ZEN rfl ?_|rw[Zk ZtX.eq_1]|refine run ZEO rfl ?_)
 all_goals (refine Yg ?_ h;clear h;simp +decide[*,kk,tI,Az,Z4A,ZtV,Z4B,ZtY,Z4C])
abbrev HK:=uq ZHK
def ZHL:iM LK λout l i k r=>qL (out.take k.toNat) λk1=>qL (out.drop k.toNat) λk2=>if 0<k then 0<=(w (k-1))/\∃u1,out[(w (k-1)).toNat]?=some u1/\qG l i (λu2=>if u1<u2 then r (LK out l i (w (k-1)))else 0<=k/\k.toNat<=out.length/\qM k1 (qN k1 (k1.length+1+k2.length<=68719476736/\r (FS ((k1++[u2])++k2) l (w (i+1))))))else 0<=k/\k.toNat<=out.length/\qM k1 (qG l i (λu1=>qN k1 (k1.length+1+k2.length<=68719476736/\r (FS ((k1++[u1])++k2) l (w (i+1)))))):=by
 refine qu ?_;intro out l i k r;unfold Im;intro h;unfold LK
 try simp only[LJ,Ar]
 rw[Zk ZtH.eq_1];by_cases q1:0<k
 .rw[Ya q1]at h;obtain⟨q2,h⟩:=h;obtain⟨e1,q3,h⟩:=h;have gq3:=Wi q3;have kq3:=Wo q3;obtain⟨q4,h⟩:=h;obtain⟨e2,q5,h⟩:=h;have gq5:=Wi q5;have kq5:=Wo q5;by_cases q6:e1<e2
  .rw[Ya q6]at h;refine Yg ?_ h;clear h;simp +decide[*,tI,Az,LK,LJ,Ar]
  .rw[Yb q6]at h;obtain⟨q7,h⟩:=h;obtain⟨q8,h⟩:=h;have zq8:=q8;try simp[Ar]at zq8
   obtain⟨q9,h⟩:=h;have rq9:=Up (b:=8) q9 Z;have sq9:=Uq q9
   try simp[*]at rq9
   try simp[*]at sq9
   obtain⟨q10,h⟩:=h;have AaL:=Up (b:=8) q10 Z;have AaM:=Uq q10
   try simp[*]at AaL
   try simp[*]at AaM
   obtain⟨q11,h⟩:=h;have AaN:=Up (b:=8) q11 Z;have AaO:=Uq q11
   try simp[*]at AaN
   try simp[*]at AaO
   refine Yg ?_ h;clear h;simp +decide[*,tI,Az,FS,xU,xT,LJ,Ar]
 .rw[Yb q1]at h;obtain⟨q12,h⟩:=h;obtain⟨q13,h⟩:=h;have AaP:=q13;try simp[Ar]at AaP
  obtain⟨BB,h⟩:=h;have AaQ:=Up (b:=8) BB Z;have AaR:=Uq BB
  try simp[*]at AaQ
  try simp[*]at AaR
  obtain⟨BW,h⟩:=h;obtain⟨e3,q16,h⟩:=h;have Acn:=Wi q16;have Aco:=Wo q16;obtain⟨EZ,h⟩:=h;have AaS:=Up (b:=8) EZ Z;have AaT:=Uq EZ
  try simp[*]at AaS
  try simp[*]at AaT
  obtain⟨Ce,h⟩:=h;have AaU:=Up (b:=8) Ce Z;have AaV:=Uq Ce
  try simp[*]at AaU
  try simp[*]at AaV
  refine Yg ?_ h;clear h;simp +decide[*,tI,Az,FS,xU,xT,LJ,Ar]
abbrev Z8g:=uq ZHL
def ZHM:((((iM Rm λa a1 a2 a3 r=>qI (Wp a1) (λu1=>qB (VL a a1 u1) (qL (w ((a1.Atoms.length:Int)-1)) λk1=>qB (Z0 a2 0 k1) (qB (Z0 a3 0 k1) (if a2=a3 then qi (-1) r else ¬a2<0/\¬a3<0/\A4 (K7 a1 (Ac 1 a2) (Ac 1 a3)) (λu5=>∃(u6:List ZC),∃u7,∃u8,∃u9,Q5 a a1 a2=some (.agg [.t (.str u7),I u8,I u9,.own 0],[.arr 251 3 true (u6.map ZC.c)])/\qG a1.Atoms a2 (λu10=>A4 (LI u10 u5) (λu11=>A4 (LL (⟨u7,u8,u9,u6⟩:Zu) u11) (λu12=>∃(cc:List ZC),∃u14,∃u15,∃u16,Q5 a a1 a3=some (.agg [.t (.str u14),I u15,I u16,.own 0],[.arr 251 3 true (cc.map ZC.c)])/\qG a1.Atoms a3 (λDM=>A4 (LI DM u5) (λHH=>A4 (LL (⟨u14,u15,u16,cc⟩:Zu) HH) (λHI=>qI (dV u12 HI) (λu20=>qi u20 r))))))))) (qi (-1) r)) (qi (-1) r)) (qi (-1) r)))/\
 (iM Rn λa m x k r=>if k<(a.Vars.length:Int)then if k<3 then ¬k<0/\qL (r (Rn a m x (w (k+1)))) λk1=>if(Aj (At m k) 1)=1 then qG a.Vars k (λu1=>qB (Z0 u1 0 3) (¬u1<0/\r (Rn a m (Au x (Ac 1 u1)) (w (k+1)))) k1)else k1 else qi x r else qi x r))/\
 ((iM x6 λa a1 r=>r (Rn a a1 0 0))/\
 (iM Ro λl m i r=>if i<(l.length:Int)then qG l i (λu1=>qB (Z0 u1 0 3) (¬u1<0/\r (Ro l (Au m (Ac 1 u1)) (w (i+1)))) (r (Ro l m (w (i+1)))))else qi m r)))/\
 (((iM x9 λa r=>r (Ro a 0 0))/\
 (iM yA λa a1 r=>A4 (LL a a1) (λu1=>if(u1.length:Int)=0 then qi 0 r else ∃u2,u1[0]?=some u2/\qi u2 r)))/\
 ((iM dX λn b r=>¬b<0/\if(Ac 1 b)<n then r (dX n (w (b+1)))else qi b r)/\
 ((iM yB λa r=>qB (Z0 a 1 4096) (r (dX a 0)) (qi (-1) r))/\
 (iM dZ λs a out m r=>¬s.Arity<0/\if m<(w ((Ac 1 s.Arity)-1))then qI (x6 a m) (λu1=>qI (x9 a.Vars) (λu2=>A4 (UP m) (λu3=>qI (yA s u3) (λu4=>qI (yB u4) (λu5=>qN out (r (dZ s a (out++[(⟨u1,u2,u5⟩:ZG)]) (w (m+1)))))))))else Ja out r)))))/\
 ((((iM dY λa a1 r=>qL ([]:List ZG) λk1=>qB (FR a) (if a.RowCount=0 then Ja k1 r else if(a1.Vars.length:Int)=a.Arity then r (dZ a a1 k1 0)else Ja k1 r) (Ja k1 r))/\
 (iM Rp λs q out mask i r=>if i<(q.Atoms.length:Int)then ¬i<0/\if(Aj (At mask i) 1)=0 then r (Rp s q out mask (w (i+1)))else ∃(u1:List ZC),∃u2,∃u3,∃u4,Q5 s q i=some (.agg [.t (.str u2),I u3,I u4,.own 0],[.arr 251 3 true (u1.map ZC.c)])/\qG q.Atoms i (λu5=>aP (dY (⟨u2,u3,u4,u1⟩:Zu) u5) (λu6=>if(u6.length:Int)=0 then Ja ([]:List ZG) r else out.length+u6.length<=68719476736/\r (Rp s q (out++u6) mask (w (i+1)))))else Ja out r))/\
 ((iM d6 λa a1 a2 r=>qL ([]:List ZG) λk1=>qB (VL a a1 a2) (r (Rp a a1 k1 a2 0)) (Ja k1 r))/\
 (iM Rq λm vars x i r=>if i<(vars.length:Int)then if i<4 then qG vars i (λu1=>qL (r (Rq m vars x (w (i+1)))) λk1=>qB (Z0 u1 0 3) (¬u1<0/\if(Aj (At m u1) 1)=1 then ¬i<0/\r (Rq m vars (Au x (Ac 1 i)) (w (i+1)))else k1) k1)else qi x r else qi x r)))/\
 (((iM d7 λa a1 r=>r (Rq a a1 0 0))/\
 (iM d9 λout l vars i r=>if i<(l.length:Int)then qG l i (λu1=>qI (d7 u1.From vars) (λu2=>qI (d7 u1.To vars) (λu3=>qN out (r (d9 (out++[(⟨u2,u3,u1.Bits⟩:ZG)]) l vars (w (i+1)))))))else Ja out r))/\
 ((iM d8 λa a1 r=>r (d9 ([]:List ZG) a a1 0))/\
 ((iM LN λrow plus minus i r=>if i<(plus.length:Int)then qG plus i (λu1=>if 0<u1 then 0<=(w (u1-1))/\∃u2,row[(w (u1-1)).toNat]?=some u2/\r (LN (row.set ((w (u1-1)).toNat) 1) plus minus (w (i+1)))else r (LN row plus minus (w (i+1))))else r (Rr row minus 0))/\
 (iM Rr λrow minus i r=>if i<(minus.length:Int)then qG minus i (λu1=>if 0<u1 then 0<=(w (u1-1))/\∃u2,row[(w (u1-1)).toNat]?=some u2/\r (Rr (row.set ((w (u1-1)).toNat) (-1)) minus (w (i+1)))else r (Rr row minus (w (i+1))))else A3 row r))))):=by
 refine qu ?_
 and_intros
 all_goals(intros;unfold Im;(try simp only[Rm,Rn,x6,Ro,x9,yA,dX,yB,dZ,dY,Rp,d6,Rq,d7,d9,d8,LN,Rr,Wp,VL,Z0,K7,Q5,LI,LL,dV,Zd.c_def,Z2.c_def,Zq.c_def,Zc.c_def,Zr.c_def,Zu.c_def,UP,FR,Ar,Bf,A7]);(try simp only[Bc]);(try simp only[Bd,gS,kk]))
 all_goals(repeat' first|refine Br λ_=>?_|refine Bq λ_ _=>?_|refine Bp λ_=>?_|refine AL ?_ ?_|exact False.elim)
 all_goals(intro h;first|refine run ZEP rfl ?_|rw[Zk ZtZ.eq_1]|refine run ZEQ rfl ?_|rw[Zk Zub.eq_1]|refine run ZER rfl ?_|refine run ZES rfl ?_|rw[Zk Zue.eq_1]|refine run ZET rfl ?_|rw[Zk Zuh.eq_1]|refine run ZEU rfl ?_|rw[Zk Zuj.eq_1]|refine run ZEV rfl ?_|rw[Zk Zul.eq_1]|refine run ZEW rfl ?_|rw[Zk Zuo.eq_1]|refine run ZEX rfl ?_|rw[Zk Zuq.eq_1]|rw[Zk Zur.eq_1])
 all_goals (refine Yg ?_ h;clear h;simp +decide[*,kk,tI,Az,Z4D,Z4E,Zua,Z4F,Z4G,Zuc,Z4H,Z4I,Zuf,Z4J,Zui,Z4K,Z4L,Zuk,Z4M,Z4N,Zum,Z4O,Zup,Z4P,Z4Q,Zut,Z4R,Zus])
abbrev Wr:=uq ZHM
def ZHN:((iM eD λout n full i r=>if i<n then ¬i<0/\A4 (Jg n ([(w (full-(Ac 1 i)))]) ([full])) (λu1=>qN out (r (eD (out++[u1]) n full (w (i+1)))))else r (Rt out n full 0))/\
 (iM Rt λout n full i r=>if i<n then r (Ru out n full i (w (i+1)))else Ky out r))/\
 ((iM Ru λout n full i j r=>if j<n then r (Rv out n full i j 0)else r (Rt out n full (w (i+1))))/\
 ((iM Rv λout n full i j s r=>if s<=full then ¬i<0/\qL (r (Rv out n full i j (w (s+1)))) λk1=>if(Aj (At s i) 1)=0 then ¬j<0/\if(Aj (At s j) 1)=0 then A4 (Jg n ([s,(Au (Au s (Ac 1 i)) (Ac 1 j))]) ([(Au s (Ac 1 i)),(Au s (Ac 1 j))])) (λu1=>qN out (r (Rv (out++[u1]) n full i j (w (s+1)))))else k1 else k1 else r (Ru out n full i (w (j+1))))/\
 (iM eC λa r=>qB (Z0 a 1 4) (¬a<0/\r (eD ([]:XV) a (w ((Ac 1 a)-1)) 0)) (Ky ([]:XV) r)))):=by
 refine qu ?_
 and_intros
 all_goals(intros;unfold Im;(try simp only[eD,Rt,Ru,Rv,eC,Jg,Z0,Ar,Zu0,Zu1,Bf,A7]);(try simp only[Bc]);(try simp only[Bd,gS,kk]))
 all_goals(repeat' first|refine Br λ_=>?_|refine Bq λ_ _=>?_|refine Bp λ_=>?_|refine AL ?_ ?_|exact False.elim)
 all_goals(intro h;first|rw[Zk Zuu.eq_1]|rw[Zk yF.eq_1]|rw[Zk yE.eq_1]|rw[Zk Zuv.eq_1]|refine run ZEZ rfl ?_)
 all_goals (refine Yg ?_ h;clear h;simp +decide[*,kk,tI,Az,Zuz,Zuy,Zux,Z4T,Zuw,Z4U])
abbrev F7:=uq ZHN
def ZHO:iM Jg λa a1 a2 r=>¬a<0/\qL (w ((Ac 1 a)-1)) λk1=>0<=k1/\k1<=k1/\k1.toNat*8<=room/\k1<=140737488355328/\r (LN (List.replicate k1.toNat 0) a1 a2 0):=by
 refine qu ?_;intro a a1 a2 r;unfold Im;intro h;unfold Jg
 try simp only[Ar]
 refine run ZEY rfl ?_;obtain⟨q1,h⟩:=h;obtain⟨q2,h⟩:=h;obtain⟨q3,h⟩:=h;obtain⟨q4,h⟩:=h;have zq4:=q4;try simp[Ar]at zq4
 obtain⟨q5,h⟩:=h;refine Yg ?_ h;clear h;simp +decide[*,Z4S,tI,Az,LN,Ar]
abbrev ZHP:=uq ZHO
