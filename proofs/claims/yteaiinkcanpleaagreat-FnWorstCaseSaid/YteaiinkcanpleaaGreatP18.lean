/-
  Parts of the proofs for this seat: G16 G17 G18.
-/
import Derived.Test.YteaiinkcanpleaaGreatP12
set_option linter.all false
set_option maxRecDepth 100000
set_option maxHeartbeats 4000000
namespace Go.Proofs.YteaiinkcanpleaaGreat
open Go.AM
def ZKC:((((iM eW λs q mask i r=>if i<(q.Atoms.length:Int)then ¬i<0/\qL (r (eW s q mask (w (i+1)))) λk1=>if(Ah (Au mask i) 1)=1 then ∃(u1:List ZF),∃u2,∃u3,∃u4,QA s q i=some (.agg [.t (.str u2),I u3,I u4,.own 0],[.arr 263 3 true (u1.map ZF.c)])/\if u4=0 then qi 0 r else k1 else k1 else BA (eR s q mask) (λu1 u2=>if u2=true then qI (eT u1) (λu3=>qi u3 r)else qi 4096 r))/\
 (iM Rw λa a1 a2 r=>qB (Vx a a1 a2) (r (eW a a1 a2 0)) (qi (-1) r)))/\
 ((iM eZ λs q l mask n rule r=>if 1<(l.length:Int)then qI (Rw s q mask) (λu1=>if u1<n then aM u1 r else FF n rule r)else FF n rule r)/\
 (iM fA λs q l mask n rule x x1 r=>if 1<(l.length:Int)then qI (Rw s q mask) (λu1=>if u1<n then aM u1 r else FF n rule r)else FF n rule r)))/\
 (((iM fB λs q l mask n rule x r=>if 1<(l.length:Int)then qI (Rw s q mask) (λu1=>if u1<n then aM u1 r else FF n rule r)else FF n rule r)/\
 (iM eY λa a1 a2 r=>qB (Vx a a1 a2) (qI (dB a a1 a2) (λu2=>qI (dD a a1 a2) (λu3=>if u3<u2 then AO (Hm a2) (λu4=>if(u4.length:Int)=2 then ∃u5,u4[0]?=some u5/\∃u6,u4[1]?=some u6/\qI (P9 a a1 u5 u6) (λu7=>if u7<u3 then r (eZ a a1 u4 a2 u7 3)else r (fA a a1 u4 a2 u3 2 u7 false))else r (fB a a1 u4 a2 u3 2 false))else AO (Hm a2) (λu4=>if(u4.length:Int)=2 then ∃u5,u4[0]?=some u5/\∃u6,u4[1]?=some u6/\qI (P9 a a1 u5 u6) (λu7=>if u7<u2 then r (eZ a a1 u4 a2 u7 3)else r (fA a a1 u4 a2 u2 1 u7 false))else r (fB a a1 u4 a2 u2 1 false))))) (r (some (.tup [I (-1),I 0],[])))))/\
 ((iM yQ λa a1 a2 r=>∃u1 u2,eY a a1 a2=some (.tup [I u1,I u2],[])/\qi u1 r)/\
 ((iM Rx λs q out m r=>qI (Wn q) (λu1=>if m<=u1 then qB (UN q m) (qI (yQ s q m) (λu3=>qN out (r (Rx s q (out++[u3]) (w (m+1)))))) (qN out (r (Rx s q (out++[0]) (w (m+1)))))else AZ out r))/\
 (iM yS λa a1 r=>qI (Wn a1) (λu1=>qB (Vx a a1 u1) (r (Rx a a1 ([]:WL) 0)) (AZ ([]:WL) r)))))))/\
 ((((iM Ry λk n i r=>if i<k then r (Ry k (if 1<(w (n*4))then(w (n*4))else 1) (w (i+1)))else qi n r)/\
 (iM J1 λa r=>qB (Z0 a 0 7) (r (Ry a 0 0)) (qi (-1) r)))/\
 ((iM yT λn k r=>if k<=7 then qI (J1 k) (λu1=>if n<=u1 then qi k r else r (yT n (w (k+1))))else qi (-1) r)/\
 (iM LK λa r=>if a<0 then qi (-1) r else r (yT a 0))))/\
 (((iM yU λlow high m r=>if m<(low.length:Int)then qG low m (λu1=>qI (LK u1) (λu2=>qH high m (λu3=>qI (LK u3) (λu4=>r (fD low high ([u2]) ([u4]) (w (m+1)))))))else r (some (.tup [.agg [L 1 (([]:WL).map ic),L 1 (([]:WL).map ic)],Bo true],[])))/\
 (iM fD λlow high x x1 m r=>if m<(low.length:Int)then qG low m (λu1=>qI (LK u1) (λu2=>qN x (qH high m (λu3=>qI (LK u3) (λu4=>qN x1 (r (fD low high (x++[u2]) (x1++[u4]) (w (m+1)))))))))else r (some (.tup [.agg [L 1 (x.map ic),L 1 (x1.map ic)],Bo true],[]))))/\
 ((iM fC λa a1 r=>AO (dA a a1) (λu1=>AO (yS a a1) (λu2=>if(u1.length:Int)=0 then uY ([]:WL) r else qI (Wn a1) (λu3=>qB (UN a1 u3) (r (yU u1 u2 0)) (uY ([]:WL) r)))))/\
 ((iM fE λl i r=>if i<(l.length:Int)then qG l i (λu1=>qB (Z0 u1 0 7) (r (fE l (w (i+1)))) (qb false r))else qb (decide ((l.length:Int)<=16)) r)/\
 (iM Hs λa r=>r (fE a 0)))))):=by
 refine qu ?_
 and_intros
 all_goals(intros;unfold Im;(try simp only[eW,Rw,eY,yQ,Rx,yS,Ry,J1,yT,LK,yU,fD,fC,fE,Hs,QA,eR,eT,ZN.c_def,Zt.c_def,Zc.c_def,Zb.c_def,Zq.c_def,Vx,dB,dD,Hm,P9,Wn,UN,Z0,dA,eZ,fA,fB,Aq,Zw0,Bc,A8]);(try simp only[Bd]);(try simp only[Be,gS,kk]))
 all_goals(repeat' first|refine Bp λ_=>?_|refine Bn λ_ _=>?_|refine Bm λ_=>?_|refine AH ?_ ?_|exact False.elim)
 all_goals(intro h;first|rw[Zl Zwn.eq_1]|refine run ZH8 rfl ?_|rw[Cb eX.eq_1]|refine run ZH9 rfl ?_|refine run ZHA rfl ?_|rw[Zl Zwp.eq_1]|refine run ZHB rfl ?_|rw[Zl Zws.eq_1]|refine run ZHC rfl ?_|rw[Zl Zwv.eq_1]|refine run ZHD rfl ?_|rw[Zl Zwy.eq_1]|refine run ZHE rfl ?_|rw[Zl Zw2.eq_1]|refine run ZHF rfl ?_)
 all_goals (refine Ye ?_ h;clear h;simp +decide[*,kk,tI,Av,Zwo,Z7g,Z7h,Z7j,Z7i,Z7k,Z7l,Zwq,Z7m,Zwt,Z7n,Zww,Z7o,Zwz,Z7p,Zw3,Z7q])
abbrev XB:=uq ZKC
def ZKD:(((iM fF λa b i r=>if i<(a.length:Int)then qG a i (λu1=>qH b i (λu2=>if u1<u2 then qb false r else r (fF a b (w (i+1)))))else qb true r)/\
 (iM LL λa a1 r=>if(a.length:Int)=(a1.length:Int)then r (fF a a1 0)else qb false r))/\
 ((iM Ht λa r=>if 0<(a.Low.length:Int)then qB (Hs a.Low) (qB (Hs a.High) (qV (LL a.High a.Low) (λu3=>qb u3 r)) (qb false r)) (qb false r)else qb false r)/\
 (iM fG λb n i r=>if i<(b.Low.length:Int)then qG b.High i (λu1=>qH b.Low i (λu2=>qL (w (n*(w ((w (u1-u2))+1)))) λk1=>r (fG b (if k1<401 then k1 else 401) (w (i+1)))))else qi n r)))/\
 (((iM Kh λa r=>qB (Ht a) (r (fG a 1 0)) (qi 0 r))/\
 (iM Ki λa a1 r=>if a1=1 then r (some (.agg (a.Scan.c.map .t),[]))else if a1=2 then r (some (.agg (a.Sort_.c.map .t),[]))else if a1=3 then r (some (.agg (a.Hash.c.map .t),[]))else if a1=4 then r (some (.agg (a.Merge.c.map .t),[]))else r (some (.agg (a.Nested.c.map .t),[]))))/\
 ((iM FZ λa r=>qV (Z0 a (-99) 99) (λu1=>qb u1 r))/\
 ((iM LM λo i r=>if i<(o.Steps.length:Int)then qG o.Steps i (λu1=>qB (Z0 u1.From 1 8192) (qB (FZ u1.Add) (if 0<i then 0<=(w (i-1))/\∃u4,o.Steps[(w (i-1)).toNat]?=some u4/\if u1.From<=u4.From then qb false r else r (LM o (w (i+1)))else r (LM o (w (i+1)))) (qb false r)) (qb false r))else qb true r)/\
 (iM Hu λa r=>qL (qb false r) λk1=>qB (FZ a.Fixed) (qB (FZ a.ZR) (qB (FZ a.ZS) (qB (FZ a.ZT) (qB (FZ a.ZU) (if 4<(a.Steps.length:Int)then k1 else r (LM a 0)) k1) k1) k1) k1) k1)))):=by
 refine qu ?_
 and_intros
 all_goals(intros;unfold Im;(try simp only[fF,LL,Ht,fG,Kh,Ki,FZ,LM,Hu,Hs,Box.c_def,Z0,Aq,Bc,A8]);(try simp only[Bd]);(try simp only[Be,gS,kk]))
 all_goals(repeat' first|refine Bp λ_=>?_|refine Bn λ_ _=>?_|refine Bm λ_=>?_|refine AH ?_ ?_|exact False.elim)
 all_goals(intro h;first|rw[Zl Zw5.eq_1]|refine run ZHG rfl ?_|refine run ZHH rfl ?_|rw[Zl Zw8.eq_1]|refine run ZHI rfl ?_|refine run ZHJ rfl ?_|refine run ZHK rfl ?_|rw[Zl ZwB.eq_1]|refine run ZHL rfl ?_)
 all_goals (refine Ye ?_ h;clear h;simp +decide[*,kk,tI,Av,Zw6,Z7r,Z7s,Zw9,Z7t,Z7u,Z7v,ZwC,Z7w])
abbrev Kn:=uq ZKD
def ZKE:((((iM LN λo l Bh n i r=>if i<(o.Steps.length:Int)then qG o.Steps i (λu1=>if u1.From<=(w (l+Bh))then r (LN o l Bh (w (n+u1.Add)) (w (i+1)))else r (LN o l Bh n (w (i+1))))else qi n r)/\
 (iM Ur λa a1 a2 a3 r=>qB (Hu a) (qB (Z0 a1 0 4096) (qB (Z0 a2 0 4096) (qB (Z0 a3 0 4096) (r (LN a a1 a2 (w ((w ((w ((w (a.Fixed+(w (a.ZR*a1))))+(w (a.ZS*a2))))+(w (a.ZT*a3))))+(w ((w (a.ZU*a1))*a2)))) 0)) (qi 0 r)) (qi 0 r)) (qi 0 r)) (qi 0 r)))/\
 ((iM Rz λa a1 r=>∃u1,a1[0]?=some u1/\qI (J1 u1) (λu2=>∃u3,a1[1]?=some u3/\qI (J1 u3) (λu4=>∃u5,a1[2]?=some u5/\qI (J1 u5) (λu6=>qI (Ur a u2 u4 u6) (λu7=>qi u7 r)))))/\
 (iM RA λo a r=>if a<=7 then r (RB o a 0)else uZ ([]:WL) r)))/\
 (((iM RB λo a b r=>if b<=7 then r (RC o a b 0)else r (RA o (w (a+1))))/\
 (iM RC λo a b e r=>if e<=7 then r (Hv o ([a,b,e]) a b e 0)else r (RB o a (w (b+1)))))/\
 ((iM Hv λo x a b e k r=>if k<3 then qM x (qG x k (λu1=>qL (r (Hv o x a b e (w (k+1)))) λk1=>if(w (u1+1))<=7 then qL (x.set k.toNat (w (u1+1))) λk2=>qI (Rz o k2) (λu2=>qI (Rz o x) (λu3=>if u2<u3 then r (some (.tup [.own 0,.own 1,Bo true],[.arr 3 1 true (x.map ic),.arr 3 1 true (k2.map ic)]))else k1))else k1))else r (RC o a b (w (e+1))))/\
 ((iM yZ λa r=>qB (Hu a) (r (RA a 0)) (uZ ([]:WL) r))/\
 (iM RD λo a r=>if a<=7 then r (RE o a 0)else AZ ([]:WL) r)))))/\
 ((((iM RE λo a b r=>if b<=7 then r (fH o a b 0)else r (RD o (w (a+1))))/\
 (iM fH λo a b e r=>if e<=7 then qI (Rz o ([a,b,e])) (λu1=>if u1<1 then AZ ([a,b,e]) r else r (fH o a b (w (e+1))))else r (RE o a (w (b+1)))))/\
 ((iM y8 λa r=>r (RD a 0))/\
 (iM RF λm k r=>qL ([]:WL) λk1=>if k<=5 then Hc (Ki m k) (λu1=>qB (Hu u1) (∃(u3:WL),∃(u4:WL),∃u5,yZ u1=some (.tup [.own 0,.own 1,Bo u5],[.arr 3 1 true (u3.map ic),.arr 3 1 true (u4.map ic)])/\if u5=true then vA k u3 u4 r else AO (y8 u1) (λu6=>if 0<(u6.length:Int)then vA k u6 k1 r else r (RF m (w (k+1))))) (r (some (.tup [I k,.own 0,.own 1],[.arr 3 1 true (k1.map ic),.arr 3 1 true (k1.map ic)]))))else r (some (.tup [I 0,.own 0,.own 1],[.arr 3 1 true (k1.map ic),.arr 3 1 true (k1.map ic)])))))/\
 (((iM ZwW λa r=>r (RF a 1))/\
 (iM Kj λa r=>∃(u1:WL),∃(u2:WL),∃u3,ZwW a=some (.tup [I u3,.own 0,.own 1],[.arr 3 1 true (u1.map ic),.arr 3 1 true (u2.map ic)])/\qb (decide (u3=0)) r))/\
 ((iM KI λa r=>qM a.Low (qM a.High (r (some (.agg [.own 0,.own 1],[.arr 3 1 true (a.Low.map ic),.arr 3 1 true (a.High.map ic)])))))/\
 ((iM RG λq out full m r=>if m<=full then qB (FP q m) (qN out (r (RG q (out++[m]) full (w (m+1))))) (r (RG q out full (w (m+1))))else AZ out r)/\
 (iM fI λa r=>qI (Wn a) (λu1=>r (RG a ([]:WL) u1 1))))))):=by
 refine qu ?_
 and_intros
 all_goals(intros;unfold Im;(try simp only[LN,Ur,Rz,RA,RB,RC,Hv,yZ,RD,RE,fH,y8,RF,ZwW,Kj,KI,RG,fI,Hu,Z0,Zz.c_def,J1,Ki,Zf.c_def,FP,Zc.c_def,Wn,Aq,ZwK,ZwL,ZwM,ZwR,ZwS,Bc,A8]);(try simp only[Bd]);(try simp only[Be,gS,kk]))
 all_goals(repeat' first|refine Bp λ_=>?_|refine Bn λ_ _=>?_|refine Bm λ_=>?_|refine AH ?_ ?_|exact False.elim)
 all_goals(intro h;first|rw[Zl ZwD.eq_1]|refine run ZHM rfl ?_|refine run ZHN rfl ?_|rw[Zl yY.eq_1]|rw[Zl yX.eq_1]|rw[Zl yW.eq_1]|rw[Zl ZwF.eq_1]|refine run ZHO rfl ?_|rw[Zl y7.eq_1]|rw[Zl y6.eq_1]|rw[Zl ZwN.eq_1]|refine run ZHP rfl ?_|rw[Zl ZwU.eq_1]|refine run ZHQ rfl ?_|refine run ZHR rfl ?_|refine run ZHS rfl ?_|rw[Zl ZwX.eq_1]|refine run ZHT rfl ?_)
 all_goals (refine Ye ?_ h;clear h;simp +decide[*,kk,tI,Av,Z7x,ZwE,Z7y,Z7z,ZwJ,ZwI,ZwH,ZwG,Z70,ZwQ,ZwP,ZwO,Z71,ZwV,Z72,Z73,Z74,Z75,ZwY,Z76])
abbrev XV:=uq ZKE
def ZKF:(((iM LP λq out mask m r=>if m<mask then qL (r (LP q out mask (w (m+1)))) λk1=>if(Ah m mask)=m then qB (FP q m) (qB (FP q (w (mask-m))) (qN out (r (LP q (out++[m]) mask (w (m+1))))) k1) k1 else k1 else AZ out r)/\
 ((iM zD λa a1 r=>qB (UN a a1) (r (LP a ([]:WL) a1 1)) (AZ ([]:WL) r))/\
 (iM Hx λq out masks i r=>if i<(masks.length:Int)then qG masks i (λu1=>AO (zD q u1) (λu2=>r (zG q out masks u1 u2 i 0)))else r (some (.own 0,[.arr 108 3 true (out.map ZX.c)])))))/\
 (((iM zG λq out masks mask x i k r=>if k<(x.length:Int)then qG x k (λu1=>qG masks i (λu2=>AO (Jz q u1 (w (u2-u1))) (λu3=>r (fJ q out masks mask x ([u3]) i (w (k+1))))))else qN out (r (Hx q (out++[(⟨mask,x,[]⟩:ZX)]) masks (w (i+1)))))/\
 (iM fJ λq out masks mask x x1 i k r=>if k<(x.length:Int)then qG x k (λu1=>qG masks i (λu2=>AO (Jz q u1 (w (u2-u1))) (λu3=>qN x1 (r (fJ q out masks mask x (x1++[u3]) i (w (k+1)))))))else qN out (r (Hx q (out++[(⟨mask,x,x1⟩:ZX)]) masks (w (i+1))))))/\
 ((iM Hw λa r=>AO (fI a) (λu1=>r (Hx a ([]:List ZX) u1 0)))/\
 (iM fK λb out index i r=>if 0<=i then qH b.High i (λu1=>qH b.Low i (λu2=>qL ((w (u1-u2))+1) λk1=>¬(w k1)=0/\qH out i (λu3=>r (fK b (out.set i.toNat (w (u2+(Int.tmod index (w k1))))) (w (Int.tdiv index (w k1))) (w (i-1))))))else if 0<index then Pd ([]:WL) r else aI out r))))/\
 (((iM Qn λa a1 r=>qB (Ht a) (if a1<0 then Pd ([]:WL) r else qM a.Low (r (fK a a.Low a1 (w ((a.Low.length:Int)-1))))) (Pd ([]:WL) r))/\
 ((iM fL λout l i r=>if i<(l.length:Int)then qB (Hs l) (qG l i (λu2=>qI (J1 u2) (λu3=>qN out (r (fL (out++[u3]) l (w (i+1))))))) (AZ out r)else AZ out r)/\
 (iM Kk λa r=>r (fL ([]:WL) a 0))))/\
 (((iM fN λa r=>Ju ([(⟨1,a,0⟩:Zk)]) r)/\
 (iM RI λl mask best i r=>if i<(l.length:Int)then qG l i (λu1=>qL (r (RI l mask best (w (i+1)))) λk1=>if u1.Mask=mask then qL (r (RI l mask i (w (i+1)))) λk2=>if best<0 then k2 else qG l best (λu2=>if u1.Cost<u2.Cost then k2 else k1)else k1)else qi best r))/\
 ((iM F1 λa a1 r=>r (RI a a1 (-1) 0))/\
 (iM Hy λa a1 a2 a3 r=>qM a.Steps (a.Steps.length+a1.Steps.length<=68719476736/\a.Steps.length+a1.Steps.length+1<=68719476736/\Ju ((a.Steps++a1.Steps)++[(⟨a2,0,a3⟩:Zk)]) r))))):=by
 refine qu ?_
 and_intros
 all_goals(intros;unfold Im;(try simp only[LP,zD,Hx,zG,fJ,Hw,fK,Qn,fL,Kk,fN,RI,F1,Hy,FP,Zc.c_def,UN,Jz,fI,Ht,Box.c_def,tI,Hs,J1,Aq,Zxf,Zxg,Bc,A8]);(try simp only[Bd]);(try simp only[Be,gS,kk]))
 all_goals(repeat' first|refine Bp λ_=>?_|refine Bn λ_ _=>?_|refine Bm λ_=>?_|refine AH ?_ ?_|exact False.elim)
 all_goals(intro h;first|rw[Zl ZwZ.eq_1]|refine run ZHU rfl ?_|rw[Zl zF.eq_1]|rw[Zl Zxb.eq_1]|refine run ZHV rfl ?_|rw[Zl Zxi.eq_1]|refine run ZHW rfl ?_|rw[Zl Zxl.eq_1]|refine run ZHX rfl ?_|refine run ZHY rfl ?_|rw[Zl Zxn.eq_1]|refine run ZHZ rfl ?_|refine run ZIa rfl ?_)
 all_goals (refine Ye ?_ h;clear h;simp +decide[*,kk,tI,Av,Z77,Zxa,Z78,Zxe,Zxd,Zxc,Z79,Zxj,Z7A,Zxm,Z7B,Z7C,Z7D,Zxo,Z7E,Z7F])
abbrev WY:=uq ZKF
def ZKG:(((iM LQ λx x1 a a1 a2 a3 a4 a5 r=>Hc (Ki a a3) (λu1=>qG x a1.Mask (λu2=>qG x a2.Mask (λu3=>qL (At a1.Mask a2.Mask) λk2=>0<=k2/\∃u4,x[k2.toNat]?=some u4/\qI (Ur u1 u2 u3 u4) (λu5=>0<=(w (a5+1))/\∃u6,x1[(w (a5+1)).toNat]?=some u6/\qL (w ((w (a1.Cost+a2.Cost))+u5)) λk3=>qL (BZ (Hy a1.Ze a2.Ze a3 a4) (λu7=>uN x (x1.set ((w (a5+1)).toNat) (⟨k2,a5,k3,(⟨u7⟩:Ze)⟩:Zd)) r)) λk1=>if u6.Mask=0 then k1 else if k3<u6.Cost then k1 else uN x x1 r)))))/\
 (iM fO λl mask order i r=>if i<(l.length:Int)then qG l i (λu1=>qL (r (fO l mask order (w (i+1)))) λk1=>if u1.Mask=mask then if u1.Order=order then qi i r else k1 else k1)else qi (-1) r))/\
 ((iM RJ λa a1 a2 r=>r (fO a a1 a2 0))/\
 (iM fP λa a1 r=>qM a.Steps (qN a.Steps (Ju (a.Steps++[(⟨2,0,a1⟩:Zk)]) r)))))/\
 (((iM fQ λx x1 x2 a a1 Mask Order Cost a2 a3 a4 r=>Hc (Ki a a2) (λu1=>qG x a1.Mask (λu2=>qG x Mask (λu3=>qL (At a1.Mask Mask) λk2=>0<=k2/\∃u4,x[k2.toNat]?=some u4/\qI (Ur u1 u2 u3 u4) (λu5=>0<=(w (a4+1))/\∃u6,x1[(w (a4+1)).toNat]?=some u6/\qL (w ((w (a1.Cost+Cost))+u5)) λk3=>qL (BZ (Hy a1.Ze (⟨x2⟩:Ze) a2 a3) (λu7=>Pc x (x1.set ((w (a4+1)).toNat) (⟨k2,a4,k3,(⟨u7⟩:Ze)⟩:Zd)) x2 r)) λk1=>if u6.Mask=0 then k1 else if k3<u6.Cost then k1 else Pc x x1 x2 r)))))/\
 (iM fR λx x1 x2 a Mask Order Cost a1 a2 a3 a4 r=>Hc (Ki a a2) (λu1=>qG x Mask (λu2=>qG x a1.Mask (λu3=>qL (At Mask a1.Mask) λk2=>0<=k2/\∃u4,x[k2.toNat]?=some u4/\qI (Ur u1 u2 u3 u4) (λu5=>0<=(w (a4+1))/\∃u6,x1[(w (a4+1)).toNat]?=some u6/\qL (w ((w (Cost+a1.Cost))+u5)) λk3=>qL (BZ (Hy (⟨x2⟩:Ze) a1.Ze a2 a3) (λu7=>Pc x (x1.set ((w (a4+1)).toNat) (⟨k2,a4,k3,(⟨u7⟩:Ze)⟩:Zd)) x2 r)) λk1=>if u6.Mask=0 then k1 else if k3<u6.Cost then k1 else Pc x x1 x2 r))))))/\
 ((iM fS λx x1 x2 x3 a Mask Order Cost HT AaI j8 a1 a2 a3 r=>Hc (Ki a a1) (λu1=>qG x Mask (λu2=>qG x HT (λu3=>qL (At Mask HT) λk2=>0<=k2/\∃u4,x[k2.toNat]?=some u4/\qI (Ur u1 u2 u3 u4) (λu5=>0<=(w (a3+1))/\∃u6,x1[(w (a3+1)).toNat]?=some u6/\qL (w ((w (Cost+j8))+u5)) λk3=>qL (BZ (Hy (⟨x2⟩:Ze) (⟨x3⟩:Ze) a1 a2) (λu7=>uO x (x1.set ((w (a3+1)).toNat) (⟨k2,a3,k3,(⟨u7⟩:Ze)⟩:Zd)) x2 x3 r)) λk1=>if u6.Mask=0 then k1 else if k3<u6.Cost then k1 else uO x x1 x2 x3 r)))))/\
 (iM RK λx fr x1 a a1 a2 r=>qI (F1 x1 a1) (λu1=>qG x1 u1 (λu2=>qG x a1 (λu3=>qI (Ur a.Sort_ u3 0 u3) (λu4=>qI (RJ x1 a1 a2) (λu5=>qL (w (u2.Cost+u4)) λk1=>if 0<=u5 then qH x1 u5 (λu6=>if u6.Cost<=k1 then r (some (.agg (u6.c.map .t),[.arr 3 1 true (x.map ic),.arr 77 4 fr (x1.map Zd.c)]))else BZ (fP u2.Ze a2) (λu7=>r (some (.agg [I a1,I a2,I k1,.own 2],[.arr 3 1 true (x.map ic),.arr 77 4 fr (x1.map Zd.c),.arr 149 3 true (u7.map Zk.c)]))))else BZ (fP u2.Ze a2) (λu6=>r (some (.agg [I a1,I a2,I k1,.own 2],[.arr 3 1 true (x.map ic),.arr 77 4 fr (x1.map Zd.c),.arr 149 3 true (u6.map Zk.c)]))))))))))):=by
 refine qu ?_
 and_intros
 all_goals(intros;unfold Im;(try simp only[LQ,fO,RJ,fP,fQ,fR,fS,RK,Ki,Ur,Hy,Zf.c_def,Zz.c_def,Ze.c_def,F1,Zd.c_def,Aq,Bc,A8]);(try simp only[Bd]);(try simp only[Be,gS,kk]))
 all_goals(repeat' first|refine Bp λ_=>?_|refine Bn λ_ _=>?_|refine Bm λ_=>?_|refine AH ?_ ?_|exact False.elim)
 all_goals(intro h;first|refine XH ZIb rfl ?_|rw[Zl Zxq.eq_1]|refine run ZIc rfl ?_|refine run ZId rfl ?_|refine XH ZIe rfl ?_)
 all_goals (refine Ye ?_ h;clear h;simp +decide[*,kk,tI,Av,Z7G,Zxr,Z7H,Z7I,Z7J])
abbrev KO:=uq ZKG
