/-
  Parts of the proofs for this seat: G16 G17 G18.
-/
import Derived.Test.YtggcnlojfngdeaaGreatP13
set_option linter.all false
set_option maxRecDepth 100000
set_option maxHeartbeats 4000000
namespace Go.Proofs.YtggcnlojfngdeaaGreat
open Go.AM
def ZHW:((((iM FU λp Value d n r=>qL (aI ([]:List Zb) r) λk1=>if n<300 then qI (eT d) (λu1=>if u1<0 then r (yU p Value d d.Value 0)else qI (eU d u1) (λu2=>if u2<0 then k1 else(∃(u3:WL),∃(u4:WL),∃(u5:List (List Zb)),∃(u6:List Zb),∃(u7:List Zb),∃(u8:Zb),∃u9,RA d u2 u1=some (.tup [.agg [.own 0,.own 1,.own 2,.own 3,.own 4,I u8.Num,I u8.Den],Bo u9],[.arr 3 1 true (u3.map ic),.arr 3 1 true (u4.map ic),.arr 264 1 true (u5.map (lc 2 Zb.c)),.arr 54 2 true (u6.map Zb.c),.arr 54 2 true (u7.map Zb.c)])/\if u9=true then r (FU p Value (⟨u3,u4,u5,u6,u7,u8⟩:Zv) (w (n+1)))else k1)\/(∃(u3:WL),∃(u4:WL),∃u5,∃(u6:List (List Zb)),∃(u7:List Zb),∃(u8:List Zb),∃(u9:Zb),RA d u2 u1=some (.tup [.agg [.own 0,.own 1,.own 2,.own 3,.own 4,I u9.Num,I u9.Den],Bo true],[.arr 3 1 true (u3.map ic),.arr 3 1 true (u4.map ic),.arr 264 1 u5 (u6.map (lc 2 Zb.c)),.arr 54 2 true (u7.map Zb.c),.arr 54 2 true (u8.map Zb.c)])/\r (FU p Value (⟨u3,u4,u6,u7,u8,u9⟩:Zv) (w (n+1))))))else k1)/\
 (iM yU λp Value d Ai k r=>if k<(p.Objective.length:Int)then Cm (WB 0) (λu1=>r (fE p Value d Ai ([u1]) (w (k+1))))else r (Z51 p Value d Ai 0)))/\
 ((iM fE λp Value d Ai x k r=>if k<(p.Objective.length:Int)then Cm (WB 0) (λu1=>qN x (r (fE p Value d Ai (x++[u1]) (w (k+1)))))else r (Zvw p Value d Ai x 0))/\
 (iM Zvw λp Value d Ai x i r=>if i<(p.Rows.length:Int)then Cm (WB 0) (λu1=>r (fF p Value d Ai x ([u1]) (w (i+1))))else r (Z52 p Value d Ai x 0))))/\
 (((iM fF λp Value d Ai x x1 i r=>if i<(p.Rows.length:Int)then Cm (WB 0) (λu1=>qN x1 (r (fF p Value d Ai x (x1++[u1]) (w (i+1)))))else r (RE p Value d Ai x x1 0))/\
 (iM RE λp Value d Ai x x1 i r=>if i<(d.Basic.length:Int)then qG d.Basic i (λu1=>if u1<(p.Objective.length:Int)then qH d.Limits i (λu2=>qG x u1 (λu3=>r (RE p Value d Ai (x.set u1.toNat u2) x1 (w (i+1)))))else r (RE p Value d Ai x x1 (w (i+1))))else r (RF p Value d Ai x x1 0)))/\
 ((iM RF λp Value d Ai x x1 k r=>if k<(d.Free.length:Int)then qG d.Free k (λu1=>qL (p.Objective.length:Int) λk1=>if k1<=u1 then qH d.Costs k (λu2=>0<=(w (u1-k1))/\∃u3,x1[(w (u1-k1)).toNat]?=some u3/\r (RF p Value d Ai x (x1.set ((w (u1-k1)).toNat) (⟨(w (0-u2.Num)),u2.Den⟩:Zb)) (w (k+1))))else r (RF p Value d Ai x x1 (w (k+1))))else r (some (.tup [.agg [I Ai.Num,I Ai.Den,.own 0,.own 1],Bo true],[.arr 54 2 true (x.map Zb.c),.arr 54 2 true (x1.map Zb.c)])))/\
 (iM fD λa r=>∃(u1:WL),∃(u2:WL),∃(u3:List (List Zb)),∃(u4:List Zb),∃(u5:List Zb),∃(u6:Zb),∃u7,eH a=some (.tup [.agg [.own 0,.own 1,.own 2,.own 3,.own 4,I u6.Num,I u6.Den],Bo u7],[.arr 3 1 true (u1.map ic),.arr 3 1 true (u2.map ic),.arr 264 1 true (u3.map (lc 2 Zb.c)),.arr 54 2 true (u4.map Zb.c),.arr 54 2 true (u5.map Zb.c)])/\if u7=true then r (FU a (⟨0,0⟩:Zb) (⟨u1,u2,u3,u4,u5,u6⟩:Zv) 0)else aI ([]:List Zb) r))))/\
 ((((iM yW λa a1 a2 r=>uY (yH a a1 a2) (λu1 u2 u3 u4=>if u4=true then ∃(u5:List Zb),∃(u6:List Zb),∃(u7:Zb),∃u8,fD (⟨u1,u2,u3⟩:Program)=some (.tup [.agg [I u7.Num,I u7.Den,.own 0,.own 1],Bo u8],[.arr 54 2 true (u5.map Zb.c),.arr 54 2 true (u6.map Zb.c)])/\r (some (.tup [.agg [I u7.Num,I u7.Den,.own 0,.own 1],Bo u8],[.arr 54 2 true (u5.map Zb.c),.arr 54 2 true (u6.map Zb.c)]))else aI ([]:List Zb) r))/\
 (iM fG λa a1 a2 r=>∃(u1:List Zb),∃(u2:List Zb),∃(u3:Zb),∃u4,yW a a1 a2=some (.tup [.agg [I u3.Num,I u3.Den,.own 0,.own 1],Bo u4],[.arr 54 2 true (u1.map Zb.c),.arr 54 2 true (u2.map Zb.c)])/\JL u3 u4 r))/\
 ((iM yX λa r=>qB (Va a) (¬a.Den=0/\qL (w (Int.tdiv a.Num a.Den)) λk1=>if(w (k1*a.Den))<a.Num then qi (w (k1+1)) r else qi k1 r) (qi 0 r))/\
 (iM Zvy λa r=>if 12<a then qi 4096 r else ¬a<0/\qi (Ac 1 a) r)))/\
 (((iM fH λn den num x i r=>if i<den then ¬num<0/\if(Ac 1 num)<(w (x*n))then qb false r else r (fH n den num (w (x*n)) (w (i+1)))else qb true r)/\
 (iM yY λa a1 a2 r=>r (fH a a1 a2 1 0)))/\
 ((iM fJ λA8 n r=>if n<4096 then qB (yY (w (n+1)) A8.Den A8.Num) (r (fJ A8 (w (n+1)))) (qi n r)else qi n r)/\
 (iM fI λa r=>qB (Va a) (if a.Num<0 then qi (-1) r else if 40<a.Num then qI (yX a) (λu2=>qI (Zvy u2) (λu3=>qi u3 r))else r (fJ a 1)) (qi (-1) r))))):=by
 refine qu ?_
 and_intros
 all_goals(intros;unfold Im;(try simp only[FU,yU,fE,Zvw,fF,RE,RF,fD,yW,fG,yX,Zvy,fH,yY,fJ,fI,eT,eU,RA,Zv.c_def,Zb.c_def,WB,eH,Program.c_def,yH,Z2.c_def,Zq.c_def,Zc.c_def,Zr.c_def,Va,Z51,Z52,Ar,RD,Zvv,yV,Zvx,Bf,A7]);(try simp only[Bc]);(try simp only[Bd,gS,kk]))
 all_goals(repeat' first|refine Br λ_=>?_|refine Bq λ_ _=>?_|refine Bp λ_=>?_|refine AL ?_ ?_|exact False.elim)
 all_goals(intro h;first|rw[Zk LV.eq_1]|rw[Zk Zvm.eq_1]|rw[Zk Zvn.eq_1]|rw[Zk Zvo.eq_1]|rw[Zk Zvp.eq_1]|refine run ZFu rfl ?_|refine run ZFv rfl ?_|refine run ZFw rfl ?_|refine run ZFx rfl ?_|refine run ZFy rfl ?_|rw[Zk Zv0.eq_1]|refine run ZFz rfl ?_|rw[Zk Zv3.eq_1]|refine run ZF0 rfl ?_)
 all_goals (refine Yg ?_ h;clear h;simp +decide[*,kk,tI,Az,RB,RC,Zvu,Zvt,Zvs,Z5y,Zvr,Z5z,Zvq,Z50,Z53,Z54,Z57,Z56,Z58,Zv1,Z59,Zv4,Z5A])
abbrev XK:=uq ZHW
def ZHX:((((iM fK λs q mask i r=>if i<(q.Atoms.length:Int)then ¬i<0/\qL (r (fK s q mask (w (i+1)))) λk1=>if(Aj (At mask i) 1)=1 then ∃(u1:List ZC),∃u2,∃u3,∃u4,Q5 s q i=some (.agg [.t (.str u2),I u3,I u4,.own 0],[.arr 251 3 true (u1.map ZC.c)])/\if u4=0 then qi 0 r else k1 else k1 else Bs (fG s q mask) (λu1 u2=>if u2=true then qI (fI u1) (λu3=>qi u3 r)else qi 4096 r))/\
 (iM RG λa a1 a2 r=>qB (VL a a1 a2) (r (fK a a1 a2 0)) (qi (-1) r)))/\
 ((iM fO λs q l mask n rule r=>if 1<(l.length:Int)then qI (RG s q mask) (λu1=>if u1<n then aQ u1 r else JM n rule r)else JM n rule r)/\
 (iM fP λs q l mask n rule x x1 r=>if 1<(l.length:Int)then qI (RG s q mask) (λu1=>if u1<n then aQ u1 r else JM n rule r)else JM n rule r)))/\
 (((iM fQ λs q l mask n rule x r=>if 1<(l.length:Int)then qI (RG s q mask) (λu1=>if u1<n then aQ u1 r else JM n rule r)else JM n rule r)/\
 (iM fN λa a1 a2 r=>qB (VL a a1 a2) (qI (dP a a1 a2) (λu2=>qI (dR a a1 a2) (λu3=>if u3<u2 then A4 (Hh a2) (λu4=>if(u4.length:Int)=2 then ∃u5,u4[0]?=some u5/\∃u6,u4[1]?=some u6/\qI (Rm a a1 u5 u6) (λu7=>if u7<u3 then r (fO a a1 u4 a2 u7 3)else r (fP a a1 u4 a2 u3 2 u7 false))else r (fQ a a1 u4 a2 u3 2 false))else A4 (Hh a2) (λu4=>if(u4.length:Int)=2 then ∃u5,u4[0]?=some u5/\∃u6,u4[1]?=some u6/\qI (Rm a a1 u5 u6) (λu7=>if u7<u2 then r (fO a a1 u4 a2 u7 3)else r (fP a a1 u4 a2 u2 1 u7 false))else r (fQ a a1 u4 a2 u2 1 false))))) (r (some (.tup [I (-1),I 0],[])))))/\
 ((iM y6 λa a1 a2 r=>∃u1 u2,fN a a1 a2=some (.tup [I u1,I u2],[])/\qi u1 r)/\
 ((iM RH λs q out m r=>qI (Wp q) (λu1=>if m<=u1 then qB (Q4 q m) (qI (y6 s q m) (λu3=>qN out (r (RH s q (out++[u3]) (w (m+1)))))) (qN out (r (RH s q (out++[0]) (w (m+1)))))else A3 out r))/\
 (iM y8 λa a1 r=>qI (Wp a1) (λu1=>qB (VL a a1 u1) (r (RH a a1 ([]:WL) 0)) (A3 ([]:WL) r)))))))/\
 ((((iM RI λk n i r=>if i<k then r (RI k (if 1<(w (n*4))then(w (n*4))else 1) (w (i+1)))else qi n r)/\
 (iM Ji λa r=>qB (Z0 a 0 7) (r (RI a 0 0)) (qi (-1) r)))/\
 ((iM y9 λn k r=>if k<=7 then qI (Ji k) (λu1=>if n<=u1 then qi k r else r (y9 n (w (k+1))))else qi (-1) r)/\
 (iM LW λa r=>if a<0 then qi (-1) r else r (y9 a 0))))/\
 (((iM zC λlow high m r=>if m<(low.length:Int)then qG low m (λu1=>qI (LW u1) (λu2=>qH high m (λu3=>qI (LW u3) (λu4=>r (fS low high ([u2]) ([u4]) (w (m+1)))))))else r (some (.tup [.agg [L 1 (([]:WL).map ic),L 1 (([]:WL).map ic)],Bo true],[])))/\
 (iM fS λlow high x x1 m r=>if m<(low.length:Int)then qG low m (λu1=>qI (LW u1) (λu2=>qN x (qH high m (λu3=>qI (LW u3) (λu4=>qN x1 (r (fS low high (x++[u2]) (x1++[u4]) (w (m+1)))))))))else r (some (.tup [.agg [L 1 (x.map ic),L 1 (x1.map ic)],Bo true],[]))))/\
 ((iM fR λa a1 r=>A4 (dO a a1) (λu1=>A4 (y8 a a1) (λu2=>if(u1.length:Int)=0 then uZ ([]:WL) r else qI (Wp a1) (λu3=>qB (Q4 a1 u3) (r (zC u1 u2 0)) (uZ ([]:WL) r)))))/\
 ((iM fT λl i r=>if i<(l.length:Int)then qG l i (λu1=>qB (Z0 u1 0 7) (r (fT l (w (i+1)))) (qb false r))else qb (decide ((l.length:Int)<=16)) r)/\
 (iM Hq λa r=>r (fT a 0)))))):=by
 refine qu ?_
 and_intros
 all_goals(intros;unfold Im;(try simp only[fK,RG,fN,y6,RH,y8,RI,Ji,y9,LW,zC,fS,fR,fT,Hq,Q5,fG,fI,Z2.c_def,Zq.c_def,Zc.c_def,Zb.c_def,Zr.c_def,VL,dP,dR,Hh,Rm,Wp,Q4,Z0,dO,fO,fP,fQ,Ar,ZvJ,Bf,A7]);(try simp only[Bc]);(try simp only[Bd,gS,kk]))
 all_goals(repeat' first|refine Br λ_=>?_|refine Bq λ_ _=>?_|refine Bp λ_=>?_|refine AL ?_ ?_|exact False.elim)
 all_goals(intro h;first|rw[Zk Zv6.eq_1]|refine run ZF1 rfl ?_|rw[B8 fL.eq_1]|refine run ZF2 rfl ?_|refine run ZF3 rfl ?_|rw[Zk Zv8.eq_1]|refine run ZF4 rfl ?_|rw[Zk ZvB.eq_1]|refine run ZF5 rfl ?_|rw[Zk ZvE.eq_1]|refine run ZF6 rfl ?_|rw[Zk ZvH.eq_1]|refine run ZF7 rfl ?_|rw[Zk ZvL.eq_1]|refine run ZF8 rfl ?_)
 all_goals (refine Yg ?_ h;clear h;simp +decide[*,kk,tI,Az,Zv7,Z5B,Z5C,Z5E,Z5D,Z5F,Z5G,Zv9,Z5H,ZvC,Z5I,ZvF,Z5J,ZvI,Z5K,ZvM,Z5L])
abbrev X8:=uq ZHX
def ZHY:(((iM fU λa b i r=>if i<(a.length:Int)then qG a i (λu1=>qH b i (λu2=>if u1<u2 then qb false r else r (fU a b (w (i+1)))))else qb true r)/\
 (iM LX λa a1 r=>if(a.length:Int)=(a1.length:Int)then r (fU a a1 0)else qb false r))/\
 ((iM Hr λa r=>if 0<(a.Low.length:Int)then qB (Hq a.Low) (qB (Hq a.High) (qV (LX a.High a.Low) (λu3=>qb u3 r)) (qb false r)) (qb false r)else qb false r)/\
 (iM fV λb n i r=>if i<(b.Low.length:Int)then qG b.High i (λu1=>qH b.Low i (λu2=>qL (w (n*(w ((w (u1-u2))+1)))) λk1=>r (fV b (if k1<401 then k1 else 401) (w (i+1)))))else qi n r)))/\
 (((iM Jj λa r=>qB (Hr a) (r (fV a 1 0)) (qi 0 r))/\
 (iM Kb λa a1 r=>if a1=1 then r (some (.agg (a.Scan.c.map .t),[]))else if a1=2 then r (some (.agg (a.Sort_.c.map .t),[]))else if a1=3 then r (some (.agg (a.Hash.c.map .t),[]))else if a1=4 then r (some (.agg (a.Merge.c.map .t),[]))else r (some (.agg (a.Nested.c.map .t),[]))))/\
 ((iM FV λa r=>qV (Z0 a (-99) 99) (λu1=>qb u1 r))/\
 ((iM LY λo i r=>if i<(o.Steps.length:Int)then qG o.Steps i (λu1=>qB (Z0 u1.From 1 8192) (qB (FV u1.Add) (if 0<i then 0<=(w (i-1))/\∃u4,o.Steps[(w (i-1)).toNat]?=some u4/\if u1.From<=u4.From then qb false r else r (LY o (w (i+1)))else r (LY o (w (i+1)))) (qb false r)) (qb false r))else qb true r)/\
 (iM Hs λa r=>qL (qb false r) λk1=>qB (FV a.Fixed) (qB (FV a.Vj) (qB (FV a.Vk) (qB (FV a.Vl) (qB (FV a.Vm) (if 4<(a.Steps.length:Int)then k1 else r (LY a 0)) k1) k1) k1) k1) k1)))):=by
 refine qu ?_
 and_intros
 all_goals(intros;unfold Im;(try simp only[fU,LX,Hr,fV,Jj,Kb,FV,LY,Hs,Hq,Box.c_def,Z0,Ar,Bf,A7]);(try simp only[Bc]);(try simp only[Bd,gS,kk]))
 all_goals(repeat' first|refine Br λ_=>?_|refine Bq λ_ _=>?_|refine Bp λ_=>?_|refine AL ?_ ?_|exact False.elim)
 all_goals(intro h;first|rw[Zk ZvO.eq_1]|refine run ZF9 rfl ?_|refine run ZFA rfl ?_|rw[Zk ZvR.eq_1]|refine run ZFB rfl ?_|refine run ZFC rfl ?_|refine run ZFD rfl ?_|rw[Zk ZvU.eq_1]|refine run ZFE rfl ?_)
 all_goals (refine Yg ?_ h;clear h;simp +decide[*,kk,tI,Az,ZvP,Z5M,Z5N,ZvS,Z5O,Z5P,Z5Q,ZvV,Z5R])
abbrev Ke:=uq ZHY
def ZHZ:((((iM LZ λo l A8 n i r=>if i<(o.Steps.length:Int)then qG o.Steps i (λu1=>if u1.From<=(w (l+A8))then r (LZ o l A8 (w (n+u1.Add)) (w (i+1)))else r (LZ o l A8 n (w (i+1))))else qi n r)/\
 (iM Uu λa a1 a2 a3 r=>qB (Hs a) (qB (Z0 a1 0 4096) (qB (Z0 a2 0 4096) (qB (Z0 a3 0 4096) (r (LZ a a1 a2 (w ((w ((w ((w (a.Fixed+(w (a.Vj*a1))))+(w (a.Vk*a2))))+(w (a.Vl*a3))))+(w ((w (a.Vm*a1))*a2)))) 0)) (qi 0 r)) (qi 0 r)) (qi 0 r)) (qi 0 r)))/\
 ((iM RJ λa a1 r=>∃u1,a1[0]?=some u1/\qI (Ji u1) (λu2=>∃u3,a1[1]?=some u3/\qI (Ji u3) (λu4=>∃u5,a1[2]?=some u5/\qI (Ji u5) (λu6=>qI (Uu a u2 u4 u6) (λu7=>qi u7 r)))))/\
 (iM RK λo a r=>if a<=7 then r (RL o a 0)else vA ([]:WL) r)))/\
 (((iM RL λo a b r=>if b<=7 then r (RM o a b 0)else r (RK o (w (a+1))))/\
 (iM RM λo a b e r=>if e<=7 then r (Ht o ([a,b,e]) a b e 0)else r (RL o a (w (b+1)))))/\
 ((iM Ht λo x a b e k r=>if k<3 then qM x (qG x k (λu1=>qL (r (Ht o x a b e (w (k+1)))) λk1=>if(w (u1+1))<=7 then qL (x.set k.toNat (w (u1+1))) λk2=>qI (RJ o k2) (λu2=>qI (RJ o x) (λu3=>if u2<u3 then r (some (.tup [.own 0,.own 1,Bo true],[.arr 3 1 true (x.map ic),.arr 3 1 true (k2.map ic)]))else k1))else k1))else r (RM o a b (w (e+1))))/\
 ((iM zI λa r=>qB (Hs a) (r (RK a 0)) (vA ([]:WL) r))/\
 (iM RN λo a r=>if a<=7 then r (RO o a 0)else A3 ([]:WL) r)))))/\
 ((((iM RO λo a b r=>if b<=7 then r (fW o a b 0)else r (RN o (w (a+1))))/\
 (iM fW λo a b e r=>if e<=7 then qI (RJ o ([a,b,e])) (λu1=>if u1<1 then A3 ([a,b,e]) r else r (fW o a b (w (e+1))))else r (RO o a (w (b+1)))))/\
 ((iM zL λa r=>r (RN a 0))/\
 (iM RP λm k r=>qL ([]:WL) λk1=>if k<=5 then G3 (Kb m k) (λu1=>qB (Hs u1) (∃(u3:WL),∃(u4:WL),∃u5,zI u1=some (.tup [.own 0,.own 1,Bo u5],[.arr 3 1 true (u3.map ic),.arr 3 1 true (u4.map ic)])/\if u5=true then vB k u3 u4 r else A4 (zL u1) (λu6=>if 0<(u6.length:Int)then vB k u6 k1 r else r (RP m (w (k+1))))) (r (some (.tup [I k,.own 0,.own 1],[.arr 3 1 true (k1.map ic),.arr 3 1 true (k1.map ic)]))))else r (some (.tup [I 0,.own 0,.own 1],[.arr 3 1 true (k1.map ic),.arr 3 1 true (k1.map ic)])))))/\
 (((iM Zwp λa r=>r (RP a 1))/\
 (iM FY λa r=>∃(u1:WL),∃(u2:WL),∃u3,Zwp a=some (.tup [I u3,.own 0,.own 1],[.arr 3 1 true (u1.map ic),.arr 3 1 true (u2.map ic)])/\qb (decide (u3=0)) r))/\
 ((iM Hu λa r=>qM a.Low (qM a.High (r (some (.agg [.own 0,.own 1],[.arr 3 1 true (a.Low.map ic),.arr 3 1 true (a.High.map ic)])))))/\
 ((iM RQ λq out full m r=>if m<=full then qB (JZ q m) (qN out (r (RQ q (out++[m]) full (w (m+1))))) (r (RQ q out full (w (m+1))))else A3 out r)/\
 (iM fX λa r=>qI (Wp a) (λu1=>r (RQ a ([]:WL) u1 1))))))):=by
 refine qu ?_
 and_intros
 all_goals(intros;unfold Im;(try simp only[LZ,Uu,RJ,RK,RL,RM,Ht,zI,RN,RO,fW,zL,RP,Zwp,FY,Hu,RQ,fX,Hs,Z0,Zz.c_def,Ji,Kb,Zf.c_def,JZ,Zc.c_def,Wp,Ar,Zwd,Zwe,Zwf,Zwk,Zwl,Bf,A7]);(try simp only[Bc]);(try simp only[Bd,gS,kk]))
 all_goals(repeat' first|refine Br λ_=>?_|refine Bq λ_ _=>?_|refine Bp λ_=>?_|refine AL ?_ ?_|exact False.elim)
 all_goals(intro h;first|rw[Zk ZvW.eq_1]|refine run ZFF rfl ?_|refine run ZFG rfl ?_|rw[Zk zH.eq_1]|rw[Zk zG.eq_1]|rw[Zk zF.eq_1]|rw[Zk ZvY.eq_1]|refine run ZFH rfl ?_|rw[Zk zK.eq_1]|rw[Zk zJ.eq_1]|rw[Zk Zwg.eq_1]|refine run ZFI rfl ?_|rw[Zk Zwn.eq_1]|refine run ZFJ rfl ?_|refine run ZFK rfl ?_|refine run ZFL rfl ?_|rw[Zk Zwq.eq_1]|refine run ZFM rfl ?_)
 all_goals (refine Yg ?_ h;clear h;simp +decide[*,kk,tI,Az,Z5S,ZvX,Z5T,Z5U,Zwc,Zwb,Zwa,ZvZ,Z5V,Zwj,Zwi,Zwh,Z5W,Zwo,Z5X,Z5Y,Z5Z,Z6a,Zwr,Z6b])
abbrev XN:=uq ZHZ
def ZIa:(((iM L1 λq out mask m r=>if m<mask then qL (r (L1 q out mask (w (m+1)))) λk1=>if(Aj m mask)=m then qB (JZ q m) (qB (JZ q (w (mask-m))) (qN out (r (L1 q (out++[m]) mask (w (m+1))))) k1) k1 else k1 else A3 out r)/\
 ((iM zP λa a1 r=>qB (Q4 a a1) (r (L1 a ([]:WL) a1 1)) (A3 ([]:WL) r))/\
 (iM Hv λq out masks i r=>if i<(masks.length:Int)then qG masks i (λu1=>A4 (zP q u1) (λu2=>r (zR q out masks u1 u2 i 0)))else r (some (.own 0,[.arr 158 3 true (out.map ZU.c)])))))/\
 (((iM zR λq out masks mask x i k r=>if k<(x.length:Int)then qG x k (λu1=>qG masks i (λu2=>A4 (K7 q u1 (w (u2-u1))) (λu3=>r (fY q out masks mask x ([u3]) i (w (k+1))))))else qN out (r (Hv q (out++[(⟨mask,x,[]⟩:ZU)]) masks (w (i+1)))))/\
 (iM fY λq out masks mask x x1 i k r=>if k<(x.length:Int)then qG x k (λu1=>qG masks i (λu2=>A4 (K7 q u1 (w (u2-u1))) (λu3=>qN x1 (r (fY q out masks mask x (x1++[u3]) i (w (k+1)))))))else qN out (r (Hv q (out++[(⟨mask,x,x1⟩:ZU)]) masks (w (i+1))))))/\
 ((iM L2 λa r=>A4 (fX a) (λu1=>r (Hv a ([]:List ZU) u1 0)))/\
 (iM fZ λb out index i r=>if 0<=i then qH b.High i (λu1=>qH b.Low i (λu2=>qL ((w (u1-u2))+1) λk1=>¬(w k1)=0/\qH out i (λu3=>r (fZ b (out.set i.toNat (w (u2+(Int.tmod index (w k1))))) (w (Int.tdiv index (w k1))) (w (i-1))))))else if 0<index then Pl ([]:WL) r else uO out r))))/\
 (((iM Kc λa a1 r=>qB (Hr a) (if a1<0 then Pl ([]:WL) r else qM a.Low (r (fZ a a.Low a1 (w ((a.Low.length:Int)-1))))) (Pl ([]:WL) r))/\
 ((iM f0 λout l i r=>if i<(l.length:Int)then qB (Hq l) (qG l i (λu2=>qI (Ji u2) (λu3=>qN out (r (f0 (out++[u3]) l (w (i+1))))))) (A3 out r)else A3 out r)/\
 (iM K8 λa r=>r (f0 ([]:WL) a 0))))/\
 (((iM gA λa r=>aR ([(⟨1,a,0⟩:Zn)]) r)/\
 (iM RS λl mask best i r=>if i<(l.length:Int)then qG l i (λu1=>qL (r (RS l mask best (w (i+1)))) λk1=>if u1.Mask=mask then qL (r (RS l mask i (w (i+1)))) λk2=>if best<0 then k2 else qG l best (λu2=>if u1.Cost<u2.Cost then k2 else k1)else k1)else qi best r))/\
 ((iM FZ λa a1 r=>r (RS a a1 (-1) 0))/\
 (iM Hw λa a1 a2 a3 r=>qM a.Steps (a.Steps.length+a1.Steps.length<=68719476736/\a.Steps.length+a1.Steps.length+1<=68719476736/\aR ((a.Steps++a1.Steps)++[(⟨a2,0,a3⟩:Zn)]) r))))):=by
 refine qu ?_
 and_intros
 all_goals(intros;unfold Im;(try simp only[L1,zP,Hv,zR,fY,L2,fZ,Kc,f0,K8,gA,RS,FZ,Hw,JZ,Zc.c_def,Q4,K7,fX,Hr,Box.c_def,tI,Hq,Ji,Ar,Zwy,Zwz,Bf,A7]);(try simp only[Bc]);(try simp only[Bd,gS,kk]))
 all_goals(repeat' first|refine Br λ_=>?_|refine Bq λ_ _=>?_|refine Bp λ_=>?_|refine AL ?_ ?_|exact False.elim)
 all_goals(intro h;first|rw[Zk Zws.eq_1]|refine run ZFN rfl ?_|rw[Zk zQ.eq_1]|rw[Zk Zwu.eq_1]|refine run ZFO rfl ?_|rw[Zk Zw1.eq_1]|refine run ZFP rfl ?_|rw[Zk Zw4.eq_1]|refine run ZFQ rfl ?_|refine run ZFR rfl ?_|rw[Zk Zw6.eq_1]|refine run ZFS rfl ?_|refine run ZFT rfl ?_)
 all_goals (refine Yg ?_ h;clear h;simp +decide[*,kk,tI,Az,Z6c,Zwt,Z6d,Zwx,Zww,Zwv,Z6e,Zw2,Z6f,Zw5,Z6g,Z6h,Z6i,Zw7,Z6j,Z6k])
abbrev WU:=uq ZIa
