/-
  Parts of the proofs for this seat: G16 G17 G18.
-/
import Derived.Test.YtobfkfgdneeabaaGreatP13
import Derived.Test.YtobfkfgdneeabaaGreatP14
set_option linter.all false
set_option maxRecDepth 100000
set_option maxHeartbeats 4000000
namespace Go.Proofs.YtobfkfgdneeabaaGreat
open Go.AM
def ZNC:((((iM GH λp Value d n r=>qL (Zip ([]:List Zb) r) λk1=>if n<300 then qI (kV d) (λu1=>if u1<0 then r (ZoT p Value d d.Value 0)else qI (kW d u1) (λu2=>if u2<0 then k1 else(∃(u3:V2),∃(u4:V2),∃(u5:List (List Zb)),∃(u6:List Zb),∃(u7:List Zb),∃(u8:Zb),∃u9,TC d u2 u1=some (.tup [.agg [.own 0,.own 1,.own 2,.own 3,.own 4,I u8.Num,I u8.Den],Bo u9],[.arr 3 1 true (u3.map ic),.arr 3 1 true (u4.map ic),.arr 305 1 true (u5.map (lc 2 Zb.c)),.arr 293 2 true (u6.map Zb.c),.arr 293 2 true (u7.map Zb.c)])/\if u9=true then r (GH p Value (⟨u3,u4,u5,u6,u7,u8⟩:Zv) (w (n+1)))else k1)\/(∃(u3:V2),∃(u4:V2),∃u5,∃(u6:List (List Zb)),∃(u7:List Zb),∃(u8:List Zb),∃(u9:Zb),TC d u2 u1=some (.tup [.agg [.own 0,.own 1,.own 2,.own 3,.own 4,I u9.Num,I u9.Den],Bo true],[.arr 3 1 true (u3.map ic),.arr 3 1 true (u4.map ic),.arr 305 1 u5 (u6.map (lc 2 Zb.c)),.arr 293 2 true (u7.map Zb.c),.arr 293 2 true (u8.map Zb.c)])/\r (GH p Value (⟨u3,u4,u6,u7,u8,u9⟩:Zv) (w (n+1))))))else k1)/\
 (iM ZoT λp Value d Ak k r=>if k<(p.Objective.length:Int)then Va (W7 0) (λu1=>r (lF p Value d Ak ([u1]) (w (k+1))))else r (Z9b p Value d Ak 0)))/\
 ((iM lF λp Value d Ak x k r=>if k<(p.Objective.length:Int)then Va (W7 0) (λu1=>qN x (r (lF p Value d Ak (x++[u1]) (w (k+1)))))else r (Zxp p Value d Ak x 0))/\
 (iM Zxp λp Value d Ak x i r=>if i<(p.Rows.length:Int)then Va (W7 0) (λu1=>r (lG p Value d Ak x ([u1]) (w (i+1))))else r (Z9c p Value d Ak x 0))))/\
 (((iM lG λp Value d Ak x x1 i r=>if i<(p.Rows.length:Int)then Va (W7 0) (λu1=>qN x1 (r (lG p Value d Ak x (x1++[u1]) (w (i+1)))))else r (TG p Value d Ak x x1 0))/\
 (iM TG λp Value d Ak x x1 i r=>if i<(d.Basic.length:Int)then qG d.Basic i (λu1=>if u1<(p.Objective.length:Int)then qH d.Limits i (λu2=>qG x u1 (λu3=>r (TG p Value d Ak (x.set u1.toNat u2) x1 (w (i+1)))))else r (TG p Value d Ak x x1 (w (i+1))))else r (TH p Value d Ak x x1 0)))/\
 ((iM TH λp Value d Ak x x1 k r=>if k<(d.Free.length:Int)then qG d.Free k (λu1=>qL (p.Objective.length:Int) λk1=>if k1<=u1 then qH d.Costs k (λu2=>0<=(w (u1-k1))/\∃u3,x1[(w (u1-k1)).toNat]?=some u3/\r (TH p Value d Ak x (x1.set ((w (u1-k1)).toNat) (⟨(w (0-u2.Num)),u2.Den⟩:Zb)) (w (k+1))))else r (TH p Value d Ak x x1 (w (k+1))))else r (some (.tup [.agg [I Ak.Num,I Ak.Den,.own 0,.own 1],Bo true],[.arr 293 2 true (x.map Zb.c),.arr 293 2 true (x1.map Zb.c)])))/\
 (iM lE λa r=>∃(u1:V2),∃(u2:V2),∃(u3:List (List Zb)),∃(u4:List Zb),∃(u5:List Zb),∃(u6:Zb),∃u7,kM a=some (.tup [.agg [.own 0,.own 1,.own 2,.own 3,.own 4,I u6.Num,I u6.Den],Bo u7],[.arr 3 1 true (u1.map ic),.arr 3 1 true (u2.map ic),.arr 305 1 true (u3.map (lc 2 Zb.c)),.arr 293 2 true (u4.map Zb.c),.arr 293 2 true (u5.map Zb.c)])/\if u7=true then r (GH a (⟨0,0⟩:Zb) (⟨u1,u2,u3,u4,u5,u6⟩:Zv) 0)else Zip ([]:List Zb) r))))/\
 ((((iM ZoV λa a1 a2 r=>Znq (ZoG a a1 a2) (λu1 u2 u3 u4=>if u4=true then ∃(u5:List Zb),∃(u6:List Zb),∃(u7:Zb),∃u8,lE (⟨u1,u2,u3⟩:Program)=some (.tup [.agg [I u7.Num,I u7.Den,.own 0,.own 1],Bo u8],[.arr 293 2 true (u5.map Zb.c),.arr 293 2 true (u6.map Zb.c)])/\r (some (.tup [.agg [I u7.Num,I u7.Den,.own 0,.own 1],Bo u8],[.arr 293 2 true (u5.map Zb.c),.arr 293 2 true (u6.map Zb.c)]))else Zip ([]:List Zb) r))/\
 (iM lH λa a1 a2 r=>∃(u1:List Zb),∃(u2:List Zb),∃(u3:Zb),∃u4,ZoV a a1 a2=some (.tup [.agg [I u3.Num,I u3.Den,.own 0,.own 1],Bo u4],[.arr 293 2 true (u1.map Zb.c),.arr 293 2 true (u2.map Zb.c)])/\HZ u3 u4 r))/\
 ((iM ZoW λa r=>qB (WL a) (¬a.Den=0/\qL (w (Int.tdiv a.Num a.Den)) λk1=>if(w (k1*a.Den))<a.Num then qi (w (k1+1)) r else qi k1 r) (qi 0 r))/\
 (iM Zxr λa r=>if 12<a then qi 4096 r else ¬a<0/\qi (Ac 1 a) r)))/\
 (((iM lI λn den num x i r=>if i<den then ¬num<0/\if(Ac 1 num)<(w (x*n))then qb false r else r (lI n den num (w (x*n)) (w (i+1)))else qb true r)/\
 (iM ZoX λa a1 a2 r=>r (lI a a1 a2 1 0)))/\
 ((iM lK λBd n r=>if n<4096 then qB (ZoX (w (n+1)) Bd.Den Bd.Num) (r (lK Bd (w (n+1)))) (qi n r)else qi n r)/\
 (iM lJ λa r=>qB (WL a) (if a.Num<0 then qi (-1) r else if 40<a.Num then qI (ZoW a) (λu2=>qI (Zxr u2) (λu3=>qi u3 r))else r (lK a 1)) (qi (-1) r))))):=by
 refine qu ?_
 and_intros
 all_goals(intros;unfold Im;(try simp only[GH,ZoT,lF,Zxp,lG,TG,TH,lE,ZoV,lH,ZoW,Zxr,lI,ZoX,lK,lJ,kV,kW,TC,Zv.c_def,Zb.c_def,W7,kM,Program.c_def,ZoG,ZM.c_def,Zj.c_def,Zc.c_def,Zs.c_def,WL,Z9b,Z9c,Bm,TF,Zxo,ZoU,Zxq,A7,AY]);(try simp only[AZ]);(try simp only[A0,gS,kk]))
 all_goals(repeat' first|refine Bs λ_=>?_|refine Br λ_ _=>?_|refine Bq λ_=>?_|refine AL ?_ ?_|exact False.elim)
 all_goals(intro h;first|rw[Zk MZ.eq_1]|rw[Zk Zxf.eq_1]|rw[Zk Zxg.eq_1]|rw[Zk Zxh.eq_1]|rw[Zk Zxi.eq_1]|refine run ZK3 rfl ?_|refine run ZK4 rfl ?_|refine run ZK5 rfl ?_|refine run ZK6 rfl ?_|refine run ZK7 rfl ?_|rw[Zk Zxt.eq_1]|refine run ZK8 rfl ?_|rw[Zk Zxw.eq_1]|refine run ZK9 rfl ?_)
 all_goals (refine Yd ?_ h;clear h;simp +decide[*,kk,tI,Ax,TD,TE,Zxn,Zxm,Zxl,Z8Y,Zxk,Z8Z,Zxj,Z9a,Z9d,Z9e,Z9h,Z9g,Z9i,Zxu,Z9j,Zxx,Z9k])
abbrev XL:=uq ZNC
def ZND:((((iM lL λs q mask i r=>if i<(q.Atoms.length:Int)then ¬i<0/\qL (r (lL s q mask (w (i+1)))) λk1=>if(Ai (As mask i) 1)=1 then ∃(u1:List ZA),∃u2,∃u3,∃u4,QB s q i=some (.agg [.t (.str u2),I u3,I u4,.own 0],[.arr 261 3 true (u1.map ZA.c)])/\if u4=0 then qi 0 r else k1 else k1 else BI (lH s q mask) (λu1 u2=>if u2=true then qI (lJ u1) (λu3=>qi u3 r)else qi 4096 r))/\
 (iM TI λa a1 a2 r=>qB (VG a a1 a2) (r (lL a a1 a2 0)) (qi (-1) r)))/\
 ((iM lO λs q l mask n rule r=>if 1<(l.length:Int)then qI (TI s q mask) (λu1=>if u1<n then fW u1 r else H0 n rule r)else H0 n rule r)/\
 (iM lP λs q l mask n rule x x1 r=>if 1<(l.length:Int)then qI (TI s q mask) (λu1=>if u1<n then fW u1 r else H0 n rule r)else H0 n rule r)))/\
 (((iM lQ λs q l mask n rule x r=>if 1<(l.length:Int)then qI (TI s q mask) (λu1=>if u1<n then fW u1 r else H0 n rule r)else H0 n rule r)/\
 (iM lN λa a1 a2 r=>qB (VG a a1 a2) (qI (jV a a1 a2) (λu2=>qI (jX a a1 a2) (λu3=>if u3<u2 then AX (Ib a2) (λu4=>if(u4.length:Int)=2 then ∃u5,u4[0]?=some u5/\∃u6,u4[1]?=some u6/\qI (Tj a a1 u5 u6) (λu7=>if u7<u3 then r (lO a a1 u4 a2 u7 3)else r (lP a a1 u4 a2 u3 2 u7 false))else r (lQ a a1 u4 a2 u3 2 false))else AX (Ib a2) (λu4=>if(u4.length:Int)=2 then ∃u5,u4[0]?=some u5/\∃u6,u4[1]?=some u6/\qI (Tj a a1 u5 u6) (λu7=>if u7<u2 then r (lO a a1 u4 a2 u7 3)else r (lP a a1 u4 a2 u2 1 u7 false))else r (lQ a a1 u4 a2 u2 1 false))))) (r (some (.tup [I (-1),I 0],[])))))/\
 ((iM ZoZ λa a1 a2 r=>∃u1 u2,lN a a1 a2=some (.tup [I u1,I u2],[])/\qi u1 r)/\
 ((iM TJ λs q out m r=>qI (Wv q) (λu1=>if m<=u1 then qB (UD q m) (qI (ZoZ s q m) (λu3=>qN out (r (TJ s q (out++[u3]) (w (m+1)))))) (qN out (r (TJ s q (out++[0]) (w (m+1)))))else Bn out r))/\
 (iM Zpb λa a1 r=>qI (Wv a1) (λu1=>qB (VG a a1 u1) (r (TJ a a1 ([]:V2) 0)) (Bn ([]:V2) r)))))))/\
 ((((iM TK λk n i r=>if i<k then r (TK k (if 1<(w (n*4))then(w (n*4))else 1) (w (i+1)))else qi n r)/\
 (iM Kn λa r=>qB (Z0 a 0 7) (r (TK a 0 0)) (qi (-1) r)))/\
 ((iM lR λn k r=>if k<=7 then qI (Kn k) (λu1=>if n<=u1 then qi k r else r (lR n (w (k+1))))else qi (-1) r)/\
 (iM Uo λa r=>if a<0 then qi (-1) r else r (lR a 0))))/\
 (((iM Zpc λlow high m r=>if m<(low.length:Int)then qG low m (λu1=>qI (Uo u1) (λu2=>qH high m (λu3=>qI (Uo u3) (λu4=>r (lT low high ([u2]) ([u4]) (w (m+1)))))))else r (some (.tup [.agg [L 1 (([]:V2).map ic),L 1 (([]:V2).map ic)],Bo true],[])))/\
 (iM lT λlow high x x1 m r=>if m<(low.length:Int)then qG low m (λu1=>qI (Uo u1) (λu2=>qN x (qH high m (λu3=>qI (Uo u3) (λu4=>qN x1 (r (lT low high (x++[u2]) (x1++[u4]) (w (m+1)))))))))else r (some (.tup [.agg [L 1 (x.map ic),L 1 (x1.map ic)],Bo true],[]))))/\
 ((iM lS λa a1 r=>AX (jU a a1) (λu1=>AX (Zpb a a1) (λu2=>if(u1.length:Int)=0 then Znr ([]:V2) r else qI (Wv a1) (λu3=>qB (UD a1 u3) (r (Zpc u1 u2 0)) (Znr ([]:V2) r)))))/\
 ((iM lV λc q x i r=>qI (Wv q) (λu1=>if i<=u1 then qL (w (i+1)) λk2=>qL (r (Qi c q ([0]) ([0]) x k2)) λk1=>if(Ai i (w (i-1)))=0 then if 0<i then ∃(u2:Zo),∃u3,ZR c 3=some (I u3,[.box (u2.c.map .t)])/\r (Qi u2 q ([u3]) ([u3]) x k2)else k1 else if 0<i then qB (UD q i) (∃(u3:Zo),∃u4,ZR c 3=some (I u4,[.box (u3.c.map .t)])/\if x<3 then ∃(u5:Zo),∃u6,Xo u3 4=some (Bo u6,[.box (u5.c.map .t)])/\if u6=true then r (Qi u5 q ([u4]) ([u4]) x k2)else ∃(u7:Zo),∃u8,ZR u5 3=some (I u8,[.box (u7.c.map .t)])/\r (Qi u7 q ([u4]) ([(w ((w (u4+1))+u8))]) (w (x+1)) k2)else r (Qi u3 q ([u4]) ([u4]) x k2)) k1 else k1 else ∃(u2:Zo),∃u3,Xo c 20=some (Bo u3,[.box (u2.c.map .t)])/\if u3=true then ∃(u4:Zo),∃(u5:V2),∃u6,Wu u2 ([(-1),7,8])=some (I u6,[.box (u4.c.map .t),.arr 3 1 true (u5.map ic)])/\False else r (some (.agg [L 1 (([]:V2).map ic),L 1 (([]:V2).map ic)],[.box (u2.c.map .t)]))))/\
 (iM Qi λc q x x1 x2 i r=>qI (Wv q) (λu1=>if i<=u1 then qL (w (i+1)) λk2=>qL (qN x (qN x1 (r (Qi c q (x++[0]) (x1++[0]) x2 k2)))) λk1=>if(Ai i (w (i-1)))=0 then if 0<i then ∃(u2:Zo),∃u3,ZR c 3=some (I u3,[.box (u2.c.map .t)])/\qN x (qN x1 (r (Qi u2 q (x++[u3]) (x1++[u3]) x2 k2)))else k1 else if 0<i then qB (UD q i) (∃(u3:Zo),∃u4,ZR c 3=some (I u4,[.box (u3.c.map .t)])/\if x2<3 then ∃(u5:Zo),∃u6,Xo u3 4=some (Bo u6,[.box (u5.c.map .t)])/\if u6=true then qN x (qN x1 (r (Qi u5 q (x++[u4]) (x1++[u4]) x2 k2)))else ∃(u7:Zo),∃u8,ZR u5 3=some (I u8,[.box (u7.c.map .t)])/\qN x (qN x1 (r (Qi u7 q (x++[u4]) (x1++[(w ((w (u4+1))+u8))]) (w (x2+1)) k2)))else qN x (qN x1 (r (Qi u3 q (x++[u4]) (x1++[u4]) x2 k2)))) k1 else k1 else ∃(u2:Zo),∃u3,Xo c 20=some (Bo u3,[.box (u2.c.map .t)])/\if u3=true then ∃(u4:Zo),∃(u5:V2),∃u6,Wu u2 ([(-1),7,8])=some (I u6,[.box (u4.c.map .t),.arr 3 1 true (u5.map ic)])/\∃u7,x1[0]?=some u7/\r (some (.agg [L 1 (x.map ic),L 1 ((x1.set 0 u6).map ic)],[.box (u4.c.map .t)]))else r (some (.agg [L 1 (x.map ic),L 1 (x1.map ic)],[.box (u2.c.map .t)])))))))):=by
 refine qu ?_
 and_intros
 all_goals(intros;unfold Im;(try simp only[lL,TI,lN,ZoZ,TJ,Zpb,TK,Kn,lR,Uo,Zpc,lT,lS,lV,Qi,QB,lH,lJ,ZM.c_def,Zj.c_def,Zc.c_def,Zb.c_def,Zs.c_def,VG,jV,jX,Ib,Tj,Wv,UD,Z0,jU,ZR,Xo,Wu,Zo.c_def,lO,lP,lQ,Bm,ZxC,A7,AY]);(try simp only[AZ]);(try simp only[A0,gS,kk]))
 all_goals(repeat' first|refine Bs λ_=>?_|refine Br λ_ _=>?_|refine Bq λ_=>?_|refine AL ?_ ?_|exact False.elim)
 all_goals(intro h;first|rw[Zk Zxz.eq_1]|refine run ZKA rfl ?_|rw[HW lM.eq_1]|refine run ZKB rfl ?_|refine run ZKC rfl ?_|rw[Zk Zx1.eq_1]|refine run ZKD rfl ?_|rw[Zk Zx4.eq_1]|refine run ZKE rfl ?_|rw[Zk Zx7.eq_1]|refine run ZKF rfl ?_|rw[Zk ZxA.eq_1]|refine run ZKG rfl ?_|rw[Zk Zpd.eq_1])
 all_goals (refine Yd ?_ h;clear h;simp +decide[*,kk,tI,Ax,Zx0,Z9l,Z9m,Z9o,Z9n,Z9p,Z9q,Zx2,Z9r,Zx5,Z9s,Zx8,Z9t,ZxB,Z9u,Z9v,Z9w,Zpe])
abbrev ZY:=uq ZND
def ZNE:(iM Zpf λx a r=>r (lV x a 0 0))/\
 (iM TL λa r=>∃(u1:Zo),gL a=some (.ptr 0 0,[.box (u1.c.map .t)])/\∃(u2:Zo) (u3:Zt),gN u1=some (.agg (u3.c.map .t),[.box (u2.c.map .t)])/\∃(u4:Zo) (u5:Zs),iV u2=some (.agg (u5.c.map .t),[.box (u4.c.map .t)])/\∃(u6:Zo) (u7:Zc),jF u4=some (.agg (u7.c.map .t),[.box (u6.c.map .t)])/\qI (Wv u7) (λu8=>fT (MJ u6 u7 u8) (λu9 u10=>∃(u11:Box),∃u12,lS u5 u7=some (.tup [.agg (u11.c.map .t),Bo u12],[])/\Uj (Xo u9 6) (λu13 u14=>if u14=true then ∃(u15:Zo) (u16:Box),Zpf u13 u7=some (.agg (u16.c.map .t),[.box (u15.c.map .t)])/\Uj (Xo u15 12) (λCT Dh=>if Dh=true then 1<=u10.length/\r (some (.tup [.ptr 0 0,.agg (u3.c.map .t),.agg (u5.Zj.c.map .t),.agg (u7.c.map .t),.agg [L 3 ((u10.drop 1).map Zn.c)],.agg (u16.c.map .t)],[.box (CT.c.map .t)]))else r (some (.tup [.ptr 0 0,.agg (u3.c.map .t),.agg (u5.Zj.c.map .t),.agg (u7.c.map .t),.agg [L 3 (u10.map Zn.c)],.agg (u16.c.map .t)],[.box (CT.c.map .t)])))else Uj (Xo u13 12) (λu15 u16=>if u16=true then 1<=u10.length/\r (some (.tup [.ptr 0 0,.agg (u3.c.map .t),.agg (u5.Zj.c.map .t),.agg (u7.c.map .t),.agg [L 3 ((u10.drop 1).map Zn.c)],.agg (u11.c.map .t)],[.box (u15.c.map .t)]))else r (some (.tup [.ptr 0 0,.agg (u3.c.map .t),.agg (u5.Zj.c.map .t),.agg (u7.c.map .t),.agg [L 3 (u10.map Zn.c)],.agg (u11.c.map .t)],[.box (u15.c.map .t)]))))))):=by
 refine qu ?_
 and_intros
 all_goals(intros;unfold Im;(try simp only[Zpf,TL,gL,gN,iV,jF,Wv,MJ,lS,Xo,Box.c_def,ZM.c_def,Zj.c_def,Zo.c_def,Zt.c_def,Zy.c_def,Zc.c_def,Zs.c_def,lV,Bm,A7,AY]);(try simp only[AZ]);(try simp only[A0,gS,kk]))
 all_goals(repeat' first|refine Bs λ_=>?_|refine Br λ_ _=>?_|refine Bq λ_=>?_|refine AL ?_ ?_|exact False.elim)
 all_goals(intro h;first|refine Xx ZKH rfl ?_|refine run ZKI rfl ?_)
 all_goals (refine Yd ?_ h;clear h;simp +decide[*,kk,tI,Ax,Z9x,Z90,Z9y,Z9z])
abbrev ZCn:=uq ZNE
def ZNF:((((iM Zpg λx r=>Uj (Xo x 12) (λu1 u2=>if u2=true then Kd (Wu u1 ([(-1),0,1000000000000,1000000000001,9223372036854775807])) (λu3 u4 u5=>R5 u5 u3 r)else Kd (Wu u1 ([5,20,60,200,1000])) (λu3 u4 u5=>BW (ZR u3 40) (λu6 u7=>R5 (w (u5+u7)) u6 r))))/\
 (iM lW λa r=>∃(u1:Zo) (u2:Zt) (u3:Zj) (u4:Zc) (u5:Zr) (u6:Box),TL a=some (.tup [.ptr 0 0,.agg (u2.c.map .t),.agg (u3.c.map .t),.agg (u4.c.map .t),.agg (u5.c.map .t),.agg (u6.c.map .t)],[.box (u1.c.map .t)])/\BW (Zpg u1) (λu7 u8=>r (some (.tup [.agg (u2.c.map .t),.agg (u3.c.map .t),.agg (u4.c.map .t),.agg (u5.c.map .t),.agg (u6.c.map .t),I u8],[])))))/\
 ((iM VX λa r=>qM a (Bn a r))/\
 (iM M0 λa r=>AX (VX a.Low) (λu1=>AX (VX a.High) (λu2=>Zns u1 u2 r)))))/\
 (((iM Ko λx r=>r (some (.bsl 1 5,[.box (x.c.map .t),.box [.ptr 0 0,.ptr 0 6,.ptr 0 12,.ptr 0 18,.ptr 0 24]])))/\
 (iM Zph λx r=>r (some (.bsl 1 5,[.box (x.c.map .t),.box [.ptr 0 0,.ptr 0 1,.ptr 0 2,.ptr 0 3,.ptr 0 4]]))))/\
 ((iM Xd λa a1 a2 r=>if a1<=a then qb (decide (a<=a2)) r else qb false r)/\
 ((iM M1 λo x x1 x2 r=>if x2<x1 then qG x x2 (λu1=>qB (Xd u1.Add (-99) 99) (qB (Xd u1.From 1 8192) (qL (r (M1 o x x1 (w (x2+1)))) λk1=>if 0<x2 then 0<=(w (x2-1))/\∃u4,o.Steps[(w (x2-1)).toNat]?=some u4/\if u1.From<=u4.From then qb false r else k1 else k1) (qb false r)) (qb false r))else qb (decide ((o.Steps.length:Int)<=4)) r)/\
 (iM WS λa r=>Zph a=some (.bsl 1 5,[.box (a.c.map .t),.box [.ptr 0 0,.ptr 0 1,.ptr 0 2,.ptr 0 3,.ptr 0 4]])/\r (Jz a 5 0))))))/\
 ((((iM TM λout a r=>if a<=7 then r (M3 out a 0)else Q6 out r)/\
 (iM M3 λout a b r=>if b<=7 then r (TN out a b 0)else r (TM out (w (a+1)))))/\
 ((iM TN λout a b c r=>if c<=7 then qN out (r (TN (out++[[a,b,c]]) a b (w (c+1))))else r (M3 out a (w (b+1))))/\
 (iM UF λr=>r (TM ([]:XS) 0))))/\
 (((iM KL λa r=>qB (Xd a 0 7) (if a=0 then qi 0 r else ¬(w (2*(w (a-1))))<0/\qi (Ac 1 (w (2*(w (a-1))))) r) (qi (-1) r))/\
 (iM TO λleft right n x x1 x2 r=>if x2<x1 then qG x x2 (λu1=>if u1.From<=(w (left+right))then r (TO left right (w (n+u1.Add)) x x1 (w (x2+1)))else r (TO left right n x x1 (w (x2+1))))else qi n r))/\
 ((iM Ik λa a1 a2 a3 r=>r (TO a1 a2 (w ((w ((w ((w (a.Fixed+(w (a.Vj*a1))))+(w (a.Vk*a2))))+(w (a.Vl*a3))))+(w ((w (a.Vv*a1))*a2)))) a.Steps (a.Steps.length:Int) 0))/\
 ((iM Kp λa a1 r=>∃u1,a1[0]?=some u1/\qI (KL u1) (λu2=>∃u3,a1[1]?=some u3/\qI (KL u3) (λu4=>∃u5,a1[2]?=some u5/\qI (KL u5) (λu6=>qI (Ik a u2 u4 u6) (λu7=>qi u7 r)))))/\
 (iM GI λo x x1 x2 r=>if x2<x1 then qG x x2 (λu1=>r (J0 o x u1 x1 x2 (u1.length:Int) 0))else KD r))))):=by
 refine qu ?_
 and_intros
 all_goals(intros;unfold Im;(try simp only[Zpg,lW,VX,M0,Ko,Zph,Xd,M1,WS,TM,M3,TN,UF,KL,TO,Ik,Kp,GI,Xo,Wu,ZR,Zo.c_def,TL,Box.c_def,Zj.c_def,Zt.c_def,Zy.c_def,Zr.c_def,Zc.c_def,Jz,J0,Bm,ZxM,ZxN,Zpm,A7,AY]);(try simp only[AZ]);(try simp only[A0,gS,kk]))
 all_goals(repeat' first|refine Bs λ_=>?_|refine Br λ_ _=>?_|refine Bq λ_=>?_|refine AL ?_ ?_|exact False.elim)
 all_goals(intro h;first|refine Xx ZKJ rfl ?_|refine run ZKK rfl ?_|refine run ZKL rfl ?_|refine run ZKM rfl ?_|refine Xx ZKN rfl ?_|refine Xx ZKO rfl ?_|refine run ZKP rfl ?_|rw[Zk ZxF.eq_1]|refine run ZKQ rfl ?_|rw[Zk Zpj.eq_1]|rw[Zk Zpi.eq_1]|rw[Zk ZxI.eq_1]|refine run ZKR rfl ?_|refine run ZKS rfl ?_|rw[Zk ZxO.eq_1]|refine run ZKT rfl ?_|refine run ZKU rfl ?_|rw[Zk Zpl.eq_1])
 all_goals (refine Yd ?_ h;clear h;simp +decide[*,kk,tI,Ax,Z91,Z92,Z93,Z94,Z95,Z96,Z97,ZxG,Z98,ZxL,ZxK,ZxJ,Z99,Z9A,Z9B,ZxP,Z9C,Z9D,ZxS])
abbrev Wy:=uq ZNF
def ZNG:(iM J0 λo x t x1 x2 x3 x4 r=>if x4<x3 then qG t x4 (λu1=>qL (r (J0 o x t x1 x2 x3 (w (x4+1)))) λk1=>if u1=7 then k1 else AX (VX t) (λu2=>qH u2 x4 (λu3=>qL (u2.set x4.toNat (w (u3+1))) λk2=>qI (Kp o k2) (λu4=>qI (Kp o t) (λu5=>if u4<u5 then r (some (.tup [L 1 (t.map ic),.own 0,Bo true],[.arr 3 1 true (k2.map ic)]))else k1)))))else r (GI o x x1 (w (x2+1))))/\
 (iM WH λa r=>qB (WS a) (Vb UF (λu2=>r (GI a u2 (u2.length:Int) 0))) (KD r)):=by
 refine qu ?_
 and_intros
 all_goals(intros;unfold Im;(try simp only[J0,WH,VX,Kp,Zy.c_def,WS,UF,GI,Bm,Zpm,A7,AY]);(try simp only[AZ]);(try simp only[A0,gS,kk]))
 all_goals(repeat' first|refine Bs λ_=>?_|refine Br λ_ _=>?_|refine Bq λ_=>?_|refine AL ?_ ?_|exact False.elim)
 all_goals(intro h;first|rw[Zk ZxQ.eq_1]|refine run ZKV rfl ?_)
 all_goals (refine Yd ?_ h;clear h;simp +decide[*,kk,tI,Ax,Z9E,ZxR,Z9F])
abbrev Z1W:=uq ZNG
def ZNH:iM Jz λo x x1 r=>if x1<x then qL (r (Jz o x (w (x1+1)))) λk1=>qL (qb false r) λk2=>if x1=0 then qB (Xd o.Fixed (-99) 99) k1 k2 else if x1=1 then qB (Xd o.Vj (-99) 99) k1 k2 else if x1=2 then qB (Xd o.Vk (-99) 99) k1 k2 else if x1=3 then qB (Xd o.Vl (-99) 99) k1 k2 else if x1=4 then qB (Xd o.Vv (-99) 99) k1 k2 else False else r (M1 o o.Steps (o.Steps.length:Int) 0):=by
 refine qu ?_;intro o x x1 r;unfold Im;intro h;unfold Jz;(try simp only[Bm]);rw[Zk ZxE.eq_1];by_cases q1:x1<x
 .rw[Ya q1]at h;by_cases q2:x1=0
  .rw[Ya q2]at h;subst q2;obtain⟨v,q3,h⟩:=h;unfold Xd at q3
   try simp[Bm]at q3
   by_cases q4:v=true
   .rw[Ya q4]at h;refine Yd ?_ h;clear h;simp +decide[*,tI,Ax,Jz,Bm]
   .rw[Yb q4]at h;refine Yd ?_ h;clear h;simp +decide[*,tI,Ax,Bm]
  .rw[Yb q2]at h;replace q2:=eq_false q2;by_cases q5:x1=1
   .rw[Ya q5]at h;subst q5;obtain⟨v1,q6,h⟩:=h;unfold Xd at q6
    try simp[Bm]at q6
    by_cases q7:v1=true
    .rw[Ya q7]at h;refine Yd ?_ h;clear h;simp +decide[*,tI,Ax,Jz,Bm]
    .rw[Yb q7]at h;refine Yd ?_ h;clear h;simp +decide[*,tI,Ax,Bm]
   .rw[Yb q5]at h;replace q5:=eq_false q5;by_cases q8:x1=2
    .rw[Ya q8]at h;subst q8;obtain⟨v2,q9,h⟩:=h;unfold Xd at q9
     try simp[Bm]at q9
     by_cases q10:v2=true
     .rw[Ya q10]at h;refine Yd ?_ h;clear h;simp +decide[*,tI,Ax,Jz,Bm]
     .rw[Yb q10]at h;refine Yd ?_ h;clear h;simp +decide[*,tI,Ax,Bm]
    .rw[Yb q8]at h;replace q8:=eq_false q8;by_cases q11:x1=3
     .rw[Ya q11]at h;subst q11;obtain⟨v3,q12,h⟩:=h;unfold Xd at q12
      try simp[Bm]at q12
      by_cases q13:v3=true
      .rw[Ya q13]at h;refine Yd ?_ h;clear h;simp +decide[*,tI,Ax,Jz,Bm]
      .rw[Yb q13]at h;refine Yd ?_ h;clear h;simp +decide[*,tI,Ax,Bm]
     .rw[Yb q11]at h;replace q11:=eq_false q11;by_cases BK:x1=4
      .rw[Ya BK]at h;subst BK;obtain⟨v4,B9,h⟩:=h;unfold Xd at B9
       try simp[Bm]at B9
       by_cases q16:v4=true
       .rw[Ya q16]at h;refine Yd ?_ h;clear h;simp +decide[*,tI,Ax,Jz,Bm]
       .rw[Yb q16]at h;refine Yd ?_ h;clear h;simp +decide[*,tI,Ax,Bm]
      .rw[Yb BK]at h;replace BK:=eq_false BK;cases h
 .rw[Yb q1]at h;refine Yd ?_ h;clear h;simp +decide[*,tI,Ax,M1,ZxH,Bm]
abbrev aH:=uq ZNH
