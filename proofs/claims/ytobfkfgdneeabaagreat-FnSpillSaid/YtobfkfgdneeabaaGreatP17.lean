/-
  Parts of the proofs for this seat: G7 G8 G9.
-/
import Derived.Test.YtobfkfgdneeabaaGreatP13
import Derived.Test.YtobfkfgdneeabaaGreatP14
set_option linter.all false
set_option maxRecDepth 100000
set_option maxHeartbeats 4000000
namespace Go.Proofs.YtobfkfgdneeabaaGreat
open Go.AM
def ZNo:iM i7 λc Zi Aq x Aj n r=>if 0<n then ∃(u1:Zo),∃u2,ZR c 5=some (I u2,[.box (u1.c.map .t)])/\qG ([(⟨#[114]⟩:KI),(⟨#[115]⟩:KI),(⟨#[116]⟩:KI),(⟨#[117]⟩:KI),(⟨#[118]⟩:KI)]) u2 (λu3=>qH ([2,2,2,3,1]) u2 (λu4=>∃(u5:Zo),∃u6,ZR u1 4=some (I u6,[.box (u5.c.map .t)])/\r (i8 u5 Zi Aq x Aj u3 n u4 u6 0)))else qB (iY Aj) (r (some (.agg [I Aj,.own 1],[.box (c.c.map .t),.arr 110 2 true (([]:List Zd).map Zd.c)]))) (r (some (.agg [I Aq,.own 1],[.box (c.c.map .t),.arr 110 2 true (x.map Zd.c)]))):=by
 refine qu ?_;intro c Zi Aq x Aj n r;unfold Im;intro h;unfold i7;(try simp only[Bm]);rw[Zk Gu.eq_1];simp only[ZR,iY,Zo.c_def,A7,AY,Bm]at h
 try simp only[AZ]at h
 try simp only[A0,gS,kk]at h
 rcases h with⟨q1,v,v1,q2,q3,e2,⟨g4,q4⟩,e3,⟨g5,q5⟩,v2,v3,q6,h⟩|⟨q1,v4,q7,(⟨q8,h⟩|⟨q8,h⟩)⟩
 all_goals try (have Cs:=R0 sc g4 q4;simp only[Yv,De,AY]at Cs;obtain⟨o9,Cs⟩:=Cs;have pA:v1<5:=by(have y:=g4;simp at y;omega))
 all_goals try (have DB:=R0 ic g5 q5;simp only[Yv,De,AY]at DB;obtain⟨AaD,DB⟩:=DB;have AaE:v1<5:=by(have y:=g5;simp at y;omega))
 all_goals (refine Yd ?_ h;clear h;simp +decide[*,kk,tI,Ax,i8,Gv,Bm])
abbrev ZCk:=uq ZNo
def ZNp:((((iM i8 λc Zi Aq x Aj Name n m v i r=>if i<m then r (i9 c Zi Aq x (if Aj<(w (v+1))then(w (v+1))else Aj) Name ([v]) n m (Int.tmod (w (v+1)) 4) (w (i+1)))else r (Kk c Zi Aq x Aj ([(⟨Name,[]⟩:Zd)]) (w (n-1))))/\
 (iM i9 λc Zi Aq x Aj Name x1 n m v i r=>if i<m then qN x1 (r (i9 c Zi Aq x (if Aj<(w (v+1))then(w (v+1))else Aj) Name (x1++[v]) n m (Int.tmod (w (v+1)) 4) (w (i+1))))else r (Kk c Zi Aq x Aj ([(⟨Name,x1⟩:Zd)]) (w (n-1)))))/\
 ((iM jA λc Zi Aq x Aj x1 Name n m v i r=>if i<m then r (jB c Zi Aq x (if Aj<(w (v+1))then(w (v+1))else Aj) x1 Name ([v]) n m (Int.tmod (w (v+1)) 4) (w (i+1)))else qN x1 (r (Kk c Zi Aq x Aj (x1++[(⟨Name,[]⟩:Zd)]) (w (n-1)))))/\
 (iM jB λc Zi Aq x Aj x1 Name x2 n m v i r=>if i<m then qN x2 (r (jB c Zi Aq x (if Aj<(w (v+1))then(w (v+1))else Aj) x1 Name (x2++[v]) n m (Int.tmod (w (v+1)) 4) (w (i+1))))else qN x1 (r (Kk c Zi Aq x Aj (x1++[(⟨Name,x2⟩:Zd)]) (w (n-1)))))))/\
 (((iM ZnX λx r=>∃(u1:Zo),∃(u2:List KI),∃u3,H9 x ([(⟨#[114,40,88,89,41]⟩:KI),(⟨#[114,40,88,89,41,32,115,40,89,90,41]⟩:KI),(⟨#[114,40,88,89,41,32,115,40,89,90,41,32,116,40,90,85,41]⟩:KI),(⟨#[114,40,88,89,41,32,115,40,89,90,41,32,116,40,90,88,41]⟩:KI),(⟨#[114,40,88,89,41,32,115,40,88,90,41,32,116,40,88,85,41]⟩:KI),(⟨#[114,40,88,89,41,32,115,40,89,90,41,32,118,40,89,41]⟩:KI),(⟨#[117,40,88,89,90,41,32,115,40,90,85,41]⟩:KI),(⟨#[117,40,88,89,90,41,32,114,40,88,89,41,32,118,40,90,41]⟩:KI),(⟨#[114,40,88,89,41,32,115,40,89,90,41,32,116,40,90,85,41,32,118,40,88,41]⟩:KI),(⟨#[114,40,88,89,41,32,114,40,89,90,41]⟩:KI),(⟨#[114,40,88,89,41,32,115,40,89,88,41]⟩:KI),(⟨#[118,40,88,41,32,114,40,88,89,41,32,115,40,89,90,41,32,116,40,90,85,41]⟩:KI),(⟨#[114,40,88,89,41,32,115,40,89,90,41,32,116,40,90,85,41,32,115,40,85,88,41]⟩:KI)])=some (.t (.str u3),[.box (u1.c.map .t),.arr 9 1 true (u2.map sc)])/\fS (i6 u3) (λu4 u5 u6=>Uj (Xo u1 4) (λu7 u8=>if u8=true then BW (ZR u7 4) (λu9 u10=>r (i7 u9 0 u5 u4 0 (w (1+u10))))else r (some (.agg [I u5,.own 1],[.box (u7.c.map .t),.arr 110 2 true (u4.map Zd.c)])))))/\
 (iM ZnY λx a r=>BW (ZR x (a.length:Int)) (λu1 u2=>qG a u2 (λu3=>r (some (.t (.str u3),[.box (u1.c.map .t)]))))))/\
 ((iM ZnZ λx r=>∃(u1:Zo),∃(u2:List Zd),∃u3,ZnX x=some (.agg [I u3,.own 1],[.box (u1.c.map .t),.arr 110 2 true (u2.map Zd.c)])/\if 3<(u2.length:Int)then Uj (Xo u1 8) (λu4 u5=>if u5=true then R8 u3 u2 u4 r else ∃(u6:Zo),∃u7,ZnY u4 ([(⟨#[114,40,88,89,41,32,115,40,89,90,41]⟩:KI),(⟨#[114,40,88,89,41,32,115,40,89,90,41,32,116,40,90,88,41]⟩:KI),(⟨#[114,40,88,89,41,32,115,40,89,90,41,32,118,40,89,41]⟩:KI),(⟨#[114,40,88,89,41,32,114,40,89,90,41]⟩:KI)])=some (.t (.str u7),[.box (u6.c.map .t)])/\fS (i6 u7) (λu8 u9 u10=>R8 u9 u8 u6 r))else R8 u3 u2 u1 r)/\
 ((iM Wv λa r=>qB (Kj a) (¬(a.Atoms.length:Int)<0/\qi (w ((Ac 1 (a.Atoms.length:Int))-1)) r) (qi 0 r))/\
 (iM SQ λa a1 r=>qB (Kj a) (¬(a.Atoms.length:Int)<0/\qV (Z0 a1 0 (w ((Ac 1 (a.Atoms.length:Int))-1))) (λu2=>qb u2 r)) (qb false r))))))/\
 ((((iM SR λq mask x i r=>if i<(q.Atoms.length:Int)then r (jD q mask x i 0)else qi x r)/\
 (iM jD λq mask x i k r=>qG q.Atoms i (λu1=>qL (r (SR q mask x (w (i+1)))) λk1=>if k<(u1.Vars.length:Int)then ¬i<0/\if(Ai (As mask i) 1)=1 then qG u1.Vars k (λu2=>¬u2<0/\r (jD q mask (Az x (Ac 1 u2)) i (w (k+1))))else k1 else k1)))/\
 ((iM Un λa a1 r=>r (SR a a1 0 0))/\
 (iM SS λq mask out bits i r=>if i<(q.Atoms.length:Int)then ¬i<0/\qL (r (SS q mask out bits (w (i+1)))) λk1=>if(Ai (As mask i) 1)=0 then qI (Un q (Ac 1 i)) (λu1=>if(Ai u1 bits)=0 then k1 else r (SS q mask (Az out (Ac 1 i)) bits (w (i+1))))else k1 else qi out r)))/\
 (((iM Zoc λa a1 r=>qI (Un a a1) (λu1=>r (SS a a1 0 u1 0)))/\
 (iM jE λq mask x n r=>if n<(q.Atoms.length:Int)then qI (Zoc q x) (λu1=>r (jE q mask (Az x (Ai u1 mask)) (w (n+1))))else qb (decide (x=mask)) r))/\
 ((iM MB λa a1 r=>r (jE a a1 (Ai a1 (w (0-a1))) 0))/\
 ((iM UD λa a1 r=>qB (SQ a a1) (if 0<a1 then qV (MB a a1) (λu2=>qb u2 r)else qb false r) (qb false r))/\
 (iM jF λx r=>∃(u1:Zo) (u2:Zc),ZnZ x=some (.agg (u2.c.map .t),[.box (u1.c.map .t)])/\qI (Wv u2) (λu3=>qB (UD u2 u3) (r (some (.agg (u2.c.map .t),[.box (u1.c.map .t)]))) (fS (i6 (⟨#[114,40,88,89,41,32,115,40,89,90,41]⟩:KI)) (λu5 u6 u7=>R8 u6 u5 u1 r)))))))):=by
 refine qu ?_
 and_intros
 all_goals(intros;unfold Im;(try simp only[i8,i9,jA,jB,ZnX,ZnY,ZnZ,Wv,SQ,SR,jD,Un,SS,Zoc,jE,MB,UD,jF,H9,i6,Xo,ZR,Zo.c_def,Kj,Zc.c_def,Z0,Kk,i7,Bm,Zu9,A7,AY]);(try simp only[AZ]);(try simp only[A0,gS,kk]))
 all_goals(repeat' first|refine Bs λ_=>?_|refine Br λ_ _=>?_|refine Bq λ_=>?_|refine AL ?_ ?_|exact False.elim)
 all_goals(intro h;first|rw[Zk SN.eq_1]|refine Xx ZJm rfl ?_|refine Xx ZCh rfl ?_|refine Xx ZJn rfl ?_|refine run ZJo rfl ?_|refine run ZJp rfl ?_|rw[Zk Zoa.eq_1]|rw[Zk Zu6.eq_1]|refine run ZJq rfl ?_|rw[Zk ZuA.eq_1]|refine run ZJr rfl ?_|rw[Zk ZuD.eq_1]|refine run ZJs rfl ?_|refine run ZJt rfl ?_|refine Xx ZJu rfl ?_)
 all_goals (refine Yd ?_ h;clear h;simp +decide[*,kk,tI,Ax,SP,SO,Z7j,ZtJ,Z7m,Z7l,Z7n,Z7o,Zu8,Zu7,Z7p,Z7q,ZuB,Z7r,ZuE,Z7s,Z7t,Z7w,Z7v])
abbrev XG:=uq ZNp
def ZNq:(((iM ME λq out mask m r=>if m<mask then qL (r (ME q out mask (w (m+1)))) λk1=>if(Ai m mask)=m then qB (MB q m) (qB (MB q (w (mask-m))) (qN out (r (ME q (out++[m]) mask (w (m+1))))) k1) k1 else k1 else Bn out r)/\
 (iM MD λa a1 r=>qB (UD a a1) (r (ME a ([]:V2) a1 1)) (Bn ([]:V2) r)))/\
 ((iM ST λout mask i r=>if i<4 then qB (Z0 mask 0 15) (¬i<0/\if(Ai (As mask i) 1)=1 then qN out (r (ST (out++[i]) mask (w (i+1))))else r (ST out mask (w (i+1)))) (Bn out r)else Bn out r)/\
 (iM Ib λa r=>r (ST ([]:V2) a 0))))/\
 (((iM SU λa r=>R9 ([(⟨1,a,0⟩:Zn)]) r)/\
 (iM Jx λa a1 a2 a3 r=>qM a.Steps (a.Steps.length+a1.Steps.length<=68719476736/\a.Steps.length+a1.Steps.length+1<=68719476736/\R9 ((a.Steps++a1.Steps)++[(⟨a2,0,a3⟩:Zn)]) r)))/\
 ((iM MG λout bits v r=>if v<4 then ¬v<0/\if(Ai (As bits v) 1)=1 then qN out (r (MG (out++[v]) bits (w (v+1))))else r (MG out bits (w (v+1)))else Bn out r)/\
 (iM MF λa r=>r (MG ([]:V2) a 0)))):=by
 refine qu ?_
 and_intros
 all_goals(intros;unfold Im;(try simp only[ME,MD,ST,Ib,SU,Jx,MG,MF,MB,Zc.c_def,UD,Z0,Bm,A7,AY]);(try simp only[AZ]);(try simp only[A0,gS,kk]))
 all_goals(repeat' first|refine Bs λ_=>?_|refine Br λ_ _=>?_|refine Bq λ_=>?_|refine AL ?_ ?_|exact False.elim)
 all_goals(intro h;first|rw[Zk ZuF.eq_1]|refine run ZJv rfl ?_|rw[Zk ZuH.eq_1]|refine run ZJw rfl ?_|refine run ZJx rfl ?_|refine run ZJy rfl ?_|rw[Zk ZuJ.eq_1]|refine run ZJz rfl ?_)
 all_goals (refine Yd ?_ h;clear h;simp +decide[*,kk,tI,Ax,Z7x,ZuG,Z7y,Z7z,ZuI,Z70,Z71,Z72,Z73,ZuK,Z74])
abbrev Ur:=uq ZNq
def ZNr:iM Kk λc Zi Aq x Aj x1 n r=>if 0<n then ∃(u1:Zo),∃u2,ZR c 5=some (I u2,[.box (u1.c.map .t)])/\qG ([(⟨#[114]⟩:KI),(⟨#[115]⟩:KI),(⟨#[116]⟩:KI),(⟨#[117]⟩:KI),(⟨#[118]⟩:KI)]) u2 (λu3=>qH ([2,2,2,3,1]) u2 (λu4=>∃(u5:Zo),∃u6,ZR u1 4=some (I u6,[.box (u5.c.map .t)])/\r (jA u5 Zi Aq x Aj x1 u3 n u4 u6 0)))else qB (Kj (⟨Aj,x1⟩:Zc)) (r (some (.agg [I Aj,.own 1],[.box (c.c.map .t),.arr 110 2 true (x1.map Zd.c)]))) (r (some (.agg [I Aq,.own 1],[.box (c.c.map .t),.arr 110 2 true (x.map Zd.c)]))):=by
 refine qu ?_;intro c Zi Aq x Aj x1 n r;unfold Im;intro h;unfold Kk;(try simp only[Bm]);rw[Zk Gu.eq_1];simp only[ZR,Kj,Zo.c_def,Zc.c_def,A7,AY,Bm]at h
 try simp only[AZ]at h
 try simp only[A0,gS,kk]at h
 rcases h with⟨q1,v,v1,q2,q3,e2,⟨g4,q4⟩,e3,⟨g5,q5⟩,v2,v3,q6,h⟩|⟨q1,v4,q7,(⟨q8,h⟩|⟨q8,h⟩)⟩
 all_goals try (have Cs:=R0 sc g4 q4;simp only[Yv,De,AY]at Cs;obtain⟨o9,Cs⟩:=Cs;have pA:v1<5:=by(have y:=g4;simp at y;omega))
 all_goals try (have DB:=R0 ic g5 q5;simp only[Yv,De,AY]at DB;obtain⟨AaD,DB⟩:=DB;have AaE:v1<5:=by(have y:=g5;simp at y;omega))
 all_goals (refine Yd ?_ h;clear h;simp +decide[*,kk,tI,Ax,jA,Gv,Bm])
abbrev Z1V:=uq ZNr
def ZNs:(((iM Q9 λa a1 r=>qB (SQ a a1) (qI (Un a a1) (λu2=>AX (MF u2) (λu3=>Bn u3 r))) (Bn ([]:V2) r))/\
 ((iM SV λout x y i r=>if i<(x.length:Int)then qG x i (λu1=>qB (VW y u1) (qN out (r (SV (out++[u1]) x y (w (i+1))))) (r (SV out x y (w (i+1)))))else Bn out r)/\
 (iM Ic λa a1 a2 r=>AX (Q9 a a1) (λu1=>AX (Q9 a a2) (λu2=>r (SV ([]:V2) u1 u2 0))))))/\
 ((iM SW λa a1 r=>qB (Z0 a1 0 3) (¬a1<0/\qb (decide ((Ai (As a a1) 1)=1)) r) (qb false r))/\
 ((iM SZ λx x1 x2 a b y v r=>if x1.Kind=4 then qB (SW v x1.Order) (if a.Order=x1.Order then if b.Order=x1.Order then r (some (.tup [.agg [I y.Mask,I x1.Order,I y.Left,I y.Right],I 2],[]))else Wt r else Wt r) (Wt r)else r (some (.tup [.agg (y.c.map .t),I 2],[])))/\
 (iM MI λx x1 x2 a b y v x3 r=>if x1.Kind=4 then qB (SW v x1.Order) (if a.Order=x1.Order then if b.Order=x1.Order then r (some (.tup [.agg [I y.Mask,I x1.Order,I y.Left,I y.Right],I 2],[]))else Wt r else Wt r) (Wt r)else r (some (.tup [.agg (y.c.map .t),I 2],[]))))))/\
 (((iM MH λa a1 a2 a3 r=>if a1.Kind=1 then qB (Z0 a1.Zd 0 (w ((a.Atoms.length:Int)-1))) (if a1.Order=0 then ¬a1.Zd<0/\qG a.Atoms a1.Zd (λu2=>∃u3,u2.Vars[0]?=some u3/\r (some (.tup [.agg [I (Ac 1 a1.Zd),I u3,I (-1),I (-1)],I 0],[])))else Wt r) (Wt r)else qL (a3.length:Int) λk1=>qL (w (k1-1)) λk3=>if a1.Kind=2 then if a1.Zd=0 then if k1<1 then Wt r else 0<=k3/\∃u1,a3[k3.toNat]?=some u1/\qG a2 u1 (λu2=>if u2.Order=a1.Order then Wt r else qI (Un a u2.Mask) (λu3=>qB (SW u3 a1.Order) (r (some (.tup [.agg [I u2.Mask,I a1.Order,I u1,I (-1)],I 1],[]))) (Wt r)))else Wt r else qL (⟨0,0,0,0⟩:Zf) λk4=>qL (r (SY a a1 k4 a2 a3 k1 a1.Kind true)) λk2=>if a1.Kind=3 then k2 else if a1.Kind=4 then k2 else if a1.Kind=5 then if a1.Zd=0 then if k1<2 then Wt r else 0<=(w (k1-2))/\∃u1,a3[(w (k1-2)).toNat]?=some u1/\qG a2 u1 (λu2=>0<=k3/\∃u3,a3[k3.toNat]?=some u3/\qG a2 u3 (λu4=>qI (Un a u2.Mask) (λu5=>qI (Un a u4.Mask) (λu6=>if(Ai u2.Mask u4.Mask)=0 then if(Ai u5 u6)=0 then Wt r else if a1.Order=0 then r (SZ a a1 k4 u2 u4 (⟨(Az u2.Mask u4.Mask),u2.Order,u1,u3⟩:Zf) (Ai u5 u6))else Wt r else Wt r))))else Wt r else Wt r)/\
 ((iM jG λq p info stack i r=>qL (fQ ([]:List Zf) r) λk2=>if i<(p.Steps.length:Int)then qG p.Steps i (λu1=>∃(u2:Zf),∃u3,MH q u1 info stack=some (.tup [.agg (u2.c.map .t),I u3],[])/\if u3<0 then k2 else qN info (qL (w ((stack.length:Int)-u3)) λk1=>0<=k1/\k1.toNat<=stack.length/\k1.toNat<=68719476736/\k1.toNat+1<=68719476736/\r (jG q p (info++[u2]) ((stack.take (k1.toNat))++[i]) (w (i+1)))))else if(stack.length:Int)=1 then Zno info r else k2)/\
 (iM Qh λa a1 r=>qL ([]:List Zf) λk1=>qB (Kj a) (qB (Z0 (a1.Steps.length:Int) 1 14) (r (jG a a1 k1 ([]:V2) 0)) (fQ k1 r)) (fQ k1 r))))/\
 ((iM S0 λa a1 r=>Gk (Qh a a1) (λu1 u2=>if u2=true then qL (w ((u1.length:Int)-1)) λk1=>0<=k1/\∃u3,u1[k1.toNat]?=some u3/\qi u3.Order r else qi (-1) r))/\
 ((iM S2 λa a1 r=>qM a.Steps (qN a.Steps (R9 (a.Steps++[(⟨2,0,a1⟩:Zn)]) r)))/\
 (iM MJ λx a a1 r=>AX (MD a a1) (λu1=>if(u1.length:Int)=0 then AX (Ib a1) (λu2=>if(u2.length:Int)=0 then Qb (SU 0) (λu3=>Jt x u3 r)else ∃u3,u2[0]?=some u3/\Qb (SU u3) (λu4=>Jt x u4 r))else BW (ZR x (u1.length:Int)) (λu2 u3=>qG u1 u3 (λu4=>fT (MJ u2 a u4) (λu5 u6=>fT (MJ u5 a (w (a1-u4))) (λu7 u8=>BW (ZR u7 3) (λu9 u10=>qL (⟨u8⟩:Zr) λk1=>qL (⟨u6⟩:Zr) λk2=>if u10=0 then Qb (Jx k2 k1 3 0) (λu11=>Jt u9 u11 r)else if u10=1 then Qb (Jx k2 k1 5 0) (λu11=>Jt u9 u11 r)else AX (Ic a u4 (w (a1-u4))) (λu11=>BW (ZR u9 (u11.length:Int)) (λu12 u13=>qG u11 u13 (λu14=>qI (S0 a k2) (λu15=>if u15=u14 then qI (S0 a k1) (λu16=>if u16=u14 then Qb (Jx k2 k1 4 u14) (λCT=>Jt u12 CT r)else Qb (S2 k1 u14) (λCT=>Qb (Jx k2 (⟨CT⟩:Zr) 4 u14) (λDh=>Jt u12 Dh r)))else Qb (S2 k2 u14) (λu16=>qI (S0 a k1) (λCT=>if CT=u14 then Qb (Jx (⟨u16⟩:Zr) k1 4 u14) (λDh=>Jt u12 Dh r)else Qb (S2 k1 u14) (λDh=>Qb (Jx (⟨u16⟩:Zr) (⟨Dh⟩:Zr) 4 u14) (λFA=>Jt u12 FA r)))))))))))))))))):=by
 refine qu ?_
 and_intros
 all_goals(intros;unfold Im;(try simp only[Q9,SV,Ic,SW,MH,jG,Qh,S0,S2,MJ,SQ,Un,MF,Zc.c_def,VW,Z0,Zn.c_def,Zf.c_def,Kj,Zr.c_def,MD,Ib,SU,ZR,Jx,Zo.c_def,SY,SZ,MI,Bm,A7,AY]);(try simp only[AZ]);(try simp only[A0,gS,kk]))
 all_goals(repeat' first|refine Bs λ_=>?_|refine Br λ_ _=>?_|refine Bq λ_=>?_|refine AL ?_ ?_|exact False.elim)
 all_goals(intro h;first|refine run ZJ0 rfl ?_|rw[Zk ZuL.eq_1]|refine run ZJ1 rfl ?_|refine run ZJ2 rfl ?_|rw[HW Zoi.eq_1]|refine run ZJ3 rfl ?_|rw[Zk ZuO.eq_1]|refine run ZJ4 rfl ?_|refine run ZJ5 rfl ?_|refine run ZJ6 rfl ?_|refine Xx ZJ7 rfl ?_)
 all_goals (refine Yd ?_ h;clear h;simp +decide[*,kk,tI,Ax,Z75,Z76,ZuM,Z77,Z78,Z79,Z7A,Zoj,ZuP,Z7B,Z7C,Z7D,Z7G,Z7E,Z7F])
abbrev X6:=uq ZNs
def ZNt:iM SY λq x x1 info stack n x2 x3 r=>if x3=true then if x.Zd=0 then if n<2 then Wt r else 0<=(w (n-2))/\∃u1,stack[(w (n-2)).toNat]?=some u1/\qG info u1 (λu2=>0<=(w (n-1))/\∃u3,stack[(w (n-1)).toNat]?=some u3/\qG info u3 (λu4=>qI (Un q u2.Mask) (λu5=>qI (Un q u4.Mask) (λu6=>if(Ai u2.Mask u4.Mask)=0 then if(Ai u5 u6)=0 then Wt r else qL (r (MI q x x1 u2 u4 (⟨(Az u2.Mask u4.Mask),(-1),u1,u3⟩:Zf) (Ai u5 u6) false)) λk1=>if x.Kind=4 then k1 else if x.Order=0 then if x.Kind=5 then r (SZ q x x1 u2 u4 (⟨(Az u2.Mask u4.Mask),u2.Order,u1,u3⟩:Zf) (Ai u5 u6))else k1 else Wt r else Wt r))))else Wt r else Wt r:=by
 refine qu ?_;intro q x x1 info stack n x2 x3 r;unfold Im;intro h;unfold SY;(try simp only[Bm]);rw[HW Zoj.eq_1];by_cases q1:x3=true
 .rw[Ya q1]at h;by_cases q2:x.Zd=0
  .rw[Ya q2]at h;replace q2:=eq_true q2;by_cases q3:n<2
   .rw[Ya q3]at h;refine Yd ?_ h;clear h;simp +decide[*,tI,Ax,Bm]
   .rw[Yb q3]at h;obtain⟨q4,h⟩:=h;obtain⟨e1,q5,h⟩:=h;have gq5:=Wk q5;have kq5:=Ws q5;obtain⟨q6,h⟩:=h;obtain⟨e2,q7,h⟩:=h;have gq7:=Wk q7;have kq7:=Ws q7;obtain⟨q8,h⟩:=h;obtain⟨e3,q9,h⟩:=h;have gq9:=Wk q9;have kq9:=Ws q9;obtain⟨q10,h⟩:=h;obtain⟨e4,q11,h⟩:=h;have pD:=Wk q11;have pE:=Ws q11;obtain⟨v,q12,h⟩:=h;unfold Un at q12
    try simp[Bm]at q12
    obtain⟨v1,q13,h⟩:=h;unfold Un at q13
    try simp[Bm]at q13
    by_cases BK:(Ai e2.Mask e4.Mask)=0
    .rw[Ya BK]at h;replace BK:=eq_true BK;by_cases B9:(Ai v v1)=0
     .rw[Ya B9]at h;replace B9:=eq_true B9;refine Yd ?_ h;clear h;simp +decide[*,tI,Ax,Bm]
     .rw[Yb B9]at h;replace B9:=eq_false B9;by_cases q16:x.Kind=4
      .rw[Ya q16]at h;replace q16:=eq_true q16;have CU:(x.Kind=5)=False:=eq_false (by intro hh;simp_all);refine Yd ?_ h;clear h;simp +decide[*,tI,Ax,MI,Bm]
      .rw[Yb q16]at h;replace q16:=eq_false q16;by_cases Ca:x.Order=0
       .rw[Ya Ca]at h;replace Ca:=eq_true Ca;by_cases CV:x.Kind=5
        .rw[Ya CV]at h;replace CV:=eq_true CV;refine Yd ?_ h;clear h;simp +decide[*,tI,Ax,SZ,Bm]
        .rw[Yb CV]at h;replace CV:=eq_false CV;refine Yd ?_ h;clear h;simp +decide[*,tI,Ax,MI,Bm]
       .rw[Yb Ca]at h;replace Ca:=eq_false Ca;refine Yd ?_ h;clear h;simp +decide[*,tI,Ax,Bm]
    .rw[Yb BK]at h;replace BK:=eq_false BK;refine Yd ?_ h;clear h;simp +decide[*,tI,Ax,Bm]
  .rw[Yb q2]at h;replace q2:=eq_false q2;refine Yd ?_ h;clear h;simp +decide[*,tI,Ax,Bm]
 .rw[Yb q1]at h;refine Yd ?_ h;clear h;simp +decide[*,tI,Ax,Bm]
abbrev pF:=uq ZNt
def ZNu:((((iM S4 λa b i r=>if i<(a.Groups.length:Int)then qG a.Groups i (λu1=>qH b.Groups i (λu2=>qI (Vy u1.Columns u2.Columns) (λu3=>if u3=0 then qI (Vy u1.Counts u2.Counts) (λu4=>if u4=0 then if(u1.Values.length:Int)=(u2.Values.length:Int)then r (jI a b u1 u2 i 0)else qb false r else qb false r)else qb false r)))else qb true r)/\
 (iM jI λa b x y i k r=>if k<(x.Values.length:Int)then qG x.Values k (λu1=>qH y.Values k (λu2=>qI (Vy u1 u2) (λu3=>if u3=0 then r (jI a b x y i (w (k+1)))else qb false r)))else r (S4 a b (w (i+1)))))/\
 ((iM S3 λa a1 r=>qL (qb false r) λk1=>if a.Name=a1.Name then if a.Arity=a1.Arity then if a.RowCount=a1.RowCount then if(a.Groups.length:Int)=(a1.Groups.length:Int)then r (S4 a a1 0)else k1 else k1 else k1 else k1)/\
 (iM jJ λa b i r=>if i<(a.Tables.length:Int)then qG a.Tables i (λu1=>qH b.Tables i (λu2=>qB (S3 u1 u2) (r (jJ a b (w (i+1)))) (qb false r)))else qb true r)))/\
 (((iM Zol λa a1 r=>if a.Version=a1.Version then if(a.Tables.length:Int)=(a1.Tables.length:Int)then r (jJ a a1 0)else qb false r else qb false r)/\
 (iM Zom λa r=>∃(u1:ZM),∃u2,SI a.Zj a.ZM.Version=some (.tup [.agg (u1.c.map .t),Bo u2],[])/\if u2=true then qB (Zol u1 a.ZM) (qV (SJ a.Zj a.Dependencies a.Inclusions) (λu4=>qb u4 r)) (qb false r)else qb false r))/\
 ((iM S5 λd q i r=>if i<(q.Atoms.length:Int)then qG q.Atoms i (λu1=>(∃u2 u3 u4,WG d u1.Name=some (.tup [.agg [.t (.str u2),I u3,.t .nil],Bo u4],[])/\if u4=true then if u3=(u1.Vars.length:Int)then r (S5 d q (w (i+1)))else qb false r else qb false r)\/(∃(u2:XS),∃u3,∃u4,WG d u1.Name=some (.tup [.agg [.t (.str u3),I u4,.own 0],Bo true],[.arr 38 1 true (u2.map Ae)])/\if u4=(u1.Vars.length:Int)then r (S5 d q (w (i+1)))else qb false r))else qb true r)/\
 ((iM QA λa a1 r=>qB (Kj a1) (r (S5 a a1 0)) (qb false r))/\
 (iM VG λa a1 a2 r=>qB (Zom a) (qB (QA a.Zj a1) (qI (Wv a1) (λu3=>qV (Z0 a2 1 u3) (λu4=>qb u4 r))) (qb false r)) (qb false r))))))/\
 ((((iM S6 λa v k r=>if k<(a.Vars.length:Int)then qG a.Vars k (λu1=>if u1=v then qi k r else r (S6 a v (w (k+1))))else qi (-1) r)/\
 (iM Gw λa a1 r=>r (S6 a a1 0)))/\
 ((iM MK λs q v mask i k r=>if k<(q.Atoms.length:Int)then ¬k<0/\qL (r (MK s q v mask i (w (k+1)))) λk2=>if(Ai (As mask k) 1)=0 then k2 else qG q.Atoms k (λu1=>∃u2,v[0]?=some u2/\qB (VW u1.Vars u2) (qI (Gw u1 u2) (λu4=>qG q.Atoms i (λu5=>qI (Gw u5 u2) (λu6=>qL (r (jL s q v (⟨u1.Name,u4,u5.Name,u6⟩:Z2) mask i k 0)) λk1=>if u1.Name=u5.Name then if u4=u6 then qb true r else k1 else k1)))) k2)else qb false r)/\
 (iM jL λs q v want mask i k j r=>if j<(s.Inclusions.length:Int)then qG s.Inclusions j (λu1=>if u1.Name=want.Name/\u1.Column=want.Column/\u1.Into=want.Into/\u1.IntoColumn=want.IntoColumn then qb true r else r (jL s q v want mask i k (w (j+1))))else r (MK s q v mask i (w (k+1))))))/\
 (((iM Zoo λa a1 a2 a3 r=>qL (qb false r) λk1=>qB (VG a a1 a2) (qB (Z0 a3 0 (w ((a1.Atoms.length:Int)-1))) (¬a3<0/\if(Ai (As a2 a3) 1)=1 then k1 else AX (Ic a1 a2 (Ac 1 a3)) (λu3=>if(u3.length:Int)=1 then r (MK a a1 u3 a2 a3 0)else k1)) k1) k1)/\
 (iM jM λorder s q mask used i r=>if i<(order.length:Int)then qG order i (λu1=>¬u1<0/\r (jM order s q mask (Az used (Ac 1 u1)) (w (i+1))))else if used=mask then Bn order r else r (Km order s q mask used 0)))/\
 ((iM Km λorder s q mask used i r=>if i<(q.Atoms.length:Int)then ¬i<0/\qL (r (Km order s q mask used (w (i+1)))) λk1=>if(Ai (As mask i) 1)=1 then qB (Zoo s q used i) (qM order (qN order (qL (Kl (order++[i]) s q mask) λk2=>(AX k2 (λu2=>if 0<(u2.length:Int)then fU order u2 r else k1))\/(Znp k2 (λu2 u3=>if 0<(u3.length:Int)then fU order u3 r else k1))))) k1 else k1 else fU order ([]:V2) r)/\
 ((iM Kl λx a a1 a2 r=>r (jM x a a1 a2 0 0))/\
 (iM S8 λa a1 a2 a3 r=>qL (Bn ([]:V2) r) λk1=>qB (VG a a1 a2) (qB (Z0 a3 0 (w ((a1.Atoms.length:Int)-1))) (¬a3<0/\if(Ai (As a2 a3) 1)=0 then k1 else(AX (Kl ([a3]) a a1 a2) (λu3=>Bn u3 r))\/(Znp (Kl ([a3]) a a1 a2) (λu3 u4=>Bn u4 r))) k1) k1))))):=by
 refine qu ?_
 and_intros
 all_goals(intros;unfold Im;(try simp only[S4,jI,S3,jJ,Zol,Zom,S5,QA,VG,S6,Gw,MK,jL,Zoo,jM,Km,Kl,S8,Vy,Z1.c_def,SI,SJ,ZM.c_def,Zj.c_def,Z9.c_def,Z2.c_def,WG,Kj,Zc.c_def,Wv,Z0,Zs.c_def,VW,Zd.c_def,Ic,Bm,ZuU,Zvh,A7,AY]);(try simp only[AZ]);(try simp only[A0,gS,kk]))
 all_goals(repeat' first|refine Bs λ_=>?_|refine Br λ_ _=>?_|refine Bq λ_=>?_|refine AL ?_ ?_|exact False.elim)
 all_goals(intro h;first|rw[Zk Zok.eq_1]|rw[Zk ZuR.eq_1]|refine run ZJ8 rfl ?_|rw[Zk ZuW.eq_1]|refine run ZJ9 rfl ?_|refine run ZJA rfl ?_|rw[Zk ZuZ.eq_1]|refine run ZJB rfl ?_|refine run ZJC rfl ?_|rw[Zk Zvc.eq_1]|refine run ZJD rfl ?_|rw[Zk Zon.eq_1]|rw[Zk Zve.eq_1]|refine run ZJE rfl ?_|rw[Zk Zvi.eq_1]|rw[Zk Zvj.eq_1]|refine Xx ZJF rfl ?_|refine run ZJG rfl ?_)
 all_goals (refine Yd ?_ h;clear h;simp +decide[*,kk,tI,Ax,ZuT,ZuS,Z7H,ZuX,Z7I,Z7J,Zva,Z7K,Z7L,Zvd,Z7M,Zvf,Zvg,Z7N,Zvl,Z7O,Zvk,Z7P,Z7Q])
abbrev X8:=uq ZNu
def ZNv:((iM Zvq λName Arity Al Ah rows i r=>if i<(rows.length:Int)then qG rows i (λu1=>Vb (KE u1) (λu2=>r (jO Name Arity Al Ah u2 rows (w (i+1)))))else qB (H6 Al Ah) (r (some (.tup [.agg [.t (.str Al),I Ah,.own 0],Bo true],[.arr 38 1 true (([]:XS).map Ae)]))) (fR ([]:XS) r))/\
 (iM jO λName Arity Al Ah x rows i r=>qL (qB (Jw (⟨Al,Ah,x⟩:Zl)) (r (some (.tup [.agg [.t (.str Al),I Ah,.own 0],Bo true],[.arr 38 1 true (x.map Ae)]))) (fR ([]:XS) r)) λk1=>if i<(rows.length:Int)then if(x.length:Int)<=8 then qG rows i (λu1=>Vb (Kh x u1) (λu2=>r (jO Name Arity Al Ah u2 rows (w (i+1)))))else k1 else k1))/\
 ((iM Zop λa a1 a2 r=>r (Zvq (⟨#[]⟩:KI) 0 a a1 a2 0))/\
 ((iM Zoq λa r=>qL (a.Groups.length:Int) λk1=>if k1=0 then fR ([]:XS) r else 0<=(w (k1-1))/\∃u1,a.Groups[(w (k1-1)).toNat]?=some u1/\∃(u2:XS),∃u3,∃u4,∃u5,Zop a.Name a.Arity u1.Values=some (.tup [.agg [.t (.str u3),I u4,.own 0],Bo u5],[.arr 38 1 true (u2.map Ae)])/\r (some (.tup [.agg [.t (.str u3),I u4,.own 0],Bo u5],[.arr 38 1 true (u2.map Ae)])))/\
 (iM Gx λa r=>∃(u1:XS),∃u2,∃u3,∃u4,Zoq a=some (.tup [.agg [.t (.str u2),I u3,.own 0],Bo u4],[.arr 38 1 true (u1.map Ae)])/\if u4=true then ∃(u5:Z1),My (⟨u2,u3,u1⟩:Zl)=some (.agg (u5.c.map .t),[])/\qV (S3 u5 a) (λu6=>qb u6 r)else qb false r))):=by
 refine qu ?_
 and_intros
 all_goals(intros;unfold Im;(try simp only[Zvq,jO,Zop,Zoq,Gx,KE,H6,Kh,Jw,Zl.c_def,My,S3,Z1.c_def,Zvp,Bm,A7,AY]);(try simp only[AZ]);(try simp only[A0,gS,kk]))
 all_goals(repeat' first|refine Bs λ_=>?_|refine Br λ_ _=>?_|refine Bq λ_=>?_|refine AL ?_ ?_|exact False.elim)
 all_goals(intro h;first|rw[Zk Zvn.eq_1]|refine run ZJH rfl ?_|refine run ZJI rfl ?_|refine run ZJJ rfl ?_)
 all_goals (refine Yd ?_ h;clear h;simp +decide[*,kk,tI,Ax,Zvo,Z7R,Z7S,Z7T])
abbrev aG:=uq ZNv
