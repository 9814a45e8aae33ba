/-
  Parts of the proofs for this seat: G7 G8 G9.
-/
import Derived.Test.YtggcnlojfngdeaaGreatP13
set_option linter.all false
set_option maxRecDepth 100000
set_option maxHeartbeats 4000000
namespace Go.Proofs.YtggcnlojfngdeaaGreat
open Go.AM
def Zpi{α β:Type}(f:α->β){l:List α}{i:Nat}{e:α}(g:i<l.length)(q:l[i]=e):∃g2:i<(l.map f).length,(l.map f)[i]=f e:=⟨by simpa using g,by simp[q]⟩
def ZHC:iM cT λc Zg An x Ah n r=>if 0<n then ∃(u1:Zl),∃u2,ZT c 5=some (I u2,[.box (u1.c.map .t)])/\qG ([(⟨#[114]⟩:V5),(⟨#[115]⟩:V5),(⟨#[116]⟩:V5),(⟨#[117]⟩:V5),(⟨#[118]⟩:V5)]) u2 (λu3=>qH ([2,2,2,3,1]) u2 (λu4=>∃(u5:Zl),∃u6,ZT u1 4=some (I u6,[.box (u5.c.map .t)])/\r (cU u5 Zg An x Ah u3 n u4 u6 0)))else qB (cR Ah) (r (some (.agg [I Ah,.own 1],[.box (c.c.map .t),.xarr 105 2 (([]:List Zd).map Zd.c)]))) (r (some (.agg [I An,.own 1],[.box (c.c.map .t),.xarr 105 2 (x.map Zd.c)]))):=by
 refine qu ?_;intro c Zg An x Ah n r;unfold Im;intro h;unfold cT
 try simp only[Ar]
 rw[Zk JX.eq_1];simp only[ZT,cR,Zl.c_def,Bf,A7,Ar]at h
 try simp only[Bc]at h
 try simp only[Bd,gS,kk]at h
 rcases h with⟨q1,v,v1,q2,q3,e2,⟨g4,q4⟩,e3,⟨g5,q5⟩,v2,v3,q6,h⟩|⟨q1,v4,q7,(⟨q8,h⟩|⟨q8,h⟩)⟩
 all_goals try (have B9:=Zpi sc g4 q4;simp only[Yx,Dm,A7]at B9;obtain⟨jR,B9⟩:=B9;have jS:v1<5:=by(have y:=g4;simp at y;omega))
 all_goals try (have Df:=Zpi ic g5 q5;simp only[Yx,Dm,A7]at Df;obtain⟨AaJ,Df⟩:=Df;have AaK:v1<5:=by(have y:=g5;simp at y;omega))
 all_goals (refine Yg ?_ h;clear h;simp +decide[*,kk,tI,Az,cU,JY,Ar])
abbrev Z8f:=uq ZHC
def ZHD:((iM cU λc Zg An x Ah Name n m v i r=>if i<m then r (cV c Zg An x (if Ah<(w (v+1))then(w (v+1))else Ah) Name ([v]) n m (Int.tmod (w (v+1)) 4) (w (i+1)))else r (QY c Zg An x Ah ([(⟨Name,[]⟩:Zd)]) (w (n-1))))/\
 (iM cV λc Zg An x Ah Name x1 n m v i r=>if i<m then qN x1 (r (cV c Zg An x (if Ah<(w (v+1))then(w (v+1))else Ah) Name (x1++[v]) n m (Int.tmod (w (v+1)) 4) (w (i+1))))else r (QY c Zg An x Ah ([(⟨Name,x1⟩:Zd)]) (w (n-1)))))/\
 ((iM cW λc Zg An x Ah x1 Name n m v i r=>if i<m then r (cX c Zg An x (if Ah<(w (v+1))then(w (v+1))else Ah) x1 Name ([v]) n m (Int.tmod (w (v+1)) 4) (w (i+1)))else qN x1 (r (QY c Zg An x Ah (x1++[(⟨Name,[]⟩:Zd)]) (w (n-1)))))/\
 ((iM cX λc Zg An x Ah x1 Name x2 n m v i r=>if i<m then qN x2 (r (cX c Zg An x (if Ah<(w (v+1))then(w (v+1))else Ah) x1 Name (x2++[v]) n m (Int.tmod (w (v+1)) 4) (w (i+1))))else qN x1 (r (QY c Zg An x Ah (x1++[(⟨Name,x2⟩:Zd)]) (w (n-1)))))/\
 (iM LE λx r=>∃(u1:Zl),∃(u2:List V5),∃u3,Q2 x ([(⟨#[114,40,88,89,41]⟩:V5),(⟨#[114,40,88,89,41,32,115,40,89,90,41]⟩:V5),(⟨#[114,40,88,89,41,32,115,40,89,90,41,32,116,40,90,85,41]⟩:V5),(⟨#[114,40,88,89,41,32,115,40,89,90,41,32,116,40,90,88,41]⟩:V5),(⟨#[114,40,88,89,41,32,115,40,88,90,41,32,116,40,88,85,41]⟩:V5),(⟨#[114,40,88,89,41,32,115,40,89,90,41,32,118,40,89,41]⟩:V5),(⟨#[117,40,88,89,90,41,32,115,40,90,85,41]⟩:V5),(⟨#[117,40,88,89,90,41,32,114,40,88,89,41,32,118,40,90,41]⟩:V5),(⟨#[114,40,88,89,41,32,115,40,89,90,41,32,116,40,90,85,41,32,118,40,88,41]⟩:V5),(⟨#[114,40,88,89,41,32,114,40,89,90,41]⟩:V5),(⟨#[114,40,88,89,41,32,115,40,89,88,41]⟩:V5),(⟨#[118,40,88,41,32,114,40,88,89,41,32,115,40,89,90,41,32,116,40,90,85,41]⟩:V5),(⟨#[114,40,88,89,41,32,115,40,89,90,41,32,116,40,90,85,41,32,115,40,85,88,41]⟩:V5)])=some (.t (.str u3),[.box (u1.c.map .t),.arr 9 1 true (u2.map sc)])/\aM (PP u3) (λu4 u5 u6=>UL (XJ u1 4) (λu7 u8=>if u8=true then BA (ZT u7 4) (λu9 u10=>r (cT u9 0 u5 u4 0 (w (1+u10))))else G2 u5 u7 u4 r))))):=by
 refine qu ?_
 and_intros
 all_goals(intros;unfold Im;(try simp only[cU,cV,cW,cX,LE,Q2,PP,XJ,ZT,Zl.c_def,QY,cT,Ar,Bf,A7]);(try simp only[Bc]);(try simp only[Bd,gS,kk]))
 all_goals(repeat' first|refine Br λ_=>?_|refine Bq λ_ _=>?_|refine Bp λ_=>?_|refine AL ?_ ?_|exact False.elim)
 all_goals(intro h;first|rw[Zk PS.eq_1]|refine XD ZEg rfl ?_)
 all_goals (refine Yg ?_ h;clear h;simp +decide[*,kk,tI,Az,PU,PT,Z36])
abbrev Jq:=uq ZHD
def ZHE:iM QY λc Zg An x Ah x1 n r=>if 0<n then ∃(u1:Zl),∃u2,ZT c 5=some (I u2,[.box (u1.c.map .t)])/\qG ([(⟨#[114]⟩:V5),(⟨#[115]⟩:V5),(⟨#[116]⟩:V5),(⟨#[117]⟩:V5),(⟨#[118]⟩:V5)]) u2 (λu3=>qH ([2,2,2,3,1]) u2 (λu4=>∃(u5:Zl),∃u6,ZT u1 4=some (I u6,[.box (u5.c.map .t)])/\r (cW u5 Zg An x Ah x1 u3 n u4 u6 0)))else qB (Q3 (⟨Ah,x1⟩:Zc)) (r (some (.agg [I Ah,.own 1],[.box (c.c.map .t),.xarr 105 2 (x1.map Zd.c)]))) (r (some (.agg [I An,.own 1],[.box (c.c.map .t),.xarr 105 2 (x.map Zd.c)]))):=by
 refine qu ?_;intro c Zg An x Ah x1 n r;unfold Im;intro h;unfold QY
 try simp only[Ar]
 rw[Zk JX.eq_1];simp only[ZT,Q3,Zl.c_def,Zc.c_def,Bf,A7,Ar]at h
 try simp only[Bc]at h
 try simp only[Bd,gS,kk]at h
 rcases h with⟨q1,v,v1,q2,q3,e2,⟨g4,q4⟩,e3,⟨g5,q5⟩,v2,v3,q6,h⟩|⟨q1,v4,q7,(⟨q8,h⟩|⟨q8,h⟩)⟩
 all_goals try (have B9:=Zpi sc g4 q4;simp only[Yx,Dm,A7]at B9;obtain⟨jR,B9⟩:=B9;have jS:v1<5:=by(have y:=g4;simp at y;omega))
 all_goals try (have Df:=Zpi ic g5 q5;simp only[Yx,Dm,A7]at Df;obtain⟨AaJ,Df⟩:=Df;have AaK:v1<5:=by(have y:=g5;simp at y;omega))
 all_goals (refine Yg ?_ h;clear h;simp +decide[*,kk,tI,Az,cW,JY,Ar])
abbrev Zzd:=uq ZHE
def ZHF:((((iM PV λx a r=>BA (ZT x (a.length:Int)) (λu1 u2=>qG a u2 (λu3=>r (some (.t (.str u3),[.box (u1.c.map .t)])))))/\
 (iM wT λx r=>Pm (LE x) (λu1 u2 u3=>if 3<(u2.length:Int)then UL (XJ u1 8) (λu4 u5=>if u5=true then Pn u3 u2 u4 r else ∃(u6:Zl),∃u7,PV u4 ([(⟨#[114,40,88,89,41,32,115,40,89,90,41]⟩:V5),(⟨#[114,40,88,89,41,32,115,40,89,90,41,32,116,40,90,88,41]⟩:V5),(⟨#[114,40,88,89,41,32,115,40,89,90,41,32,118,40,89,41]⟩:V5),(⟨#[114,40,88,89,41,32,114,40,89,90,41]⟩:V5)])=some (.t (.str u7),[.box (u6.c.map .t)])/\aM (PP u7) (λu8 u9 u10=>Pn u9 u8 u6 r))else Pn u3 u2 u1 r)))/\
 ((iM Wp λa r=>qB (Q3 a) (¬(a.Atoms.length:Int)<0/\qi (w ((Ac 1 (a.Atoms.length:Int))-1)) r) (qi 0 r))/\
 (iM PW λa a1 r=>qB (Q3 a) (¬(a.Atoms.length:Int)<0/\qV (Z0 a1 0 (w ((Ac 1 (a.Atoms.length:Int))-1))) (λu2=>qb u2 r)) (qb false r))))/\
 (((iM PX λq mask x i r=>if i<(q.Atoms.length:Int)then r (cZ q mask x i 0)else qi x r)/\
 (iM cZ λq mask x i k r=>qG q.Atoms i (λu1=>qL (r (PX q mask x (w (i+1)))) λk1=>if k<(u1.Vars.length:Int)then ¬i<0/\if(Aj (At mask i) 1)=1 then qG u1.Vars k (λu2=>¬u2<0/\r (cZ q mask (Au x (Ac 1 u2)) i (w (k+1))))else k1 else k1)))/\
 ((iM Uc λa a1 r=>r (PX a a1 0 0))/\
 (iM PY λq mask out bits i r=>if i<(q.Atoms.length:Int)then ¬i<0/\qL (r (PY q mask out bits (w (i+1)))) λk1=>if(Aj (At mask i) 1)=0 then qI (Uc q (Ac 1 i)) (λu1=>if(Aj u1 bits)=0 then k1 else r (PY q mask (Au out (Ac 1 i)) bits (w (i+1))))else k1 else qi out r))))/\
 ((((iM wW λa a1 r=>qI (Uc a a1) (λu1=>r (PY a a1 0 u1 0)))/\
 (iM c7 λq mask x n r=>if n<(q.Atoms.length:Int)then qI (wW q x) (λu1=>r (c7 q mask (Au x (Aj u1 mask)) (w (n+1))))else qb (decide (x=mask)) r))/\
 ((iM JZ λa a1 r=>r (c7 a a1 (Aj a1 (w (0-a1))) 0))/\
 (iM Q4 λa a1 r=>qB (PW a a1) (if 0<a1 then qV (JZ a a1) (λu2=>qb u2 r)else qb false r) (qb false r))))/\
 (((iM c8 λx r=>aN (wT x) (λu1 u2=>qI (Wp u2) (λu3=>qB (Q4 u2 u3) (r (some (.agg (u2.c.map .t),[.box (u1.c.map .t)]))) (aM (PP (⟨#[114,40,88,89,41,32,115,40,89,90,41]⟩:V5)) (λu5 u6 u7=>Pn u6 u5 u1 r)))))/\
 (iM c9 λx r=>∃(u1:Zl) (u2:Zf),bE x=some (.agg (u2.c.map .t),[.box (u1.c.map .t)])/\((uT (JV u1) (λu3 u4 u5 u6 u7 u8=>aN (c8 u3) (λu9 u10=>VZ (XY u9 ([2,2,3,4])) (λu11 u12 cc=>VZ (XY u11 ([0,20,50,100])) (λu14 u15 u16=>uU u2 u4 u8 u5 u6 u7 u10 cc u16 u14 r)))))\/(∃(u3:Zl),∃(u4:List Zm),∃u5,∃(u6:List Zu),∃(u7:List Zx),∃(u8:List Zw),∃u9,JV u1=some (.agg [.own 1,I u9,.own 2,.own 3,.own 4],[.box (u3.c.map .t),.arr 150 3 true (u4.map Zm.c),.arr 100 4 u5 (u6.map Zu.c),.arr 93 3 true (u7.map Zx.c),.arr 96 4 true (u8.map Zw.c)])/\aN (c8 u3) (λu10 u11=>VZ (XY u10 ([2,2,3,4])) (λu12 cc u14=>VZ (XY u12 ([0,20,50,100])) (λu15 u16 DM=>uU u2 u4 u9 u6 u7 u8 u11 u14 DM u15 r)))))))/\
 ((iM PZ λx a r=>BA (ZT x (a.length:Int)) (λu1 u2=>qG a u2 (λu3=>aL u3 u1 r)))/\
 ((iM Zip λx r=>∃(u1:Zl),∃(u2:List V5),∃u3,Q2 x ([(⟨#[114]⟩:V5),(⟨#[115]⟩:V5),(⟨#[116]⟩:V5)])=some (.t (.str u3),[.box (u1.c.map .t),.arr 9 1 true (u2.map sc)])/\BA (ZT u1 3) (λu4 u5=>∃(u6:Zl),∃(u7:XV),∃u8,∃u9,Vx u4 u3 (w (1+u5)) 6 4=some (.agg [.t (.str u8),I u9,.own 1],[.box (u6.c.map .t),.arr 44 1 true (u7.map AA)])/\BA (ZT u6 12) (λu10 u11=>if u11=0 then ∃(u12:Zl),∃(cc:List V5),∃u14,Q2 u10 ([(⟨#[]⟩:V5),(⟨#[82]⟩:V5),(⟨#[114,115]⟩:V5),(⟨#[122]⟩:V5)])=some (.t (.str u14),[.box (u12.c.map .t),.arr 9 1 true (cc.map sc)])/\r (some (.agg [.t (.str u14),I u9,.own 1],[.box (u12.c.map .t),.arr 44 1 true (u7.map AA)]))else if u11=1 then VZ (XY u10 ([0,4,(-1)])) (λu12 cc u14=>r (some (.agg [.t (.str u8),I u14,.own 1],[.box (u12.c.map .t),.arr 44 1 true (u7.map AA)])))else if u11=2 then qN u7 (r (some (.agg [.t (.str u8),I u9,.own 1],[.box (u10.c.map .t),.arr 44 1 true ((u7++[[0]]).map AA)])))else if u11=3 then qN u7 (r (some (.agg [.t (.str u8),I u9,.own 1],[.box (u10.c.map .t),.arr 44 1 true ((u7++[[9,9,10]]).map AA)])))else r (some (.agg [.t (.str u8),I u9,.own 1],[.box (u10.c.map .t),.arr 44 1 true (u7.map AA)])))))/\
 (iM LF λx r=>uS (Ls x) (λu1 u2=>BA (ZT u1 10) (λu3 u4=>if u4=0 then ∃(u5:Zl),∃(u6:XV),∃u7,∃u8,Zip u3=some (.agg [.t (.str u7),I u8,.own 1],[.box (u5.c.map .t),.arr 44 1 true (u6.map AA)])/\BA (ZT u5 5) (λu9 u10=>qG u2 u10 (λu11=>I8 (u2.set u10.toNat (⟨u7,u8,u6⟩:Zm)) u9 r))else qL (⟨#[119]⟩:V5) λk1=>if u4=1 then ∃(u5:Zl),∃u6,PV u3 ([(⟨#[97]⟩:V5),k1,(⟨#[122]⟩:V5)])=some (.t (.str u6),[.box (u5.c.map .t)])/\∃(u7:Zl),∃(u8:XV),∃u9,∃u10,Vx u5 u6 2 4 3=some (.agg [.t (.str u9),I u10,.own 1],[.box (u7.c.map .t),.arr 44 1 true (u8.map AA)])/\qN u2 (I8 (u2++[(⟨u9,u10,u8⟩:Zm)]) u7 r)else if u4=2 then BA (ZT u3 5) (λu5 u6=>0<=u6/\u6.toNat<=u2.length/\I8 (u2.drop u6.toNat) u5 r)else if u4=3 then ∃(u5:Zl),∃(u6:XV),∃u7,∃u8,Vx u3 k1 1 2 3=some (.agg [.t (.str u7),I u8,.own 1],[.box (u5.c.map .t),.arr 44 1 true (u6.map AA)])/\∃(u9:Zl),∃(u10:XV),∃u11,∃u12,Vx u5 (⟨#[120]⟩:V5) 1 2 3=some (.agg [.t (.str u11),I u12,.own 1],[.box (u9.c.map .t),.arr 44 1 true (u10.map AA)])/\u2.length+2<=68719476736/\I8 (u2++[(⟨u7,u8,u6⟩:Zm),(⟨u11,u12,u10⟩:Zm)]) u9 r else I8 u2 u3 r))))))):=by
 refine qu ?_
 and_intros
 all_goals(intros;unfold Im;(try simp only[PV,wT,Wp,PW,PX,cZ,Uc,PY,wW,c7,JZ,Q4,c8,c9,PZ,Zip,LF,ZT,Zl.c_def,LE,XJ,PP,Q3,Zc.c_def,Z0,bE,JV,XY,Zf.c_def,Zz.c_def,Q2,Vx,Ls,Ar,ZsT,Bf,A7]);(try simp only[Bc]);(try simp only[Bd,gS,kk]))
 all_goals(repeat' first|refine Br λ_=>?_|refine Bq λ_ _=>?_|refine Bp λ_=>?_|refine AL ?_ ?_|exact False.elim)
 all_goals(intro h;first|refine XD Z8c rfl ?_|refine XD ZEh rfl ?_|refine run ZEi rfl ?_|refine run ZEj rfl ?_|rw[Zk wU.eq_1]|rw[Zk ZsQ.eq_1]|refine run ZEk rfl ?_|rw[Zk ZsU.eq_1]|refine run ZEl rfl ?_|rw[Zk ZsX.eq_1]|refine run ZEm rfl ?_|refine run ZEn rfl ?_|refine XD ZEo rfl ?_|refine XD ZEp rfl ?_|refine XD Z7Y rfl ?_|refine XD ZEq rfl ?_|refine XD ZEr rfl ?_)
 all_goals (refine Yg ?_ h;clear h;simp +decide[*,kk,tI,Az,Zsd,Z39,Z38,Z3A,Z3B,ZsS,ZsR,Z3C,Z3D,ZsV,Z3E,ZsY,Z3F,Z3G,Z3J,Z3I,Z3K,Zrq,Z3N,Z3M,Z3Q,Z3P])
abbrev Wz:=uq ZHF
def ZHG:((((iM dA λx r=>(uT (JV x) (λu1 u2 u3 u4 u5 u6=>BA (ZT u1 14) (λu7 u8=>if u8=0 then BA (PZ u7 ([0,999,1000,998])) (λu9 u10=>Qi u2 u10 u3 u4 u5 u9 r)else if u8=1 then ∃(u9:Zl) (u10:Zx),JT u7=some (.agg (u10.c.map .t),[.box (u9.c.map .t)])/\qN u4 (Qi u2 u6 u3 (u4++[u10]) u5 u9 r)else if u8=2 then ∃(u9:Zl) (u10:Zw),K2 u7=some (.agg (u10.c.map .t),[.box (u9.c.map .t)])/\qN u5 (Qi u2 u6 u3 u4 (u5++[u10]) u9 r)else qL (Qi u2 u6 u3 u4 u5 u7 r) λk1=>if u8=3 then if 0<(u3.length:Int)then ∃u9,u3[0]?=some u9/\Qi u2 u6 (u3.set 0 (⟨u9.Name,u9.Arity,(w (u9.RowCount+1)),u9.Groups⟩:Zu)) u4 u5 u7 r else k1 else if u8=4 then ∃(u9:Zl) (u10:Zq),LF u7=some (.agg (u10.c.map .t),[.box (u9.c.map .t)])/\Qi u10.Tables u6 u3 u4 u5 u9 r else k1)))\/(∃(u1:Zl),∃(u2:List Zm),∃u3,∃(u4:List Zu),∃(u5:List Zx),∃(u6:List Zw),∃u7,JV x=some (.agg [.own 1,I u7,.own 2,.own 3,.own 4],[.box (u1.c.map .t),.arr 150 3 true (u2.map Zm.c),.arr 100 4 u3 (u4.map Zu.c),.arr 93 3 true (u5.map Zx.c),.arr 96 4 true (u6.map Zw.c)])/\BA (ZT u1 14) (λu8 u9=>if u9=0 then BA (PZ u8 ([0,999,1000,998])) (λu10 u11=>Qi u2 u11 u4 u5 u6 u10 r)else if u9=1 then ∃(u10:Zl) (u11:Zx),JT u8=some (.agg (u11.c.map .t),[.box (u10.c.map .t)])/\qN u5 (Qi u2 u7 u4 (u5++[u11]) u6 u10 r)else if u9=2 then ∃(u10:Zl) (u11:Zw),K2 u8=some (.agg (u11.c.map .t),[.box (u10.c.map .t)])/\qN u6 (Qi u2 u7 u4 u5 (u6++[u11]) u10 r)else qL (Qi u2 u7 u4 u5 u6 u8 r) λk2=>if u9=3 then if 0<(u4.length:Int)then ∃u10,u4[0]?=some u10/\Qi u2 u7 (u4.set 0 (⟨u10.Name,u10.Arity,(w (u10.RowCount+1)),u10.Groups⟩:Zu)) u5 u6 u8 r else k2 else if u9=4 then ∃(u10:Zl) (u11:Zq),LF u8=some (.agg (u11.c.map .t),[.box (u10.c.map .t)])/\Qi u11.Tables u7 u4 u5 u6 u10 r else k2)))/\
 (iM dB λx r=>Pm (LE x) (λu1 u2 u3=>BA (ZT u1 14) (λu4 u5=>if u5=0 then VZ (XY u4 ([0,5,(w (u3+1)),9223372036854775807])) (λu6 u7 u8=>G2 u8 u6 u2 r)else if u5=1 then ∃(u6:Zl),∃(u7:List V5),∃u8,Q2 u4 ([(⟨#[]⟩:V5),(⟨#[119]⟩:V5),(⟨#[114]⟩:V5)])=some (.t (.str u8),[.box (u6.c.map .t),.arr 9 1 true (u7.map sc)])/\qN u2 (G2 u3 u6 (u2++[(⟨u8,[0]⟩:Zd)]) r)else if u5=2 then ∃u6,u2[0]?=some u6/\G2 u3 u4 (u2.set 0 (⟨u6.Name,([]:WL)⟩:Zd)) r else if u5=3 then ∃u6,u2[0]?=some u6/\∃u7 u8,u6.Vars=u7::u8/\VZ (XY u4 ([(-1),4,1])) (λu9 u10 u11=>∃u12,(u7::u8)[0]?=some u12/\G2 u3 u9 (u2.set 0 (⟨u6.Name,((u7::u8).set 0 u11)⟩:Zd)) r)else G2 u3 u4 u2 r))))/\
 ((iM P0 λa r=>∃(u1:Zl),bC a=some (.ptr 0 0,[.box (u1.c.map .t)])/\∃(u2:Zl),∃(u3:Zf),∃(u4:Zr),∃(u5:Zc),∃u6,∃u7,c9 u1=some (.tup [.agg (u3.c.map .t),.agg (u4.c.map .t),.agg (u5.c.map .t),I u6,I u7],[.box (u2.c.map .t)])/\UL (XJ u2 10) (λu8 u9=>if u9=true then ∃(u10:Zl) (u11:Zr),dA u8=some (.agg (u11.c.map .t),[.box (u10.c.map .t)])/\UL (XJ u10 10) (λu12 u13=>if u13=true then Pm (dB u12) (λu14 u15 u16=>uV u3 u11 u16 u15 u6 u7 r)else uW u3 u11 u5 u6 u7 r)else UL (XJ u8 10) (λu10 u11=>if u11=true then Pm (dB u10) (λu12 u13 u14=>uV u3 u4 u14 u13 u6 u7 r)else uW u3 u4 u5 u6 u7 r)))/\
 (iM P2 λa b i r=>if i<(a.Groups.length:Int)then qG a.Groups i (λu1=>qH b.Groups i (λu2=>qI (Ut u1.Columns u2.Columns) (λu3=>if u3=0 then qI (Ut u1.Counts u2.Counts) (λu4=>if u4=0 then if(u1.Values.length:Int)=(u2.Values.length:Int)then r (dD a b u1 u2 i 0)else qb false r else qb false r)else qb false r)))else qb true r)))/\
 (((iM dD λa b x y i k r=>if k<(x.Values.length:Int)then qG x.Values k (λu1=>qH y.Values k (λu2=>qI (Ut u1 u2) (λu3=>if u3=0 then r (dD a b x y i (w (k+1)))else qb false r)))else r (P2 a b (w (i+1))))/\
 (iM P1 λa a1 r=>qL (qb false r) λk1=>if a.Name=a1.Name then if a.Arity=a1.Arity then if a.RowCount=a1.RowCount then if(a.Groups.length:Int)=(a1.Groups.length:Int)then r (P2 a a1 0)else k1 else k1 else k1 else k1))/\
 ((iM dE λa b i r=>if i<(a.Tables.length:Int)then qG a.Tables i (λu1=>qH b.Tables i (λu2=>qB (P1 u1 u2) (r (dE a b (w (i+1)))) (qb false r)))else qb true r)/\
 (iM P3 λa a1 r=>if a.Version=a1.Version then if(a.Tables.length:Int)=(a1.Tables.length:Int)then r (dE a a1 0)else qb false r else qb false r))))/\
 ((((iM wY λa r=>qL (qV (Hf a.Zq a.Dependencies a.Inclusions) (λu5=>qb u5 r)) λk1=>qL (Lz a.Zq a.Z2.Version) λk2=>(∃(u1:List Zu),∃u2,∃u3,k2=some (.tup [.agg [I u2,.own 0],Bo u3],[.arr 100 4 true (u1.map Zu.c)])/\if u3=true then qB (P3 (⟨u2,u1⟩:Z2) a.Z2) k1 (qb false r)else qb false r)\/(∃u1,∃(u2:List Zu),∃u3,k2=some (.tup [.agg [I u3,.own 0],Bo true],[.arr 100 4 u1 (u2.map Zu.c)])/\qB (P3 (⟨u3,u2⟩:Z2) a.Z2) k1 (qb false r)))/\
 (iM P4 λd q i r=>if i<(q.Atoms.length:Int)then qG q.Atoms i (λu1=>(∃u2 u3 u4,VK d u1.Name=some (.tup [.agg [.t (.str u2),I u3,.t .nil],Bo u4],[])/\if u4=true then if u3=(u1.Vars.length:Int)then r (P4 d q (w (i+1)))else qb false r else qb false r)\/(∃(u2:XV),∃u3,∃u4,VK d u1.Name=some (.tup [.agg [.t (.str u3),I u4,.own 0],Bo true],[.arr 44 1 true (u2.map AA)])/\if u4=(u1.Vars.length:Int)then r (P4 d q (w (i+1)))else qb false r))else qb true r))/\
 ((iM wZ λa a1 r=>qB (Q3 a1) (r (P4 a a1 0)) (qb false r))/\
 (iM VL λa a1 a2 r=>qB (wY a) (qB (wZ a.Zq a1) (qI (Wp a1) (λu3=>qV (Z0 a2 1 u3) (λu4=>qb u4 r))) (qb false r)) (qb false r))))/\
 (((iM P6 λout bits v r=>if v<4 then ¬v<0/\if(Aj (At bits v) 1)=1 then qN out (r (P6 (out++[v]) bits (w (v+1))))else r (P6 out bits (w (v+1)))else A3 out r)/\
 (iM P5 λa r=>r (P6 ([]:WL) a 0)))/\
 ((iM LG λa a1 r=>qB (PW a a1) (qI (Uc a a1) (λu2=>A4 (P5 u2) (λu3=>A3 u3 r))) (A3 ([]:WL) r))/\
 ((iM P7 λout x y i r=>if i<(x.length:Int)then qG x i (λu1=>qB (Vn y u1) (qN out (r (P7 (out++[u1]) x y (w (i+1))))) (r (P7 out x y (w (i+1)))))else A3 out r)/\
 (iM K7 λa a1 a2 r=>A4 (LG a a1) (λu1=>A4 (LG a a2) (λu2=>r (P7 ([]:WL) u1 u2 0)))))))):=by
 refine qu ?_
 and_intros
 all_goals(intros;unfold Im;(try simp only[dA,dB,P0,P2,dD,P1,dE,P3,wY,P4,wZ,VL,P6,P5,LG,P7,K7,JV,ZT,PZ,JT,K2,LF,Zq.c_def,Zx.c_def,Zw.c_def,Zl.c_def,LE,XY,Q2,bC,c9,XJ,Z2.c_def,Zf.c_def,Zz.c_def,Zc.c_def,Zr.c_def,Ut,Zu.c_def,Lz,Hf,VK,Q3,Wp,Z0,PW,Uc,Vn,Ar,Ztd,Bf,A7]);(try simp only[Bc]);(try simp only[Bd,gS,kk]))
 all_goals(repeat' first|refine Br λ_=>?_|refine Bq λ_ _=>?_|refine Bp λ_=>?_|refine AL ?_ ?_|exact False.elim)
 all_goals(intro h;first|refine XD ZEs rfl ?_|refine XD ZEt rfl ?_|refine run ZEu rfl ?_|rw[Zk wX.eq_1]|rw[Zk Zta.eq_1]|refine run ZEv rfl ?_|rw[Zk Ztf.eq_1]|refine run ZEw rfl ?_|refine run ZEx rfl ?_|rw[Zk Zti.eq_1]|refine run ZEy rfl ?_|refine run ZEz rfl ?_|rw[Zk Ztk.eq_1]|refine run ZE0 rfl ?_|refine run ZE1 rfl ?_|rw[Zk Ztm.eq_1]|refine run ZE2 rfl ?_)
 all_goals (refine Yg ?_ h;clear h;simp +decide[*,kk,tI,Az,Z3T,Z3S,Z3W,Z3V,Z3Z,Z3X,Z3Y,Ztc,Ztb,Z4a,Ztg,Z4b,Z4c,Ztj,Z4d,Z4e,Z4f,Ztl,Z4g,Z4h,Z4i,Ztn,Z4j])
abbrev XZ:=uq ZHG
