/-
  Parts of the proofs for this seat: G7 G8 G9.
-/
import Derived.Test.YteaiinkcanpleaaGreatP12
set_option linter.all false
set_option maxRecDepth 100000
set_option maxHeartbeats 4000000
namespace Go.Proofs.YteaiinkcanpleaaGreat
open Go.AM
theorem Mq{α β:Type}(f:α->β){l:List α}{i:Nat}{e:α}(g:i<l.length)(q:l[i]=e):∃g2:i<(l.map f).length,(l.map f)[i]=f e:=⟨by simpa using g,by simp[q]⟩
def ZKp:iM cG λc Zh Ap x Ai n r=>if 0<n then ∃(u1:Zo),∃u2,Xk c 5=some (I u2,[.box (u1.c.map .t)])/\qG ([(⟨#[114]⟩:V6),(⟨#[115]⟩:V6),(⟨#[116]⟩:V6),(⟨#[117]⟩:V6),(⟨#[118]⟩:V6)]) u2 (λu3=>qH ([2,2,2,3,1]) u2 (λu4=>∃(u5:Zo),∃u6,Xk u1 4=some (I u6,[.box (u5.c.map .t)])/\r (cH u5 Zh Ap x Ai u3 n u4 u6 0)))else qB (cD Ai) (r (some (.agg [I Ai,.own 1],[.box (c.c.map .t),.arr 113 2 true (([]:List Zg).map Zg.c)]))) (r (some (.agg [I Ap,.own 1],[.box (c.c.map .t),.arr 113 2 true (x.map Zg.c)]))):=by
 refine qu ?_;intro c Zh Ap x Ai n r;unfold Im;intro h;unfold cG
 try simp only[Aq]
 rw[Zl FN.eq_1];simp only[Xk,cD,Zo.c_def,Bc,A8,Aq]at h
 try simp only[Bd]at h
 try simp only[Be,gS,kk]at h
 rcases h with⟨q1,v,v1,q2,q3,e2,⟨g4,q4⟩,e3,⟨g5,q5⟩,v2,v3,q6,h⟩|⟨q1,v4,q7,(⟨q8,h⟩|⟨q8,h⟩)⟩
 all_goals try (have Cc:=Mq sc g4 q4;simp only[Yz,Dr,A8]at Cc;obtain⟨jW,Cc⟩:=Cc;have jX:v1<5:=by(have y:=g4;simp at y;omega))
 all_goals try (have Dc:=Mq ic g5 q5;simp only[Yz,Dr,A8]at Dc;obtain⟨Aax,Dc⟩:=Dc;have Aay:v1<5:=by(have y:=g5;simp at y;omega))
 all_goals (refine Ye ?_ h;clear h;simp +decide[*,kk,tI,Av,cH,FO,Aq])
abbrev ZAq:=uq ZKp
def ZKq:((((iM cH λc Zh Ap x Ai Name n m v i r=>if i<m then r (cI c Zh Ap x (if Ai<(w (v+1))then(w (v+1))else Ai) Name ([v]) n m (Int.tmod (w (v+1)) 4) (w (i+1)))else r (Kf c Zh Ap x Ai ([(⟨Name,[]⟩:Zg)]) (w (n-1))))/\
 (iM cI λc Zh Ap x Ai Name x1 n m v i r=>if i<m then qN x1 (r (cI c Zh Ap x (if Ai<(w (v+1))then(w (v+1))else Ai) Name (x1++[v]) n m (Int.tmod (w (v+1)) 4) (w (i+1))))else r (Kf c Zh Ap x Ai ([(⟨Name,x1⟩:Zg)]) (w (n-1)))))/\
 ((iM cJ λc Zh Ap x Ai x1 Name n m v i r=>if i<m then r (cK c Zh Ap x (if Ai<(w (v+1))then(w (v+1))else Ai) x1 Name ([v]) n m (Int.tmod (w (v+1)) 4) (w (i+1)))else qN x1 (r (Kf c Zh Ap x Ai (x1++[(⟨Name,[]⟩:Zg)]) (w (n-1)))))/\
 (iM cK λc Zh Ap x Ai x1 Name x2 n m v i r=>if i<m then qN x2 (r (cK c Zh Ap x (if Ai<(w (v+1))then(w (v+1))else Ai) x1 Name (x2++[v]) n m (Int.tmod (w (v+1)) 4) (w (i+1))))else qN x1 (r (Kf c Zh Ap x Ai (x1++[(⟨Name,x2⟩:Zg)]) (w (n-1)))))))/\
 (((iM wL λx r=>∃(u1:Zo),∃(u2:List V6),∃u3,Hk x ([(⟨#[114,40,88,89,41]⟩:V6),(⟨#[114,40,88,89,41,32,115,40,89,90,41]⟩:V6),(⟨#[114,40,88,89,41,32,115,40,89,90,41,32,116,40,90,85,41]⟩:V6),(⟨#[114,40,88,89,41,32,115,40,89,90,41,32,116,40,90,88,41]⟩:V6),(⟨#[114,40,88,89,41,32,115,40,88,90,41,32,116,40,88,85,41]⟩:V6),(⟨#[114,40,88,89,41,32,115,40,89,90,41,32,118,40,89,41]⟩:V6),(⟨#[117,40,88,89,90,41,32,115,40,90,85,41]⟩:V6),(⟨#[117,40,88,89,90,41,32,114,40,88,89,41,32,118,40,90,41]⟩:V6),(⟨#[114,40,88,89,41,32,115,40,89,90,41,32,116,40,90,85,41,32,118,40,88,41]⟩:V6),(⟨#[114,40,88,89,41,32,114,40,89,90,41]⟩:V6),(⟨#[114,40,88,89,41,32,115,40,89,88,41]⟩:V6),(⟨#[118,40,88,41,32,114,40,88,89,41,32,115,40,89,90,41,32,116,40,90,85,41]⟩:V6),(⟨#[114,40,88,89,41,32,115,40,89,90,41,32,116,40,90,85,41,32,115,40,85,88,41]⟩:V6)])=some (.t (.str u3),[.box (u1.c.map .t),.arr 9 1 true (u2.map sc)])/\aJ (cF u3) (λu4 u5 u6=>Kd (Wy u1 4) (λu7 u8=>if u8=true then BR (Xk u7 4) (λu9 u10=>r (cG u9 0 u5 u4 0 (w (1+u10))))else r (some (.agg [I u5,.own 1],[.box (u7.c.map .t),.arr 113 2 true (u4.map Zg.c)])))))/\
 (iM wM λx a r=>BR (Xk x (a.length:Int)) (λu1 u2=>qG a u2 (λu3=>r (some (.t (.str u3),[.box (u1.c.map .t)]))))))/\
 ((iM wO λx r=>∃(u1:Zo),∃(u2:List Zg),∃u3,wL x=some (.agg [I u3,.own 1],[.box (u1.c.map .t),.arr 113 2 true (u2.map Zg.c)])/\if 3<(u2.length:Int)then Kd (Wy u1 8) (λu4 u5=>if u5=true then Pe u3 u2 u4 r else ∃(u6:Zo),∃u7,wM u4 ([(⟨#[114,40,88,89,41,32,115,40,89,90,41]⟩:V6),(⟨#[114,40,88,89,41,32,115,40,89,90,41,32,116,40,90,88,41]⟩:V6),(⟨#[114,40,88,89,41,32,115,40,89,90,41,32,118,40,89,41]⟩:V6),(⟨#[114,40,88,89,41,32,114,40,89,90,41]⟩:V6)])=some (.t (.str u7),[.box (u6.c.map .t)])/\aJ (cF u7) (λu8 u9 u10=>Pe u9 u8 u6 r))else Pe u3 u2 u1 r)/\
 ((iM Wn λa r=>qB (Q8 a) (¬(a.Atoms.length:Int)<0/\qi (w ((Ac 1 (a.Atoms.length:Int))-1)) r) (qi 0 r))/\
 (iM PM λa a1 r=>qB (Q8 a) (¬(a.Atoms.length:Int)<0/\qV (Z0 a1 0 (w ((Ac 1 (a.Atoms.length:Int))-1))) (λu2=>qb u2 r)) (qb false r))))))/\
 ((((iM PN λq mask x i r=>if i<(q.Atoms.length:Int)then r (cM q mask x i 0)else qi x r)/\
 (iM cM λq mask x i k r=>qG q.Atoms i (λu1=>qL (r (PN q mask x (w (i+1)))) λk1=>if k<(u1.Vars.length:Int)then ¬i<0/\if(Ah (Au mask i) 1)=1 then qG u1.Vars k (λu2=>¬u2<0/\r (cM q mask (At x (Ac 1 u2)) i (w (k+1))))else k1 else k1)))/\
 ((iM Ud λa a1 r=>r (PN a a1 0 0))/\
 (iM PO λq mask out bits i r=>if i<(q.Atoms.length:Int)then ¬i<0/\qL (r (PO q mask out bits (w (i+1)))) λk1=>if(Ah (Au mask i) 1)=0 then qI (Ud q (Ac 1 i)) (λu1=>if(Ah u1 bits)=0 then k1 else r (PO q mask (At out (Ac 1 i)) bits (w (i+1))))else k1 else qi out r)))/\
 (((iM wT λa a1 r=>qI (Ud a a1) (λu1=>r (PO a a1 0 u1 0)))/\
 (iM cN λq mask x n r=>if n<(q.Atoms.length:Int)then qI (wT q x) (λu1=>r (cN q mask (At x (Ah u1 mask)) (w (n+1))))else qb (decide (x=mask)) r))/\
 ((iM FP λa a1 r=>r (cN a a1 (Ah a1 (w (0-a1))) 0))/\
 ((iM UN λa a1 r=>qB (PM a a1) (if 0<a1 then qV (FP a a1) (λu2=>qb u2 r)else qb false r) (qb false r))/\
 (iM cO λx r=>∃(u1:Zo) (u2:Zc),wO x=some (.agg (u2.c.map .t),[.box (u1.c.map .t)])/\qI (Wn u2) (λu3=>qB (UN u2 u3) (r (some (.agg (u2.c.map .t),[.box (u1.c.map .t)]))) (aJ (cF (⟨#[114,40,88,89,41,32,115,40,89,90,41]⟩:V6)) (λu5 u6 u7=>Pe u6 u5 u1 r)))))))):=by
 refine qu ?_
 and_intros
 all_goals(intros;unfold Im;(try simp only[cH,cI,cJ,cK,wL,wM,wO,Wn,PM,PN,cM,Ud,PO,wT,cN,FP,UN,cO,Hk,cF,Wy,Xk,Zo.c_def,Q8,Zc.c_def,Z0,Kf,cG,Aq,Zt4,Bc,A8]);(try simp only[Bd]);(try simp only[Be,gS,kk]))
 all_goals(repeat' first|refine Bp λ_=>?_|refine Bn λ_ _=>?_|refine Bm λ_=>?_|refine AH ?_ ?_|exact False.elim)
 all_goals(intro h;first|rw[Zl PJ.eq_1]|refine XH ZGs rfl ?_|refine XH ZAo rfl ?_|refine XH ZGt rfl ?_|refine run ZGu rfl ?_|refine run ZGv rfl ?_|rw[Zl wQ.eq_1]|rw[Zl Zt1.eq_1]|refine run ZGw rfl ?_|rw[Zl Zt5.eq_1]|refine run ZGx rfl ?_|rw[Zl Zt8.eq_1]|refine run ZGy rfl ?_|refine run ZGz rfl ?_|refine XH ZG0 rfl ?_)
 all_goals (refine Ye ?_ h;clear h;simp +decide[*,kk,tI,Av,PL,PK,Z5q,ZsE,Z5t,Z5s,Z5u,Z5v,Zt3,Zt2,Z5w,Z5x,Zt6,Z5y,Zt9,Z5z,Z50,Z53,Z52])
abbrev XT:=uq ZKq
def ZKr:((iM cQ λx r=>∃(u1:Zo) (u2:Zf),aS x=some (.agg (u2.c.map .t),[.box (u1.c.map .t)])/\∃(u3:Zo) (u4:Zq),bZ u1=some (.agg (u4.c.map .t),[.box (u3.c.map .t)])/\∃(u5:Zo) (u6:Zc),cO u3=some (.agg (u6.c.map .t),[.box (u5.c.map .t)])/\Vo (XI u5 ([2,2,3,4])) (λu7 u8 u9=>Vo (XI u7 ([0,20,50,100])) (λu10 u11 u12=>r (some (.tup [.agg (u2.c.map .t),.agg (u4.c.map .t),.agg (u6.c.map .t),I u9,I u12],[.box (u10.c.map .t)])))))/\
 (iM PP λa b i r=>if i<(a.Groups.length:Int)then qG a.Groups i (λu1=>qH b.Groups i (λu2=>qI (Uq u1.Columns u2.Columns) (λu3=>if u3=0 then qI (Uq u1.Counts u2.Counts) (λu4=>if u4=0 then if(u1.Values.length:Int)=(u2.Values.length:Int)then r (cS a b u1 u2 i 0)else qb false r else qb false r)else qb false r)))else qb true r))/\
 ((iM cS λa b x y i k r=>if k<(x.Values.length:Int)then qG x.Values k (λu1=>qH y.Values k (λu2=>qI (Uq u1 u2) (λu3=>if u3=0 then r (cS a b x y i (w (k+1)))else qb false r)))else r (PP a b (w (i+1))))/\
 (iM Lt λa a1 r=>qL (qb false r) λk1=>if a.Name=a1.Name then if a.Arity=a1.Arity then if a.RowCount=a1.RowCount then if(a.Groups.length:Int)=(a1.Groups.length:Int)then r (PP a a1 0)else k1 else k1 else k1 else k1)):=by
 refine qu ?_
 and_intros
 all_goals(intros;unfold Im;(try simp only[cQ,PP,cS,Lt,aS,bZ,cO,XI,ZN.c_def,Zt.c_def,Zo.c_def,Zf.c_def,Zz.c_def,Zc.c_def,Zq.c_def,Uq,Aq,ZtD,Bc,A8]);(try simp only[Bd]);(try simp only[Be,gS,kk]))
 all_goals(repeat' first|refine Bp λ_=>?_|refine Bn λ_ _=>?_|refine Bm λ_=>?_|refine AH ?_ ?_|exact False.elim)
 all_goals(intro h;first|refine XH ZG1 rfl ?_|rw[Zl wU.eq_1]|rw[Zl ZtA.eq_1]|refine run ZG2 rfl ?_)
 all_goals (refine Ye ?_ h;clear h;simp +decide[*,kk,tI,Av,Z54,ZtC,ZtB,Z55])
abbrev Sw:=uq ZKr
def ZKs:iM Kf λc Zh Ap x Ai x1 n r=>if 0<n then ∃(u1:Zo),∃u2,Xk c 5=some (I u2,[.box (u1.c.map .t)])/\qG ([(⟨#[114]⟩:V6),(⟨#[115]⟩:V6),(⟨#[116]⟩:V6),(⟨#[117]⟩:V6),(⟨#[118]⟩:V6)]) u2 (λu3=>qH ([2,2,2,3,1]) u2 (λu4=>∃(u5:Zo),∃u6,Xk u1 4=some (I u6,[.box (u5.c.map .t)])/\r (cJ u5 Zh Ap x Ai x1 u3 n u4 u6 0)))else qB (Q8 (⟨Ai,x1⟩:Zc)) (r (some (.agg [I Ai,.own 1],[.box (c.c.map .t),.arr 113 2 true (x1.map Zg.c)]))) (r (some (.agg [I Ap,.own 1],[.box (c.c.map .t),.arr 113 2 true (x.map Zg.c)]))):=by
 refine qu ?_;intro c Zh Ap x Ai x1 n r;unfold Im;intro h;unfold Kf
 try simp only[Aq]
 rw[Zl FN.eq_1];simp only[Xk,Q8,Zo.c_def,Zc.c_def,Bc,A8,Aq]at h
 try simp only[Bd]at h
 try simp only[Be,gS,kk]at h
 rcases h with⟨q1,v,v1,q2,q3,e2,⟨g4,q4⟩,e3,⟨g5,q5⟩,v2,v3,q6,h⟩|⟨q1,v4,q7,(⟨q8,h⟩|⟨q8,h⟩)⟩
 all_goals try (have Cc:=Mq sc g4 q4;simp only[Yz,Dr,A8]at Cc;obtain⟨jW,Cc⟩:=Cc;have jX:v1<5:=by(have y:=g4;simp at y;omega))
 all_goals try (have Dc:=Mq ic g5 q5;simp only[Yz,Dr,A8]at Dc;obtain⟨Aax,Dc⟩:=Dc;have Aay:v1<5:=by(have y:=g5;simp at y;omega))
 all_goals (refine Ye ?_ h;clear h;simp +decide[*,kk,tI,Av,cJ,FO,Aq])
abbrev Z0E:=uq ZKs
def ZKt:((((iM cT λa b i r=>if i<(a.Tables.length:Int)then qG a.Tables i (λu1=>qH b.Tables i (λu2=>qB (Lt u1 u2) (r (cT a b (w (i+1)))) (qb false r)))else qb true r)/\
 (iM wV λa a1 r=>if a.Version=a1.Version then if(a.Tables.length:Int)=(a1.Tables.length:Int)then r (cT a a1 0)else qb false r else qb false r))/\
 ((iM wW λa r=>∃(u1:ZN),∃u2,PE a.Zt a.ZN.Version=some (.tup [.agg (u1.c.map .t),Bo u2],[])/\if u2=true then qB (wV u1 a.ZN) (qV (PF a.Zt a.Dependencies a.Inclusions) (λu4=>qb u4 r)) (qb false r)else qb false r)/\
 (iM PR λd q i r=>if i<(q.Atoms.length:Int)then qG q.Atoms i (λu1=>(∃u2 u3 u4,VK d u1.Name=some (.tup [.agg [.t (.str u2),I u3,.t .nil],Bo u4],[])/\if u4=true then if u3=(u1.Vars.length:Int)then r (PR d q (w (i+1)))else qb false r else qb false r)\/(∃(u2:WA),∃u3,∃u4,VK d u1.Name=some (.tup [.agg [.t (.str u3),I u4,.own 0],Bo true],[.arr 32 1 true (u2.map AF)])/\if u4=(u1.Vars.length:Int)then r (PR d q (w (i+1)))else qb false r))else qb true r)))/\
 (((iM wX λa a1 r=>qB (Q8 a1) (r (PR a a1 0)) (qb false r))/\
 (iM Vx λa a1 a2 r=>qB (wW a) (qB (wX a.Zt a1) (qI (Wn a1) (λu3=>qV (Z0 a2 1 u3) (λu4=>qb u4 r))) (qb false r)) (qb false r)))/\
 ((iM PT λout bits v r=>if v<4 then ¬v<0/\if(Ah (Au bits v) 1)=1 then qN out (r (PT (out++[v]) bits (w (v+1))))else r (PT out bits (w (v+1)))else AZ out r)/\
 ((iM PS λa r=>r (PT ([]:WL) a 0))/\
 (iM Lu λa a1 r=>qB (PM a a1) (qI (Ud a a1) (λu2=>AO (PS u2) (λu3=>AZ u3 r))) (AZ ([]:WL) r))))))/\
 ((((iM PU λout x y i r=>if i<(x.length:Int)then qG x i (λu1=>qB (Vw y u1) (qN out (r (PU (out++[u1]) x y (w (i+1))))) (r (PU out x y (w (i+1)))))else AZ out r)/\
 (iM Jz λa a1 a2 r=>AO (Lu a a1) (λu1=>AO (Lu a a2) (λu2=>r (PU ([]:WL) u1 u2 0)))))/\
 ((iM cV λa v k r=>if k<(a.Vars.length:Int)then qG a.Vars k (λu1=>if u1=v then qi k r else r (cV a v (w (k+1))))else qi (-1) r)/\
 (iM cU λa a1 r=>r (cV a a1 0))))/\
 (((iM Lv λs q v mask i k r=>if k<(q.Atoms.length:Int)then ¬k<0/\qL (r (Lv s q v mask i (w (k+1)))) λk2=>if(Ah (Au mask k) 1)=0 then k2 else qG q.Atoms k (λu1=>∃u2,v[0]?=some u2/\qB (Vw u1.Vars u2) (qI (cU u1 u2) (λu4=>qG q.Atoms i (λu5=>qI (cU u5 u2) (λu6=>qL (r (cX s q v (⟨u1.Name,u4,u5.Name,u6⟩:Z8) mask i k 0)) λk1=>if u1.Name=u5.Name then if u4=u6 then qb true r else k1 else k1)))) k2)else qb false r)/\
 (iM cX λs q v want mask i k j r=>if j<(s.Inclusions.length:Int)then qG s.Inclusions j (λu1=>if u1.Name=want.Name/\u1.Column=want.Column/\u1.Into=want.Into/\u1.IntoColumn=want.IntoColumn then qb true r else r (cX s q v want mask i k (w (j+1))))else r (Lv s q v mask i (w (k+1)))))/\
 ((iM w7 λa a1 a2 a3 r=>qL (qb false r) λk1=>qB (Vx a a1 a2) (qB (Z0 a3 0 (w ((a1.Atoms.length:Int)-1))) (¬a3<0/\if(Ah (Au a2 a3) 1)=1 then k1 else AO (Jz a1 a2 (Ac 1 a3)) (λu3=>if(u3.length:Int)=1 then r (Lv a a1 u3 a2 a3 0)else k1)) k1) k1)/\
 ((iM PW λorder s q mask used i r=>if i<(order.length:Int)then qG order i (λu1=>¬u1<0/\r (PW order s q mask (At used (Ac 1 u1)) (w (i+1))))else if used=mask then AZ order r else r (Kg order s q mask used 0))/\
 (iM Kg λorder s q mask used i r=>if i<(q.Atoms.length:Int)then ¬i<0/\qL (r (Kg order s q mask used (w (i+1)))) λk1=>if(Ah (Au mask i) 1)=1 then qB (w7 s q used i) (qM order (qN order (qL (Q9 (order++[i]) s q mask) λk2=>(AO k2 (λu2=>if 0<(u2.length:Int)then aK order u2 r else k1))\/(uW k2 (λu2 u3=>if 0<(u3.length:Int)then aK order u3 r else k1))))) k1 else k1 else aK order ([]:WL) r))))):=by
 refine qu ?_
 and_intros
 all_goals(intros;unfold Im;(try simp only[cT,wV,wW,PR,wX,Vx,PT,PS,Lu,PU,Jz,cV,cU,Lv,cX,w7,PW,Kg,Lt,Z5.c_def,PE,PF,ZN.c_def,Zt.c_def,ZD.c_def,Z8.c_def,VK,Q8,Zc.c_def,Wn,Z0,Zq.c_def,PM,Ud,Vw,Zg.c_def,Q9,Aq,ZtU,Bc,A8]);(try simp only[Bd]);(try simp only[Be,gS,kk]))
 all_goals(repeat' first|refine Bp λ_=>?_|refine Bn λ_ _=>?_|refine Bm λ_=>?_|refine AH ?_ ?_|exact False.elim)
 all_goals(intro h;first|rw[Zl ZtF.eq_1]|refine run ZG3 rfl ?_|refine run ZG4 rfl ?_|rw[Zl ZtI.eq_1]|refine run ZG5 rfl ?_|refine run ZG6 rfl ?_|rw[Zl ZtK.eq_1]|refine run ZG7 rfl ?_|refine run ZG8 rfl ?_|rw[Zl ZtM.eq_1]|refine run ZG9 rfl ?_|rw[Zl ZtP.eq_1]|refine run ZGA rfl ?_|rw[Zl w6.eq_1]|rw[Zl ZtR.eq_1]|refine run ZGB rfl ?_|rw[Zl ZtV.eq_1]|rw[Zl ZtW.eq_1])
 all_goals (refine Ye ?_ h;clear h;simp +decide[*,kk,tI,Av,ZtG,Z56,Z57,ZtJ,Z58,Z59,Z5A,ZtL,Z5B,Z5C,Z5D,ZtN,Z5E,ZtQ,Z5F,ZtS,ZtT,Z5G,ZtY,Z5H,ZtX])
abbrev XX:=uq ZKt
def ZKu:((iM Q9 λx a a1 a2 r=>r (PW x a a1 a2 0 0))/\
 ((iM PX λa a1 a2 a3 r=>qL (AZ ([]:WL) r) λk1=>qB (Vx a a1 a2) (qB (Z0 a3 0 (w ((a1.Atoms.length:Int)-1))) (¬a3<0/\if(Ah (Au a2 a3) 1)=0 then k1 else(AO (Q9 ([a3]) a a1 a2) (λu3=>AZ u3 r))\/(uW (Q9 ([a3]) a a1 a2) (λu3 u4=>AZ u4 r))) k1) k1)/\
 (iM Zud λName Arity Ak Ag rows i r=>if i<(rows.length:Int)then qG rows i (λu1=>Uc (Hg u1) (λu2=>r (cY Name Arity Ak Ag u2 rows (w (i+1)))))else qB (Hh Ak Ag) (r (some (.tup [.agg [.t (.str Ak),I Ag,.own 0],Bo true],[.arr 32 1 true (([]:WA).map AF)]))) (aG ([]:WA) r))))/\
 (((iM cY λName Arity Ak Ag x rows i r=>qL (qB (Jy (⟨Ak,Ag,x⟩:Zs)) (r (some (.tup [.agg [.t (.str Ak),I Ag,.own 0],Bo true],[.arr 32 1 true (x.map AF)]))) (aG ([]:WA) r)) λk1=>if i<(rows.length:Int)then if(x.length:Int)<=8 then qG rows i (λu1=>Uc (Jx x u1) (λu2=>r (cY Name Arity Ak Ag u2 rows (w (i+1)))))else k1 else k1)/\
 (iM w8 λa a1 a2 r=>r (Zud (⟨#[]⟩:V6) 0 a a1 a2 0)))/\
 ((iM w9 λa r=>qL (a.Groups.length:Int) λk1=>if k1=0 then aG ([]:WA) r else 0<=(w (k1-1))/\∃u1,a.Groups[(w (k1-1)).toNat]?=some u1/\∃(u2:WA),∃u3,∃u4,∃u5,w8 a.Name a.Arity u1.Values=some (.tup [.agg [.t (.str u3),I u4,.own 0],Bo u5],[.arr 32 1 true (u2.map AF)])/\r (some (.tup [.agg [.t (.str u3),I u4,.own 0],Bo u5],[.arr 32 1 true (u2.map AF)])))/\
 (iM FQ λa r=>∃(u1:WA),∃u2,∃u3,∃u4,w9 a=some (.tup [.agg [.t (.str u2),I u3,.own 0],Bo u4],[.arr 32 1 true (u1.map AF)])/\if u4=true then ∃(u5:Z5),Lq (⟨u2,u3,u1⟩:Zs)=some (.agg (u5.c.map .t),[])/\qV (Lt u5 a) (λu6=>qb u6 r)else qb false r))):=by
 refine qu ?_
 and_intros
 all_goals(intros;unfold Im;(try simp only[Q9,PX,Zud,cY,w8,w9,FQ,Vx,Z0,ZN.c_def,Zt.c_def,Zc.c_def,Zq.c_def,Hg,Hh,Jx,Jy,Zs.c_def,Lq,Lt,Z5.c_def,PW,Zuc,Aq,Bc,A8]);(try simp only[Bd]);(try simp only[Be,gS,kk]))
 all_goals(repeat' first|refine Bp λ_=>?_|refine Bn λ_ _=>?_|refine Bm λ_=>?_|refine AH ?_ ?_|exact False.elim)
 all_goals(intro h;first|refine XH ZGC rfl ?_|refine run ZGD rfl ?_|rw[Zl Zua.eq_1]|refine run ZGE rfl ?_|refine run ZGF rfl ?_|refine run ZGG rfl ?_)
 all_goals (refine Ye ?_ h;clear h;simp +decide[*,kk,tI,Av,Z5I,Z5J,Zub,Z5K,Z5L,Z5M])
abbrev Gc:=uq ZKu
def ZKv:((((iM Zuk λs Name Arity RowCount Ak Ag Ar i r=>if i<(s.Groups.length:Int)then qG s.Groups i (λu1=>qM u1.Columns (qM u1.Counts (r (Zul s Name Arity RowCount Ak Ag Ar u1.Columns u1.Counts i 0))))else r (some (.agg [.t (.str Ak),I Ag,I Ar,.own 0],[.arr 263 3 true (([]:List ZF).map ZF.c)])))/\
 (iM Zul λs Name Arity RowCount Ak Ag Ar x x1 i k r=>qG s.Groups i (λu1=>if k<(u1.Values.length:Int)then qG u1.Values k (λu2=>qM u2 (r (c7 s Name Arity RowCount Ak Ag Ar x ([u2]) x1 i (w (k+1)))))else r (FR s Name Arity RowCount Ak Ag Ar ([(⟨x,[],x1⟩:ZF)]) (w (i+1))))))/\
 ((iM c7 λs Name Arity RowCount Ak Ag Ar x x1 x2 i k r=>qG s.Groups i (λu1=>if k<(u1.Values.length:Int)then qG u1.Values k (λu2=>qM u2 (qN x1 (r (c7 s Name Arity RowCount Ak Ag Ar x (x1++[u2]) x2 i (w (k+1))))))else r (FR s Name Arity RowCount Ak Ag Ar ([(⟨x,x1,x2⟩:ZF)]) (w (i+1)))))/\
 (iM FR λs Name Arity RowCount Ak Ag Ar x i r=>if i<(s.Groups.length:Int)then qG s.Groups i (λu1=>qM u1.Columns (qM u1.Counts (r (Zum s Name Arity RowCount Ak Ag Ar x u1.Columns u1.Counts i 0))))else r (some (.agg [.t (.str Ak),I Ag,I Ar,.own 0],[.arr 263 3 true (x.map ZF.c)])))))/\
 (((iM Zum λs Name Arity RowCount Ak Ag Ar x x1 x2 i k r=>qG s.Groups i (λu1=>if k<(u1.Values.length:Int)then qG u1.Values k (λu2=>qM u2 (r (c8 s Name Arity RowCount Ak Ag Ar x x1 ([u2]) x2 i (w (k+1)))))else qN x (r (FR s Name Arity RowCount Ak Ag Ar (x++[(⟨x1,[],x2⟩:ZF)]) (w (i+1))))))/\
 (iM c8 λs Name Arity RowCount Ak Ag Ar x x1 x2 x3 i k r=>qG s.Groups i (λu1=>if k<(u1.Values.length:Int)then qG u1.Values k (λu2=>qM u2 (qN x2 (r (c8 s Name Arity RowCount Ak Ag Ar x x1 (x2++[u2]) x3 i (w (k+1))))))else qN x (r (FR s Name Arity RowCount Ak Ag Ar (x++[(⟨x1,x2,x3⟩:ZF)]) (w (i+1)))))))/\
 ((iM xB λa r=>r (Zuk a (⟨#[]⟩:V6) 0 0 a.Name a.Arity a.RowCount 0))/\
 ((iM c9 λc Name Arity RowCount name i r=>if i<(c.Tables.length:Int)then qG c.Tables i (λu1=>qL (r (c9 c Name Arity RowCount name (w (i+1)))) λk1=>if u1.Name=name then qB (FQ u1) (∃(u3:List ZF),∃u4,∃u5,∃u6,xB u1=some (.agg [.t (.str u4),I u5,I u6,.own 0],[.arr 263 3 true (u3.map ZF.c)])/\r (some (.tup [.agg [.t (.str u4),I u5,I u6,.own 0],Bo true],[.arr 263 3 true (u3.map ZF.c)]))) k1 else k1)else r (some (.tup [.agg [.t (.str (⟨#[]⟩:V6)),I 0,I 0,.own 0],Bo false],[.arr 263 3 true (([]:List ZF).map ZF.c)])))/\
 (iM xC λa a1 r=>r (c9 a (⟨#[]⟩:V6) 0 0 a1 0))))))/\
 ((((iM QA λa a1 a2 r=>qG a1.Atoms a2 (λu1=>∃(u2:List ZF),∃u3,∃u4,∃u5,∃u6,xC a.ZN u1.Name=some (.tup [.agg [.t (.str u3),I u4,I u5,.own 0],Bo u6],[.arr 263 3 true (u2.map ZF.c)])/\r (some (.agg [.t (.str u3),I u4,I u5,.own 0],[.arr 263 3 true (u2.map ZF.c)]))))/\
 (iM PZ λs q mask n i r=>if i<(q.Atoms.length:Int)then AO (PX s q mask i) (λu1=>if 0<(u1.length:Int)then ∃(u2:List ZF),∃u3,∃u4,∃u5,QA s q i=some (.agg [.t (.str u3),I u4,I u5,.own 0],[.arr 263 3 true (u2.map ZF.c)])/\r (PZ s q mask (if n<u5 then u5 else n) (w (i+1)))else r (PZ s q mask n (w (i+1))))else qi n r))/\
 ((iM xE λa a1 a2 r=>qB (Vx a a1 a2) (r (PZ a a1 a2 0 0)) (qi (-1) r))/\
 (iM P0 λs q out m r=>qI (Wn q) (λu1=>if m<=u1 then qB (UN q m) (qI (xE s q m) (λu3=>qN out (r (P0 s q (out++[u3]) (w (m+1)))))) (qN out (r (P0 s q (out++[0]) (w (m+1)))))else AZ out r))))/\
 (((iM dA λa a1 r=>qI (Wn a1) (λu1=>qB (Vx a a1 u1) (r (P0 a a1 ([]:WL) 0)) (AZ ([]:WL) r)))/\
 (iM P1 λs q mask n i r=>if i<(q.Atoms.length:Int)then ¬i<0/\if(Ah (Au mask i) 1)=1 then ∃(u1:List ZF),∃u2,∃u3,∃u4,QA s q i=some (.agg [.t (.str u2),I u3,I u4,.own 0],[.arr 263 3 true (u1.map ZF.c)])/\r (P1 s q mask (w (n*u4)) (w (i+1)))else r (P1 s q mask n (w (i+1)))else qi n r))/\
 ((iM dB λa a1 a2 r=>qB (Vx a a1 a2) (r (P1 a a1 a2 1 0)) (qi (-1) r))/\
 ((iM P2 λa out vars i r=>if i<(a.Vars.length:Int)then qG a.Vars i (λu1=>qB (Vw vars u1) (qN out (r (P2 a (out++[i]) vars (w (i+1))))) (r (P2 a out vars (w (i+1)))))else AZ out r)/\
 (iM Lw λa a1 r=>r (P2 a ([]:WL) a1 0)))))):=by
 refine qu ?_
 and_intros
 all_goals(intros;unfold Im;(try simp only[Zuk,Zul,c7,FR,Zum,c8,xB,c9,xC,QA,PZ,xE,P0,dA,P1,dB,P2,Lw,FQ,Z5.c_def,ZN.c_def,PX,Zt.c_def,Zc.c_def,Zq.c_def,Vx,Wn,UN,Vw,Zuj,Aq,Zui,cZ,Bc,A8]);(try simp only[Bd]);(try simp only[Be,gS,kk]))
 all_goals(repeat' first|refine Bp λ_=>?_|refine Bn λ_ _=>?_|refine Bm λ_=>?_|refine AH ?_ ?_|exact False.elim)
 all_goals(intro h;first|rw[Zl xA.eq_1]|rw[Zl Zue.eq_1]|refine run ZGH rfl ?_|rw[Zl Zuo.eq_1]|refine run ZGI rfl ?_|refine run ZGJ rfl ?_|rw[Zl Zuq.eq_1]|refine run ZGK rfl ?_|rw[Zl Zus.eq_1]|refine run ZGL rfl ?_|rw[Zl Zuu.eq_1]|refine run ZGM rfl ?_|rw[Zl Zuw.eq_1]|refine run ZGN rfl ?_)
 all_goals (refine Ye ?_ h;clear h;simp +decide[*,kk,tI,Av,Zuh,Zug,Zuf,Z5N,Zup,Z5O,Z5P,Z5Q,Zur,Z5R,Z5S,Zut,Z5T,Z5U,Zuv,Z5V,Z5W,Zux,Z5X])
abbrev W7:=uq ZKv
def ZKw:((iM FS λout l i r=>if i<(l.length:Int)then r (Ly out l i (out.length:Int))else AZ out r)/\
 (iM xL λa r=>r (FS ([]:WL) a 0)))/\
 ((iM dC λs cols i r=>if i<(s.Groups.length:Int)then qG s.Groups i (λu1=>qI (Uq u1.Columns cols) (λu2=>if u2=0 then AO (xL u1.Counts) (λu3=>AZ u3 r)else r (dC s cols (w (i+1)))))else AZ ([]:WL) r)/\
 (iM P4 λa a1 r=>if(a1.length:Int)=0 then if a.RowCount=0 then AZ ([]:WL) r else AZ ([a.RowCount]) r else r (dC a a1 0))):=by
 refine qu ?_
 and_intros
 all_goals(intros;unfold Im;(try simp only[FS,xL,dC,P4,Uq,Ly,Aq,Lx,Bc,A8]);(try simp only[Bd]);(try simp only[Be,gS,kk]))
 all_goals(repeat' first|refine Bp λ_=>?_|refine Bn λ_ _=>?_|refine Bm λ_=>?_|refine AH ?_ ?_|exact False.elim)
 all_goals(intro h;first|rw[Zl xK.eq_1]|refine run ZGO rfl ?_|rw[Zl Zu1.eq_1]|refine run ZGP rfl ?_)
 all_goals (refine Ye ?_ h;clear h;simp +decide[*,kk,tI,Av,Zuz,Z5Y,Zu2,Z5Z])
abbrev j6:=uq ZKw
def ZKx:iM Ly λout l i k r=>qL (out.take k.toNat) λk1=>qL (out.drop k.toNat) λk2=>if 0<k then 0<=(w (k-1))/\∃u1,out[(w (k-1)).toNat]?=some u1/\qG l i (λu2=>if u1<u2 then r (Ly out l i (w (k-1)))else 0<=k/\k.toNat<=out.length/\qM k1 (qN k1 (k1.length+1+k2.length<=68719476736/\r (FS ((k1++[u2])++k2) l (w (i+1))))))else 0<=k/\k.toNat<=out.length/\qM k1 (qG l i (λu1=>qN k1 (k1.length+1+k2.length<=68719476736/\r (FS ((k1++[u1])++k2) l (w (i+1)))))):=by
 refine qu ?_;intro out l i k r;unfold Im;intro h;unfold Ly
 try simp only[Lx,Aq]
 rw[Zl Zuy.eq_1];by_cases q1:0<k
 .rw[Ya q1]at h;obtain⟨q2,h⟩:=h;obtain⟨e1,q3,h⟩:=h;have gq3:=We q3;have kq3:=Wm q3;obtain⟨q4,h⟩:=h;obtain⟨e2,q5,h⟩:=h;have gq5:=We q5;have kq5:=Wm q5;by_cases q6:e1<e2
  .rw[Ya q6]at h;refine Ye ?_ h;clear h;simp +decide[*,tI,Av,Ly,Lx,Aq]
  .rw[Yb q6]at h;obtain⟨q7,h⟩:=h;obtain⟨q8,h⟩:=h;have j7:=q8;try simp[Aq]at j7
   obtain⟨q9,h⟩:=h;have rq9:=Vf (b:=8) q9 Z;have sq9:=Vg q9
   try simp[*]at rq9
   try simp[*]at sq9
   obtain⟨q10,h⟩:=h;have Mu:=Vf (b:=8) q10 Z;have Mv:=Vg q10
   try simp[*]at Mu
   try simp[*]at Mv
   obtain⟨q11,h⟩:=h;have Aaz:=Vf (b:=8) q11 Z;have AaA:=Vg q11
   try simp[*]at Aaz
   try simp[*]at AaA
   refine Ye ?_ h;clear h;simp +decide[*,tI,Av,FS,xJ,xI,Lx,Aq]
 .rw[Yb q1]at h;obtain⟨q12,h⟩:=h;obtain⟨q13,h⟩:=h;have AaB:=q13;try simp[Aq]at AaB
  obtain⟨Bv,h⟩:=h;have AaC:=Vf (b:=8) Bv Z;have AaD:=Vg Bv
  try simp[*]at AaC
  try simp[*]at AaD
  obtain⟨BN,h⟩:=h;obtain⟨e3,q16,h⟩:=h;have Acd:=We q16;have Ace:=Wm q16;obtain⟨EP,h⟩:=h;have AaE:=Vf (b:=8) EP Z;have AaF:=Vg EP
  try simp[*]at AaE
  try simp[*]at AaF
  obtain⟨Cq,h⟩:=h;have AaG:=Vf (b:=8) Cq Z;have AaH:=Vg Cq
  try simp[*]at AaG
  try simp[*]at AaH
  refine Ye ?_ h;clear h;simp +decide[*,tI,Av,FS,xJ,xI,Lx,Aq]
abbrev ZAr:=uq ZKx
