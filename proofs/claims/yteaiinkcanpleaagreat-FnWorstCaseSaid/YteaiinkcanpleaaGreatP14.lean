/-
  Parts of the proofs for this seat: G4 G5 G6.
-/
import Derived.Test.YteaiinkcanpleaaGreatP12
set_option linter.all false
set_option maxRecDepth 100000
set_option maxHeartbeats 4000000
namespace Go.Proofs.YteaiinkcanpleaaGreat
open Go.AM
def ZKj:((((iM KE λx out Name Arity Ak Ag v r=>if v<=9 then r (bL x out Name Arity Ak Ag v false false 0)else AZ out r)/\
 (iM KF λx out Name Arity Ak Ag x1 v r=>if v<=9 then r (bM x out Name Arity Ak Ag x1 v false false 0)else AZ out r))/\
 ((iM KG λx out Name Arity x1 Ak Ag v r=>if v<=9 then r (bN x out Name Arity x1 Ak Ag v false false 0)else AZ out r)/\
 (iM KH λx out Name Arity x1 Ak Ag x2 v r=>if v<=9 then r (bO x out Name Arity x1 Ak Ag x2 v false false 0)else AZ out r)))/\
 (((iM bL λx out Name Arity Ak Ag v one two i r=>if i<0 then if one=true then r (bL x out Name Arity Ak Ag v true two (w (i+1)))else False else r (Px x out Name Arity Ak Ag v one two 0))/\
 (iM bM λx out Name Arity Ak Ag x1 v one two i r=>if i<0 then if one=true then r (bM x out Name Arity Ak Ag x1 v true two (w (i+1)))else False else r (Py x out Name Arity Ak Ag x1 v one two 0)))/\
 ((iM bN λx out Name Arity x1 Ak Ag v one two i r=>if i<(x1.length:Int)then qL (bN x out Name Arity x1 Ak Ag v) λk1=>if one=true then r (k1 true two (w (i+1)))else qG x1 i (λu1=>qG u1 x.Column (λu2=>r (k1 (decide (u2=v)) two (w (i+1)))))else r (Pz x out Name Arity x1 Ak Ag v one two 0))/\
 ((iM bO λx out Name Arity x1 Ak Ag x2 v one two i r=>if i<(x1.length:Int)then qL (bO x out Name Arity x1 Ak Ag x2 v) λk1=>if one=true then r (k1 true two (w (i+1)))else qG x1 i (λu1=>qG u1 x.Column (λu2=>r (k1 (decide (u2=v)) two (w (i+1)))))else r (PA x out Name Arity x1 Ak Ag x2 v one two 0))/\
 (iM Px λx out Name Arity Ak Ag v one two i r=>if i<0 then if two=true then r (Px x out Name Arity Ak Ag v one true (w (i+1)))else False else qL (r (KE x out Name Arity Ak Ag (w (v+1)))) λk1=>if one=true then if two=true then k1 else qN out (r (KE x (out++[v]) Name Arity Ak Ag (w (v+1))))else k1)))))/\
 ((((iM Py λx out Name Arity Ak Ag x1 v one two i r=>if i<(x1.length:Int)then qL (Py x out Name Arity Ak Ag x1 v one) λk2=>if two=true then r (k2 true (w (i+1)))else qG x1 i (λu1=>qG u1 x.IntoColumn (λu2=>r (k2 (decide (u2=v)) (w (i+1)))))else qL (r (KF x out Name Arity Ak Ag x1 (w (v+1)))) λk1=>if one=true then if two=true then k1 else qN out (r (KF x (out++[v]) Name Arity Ak Ag x1 (w (v+1))))else k1)/\
 (iM Pz λx out Name Arity x1 Ak Ag v one two i r=>if i<0 then if two=true then r (Pz x out Name Arity x1 Ak Ag v one true (w (i+1)))else False else qL (r (KG x out Name Arity x1 Ak Ag (w (v+1)))) λk1=>if one=true then if two=true then k1 else qN out (r (KG x (out++[v]) Name Arity x1 Ak Ag (w (v+1))))else k1))/\
 ((iM PA λx out Name Arity x1 Ak Ag x2 v one two i r=>if i<(x2.length:Int)then qL (PA x out Name Arity x1 Ak Ag x2 v one) λk2=>if two=true then r (k2 true (w (i+1)))else qG x2 i (λu1=>qG u1 x.IntoColumn (λu2=>r (k2 (decide (u2=v)) (w (i+1)))))else qL (r (KH x out Name Arity x1 Ak Ag x2 (w (v+1)))) λk1=>if one=true then if two=true then k1 else qN out (r (KH x (out++[v]) Name Arity x1 Ak Ag x2 (w (v+1))))else k1)/\
 (iM ZsK λa a1 r=>qL ([]:WL) λk1=>qB (Pw a a1) (qL (VK a a1.Into) λk2=>(∃u2 u3 u4,VK a a1.Name=some (.tup [.agg [.t (.str u2),I u3,.t .nil],Bo u4],[])/\((∃u5 u6 u7,k2=some (.tup [.agg [.t (.str u5),I u6,.t .nil],Bo u7],[])/\r (KE a1 k1 u2 u3 u5 u6 0))\/(∃(u5:WA),∃u6,∃u7,k2=some (.tup [.agg [.t (.str u6),I u7,.own 0],Bo true],[.arr 32 1 true (u5.map AF)])/\r (KF a1 k1 u2 u3 u6 u7 u5 0))))\/(∃(u2:WA),∃u3,∃u4,VK a a1.Name=some (.tup [.agg [.t (.str u3),I u4,.own 0],Bo true],[.arr 32 1 true (u2.map AF)])/\((∃u5 u6 u7,k2=some (.tup [.agg [.t (.str u5),I u6,.t .nil],Bo u7],[])/\r (KG a1 k1 u3 u4 u2 u5 u6 0))\/(∃(u5:WA),∃u6,∃u7,k2=some (.tup [.agg [.t (.str u6),I u7,.own 0],Bo true],[.arr 32 1 true (u5.map AF)])/\r (KH a1 k1 u3 u4 u2 u6 u7 u5 0))))) (AZ k1 r))))/\
 (((iM PB λa a1 r=>qB (Pw a a1) (AO (ZsK a a1) (λu2=>qb (decide ((u2.length:Int)=0)) r)) (qb false r))/\
 (iM Lo λout m v r=>if v<3 then ¬v<0/\if(Ah (Au m v) 1)=1 then qN out (r (Lo (out++[v]) m (w (v+1))))else r (Lo out m (w (v+1)))else AZ out r))/\
 ((iM UM λa r=>r (Lo ([]:WL) a 0))/\
 ((iM Lp λout n m r=>qB (Z0 n 1 3) (¬n<0/\if m<(Ac 1 n)then AO (UM m) (λu2=>qN out (r (Lp (out++[u2]) n (w (m+1)))))else Kb out r) (Kb out r))/\
 (iM bQ λa r=>r (Lp ([]:WA) a 1)))))):=by
 refine qu ?_
 and_intros
 all_goals(intros;unfold Im;(try simp only[KE,KF,KG,KH,bL,bM,bN,bO,Px,Py,Pz,PA,ZsK,PB,Lo,UM,Lp,bQ,Pw,VK,Zt.c_def,Z8.c_def,Z0,bJ,Aq,vZ,bK,bP,Bc,A8]);(try simp only[Bd]);(try simp only[Be,gS,kk]))
 all_goals(repeat' first|refine Bp λ_=>?_|refine Bn λ_ _=>?_|refine Bm λ_=>?_|refine AH ?_ ?_|exact False.elim)
 all_goals(intro h;first|rw[Zl bI.eq_1]|rw[Zl ZsF.eq_1]|rw[Zl ZsG.eq_1]|refine run ZGb rfl ?_|refine run ZGc rfl ?_|rw[Zl ZsL.eq_1]|refine run ZGd rfl ?_|rw[Zl ZsO.eq_1]|refine run ZGe rfl ?_)
 all_goals (refine Ye ?_ h;clear h;simp +decide[*,kk,tI,Av,ZsJ,ZsI,vY,ZsH,Z4U,Z4V,Z4W,ZsM,Z4X,ZsP,Z4Y])
abbrev X3:=uq ZKj
def ZKk:((iM bR λt values counts cols i r=>if i<(t.Rows.length:Int)then qG t.Rows i (λu1=>Kc (Hi u1 cols) (λu2 u3=>Uc (Jx values u2) (λu4=>r (bR t u4 counts cols (w (i+1))))))else r (PD t values counts cols 0))/\
 (iM PD λt values counts cols k r=>if k<(values.length:Int)then r (bS t values counts cols k 0 0)else uS values counts r))/\
 ((iM bS λt values counts cols k n i r=>if i<(t.Rows.length:Int)then qG t.Rows i (λu1=>Kc (Hi u1 cols) (λu2 u3=>qG values k (λu4=>qI (Uq u2 u4) (λu5=>qL (bS t values counts cols k) λk1=>if u5=0 then r (k1 (w (n+1)) (w (i+1)))else r (k1 n (w (i+1)))))))else qN counts (r (PD t values (counts++[n]) cols (w (k+1)))))/\
 (iM PC λa a1 r=>qB (Pr a a1) (r (bR a ([]:WA) ([]:WL) a1 0)) (uS ([]:WA) ([]:WL) r))):=by
 refine qu ?_
 and_intros
 all_goals(intros;unfold Im;(try simp only[bR,PD,bS,PC,Hi,Jx,Uq,Pr,Zs.c_def,Aq,ZsW,Bc,A8]);(try simp only[Bd]);(try simp only[Be,gS,kk]))
 all_goals(repeat' first|refine Bp λ_=>?_|refine Bn λ_ _=>?_|refine Bm λ_=>?_|refine AH ?_ ?_|exact False.elim)
 all_goals(intro h;first|rw[Zl ZsQ.eq_1]|rw[Zl wB.eq_1]|rw[Zl ZsR.eq_1]|refine run ZGf rfl ?_)
 all_goals (refine Ye ?_ h;clear h;simp +decide[*,kk,tI,Av,ZsV,ZsU,Z4Z,ZsT,ZsS,Z5a])
abbrev Mt:=uq ZKk
def ZKl:((((iM Ztb λt Name Arity RowCount Ak Ag Ar l i r=>if i<(l.length:Int)then qG l i (λu1=>uT (PC t u1) (λu2 u3=>r (bT t Name Arity RowCount Ak Ag Ar false ([(⟨u1,u2,u3⟩:ZF)]) l (w (i+1)))))else r (some (.agg [.t (.str Ak),I Ag,I Ar,L 3 (([]:List ZF).map ZF.c)],[])))/\
 (iM bT λt Name Arity RowCount Ak Ag Ar fr x l i r=>if i<(l.length:Int)then qG l i (λu1=>uT (PC t u1) (λu2 u3=>qN x (r (bT t Name Arity RowCount Ak Ag Ar false (x++[(⟨u1,u2,u3⟩:ZF)]) l (w (i+1))))))else r (some (.agg [.t (.str Ak),I Ag,I Ar,L 3 (x.map ZF.c)],[]))))/\
 ((iM Lq λa r=>qB (Jy a) (Uc (bQ a.Arity) (λu2=>r (Ztb a (⟨#[]⟩:V6) 0 0 a.Name a.Arity (a.Rows.length:Int) u2 0))) (r (some (.agg [.t (.str (⟨#[]⟩:V6)),I 0,I 0,L 3 (([]:List ZF).map ZF.c)],[]))))/\
 (iM Ztg λd Version Az i r=>if i<(d.Tables.length:Int)then qG d.Tables i (λu1=>∃(u2:Z5),Lq u1=some (.agg (u2.c.map .t),[])/\r (bU d Version Az false ([u2]) (w (i+1))))else uU Az ([]:List Z5) r)))/\
 (((iM bU λd Version Az fr x i r=>if i<(d.Tables.length:Int)then qG d.Tables i (λu1=>∃(u2:Z5),Lq u1=some (.agg (u2.c.map .t),[])/\qN x (r (bU d Version Az false (x++[u2]) (w (i+1)))))else uU Az x r)/\
 (iM PE λa a1 r=>qL (Lg ([]:List Z5) r) λk1=>qB (Po a) (qB (Z0 a1 1 999) (r (Ztg a 0 a1 0)) k1) k1))/\
 ((iM bW λd deps BX i r=>if i<(deps.length:Int)then qG deps i (λu1=>qB (Pu d u1) (r (bW d deps BX (w (i+1)))) (qb false r))else r (bX d BX 0))/\
 ((iM bX λd BX i r=>if i<(BX.length:Int)then qG BX i (λu1=>qB (PB d u1) (r (bX d BX (w (i+1)))) (qb false r))else qb true r)/\
 (iM PF λa a1 a2 r=>if 8<(a1.length:Int)then qb false r else if 8<(a2.length:Int)then qb false r else r (bW a a1 a2 0))))))/\
 ((((iM Ztp λd i r=>if i<(d.Tables.length:Int)then qG d.Tables i (λu1=>(∃u2 u3,KD u1=some (.agg [.t (.str u2),I u3,.t .nil],[])/\r (Lr d ([(⟨u2,u3,[]⟩:Zs)]) (w (i+1))))\/(∃(u2:WA),∃u3,∃u4,KD u1=some (.agg [.t (.str u3),I u4,.own 0],[.arr 32 1 true (u2.map AF)])/\r (Lr d ([(⟨u3,u4,u2⟩:Zs)]) (w (i+1)))))else uV ([]:List Zs) r)/\
 (iM Lr λd x i r=>if i<(d.Tables.length:Int)then qG d.Tables i (λu1=>(∃u2 u3,KD u1=some (.agg [.t (.str u2),I u3,.t .nil],[])/\qN x (r (Lr d (x++[(⟨u2,u3,[]⟩:Zs)]) (w (i+1)))))\/(∃(u2:WA),∃u3,∃u4,KD u1=some (.agg [.t (.str u3),I u4,.own 0],[.arr 32 1 true (u2.map AF)])/\qN x (r (Lr d (x++[(⟨u3,u4,u2⟩:Zs)]) (w (i+1))))))else uV x r))/\
 ((iM wC λa r=>r (Ztp a 0))/\
 (iM bY λout l i r=>if i<(l.length:Int)then qG l i (λu1=>qM u1.From (qN out (r (bY (out++[u1]) l (w (i+1))))))else r (some (.own 0,[.arr 159 3 true (out.map ZD.c)])))))/\
 (((iM wD λa r=>r (bY ([]:List ZD) a 0))/\
 (iM wE λa a1 a2 r=>∃(u1:ZN),∃u2,PE a 1=some (.tup [.agg (u1.c.map .t),Bo u2],[])/\qL (Lh ([]:List Zs) ([]:List Z5) ([]:List ZD) ([]:List Z8) r) λk1=>if u2=true then qB (PF a a1 a2) (∃(u4:List Zs),wC a=some (.agg [.own 0],[.arr 191 3 true (u4.map Zs.c)])/\∃(u5:List ZD),wD a1=some (.own 0,[.arr 159 3 true (u5.map ZD.c)])/\qM a2 (r (some (.tup [.agg [L 3 (u4.map Zs.c),I u1.Version,L 4 (u1.Tables.map Z5.c),L 3 (u5.map ZD.c),L 4 (a2.map Z8.c)],Bo true],[])))) k1 else k1))/\
 ((iM PG λc Version d fr deps n r=>if 0<n then ∃(u1:Zo) (u2:ZD),aZ c=some (.agg (u2.c.map .t),[.box (u1.c.map .t)])/\qB (Pu d u2) (qN deps (r (PG u1 Version d false (deps++[u2]) (w (n-1))))) (r (PG u1 Version d fr deps (w (n-1))))else ∃(u1:Zo),∃u2,Xk c 12=some (I u2,[.box (u1.c.map .t)])/\r (cA u1 Version d fr deps ([]:List Z8) u2))/\
 ((iM cA λc Version d fr deps BX n r=>if 0<n then ∃(u1:Zo) (u2:Z8),Pv c=some (.agg (u2.c.map .t),[.box (u1.c.map .t)])/\qL (cA u1 Version d fr deps) λk2=>qL (r (k2 BX (w (n-1)))) λk1=>qB (PB d u2) (if(BX.length:Int)<4 then qN BX (r (k2 (BX++[u2]) (w (n-1))))else k1) k1 else ∃(u1:Zq),∃u2,wE d deps BX=some (.tup [.agg (u1.c.map .t),Bo u2],[])/\r (some (.agg (u1.c.map .t),[.box (c.c.map .t)])))/\
 (iM bZ λx r=>∃(u1:Zo) (u2:Zt),aY x=some (.agg (u2.c.map .t),[.box (u1.c.map .t)])/\BR (Xk u1 6) (λu3 u4=>r (PG u3 0 u2 true ([]:List ZD) u4))))))):=by
 refine qu ?_
 and_intros
 all_goals(intros;unfold Im;(try simp only[Ztb,bT,Lq,Ztg,bU,PE,bW,bX,PF,Ztp,Lr,wC,bY,wD,wE,PG,cA,bZ,PC,Zs.c_def,Jy,bQ,Z5.c_def,Po,Z0,Zt.c_def,Pu,ZD.c_def,PB,Z8.c_def,KD,ZN.c_def,aZ,Xk,Zo.c_def,Pv,Zq.c_def,aY,Zta,Aq,Ztf,Zto,Bc,A8]);(try simp only[Bd]);(try simp only[Be,gS,kk]))
 all_goals(repeat' first|refine Bp λ_=>?_|refine Bn λ_ _=>?_|refine Bm λ_=>?_|refine AH ?_ ?_|exact False.elim)
 all_goals(intro h;first|rw[Zl ZsY.eq_1]|refine run ZGg rfl ?_|rw[Zl Ztd.eq_1]|refine run ZGh rfl ?_|rw[Zl Zth.eq_1]|rw[Zl Zti.eq_1]|refine run ZGi rfl ?_|rw[Zl Ztm.eq_1]|refine run ZGj rfl ?_|rw[Zl Ztr.eq_1]|refine run ZGk rfl ?_|refine run ZGl rfl ?_|rw[Zl Ztt.eq_1]|rw[Zl Ztu.eq_1]|refine XH ZGm rfl ?_)
 all_goals (refine Ye ?_ h;clear h;simp +decide[*,kk,tI,Av,ZsZ,Z5b,Zte,Z5c,Ztk,Ztj,Z5d,Ztn,Z5e,Zts,Z5f,Z5g,Z5h,Ztw,Z5i,Ztv,Z5j])
abbrev XR:=uq ZKl
def ZKm:iM cD λZh r=>qB (Z0 Zh 1 4) (qB (Z0 0 1 4) (r (Z5l Zh 0 0)) (qb false r)) (qb false r):=by
 refine qu ?_
 all_goals(intros;unfold Im;(try simp only[cD,Z0,Z5l,wJ,Aq,wI,Bc,A8]);(try simp only[Bd]);(try simp only[Be,gS,kk]))
 all_goals(repeat' first|refine Bp λ_=>?_|refine Bn λ_ _=>?_|refine Bm λ_=>?_|refine AH ?_ ?_|exact False.elim)
 all_goals(intro h;first|refine run Z0C rfl ?_)
 all_goals (refine Ye ?_ h;clear h;simp +decide[*,kk,tI,Av,wH])
abbrev ZKn:=uq ZKm
def ZKo:(iM PH λq seen i r=>if i<(q.Atoms.length:Int)then qG q.Atoms i (λu1=>qB (Ln u1.Name) (qB (Z0 (u1.Vars.length:Int) 1 3) (r (cE q u1 seen i 0)) (qb false r)) (qb false r))else ¬q.Zh<0/\qb (decide (seen=(w ((Ac 1 q.Zh)-1)))) r)/\
 ((iM cE λq a seen i k r=>if k<(a.Vars.length:Int)then qG a.Vars k (λu1=>qB (Z0 u1 0 (w (q.Zh-1))) (k.toNat<=a.Vars.length/\qB (Vw (a.Vars.take k.toNat) u1) (qb false r) (¬u1<0/\r (cE q a (At seen (Ac 1 u1)) i (w (k+1))))) (qb false r))else r (PH q seen (w (i+1))))/\
 (iM Q8 λa r=>qB (Z0 a.Zh 1 4) (qB (Z0 (a.Atoms.length:Int) 1 4) (r (PH a 0 0)) (qb false r)) (qb false r))):=by
 refine qu ?_
 and_intros
 all_goals(intros;unfold Im;(try simp only[PH,cE,Q8,Ln,Z0,Vw,wJ,Aq,wI,Bc,A8]);(try simp only[Bd]);(try simp only[Be,gS,kk]))
 all_goals(repeat' first|refine Bp λ_=>?_|refine Bn λ_ _=>?_|refine Bm λ_=>?_|refine AH ?_ ?_|exact False.elim)
 all_goals(intro h;first|rw[Zl wG.eq_1]|rw[Zl Ztx.eq_1]|refine run Z0C rfl ?_)
 all_goals (refine Ye ?_ h;clear h;simp +decide[*,kk,tI,Av,Ztz,Zty,wH])
abbrev jZ:=uq ZKo
