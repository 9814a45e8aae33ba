/-
  Parts of the proofs for this seat: G4 G5 G6.
-/
import Derived.Test.YtobfkfgdneeabaaGreatP13
import Derived.Test.YtobfkfgdneeabaaGreatP14
set_option linter.all false
set_option maxRecDepth 100000
set_option maxHeartbeats 4000000
namespace Go.Proofs.YtobfkfgdneeabaaGreat
open Go.AM
def ZNi:((((iM KG λx out Name Arity Al Ah v r=>if v<=9 then r (iF x out Name Arity Al Ah v false false 0)else Bn out r)/\
 (iM KH λx out Name Arity Al Ah x1 v r=>if v<=9 then r (iG x out Name Arity Al Ah x1 v false false 0)else Bn out r))/\
 ((iM KJ λx out Name Arity x1 Al Ah v r=>if v<=9 then r (iH x out Name Arity x1 Al Ah v false false 0)else Bn out r)/\
 (iM KK λx out Name Arity x1 Al Ah x2 v r=>if v<=9 then r (iI x out Name Arity x1 Al Ah x2 v false false 0)else Bn out r)))/\
 (((iM iF λx out Name Arity Al Ah v one two i r=>if i<0 then if one=true then r (iF x out Name Arity Al Ah v true two (w (i+1)))else False else r (SB x out Name Arity Al Ah v one two 0))/\
 (iM iG λx out Name Arity Al Ah x1 v one two i r=>if i<0 then if one=true then r (iG x out Name Arity Al Ah x1 v true two (w (i+1)))else False else r (SC x out Name Arity Al Ah x1 v one two 0)))/\
 ((iM iH λx out Name Arity x1 Al Ah v one two i r=>if i<(x1.length:Int)then qL (iH x out Name Arity x1 Al Ah v) λk1=>if one=true then r (k1 true two (w (i+1)))else qG x1 i (λu1=>qG u1 x.Column (λu2=>r (k1 (decide (u2=v)) two (w (i+1)))))else r (SD x out Name Arity x1 Al Ah v one two 0))/\
 ((iM iI λx out Name Arity x1 Al Ah x2 v one two i r=>if i<(x1.length:Int)then qL (iI x out Name Arity x1 Al Ah x2 v) λk1=>if one=true then r (k1 true two (w (i+1)))else qG x1 i (λu1=>qG u1 x.Column (λu2=>r (k1 (decide (u2=v)) two (w (i+1)))))else r (SE x out Name Arity x1 Al Ah x2 v one two 0))/\
 (iM SB λx out Name Arity Al Ah v one two i r=>if i<0 then if two=true then r (SB x out Name Arity Al Ah v one true (w (i+1)))else False else qL (r (KG x out Name Arity Al Ah (w (v+1)))) λk1=>if one=true then if two=true then k1 else qN out (r (KG x (out++[v]) Name Arity Al Ah (w (v+1))))else k1)))))/\
 ((((iM SC λx out Name Arity Al Ah x1 v one two i r=>if i<(x1.length:Int)then qL (SC x out Name Arity Al Ah x1 v one) λk2=>if two=true then r (k2 true (w (i+1)))else qG x1 i (λu1=>qG u1 x.IntoColumn (λu2=>r (k2 (decide (u2=v)) (w (i+1)))))else qL (r (KH x out Name Arity Al Ah x1 (w (v+1)))) λk1=>if one=true then if two=true then k1 else qN out (r (KH x (out++[v]) Name Arity Al Ah x1 (w (v+1))))else k1)/\
 (iM SD λx out Name Arity x1 Al Ah v one two i r=>if i<0 then if two=true then r (SD x out Name Arity x1 Al Ah v one true (w (i+1)))else False else qL (r (KJ x out Name Arity x1 Al Ah (w (v+1)))) λk1=>if one=true then if two=true then k1 else qN out (r (KJ x (out++[v]) Name Arity x1 Al Ah (w (v+1))))else k1))/\
 ((iM SE λx out Name Arity x1 Al Ah x2 v one two i r=>if i<(x2.length:Int)then qL (SE x out Name Arity x1 Al Ah x2 v one) λk2=>if two=true then r (k2 true (w (i+1)))else qG x2 i (λu1=>qG u1 x.IntoColumn (λu2=>r (k2 (decide (u2=v)) (w (i+1)))))else qL (r (KK x out Name Arity x1 Al Ah x2 (w (v+1)))) λk1=>if one=true then if two=true then k1 else qN out (r (KK x (out++[v]) Name Arity x1 Al Ah x2 (w (v+1))))else k1)/\
 (iM ZtP λa a1 r=>qL ([]:V2) λk1=>qB (SA a a1) (qL (WG a a1.Into) λk2=>(∃u2 u3 u4,WG a a1.Name=some (.tup [.agg [.t (.str u2),I u3,.t .nil],Bo u4],[])/\((∃u5 u6 u7,k2=some (.tup [.agg [.t (.str u5),I u6,.t .nil],Bo u7],[])/\r (KG a1 k1 u2 u3 u5 u6 0))\/(∃(u5:XS),∃u6,∃u7,k2=some (.tup [.agg [.t (.str u6),I u7,.own 0],Bo true],[.arr 38 1 true (u5.map Ae)])/\r (KH a1 k1 u2 u3 u6 u7 u5 0))))\/(∃(u2:XS),∃u3,∃u4,WG a a1.Name=some (.tup [.agg [.t (.str u3),I u4,.own 0],Bo true],[.arr 38 1 true (u2.map Ae)])/\((∃u5 u6 u7,k2=some (.tup [.agg [.t (.str u5),I u6,.t .nil],Bo u7],[])/\r (KJ a1 k1 u3 u4 u2 u5 u6 0))\/(∃(u5:XS),∃u6,∃u7,k2=some (.tup [.agg [.t (.str u6),I u7,.own 0],Bo true],[.arr 38 1 true (u5.map Ae)])/\r (KK a1 k1 u3 u4 u2 u6 u7 u5 0))))) (Bn k1 r))))/\
 (((iM SF λa a1 r=>qB (SA a a1) (AX (ZtP a a1) (λu2=>qb (decide ((u2.length:Int)=0)) r)) (qb false r))/\
 (iM Mw λout m v r=>if v<3 then ¬v<0/\if(Ai (As m v) 1)=1 then qN out (r (Mw (out++[v]) m (w (v+1))))else r (Mw out m (w (v+1)))else Bn out r))/\
 ((iM UC λa r=>r (Mw ([]:V2) a 0))/\
 ((iM Mx λout n m r=>qB (Z0 n 1 3) (¬n<0/\if m<(Ac 1 n)then AX (UC m) (λu2=>qN out (r (Mx (out++[u2]) n (w (m+1)))))else Q6 out r) (Q6 out r))/\
 (iM iK λa r=>r (Mx ([]:XS) a 1)))))):=by
 refine qu ?_
 and_intros
 all_goals(intros;unfold Im;(try simp only[KG,KH,KJ,KK,iF,iG,iH,iI,SB,SC,SD,SE,ZtP,SF,Mw,UC,Mx,iK,SA,WG,Zj.c_def,Z2.c_def,Z0,iD,Bm,ZnL,iE,iJ,A7,AY]);(try simp only[AZ]);(try simp only[A0,gS,kk]))
 all_goals(repeat' first|refine Bs λ_=>?_|refine Br λ_ _=>?_|refine Bq λ_=>?_|refine AL ?_ ?_|exact False.elim)
 all_goals(intro h;first|rw[Zk iC.eq_1]|rw[Zk ZtK.eq_1]|rw[Zk ZtL.eq_1]|refine run ZIV rfl ?_|refine run ZIW rfl ?_|rw[Zk ZtQ.eq_1]|refine run ZIX rfl ?_|rw[Zk ZtT.eq_1]|refine run ZIY rfl ?_)
 all_goals (refine Yd ?_ h;clear h;simp +decide[*,kk,tI,Ax,ZtO,ZtN,ZnK,ZtM,Z6N,Z6O,Z6P,ZtR,Z6Q,ZtU,Z6R])
abbrev Xt:=uq ZNi
def ZNj:((iM iL λt values counts cols i r=>if i<(t.Rows.length:Int)then qG t.Rows i (λu1=>R7 (H7 u1 cols) (λu2 u3=>Vb (Kh values u2) (λu4=>r (iL t u4 counts cols (w (i+1))))))else r (SH t values counts cols 0))/\
 (iM SH λt values counts cols k r=>if k<(values.length:Int)then r (iO t values counts cols k 0 0)else Znk values counts r))/\
 ((iM iO λt values counts cols k n i r=>if i<(t.Rows.length:Int)then qG t.Rows i (λu1=>R7 (H7 u1 cols) (λu2 u3=>qG values k (λu4=>qI (Vy u2 u4) (λu5=>qL (iO t values counts cols k) λk1=>if u5=0 then r (k1 (w (n+1)) (w (i+1)))else r (k1 n (w (i+1)))))))else qN counts (r (SH t values (counts++[n]) cols (w (k+1)))))/\
 (iM SG λa a1 r=>qB (Sv a a1) (r (iL a ([]:XS) ([]:V2) a1 0)) (Znk ([]:XS) ([]:V2) r))):=by
 refine qu ?_
 and_intros
 all_goals(intros;unfold Im;(try simp only[iL,SH,iO,SG,H7,Kh,Vy,Sv,Zl.c_def,Bm,Zub,A7,AY]);(try simp only[AZ]);(try simp only[A0,gS,kk]))
 all_goals(repeat' first|refine Bs λ_=>?_|refine Br λ_ _=>?_|refine Bq λ_=>?_|refine AL ?_ ?_|exact False.elim)
 all_goals(intro h;first|rw[Zk ZtV.eq_1]|rw[Zk ZnN.eq_1]|rw[Zk ZtW.eq_1]|refine run ZIZ rfl ?_)
 all_goals (refine Yd ?_ h;clear h;simp +decide[*,kk,tI,Ax,Zua,ZtZ,Z6S,ZtY,ZtX,Z6T])
abbrev NS:=uq ZNj
def ZNk:((((iM Zug λt Name Arity RowCount Al Ah At l i r=>if i<(l.length:Int)then qG l i (λu1=>Znl (SG t u1) (λu2 u3=>r (iP t Name Arity RowCount Al Ah At false ([(⟨u1,u2,u3⟩:ZA)]) l (w (i+1)))))else r (some (.agg [.t (.str Al),I Ah,I At,L 3 (([]:List ZA).map ZA.c)],[])))/\
 (iM iP λt Name Arity RowCount Al Ah At fr x l i r=>if i<(l.length:Int)then qG l i (λu1=>Znl (SG t u1) (λu2 u3=>qN x (r (iP t Name Arity RowCount Al Ah At false (x++[(⟨u1,u2,u3⟩:ZA)]) l (w (i+1))))))else r (some (.agg [.t (.str Al),I Ah,I At,L 3 (x.map ZA.c)],[]))))/\
 ((iM My λa r=>qB (Jw a) (Vb (iK a.Arity) (λu2=>r (Zug a (⟨#[]⟩:KI) 0 0 a.Name a.Arity (a.Rows.length:Int) u2 0))) (r (some (.agg [.t (.str (⟨#[]⟩:KI)),I 0,I 0,L 3 (([]:List ZA).map ZA.c)],[]))))/\
 (iM Zul λd Version BO i r=>if i<(d.Tables.length:Int)then qG d.Tables i (λu1=>∃(u2:Z1),My u1=some (.agg (u2.c.map .t),[])/\r (iQ d Version BO false ([u2]) (w (i+1))))else Znm BO ([]:List Z1) r)))/\
 (((iM iQ λd Version BO fr x i r=>if i<(d.Tables.length:Int)then qG d.Tables i (λu1=>∃(u2:Z1),My u1=some (.agg (u2.c.map .t),[])/\qN x (r (iQ d Version BO false (x++[u2]) (w (i+1)))))else Znm BO x r)/\
 (iM SI λa a1 r=>qL (Mg ([]:List Z1) r) λk1=>qB (Ss a) (qB (Z0 a1 1 999) (r (Zul a 0 a1 0)) k1) k1))/\
 ((iM iS λd deps Cg i r=>if i<(deps.length:Int)then qG deps i (λu1=>qB (Sy d u1) (r (iS d deps Cg (w (i+1)))) (qb false r))else r (iT d Cg 0))/\
 ((iM iT λd Cg i r=>if i<(Cg.length:Int)then qG Cg i (λu1=>qB (SF d u1) (r (iT d Cg (w (i+1)))) (qb false r))else qb true r)/\
 (iM SJ λa a1 a2 r=>if 8<(a1.length:Int)then qb false r else if 8<(a2.length:Int)then qb false r else r (iS a a1 a2 0))))))/\
 ((((iM Zuu λd i r=>if i<(d.Tables.length:Int)then qG d.Tables i (λu1=>(∃u2 u3,KF u1=some (.agg [.t (.str u2),I u3,.t .nil],[])/\r (Mz d ([(⟨u2,u3,[]⟩:Zl)]) (w (i+1))))\/(∃(u2:XS),∃u3,∃u4,KF u1=some (.agg [.t (.str u3),I u4,.own 0],[.arr 38 1 true (u2.map Ae)])/\r (Mz d ([(⟨u3,u4,u2⟩:Zl)]) (w (i+1)))))else Znn ([]:List Zl) r)/\
 (iM Mz λd x i r=>if i<(d.Tables.length:Int)then qG d.Tables i (λu1=>(∃u2 u3,KF u1=some (.agg [.t (.str u2),I u3,.t .nil],[])/\qN x (r (Mz d (x++[(⟨u2,u3,[]⟩:Zl)]) (w (i+1)))))\/(∃(u2:XS),∃u3,∃u4,KF u1=some (.agg [.t (.str u3),I u4,.own 0],[.arr 38 1 true (u2.map Ae)])/\qN x (r (Mz d (x++[(⟨u3,u4,u2⟩:Zl)]) (w (i+1))))))else Znn x r))/\
 ((iM ZnO λa r=>r (Zuu a 0))/\
 (iM iU λout l i r=>if i<(l.length:Int)then qG l i (λu1=>qM u1.From (qN out (r (iU (out++[u1]) l (w (i+1))))))else r (some (.own 0,[.arr 152 3 true (out.map Z9.c)])))))/\
 (((iM ZnP λa r=>r (iU ([]:List Z9) a 0))/\
 (iM ZnQ λa a1 a2 r=>∃(u1:ZM),∃u2,SI a 1=some (.tup [.agg (u1.c.map .t),Bo u2],[])/\qL (Mh ([]:List Zl) ([]:List Z1) ([]:List Z9) ([]:List Z2) r) λk1=>if u2=true then qB (SJ a a1 a2) (∃(u4:List Zl),ZnO a=some (.agg [.own 0],[.arr 112 3 true (u4.map Zl.c)])/\∃(u5:List Z9),ZnP a1=some (.own 0,[.arr 152 3 true (u5.map Z9.c)])/\qM a2 (r (some (.tup [.agg [L 3 (u4.map Zl.c),I u1.Version,L 4 (u1.Tables.map Z1.c),L 3 (u5.map Z9.c),L 4 (a2.map Z2.c)],Bo true],[])))) k1 else k1))/\
 ((iM SK λc Version d fr deps n r=>if 0<n then ∃(u1:Zo) (u2:Z9),gW c=some (.agg (u2.c.map .t),[.box (u1.c.map .t)])/\qB (Sy d u2) (qN deps (r (SK u1 Version d false (deps++[u2]) (w (n-1))))) (r (SK u1 Version d fr deps (w (n-1))))else ∃(u1:Zo),∃u2,ZR c 12=some (I u2,[.box (u1.c.map .t)])/\r (iW u1 Version d fr deps ([]:List Z2) u2))/\
 ((iM iW λc Version d fr deps Cg n r=>if 0<n then ∃(u1:Zo) (u2:Z2),Sz c=some (.agg (u2.c.map .t),[.box (u1.c.map .t)])/\qL (iW u1 Version d fr deps) λk2=>qL (r (k2 Cg (w (n-1)))) λk1=>qB (SF d u2) (if(Cg.length:Int)<4 then qN Cg (r (k2 (Cg++[u2]) (w (n-1))))else k1) k1 else ∃(u1:Zs),∃u2,ZnQ d deps Cg=some (.tup [.agg (u1.c.map .t),Bo u2],[])/\r (some (.agg (u1.c.map .t),[.box (c.c.map .t)])))/\
 (iM iV λx r=>∃(u1:Zo) (u2:Zj),gV x=some (.agg (u2.c.map .t),[.box (u1.c.map .t)])/\BW (ZR u1 6) (λu3 u4=>r (SK u3 0 u2 true ([]:List Z9) u4))))))):=by
 refine qu ?_
 and_intros
 all_goals(intros;unfold Im;(try simp only[Zug,iP,My,Zul,iQ,SI,iS,iT,SJ,Zuu,Mz,ZnO,iU,ZnP,ZnQ,SK,iW,iV,SG,Zl.c_def,Jw,iK,Z1.c_def,Ss,Z0,Zj.c_def,Sy,Z9.c_def,SF,Z2.c_def,KF,ZM.c_def,gW,ZR,Zo.c_def,Sz,Zs.c_def,gV,Zuf,Bm,Zuk,Zut,A7,AY]);(try simp only[AZ]);(try simp only[A0,gS,kk]))
 all_goals(repeat' first|refine Bs λ_=>?_|refine Br λ_ _=>?_|refine Bq λ_=>?_|refine AL ?_ ?_|exact False.elim)
 all_goals(intro h;first|rw[Zk Zud.eq_1]|refine run ZJa rfl ?_|rw[Zk Zui.eq_1]|refine run ZJb rfl ?_|rw[Zk Zum.eq_1]|rw[Zk Zun.eq_1]|refine run ZJc rfl ?_|rw[Zk Zur.eq_1]|refine run ZJd rfl ?_|rw[Zk Zuw.eq_1]|refine run ZJe rfl ?_|refine run ZJf rfl ?_|rw[Zk Zuy.eq_1]|rw[Zk Zuz.eq_1]|refine Xx ZJg rfl ?_)
 all_goals (refine Yd ?_ h;clear h;simp +decide[*,kk,tI,Ax,Zue,Z6U,Zuj,Z6V,Zup,Zuo,Z6W,Zus,Z6X,Zux,Z6Y,Z6Z,Z7a,Zu1,Z7b,Zu0,Z7c])
abbrev XK:=uq ZNk
def ZNl:iM iY λZi r=>qB (Z0 Zi 1 4) (qB (Z0 0 1 4) (r (Z7e Zi 0 0)) (qb false r)) (qb false r):=by
 refine qu ?_
 all_goals(intros;unfold Im;(try simp only[iY,Z0,Z7e,ZnV,Bm,ZnU,A7,AY]);(try simp only[AZ]);(try simp only[A0,gS,kk]))
 all_goals(repeat' first|refine Bs λ_=>?_|refine Br λ_ _=>?_|refine Bq λ_=>?_|refine AL ?_ ?_|exact False.elim)
 all_goals(intro h;first|refine run Z1U rfl ?_)
 all_goals (refine Yd ?_ h;clear h;simp +decide[*,kk,tI,Ax,ZnT])
abbrev ZNm:=uq ZNl
def ZNn:(iM SL λq seen i r=>if i<(q.Atoms.length:Int)then qG q.Atoms i (λu1=>qB (Mv u1.Name) (qB (Z0 (u1.Vars.length:Int) 1 3) (r (iZ q u1 seen i 0)) (qb false r)) (qb false r))else ¬q.Zi<0/\qb (decide (seen=(w ((Ac 1 q.Zi)-1)))) r)/\
 ((iM iZ λq a seen i k r=>if k<(a.Vars.length:Int)then qG a.Vars k (λu1=>qB (Z0 u1 0 (w (q.Zi-1))) (k.toNat<=a.Vars.length/\qB (VW (a.Vars.take k.toNat) u1) (qb false r) (¬u1<0/\r (iZ q a (Az seen (Ac 1 u1)) i (w (k+1))))) (qb false r))else r (SL q seen (w (i+1))))/\
 (iM Kj λa r=>qB (Z0 a.Zi 1 4) (qB (Z0 (a.Atoms.length:Int) 1 4) (r (SL a 0 0)) (qb false r)) (qb false r))):=by
 refine qu ?_
 and_intros
 all_goals(intros;unfold Im;(try simp only[SL,iZ,Kj,Mv,Z0,VW,ZnV,Bm,ZnU,A7,AY]);(try simp only[AZ]);(try simp only[A0,gS,kk]))
 all_goals(repeat' first|refine Bs λ_=>?_|refine Br λ_ _=>?_|refine Bq λ_=>?_|refine AL ?_ ?_|exact False.elim)
 all_goals(intro h;first|rw[Zk ZnS.eq_1]|rw[Zk Zu2.eq_1]|refine run Z1U rfl ?_)
 all_goals (refine Yd ?_ h;clear h;simp +decide[*,kk,tI,Ax,Zu4,Zu3,ZnT])
abbrev pC:=uq ZNn
