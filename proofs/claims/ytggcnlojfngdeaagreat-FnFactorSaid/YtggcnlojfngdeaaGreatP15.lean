/-
  Parts of the proofs for this seat: G4 G5 G6.
-/
import Derived.Test.YtggcnlojfngdeaaGreatP13
set_option linter.all false
set_option maxRecDepth 100000
set_option maxHeartbeats 4000000
namespace Go.Proofs.YtggcnlojfngdeaaGreat
open Go.AM
def ZH7:((((iM K3 λx out Name Arity Al Ad v r=>if v<=9 then r (bV x out Name Arity Al Ad v false false 0)else A3 out r)/\
 (iM K4 λx out Name Arity Al Ad x1 v r=>if v<=9 then r (bW x out Name Arity Al Ad x1 v false false 0)else A3 out r))/\
 ((iM K5 λx out Name Arity x1 Al Ad v r=>if v<=9 then r (bX x out Name Arity x1 Al Ad v false false 0)else A3 out r)/\
 (iM K6 λx out Name Arity x1 Al Ad x2 v r=>if v<=9 then r (bY x out Name Arity x1 Al Ad x2 v false false 0)else A3 out r)))/\
 (((iM bV λx out Name Arity Al Ad v one two i r=>if i<0 then if one=true then r (bV x out Name Arity Al Ad v true two (w (i+1)))else False else r (PI x out Name Arity Al Ad v one two 0))/\
 (iM bW λx out Name Arity Al Ad x1 v one two i r=>if i<0 then if one=true then r (bW x out Name Arity Al Ad x1 v true two (w (i+1)))else False else r (PJ x out Name Arity Al Ad x1 v one two 0)))/\
 ((iM bX λx out Name Arity x1 Al Ad v one two i r=>if i<(x1.length:Int)then qL (bX x out Name Arity x1 Al Ad v) λk1=>if one=true then r (k1 true two (w (i+1)))else qG x1 i (λu1=>qG u1 x.Column (λu2=>r (k1 (decide (u2=v)) two (w (i+1)))))else r (PK x out Name Arity x1 Al Ad v one two 0))/\
 ((iM bY λx out Name Arity x1 Al Ad x2 v one two i r=>if i<(x1.length:Int)then qL (bY x out Name Arity x1 Al Ad x2 v) λk1=>if one=true then r (k1 true two (w (i+1)))else qG x1 i (λu1=>qG u1 x.Column (λu2=>r (k1 (decide (u2=v)) two (w (i+1)))))else r (PL x out Name Arity x1 Al Ad x2 v one two 0))/\
 (iM PI λx out Name Arity Al Ad v one two i r=>if i<0 then if two=true then r (PI x out Name Arity Al Ad v one true (w (i+1)))else False else qL (r (K3 x out Name Arity Al Ad (w (v+1)))) λk1=>if one=true then if two=true then k1 else qN out (r (K3 x (out++[v]) Name Arity Al Ad (w (v+1))))else k1)))))/\
 ((((iM PJ λx out Name Arity Al Ad x1 v one two i r=>if i<(x1.length:Int)then qL (PJ x out Name Arity Al Ad x1 v one) λk2=>if two=true then r (k2 true (w (i+1)))else qG x1 i (λu1=>qG u1 x.IntoColumn (λu2=>r (k2 (decide (u2=v)) (w (i+1)))))else qL (r (K4 x out Name Arity Al Ad x1 (w (v+1)))) λk1=>if one=true then if two=true then k1 else qN out (r (K4 x (out++[v]) Name Arity Al Ad x1 (w (v+1))))else k1)/\
 (iM PK λx out Name Arity x1 Al Ad v one two i r=>if i<0 then if two=true then r (PK x out Name Arity x1 Al Ad v one true (w (i+1)))else False else qL (r (K5 x out Name Arity x1 Al Ad (w (v+1)))) λk1=>if one=true then if two=true then k1 else qN out (r (K5 x (out++[v]) Name Arity x1 Al Ad (w (v+1))))else k1))/\
 ((iM PL λx out Name Arity x1 Al Ad x2 v one two i r=>if i<(x2.length:Int)then qL (PL x out Name Arity x1 Al Ad x2 v one) λk2=>if two=true then r (k2 true (w (i+1)))else qG x2 i (λu1=>qG u1 x.IntoColumn (λu2=>r (k2 (decide (u2=v)) (w (i+1)))))else qL (r (K6 x out Name Arity x1 Al Ad x2 (w (v+1)))) λk1=>if one=true then if two=true then k1 else qN out (r (K6 x (out++[v]) Name Arity x1 Al Ad x2 (w (v+1))))else k1)/\
 (iM Zsj λa a1 r=>qL ([]:WL) λk1=>qB (PH a a1) (qL (VK a a1.Into) λk2=>(∃u2 u3 u4,VK a a1.Name=some (.tup [.agg [.t (.str u2),I u3,.t .nil],Bo u4],[])/\((∃u5 u6 u7,k2=some (.tup [.agg [.t (.str u5),I u6,.t .nil],Bo u7],[])/\r (K3 a1 k1 u2 u3 u5 u6 0))\/(∃(u5:XV),∃u6,∃u7,k2=some (.tup [.agg [.t (.str u6),I u7,.own 0],Bo true],[.arr 44 1 true (u5.map AA)])/\r (K4 a1 k1 u2 u3 u6 u7 u5 0))))\/(∃(u2:XV),∃u3,∃u4,VK a a1.Name=some (.tup [.agg [.t (.str u3),I u4,.own 0],Bo true],[.arr 44 1 true (u2.map AA)])/\((∃u5 u6 u7,k2=some (.tup [.agg [.t (.str u5),I u6,.t .nil],Bo u7],[])/\r (K5 a1 k1 u3 u4 u2 u5 u6 0))\/(∃(u5:XV),∃u6,∃u7,k2=some (.tup [.agg [.t (.str u6),I u7,.own 0],Bo true],[.arr 44 1 true (u5.map AA)])/\r (K6 a1 k1 u3 u4 u2 u6 u7 u5 0))))) (A3 k1 r))))/\
 (((iM He λa a1 r=>qB (PH a a1) (A4 (Zsj a a1) (λu2=>qb (decide ((u2.length:Int)=0)) r)) (qb false r))/\
 (iM Lw λout m v r=>if v<3 then ¬v<0/\if(Aj (At m v) 1)=1 then qN out (r (Lw (out++[v]) m (w (v+1))))else r (Lw out m (w (v+1)))else A3 out r))/\
 ((iM UP λa r=>r (Lw ([]:WL) a 0))/\
 ((iM Lx λout n m r=>qB (Z0 n 1 3) (¬n<0/\if m<(Ac 1 n)then A4 (UP m) (λu2=>qN out (r (Lx (out++[u2]) n (w (m+1)))))else Ky out r) (Ky out r))/\
 (iM cA λa r=>r (Lx ([]:XV) a 1)))))):=by
 refine qu ?_
 and_intros
 all_goals(intros;unfold Im;(try simp only[K3,K4,K5,K6,bV,bW,bX,bY,PI,PJ,PK,PL,Zsj,He,Lw,UP,Lx,cA,PH,VK,Zq.c_def,Zw.c_def,Z0,bT,Ar,wH,bU,bZ,Bf,A7]);(try simp only[Bc]);(try simp only[Bd,gS,kk]))
 all_goals(repeat' first|refine Br λ_=>?_|refine Bq λ_ _=>?_|refine Bp λ_=>?_|refine AL ?_ ?_|exact False.elim)
 all_goals(intro h;first|rw[Zk bS.eq_1]|rw[Zk Zse.eq_1]|rw[Zk Zsf.eq_1]|refine run ZDP rfl ?_|refine run ZDQ rfl ?_|rw[Zk Zsk.eq_1]|refine run ZDR rfl ?_|rw[Zk Zsn.eq_1]|refine run ZDS rfl ?_)
 all_goals (refine Yg ?_ h;clear h;simp +decide[*,kk,tI,Az,Zsi,Zsh,wG,Zsg,Z3l,Z3m,Z3n,Zsl,Z3o,Zso,Z3p])
abbrev X0:=uq ZH7
def ZH8:((iM cC λt values counts cols i r=>if i<(t.Rows.length:Int)then qG t.Rows i (λu1=>Kz (Hb u1 cols) (λu2 u3=>UM (Jd values u2) (λu4=>r (cC t u4 counts cols (w (i+1))))))else r (PN t values counts cols 0))/\
 (iM PN λt values counts cols k r=>if k<(values.length:Int)then r (cD t values counts cols k 0 0)else uP values counts r))/\
 ((iM cD λt values counts cols k n i r=>if i<(t.Rows.length:Int)then qG t.Rows i (λu1=>Kz (Hb u1 cols) (λu2 u3=>qG values k (λu4=>qI (Ut u2 u4) (λu5=>qL (cD t values counts cols k) λk1=>if u5=0 then r (k1 (w (n+1)) (w (i+1)))else r (k1 n (w (i+1)))))))else qN counts (r (PN t values (counts++[n]) cols (w (k+1)))))/\
 (iM PM λa a1 r=>qB (PE a a1) (r (cC a ([]:XV) ([]:WL) a1 0)) (uP ([]:XV) ([]:WL) r))):=by
 refine qu ?_
 and_intros
 all_goals(intros;unfold Im;(try simp only[cC,PN,cD,PM,Hb,Jd,Ut,PE,Zm.c_def,Ar,Zsv,Bf,A7]);(try simp only[Bc]);(try simp only[Bd,gS,kk]))
 all_goals(repeat' first|refine Br λ_=>?_|refine Bq λ_ _=>?_|refine Bp λ_=>?_|refine AL ?_ ?_|exact False.elim)
 all_goals(intro h;first|rw[Zk Zsp.eq_1]|rw[Zk wJ.eq_1]|rw[Zk Zsq.eq_1]|refine run ZDT rfl ?_)
 all_goals (refine Yg ?_ h;clear h;simp +decide[*,kk,tI,Az,Zsu,Zst,Z3q,Zss,Zsr,Z3r])
abbrev Mp:=uq ZH8
def ZH9:((((iM Zs0 λt Name Arity RowCount Al Ad As l i r=>if i<(l.length:Int)then qG l i (λu1=>uQ (PM t u1) (λu2 u3=>r (cE t Name Arity RowCount Al Ad As false ([(⟨u1,u2,u3⟩:ZC)]) l (w (i+1)))))else r (some (.agg [.t (.str Al),I Ad,I As,L 3 (([]:List ZC).map ZC.c)],[])))/\
 (iM cE λt Name Arity RowCount Al Ad As fr x l i r=>if i<(l.length:Int)then qG l i (λu1=>uQ (PM t u1) (λu2 u3=>qN x (r (cE t Name Arity RowCount Al Ad As false (x++[(⟨u1,u2,u3⟩:ZC)]) l (w (i+1))))))else r (some (.agg [.t (.str Al),I Ad,I As,L 3 (x.map ZC.c)],[]))))/\
 ((iM Ly λa r=>qB (Je a) (UM (cA a.Arity) (λu2=>r (Zs0 a (⟨#[]⟩:V5) 0 0 a.Name a.Arity (a.Rows.length:Int) u2 0))) (r (some (.agg [.t (.str (⟨#[]⟩:V5)),I 0,I 0,L 3 (([]:List ZC).map ZC.c)],[]))))/\
 (iM Zs5 λd Version AJ i r=>if i<(d.Tables.length:Int)then qG d.Tables i (λu1=>∃(u2:Zu),Ly u1=some (.agg (u2.c.map .t),[])/\r (cF d Version AJ false ([u2]) (w (i+1))))else r (some (.tup [.agg [I AJ,.own 0],Bo true],[.arr 100 4 true (([]:List Zu).map Zu.c)])))))/\
 (((iM cF λd Version AJ fr x i r=>if i<(d.Tables.length:Int)then qG d.Tables i (λu1=>∃(u2:Zu),Ly u1=some (.agg (u2.c.map .t),[])/\qN x (r (cF d Version AJ false (x++[u2]) (w (i+1)))))else r (some (.tup [.agg [I AJ,.own 0],Bo true],[.arr 100 4 fr (x.map Zu.c)])))/\
 (iM Lz λa a1 r=>qL (Ld ([]:List Zu) r) λk1=>qB (PB a) (qB (Z0 a1 1 999) (r (Zs5 a 0 a1 0)) k1) k1))/\
 ((iM cH λd deps Bk i r=>if i<(deps.length:Int)then qG deps i (λu1=>qB (Lv d u1) (r (cH d deps Bk (w (i+1)))) (qb false r))else r (cI d Bk 0))/\
 ((iM cI λd Bk i r=>if i<(Bk.length:Int)then qG Bk i (λu1=>qB (He d u1) (r (cI d Bk (w (i+1)))) (qb false r))else qb true r)/\
 (iM Hf λa a1 a2 r=>if 8<(a1.length:Int)then qb false r else if 8<(a2.length:Int)then qb false r else r (cH a a1 a2 0))))))/\
 ((((iM ZsE λd i r=>if i<(d.Tables.length:Int)then qG d.Tables i (λu1=>(∃u2 u3,K1 u1=some (.agg [.t (.str u2),I u3,.t .nil],[])/\r (LA d ([(⟨u2,u3,[]⟩:Zm)]) (w (i+1))))\/(∃(u2:XV),∃u3,∃u4,K1 u1=some (.agg [.t (.str u3),I u4,.own 0],[.arr 44 1 true (u2.map AA)])/\r (LA d ([(⟨u3,u4,u2⟩:Zm)]) (w (i+1)))))else uR ([]:List Zm) r)/\
 (iM LA λd x i r=>if i<(d.Tables.length:Int)then qG d.Tables i (λu1=>(∃u2 u3,K1 u1=some (.agg [.t (.str u2),I u3,.t .nil],[])/\qN x (r (LA d (x++[(⟨u2,u3,[]⟩:Zm)]) (w (i+1)))))\/(∃(u2:XV),∃u3,∃u4,K1 u1=some (.agg [.t (.str u3),I u4,.own 0],[.arr 44 1 true (u2.map AA)])/\qN x (r (LA d (x++[(⟨u3,u4,u2⟩:Zm)]) (w (i+1))))))else uR x r))/\
 ((iM cJ λa r=>r (ZsE a 0))/\
 (iM cL λout l i r=>if i<(l.length:Int)then qG l i (λu1=>qM u1.From (qN out (r (cL (out++[u1]) l (w (i+1))))))else r (some (.own 0,[.arr 93 3 true (out.map Zx.c)])))))/\
 (((iM cK λa r=>r (cL ([]:List Zx) a 0))/\
 (iM Hg λa a1 a2 r=>qL (Lb ([]:List Zm) ([]:List Zu) ([]:List Zx) ([]:List Zw) r) λk1=>(∃(u1:List Zu),∃u2,∃u3,Lz a 1=some (.tup [.agg [I u2,.own 0],Bo u3],[.arr 100 4 true (u1.map Zu.c)])/\if u3=true then qB (Hf a a1 a2) (∃(u5:List Zm),cJ a=some (.agg [.own 0],[.arr 150 3 true (u5.map Zm.c)])/\∃(u6:List Zx),cK a1=some (.own 0,[.arr 93 3 true (u6.map Zx.c)])/\qM a2 (r (some (.tup [.agg [.own 0,I u2,.own 1,.own 2,.own 3],Bo true],[.arr 150 3 true (u5.map Zm.c),.arr 100 4 true (u1.map Zu.c),.arr 93 3 true (u6.map Zx.c),.arr 96 4 true (a2.map Zw.c)])))) k1 else k1)\/(∃u1,∃(u2:List Zu),∃u3,Lz a 1=some (.tup [.agg [I u3,.own 0],Bo true],[.arr 100 4 u1 (u2.map Zu.c)])/\qB (Hf a a1 a2) (∃(u5:List Zm),cJ a=some (.agg [.own 0],[.arr 150 3 true (u5.map Zm.c)])/\∃(u6:List Zx),cK a1=some (.own 0,[.arr 93 3 true (u6.map Zx.c)])/\qM a2 (r (some (.tup [.agg [.own 0,I u3,.own 1,.own 2,.own 3],Bo true],[.arr 150 3 true (u5.map Zm.c),.arr 100 4 u1 (u2.map Zu.c),.arr 93 3 true (u6.map Zx.c),.arr 96 4 true (a2.map Zw.c)])))) k1)))/\
 ((iM cO λc Version fr x deps n r=>if 0<n then ∃(u1:Zl) (u2:Zx),JT c=some (.agg (u2.c.map .t),[.box (u1.c.map .t)])/\qL (⟨x⟩:Zq) λk1=>qB (Lv k1 u2) (qN deps (r (LC u1 Version k1 false (deps++[u2]) (w (n-1))))) (r (LC u1 Version k1 true deps (w (n-1))))else ∃(u1:Zl),∃u2,ZT c 12=some (I u2,[.box (u1.c.map .t)])/\r (wM u1 Version fr x deps ([]:List Zw) u2))/\
 ((iM LC λc Version d fr deps n r=>if 0<n then ∃(u1:Zl) (u2:Zx),JT c=some (.agg (u2.c.map .t),[.box (u1.c.map .t)])/\qB (Lv d u2) (qN deps (r (LC u1 Version d false (deps++[u2]) (w (n-1))))) (r (LC u1 Version d fr deps (w (n-1))))else ∃(u1:Zl),∃u2,ZT c 12=some (I u2,[.box (u1.c.map .t)])/\r (LD u1 Version d fr deps ([]:List Zw) u2))/\
 (iM wM λc Version fr x deps Bk n r=>qL (⟨x⟩:Zq) λk1=>if 0<n then ∃(u1:Zl) (u2:Zw),K2 c=some (.agg (u2.c.map .t),[.box (u1.c.map .t)])/\qL (LD u1 Version k1 true deps) λk2=>qB (He k1 u2) (if(Bk.length:Int)<4 then qN Bk (r (k2 (Bk++[u2]) (w (n-1))))else r (k2 Bk (w (n-1)))) (r (k2 Bk (w (n-1))))else(∃(u1:List Zm),∃(u2:List Zu),∃(u3:List Zx),∃(u4:List Zw),∃u5,∃u6,Hg k1 deps Bk=some (.tup [.agg [.own 0,I u5,.own 1,.own 2,.own 3],Bo u6],[.arr 150 3 true (u1.map Zm.c),.arr 100 4 true (u2.map Zu.c),.arr 93 3 true (u3.map Zx.c),.arr 96 4 true (u4.map Zw.c)])/\r (some (.agg [.own 1,I u5,.own 2,.own 3,.own 4],[.box (c.c.map .t),.arr 150 3 true (u1.map Zm.c),.arr 100 4 true (u2.map Zu.c),.arr 93 3 true (u3.map Zx.c),.arr 96 4 true (u4.map Zw.c)])))\/(∃(u1:List Zm),∃u2,∃(u3:List Zu),∃(u4:List Zx),∃(u5:List Zw),∃u6,Hg k1 deps Bk=some (.tup [.agg [.own 0,I u6,.own 1,.own 2,.own 3],Bo true],[.arr 150 3 true (u1.map Zm.c),.arr 100 4 u2 (u3.map Zu.c),.arr 93 3 true (u4.map Zx.c),.arr 96 4 true (u5.map Zw.c)])/\r (some (.agg [.own 1,I u6,.own 2,.own 3,.own 4],[.box (c.c.map .t),.arr 150 3 true (u1.map Zm.c),.arr 100 4 u2 (u3.map Zu.c),.arr 93 3 true (u4.map Zx.c),.arr 96 4 true (u5.map Zw.c)])))))))):=by
 refine qu ?_
 and_intros
 all_goals(intros;unfold Im;(try simp only[Zs0,cE,Ly,Zs5,cF,Lz,cH,cI,Hf,ZsE,LA,cJ,cL,cK,Hg,cO,LC,wM,PM,Zm.c_def,Je,cA,Zu.c_def,PB,Z0,Zq.c_def,Lv,Zx.c_def,He,Zw.c_def,K1,JT,ZT,Zl.c_def,K2,LD,Zsz,Ar,Zs4,ZsD,Bf,A7]);(try simp only[Bc]);(try simp only[Bd,gS,kk]))
 all_goals(repeat' first|refine Br λ_=>?_|refine Bq λ_ _=>?_|refine Bp λ_=>?_|refine AL ?_ ?_|exact False.elim)
 all_goals(intro h;first|rw[Zk Zsx.eq_1]|refine run ZDU rfl ?_|rw[Zk Zs2.eq_1]|refine run ZDV rfl ?_|rw[Zk Zs6.eq_1]|rw[Zk Zs7.eq_1]|refine run ZDW rfl ?_|rw[Zk ZsB.eq_1]|refine run ZDX rfl ?_|rw[Zk ZsG.eq_1]|refine run ZDY rfl ?_|refine run ZDZ rfl ?_|rw[Zk wK.eq_1]|rw[Zk cM.eq_1])
 all_goals (refine Yg ?_ h;clear h;simp +decide[*,kk,tI,Az,Zsy,Z3s,Zs3,Z3t,Zs9,Zs8,Z3u,ZsC,Z3v,ZsH,Z3w,Z3x,Z3y,wL,ZsI,cN])
abbrev X1:=uq ZH9
def ZHA:(iM LD λc Version d fr deps Bk n r=>if 0<n then ∃(u1:Zl) (u2:Zw),K2 c=some (.agg (u2.c.map .t),[.box (u1.c.map .t)])/\qL (LD u1 Version d fr deps) λk2=>qL (r (k2 Bk (w (n-1)))) λk1=>qB (He d u2) (if(Bk.length:Int)<4 then qN Bk (r (k2 (Bk++[u2]) (w (n-1))))else k1) k1 else(∃(u1:List Zm),∃(u2:List Zu),∃(u3:List Zx),∃(u4:List Zw),∃u5,∃u6,Hg d deps Bk=some (.tup [.agg [.own 0,I u5,.own 1,.own 2,.own 3],Bo u6],[.arr 150 3 true (u1.map Zm.c),.arr 100 4 true (u2.map Zu.c),.arr 93 3 true (u3.map Zx.c),.arr 96 4 true (u4.map Zw.c)])/\r (some (.agg [.own 1,I u5,.own 2,.own 3,.own 4],[.box (c.c.map .t),.arr 150 3 true (u1.map Zm.c),.arr 100 4 true (u2.map Zu.c),.arr 93 3 true (u3.map Zx.c),.arr 96 4 true (u4.map Zw.c)])))\/(∃(u1:List Zm),∃u2,∃(u3:List Zu),∃(u4:List Zx),∃(u5:List Zw),∃u6,Hg d deps Bk=some (.tup [.agg [.own 0,I u6,.own 1,.own 2,.own 3],Bo true],[.arr 150 3 true (u1.map Zm.c),.arr 100 4 u2 (u3.map Zu.c),.arr 93 3 true (u4.map Zx.c),.arr 96 4 true (u5.map Zw.c)])/\r (some (.agg [.own 1,I u6,.own 2,.own 3,.own 4],[.box (c.c.map .t),.arr 150 3 true (u1.map Zm.c),.arr 100 4 u2 (u3.map Zu.c),.arr 93 3 true (u4.map Zx.c),.arr 96 4 true (u5.map Zw.c)]))))/\
 (iM JV λx r=>uS (Ls x) (λu1 u2=>BA (ZT u1 6) (λu3 u4=>r (cO u3 0 true u2 ([]:List Zx) u4)))):=by
 refine qu ?_
 and_intros
 all_goals(intros;unfold Im;(try simp only[LD,JV,K2,He,Hg,Zq.c_def,Zx.c_def,Zw.c_def,Zl.c_def,Ls,ZT,cO,Ar,Bf,A7]);(try simp only[Bc]);(try simp only[Bd,gS,kk]))
 all_goals(repeat' first|refine Br λ_=>?_|refine Bq λ_ _=>?_|refine Bp λ_=>?_|refine AL ?_ ?_|exact False.elim)
 all_goals(intro h;first|rw[Zk cM.eq_1]|refine XD ZEa rfl ?_)
 all_goals (refine Yg ?_ h;clear h;simp +decide[*,kk,tI,Az,ZsI,cN,Z3z])
abbrev Sr:=uq ZHA
def ZHB:((iM cR λZg r=>qB (Z0 Zg 1 4) (qB (Z0 0 1 4) (r (Z31 Zg 0 0)) (qb false r)) (qb false r))/\
 (iM PO λq seen i r=>if i<(q.Atoms.length:Int)then qG q.Atoms i (λu1=>qB (Lu u1.Name) (qB (Z0 (u1.Vars.length:Int) 1 3) (r (cS q u1 seen i 0)) (qb false r)) (qb false r))else ¬q.Zg<0/\qb (decide (seen=(w ((Ac 1 q.Zg)-1)))) r))/\
 ((iM cS λq a seen i k r=>if k<(a.Vars.length:Int)then qG a.Vars k (λu1=>qB (Z0 u1 0 (w (q.Zg-1))) (k.toNat<=a.Vars.length/\qB (Vn (a.Vars.take k.toNat) u1) (qb false r) (¬u1<0/\r (cS q a (Au seen (Ac 1 u1)) i (w (k+1))))) (qb false r))else r (PO q seen (w (i+1))))/\
 (iM Q3 λa r=>qB (Z0 a.Zg 1 4) (qB (Z0 (a.Atoms.length:Int) 1 4) (r (PO a 0 0)) (qb false r)) (qb false r))):=by
 refine qu ?_
 and_intros
 all_goals(intros;unfold Im;(try simp only[cR,PO,cS,Q3,Z0,Lu,Vn,Z31,ZsO,Ar,ZsN,Bf,A7]);(try simp only[Bc]);(try simp only[Bd,gS,kk]))
 all_goals(repeat' first|refine Br λ_=>?_|refine Bq λ_ _=>?_|refine Bp λ_=>?_|refine AL ?_ ?_|exact False.elim)
 all_goals(intro h;first|refine run Z8d rfl ?_|rw[Zk wQ.eq_1]|rw[Zk ZsJ.eq_1])
 all_goals (refine Yg ?_ h;clear h;simp +decide[*,kk,tI,Az,ZsM,ZsL,ZsK])
abbrev Ss:=uq ZHB
