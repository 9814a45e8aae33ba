/-
  Parts of the proofs for this seat: G4 G5 G6.
-/
import Derived.Test.YtgbipcfdgfjplaaGreatP11
set_option linter.unusedSectionVars false
set_option linter.unusedSimpArgs false
set_option linter.unusedVariables false
set_option maxRecDepth 100000
set_option maxHeartbeats 4000000
namespace Go.Proofs.YtgbipcfdgfjplaaGreat
open Go.AM
theorem Zjb{α β:Type}(f:α->β){l:List α}{i:Nat}{e:α}(g:i<l.length)(q:l[i]=e):∃g2:i<(l.map f).length,(l.map f)[i]=f e:=⟨by simpa using g,by simp[q]⟩
theorem ZwU{c:Zf}{cl cd:Int}{x:List Zc}{cc n:Int}{r:XR}(h:(if 0<n then(∃(v:Zf) (v1:Int),Z7 c 5=some (I v1,[.box (v.c.map .t)])/\(0<=v1/\(∃(e2:V5),([(⟨#[114]⟩:V5),(⟨#[115]⟩:V5),(⟨#[116]⟩:V5),(⟨#[117]⟩:V5),(⟨#[118]⟩:V5)])[v1.toNat]?=some e2/\(∃(e3:Int),([2,2,2,3,1])[v1.toNat]?=some e3/\(∃(v2:Zf) (v3:Int),Z7 v 4=some (I v3,[.box (v2.c.map .t)])/\(Zez v2 cl cd x cc e2 n e3 v3 0=some r))))))else(∃(v4:Bool),Zev cc=some (Bo v4,[])/\(if v4=true then(some (.agg [I cc,.own 1],[.box (c.c.map .t),.xarr 185 2 (([]:List Zc).map Zc.c)])=some r)else(some (.agg [I cd,.own 1],[.box (c.c.map .t),.xarr 185 2 (x.map Zc.c)])=some r))))):Zey c cl cd x cc n=some r:=by
 unfold Zey;rw[Zl QI.eq_1];simp only[Z7,Zev,Zf.c_def,mpl,dfs]at h
 try simp only[itb]at h
 try simp only[itf,gS,kk]at h
 rcases h with⟨q1,v,v1,q2,q3,e2,⟨g4,q4⟩,e3,⟨g5,q5⟩,v2,v3,q6,h⟩|⟨q1,v4,q7,(⟨q8,h⟩|⟨q8,h⟩)⟩
 all_goals try (have z_q4:=Zjb sc g4 q4;simp only[Yw,Yb5,dfs]at z_q4;obtain⟨x_q4,z_q4⟩:=z_q4;have y_q4:v1<5:=by(have y:=g4;simp at y;omega))
 all_goals try (have z_q5:=Zjb ic g5 q5;simp only[Yw,Yb5,dfs]at z_q5;obtain⟨x_q5,z_q5⟩:=z_q5;have y_q5:v1<5:=by(have y:=g5;simp at y;omega))
 all_goals (refine Yc ?_ h;clear h;simp +decide[*,kk,tI,tII,Zez,QJ])
theorem Ww:((((∀c cl cd x cc co n m v i r,Im (Zez c cl cd x cc co n m v i=some r) (if i<m then Ze0 c cl cd x (if cc<(w (v+1))then(w (v+1))else cc) co ([v]) n m (Int.tmod (w (v+1)) 4) (w (i+1))=some r else Ur c cl cd x cc ([(⟨co,[]⟩:Zc)]) (w (n-1))=some r))/\
 (∀c cl cd x cc co x1 n m v i r,Im (Ze0 c cl cd x cc co x1 n m v i=some r) (if i<m then x1.length+1<=68719476736/\Ze0 c cl cd x (if cc<(w (v+1))then(w (v+1))else cc) co (x1++[v]) n m (Int.tmod (w (v+1)) 4) (w (i+1))=some r else Ur c cl cd x cc ([(⟨co,x1⟩:Zc)]) (w (n-1))=some r)))/\
 ((∀c cl cd x cc x1 co n m v i r,Im (Ze1 c cl cd x cc x1 co n m v i=some r) (if i<m then Ze2 c cl cd x (if cc<(w (v+1))then(w (v+1))else cc) x1 co ([v]) n m (Int.tmod (w (v+1)) 4) (w (i+1))=some r else x1.length+1<=68719476736/\Ur c cl cd x cc (x1++[(⟨co,[]⟩:Zc)]) (w (n-1))=some r))/\
 (∀c cl cd x cc x1 co x2 n m v i r,Im (Ze2 c cl cd x cc x1 co x2 n m v i=some r) (if i<m then x2.length+1<=68719476736/\Ze2 c cl cd x (if cc<(w (v+1))then(w (v+1))else cc) x1 co (x2++[v]) n m (Int.tmod (w (v+1)) 4) (w (i+1))=some r else x1.length+1<=68719476736/\Ur c cl cd x cc (x1++[(⟨co,x2⟩:Zc)]) (w (n-1))=some r))))/\
 (((∀x r,Im (JG x=some r) (∃(v1:Zf),∃(v2:List V5),∃v3,JF x ([(⟨#[114,40,88,89,41]⟩:V5),(⟨#[114,40,88,89,41,32,115,40,89,90,41]⟩:V5),(⟨#[114,40,88,89,41,32,115,40,89,90,41,32,116,40,90,85,41]⟩:V5),(⟨#[114,40,88,89,41,32,115,40,89,90,41,32,116,40,90,88,41]⟩:V5),(⟨#[114,40,88,89,41,32,115,40,88,90,41,32,116,40,88,85,41]⟩:V5),(⟨#[114,40,88,89,41,32,115,40,89,90,41,32,118,40,89,41]⟩:V5),(⟨#[117,40,88,89,90,41,32,115,40,90,85,41]⟩:V5),(⟨#[117,40,88,89,90,41,32,114,40,88,89,41,32,118,40,90,41]⟩:V5),(⟨#[114,40,88,89,41,32,115,40,89,90,41,32,116,40,90,85,41,32,118,40,88,41]⟩:V5),(⟨#[114,40,88,89,41,32,114,40,89,90,41]⟩:V5),(⟨#[114,40,88,89,41,32,115,40,89,88,41]⟩:V5),(⟨#[118,40,88,41,32,114,40,88,89,41,32,115,40,89,90,41,32,116,40,90,85,41]⟩:V5),(⟨#[114,40,88,89,41,32,115,40,89,90,41,32,116,40,90,85,41,32,115,40,85,88,41]⟩:V5)])=some (.t (.str v3),[.box (v1.c.map .t),.arr 9 1 true (v2.map sc)])/\∃(v4:List Zc),∃v5,∃v6,Zlr v3=some (.tup [.agg [I v5,.own 0],Bo v6],[.xarr 185 2 (v4.map Zc.c)])/\∃(v7:Zf),∃v8,XC v1 4=some (Bo v8,[.box (v7.c.map .t)])/\if v8=true then ∃(v9:Zf),∃v10,Z7 v7 4=some (I v10,[.box (v9.c.map .t)])/\Zey v9 0 v5 v4 0 (w (1+v10))=some r else some (.agg [I v5,.own 1],[.box (v7.c.map .t),.xarr 185 2 (v4.map Zc.c)])=some r))/\
 (∀a r,Im (JH a=some r) (qB (Uq a) (¬(a.Atoms.length:Int)<0/\qi (w ((shlI 1 (a.Atoms.length:Int))-1)) r) (qi 0 r))))/\
 ((∀a a1 r,Im (ZbO a a1=some r) (qB (Uq a) (¬(a.Atoms.length:Int)<0/\qV (ZB a1 0 (w ((shlI 1 (a.Atoms.length:Int))-1))) (λv4=>qb v4 r)) (qb false r)))/\
 ((∀q cn x i r,Im (JI q cn x i=some r) (if i<(q.Atoms.length:Int)then ZbP q cn x i 0=some r else qi x r))/\
 (∀q cn x i k r,Im (ZbP q cn x i k=some r) (qG q.Atoms i (λe1=>if k<(e1.Vars.length:Int)then ¬i<0/\if(andI (shrI cn i) 1)=1 then qG e1.Vars k (λe2=>¬e2<0/\ZbP q cn (orI x (shlI 1 e2)) i (w (k+1))=some r)else JI q cn x (w (i+1))=some r else JI q cn x (w (i+1))=some r)))))))/\
 ((((∀a a1 r,Im (Vs a a1=some r) (JI a a1 0 0=some r))/\
 (∀q cn cp cu i r,Im (JJ q cn cp cu i=some r) (if i<(q.Atoms.length:Int)then ¬i<0/\if(andI (shrI cn i) 1)=0 then qI (Vs q (shlI 1 i)) (λv1=>if(andI v1 cu)=0 then JJ q cn cp cu (w (i+1))=some r else JJ q cn (orI cp (shlI 1 i)) cu (w (i+1))=some r)else JJ q cn cp cu (w (i+1))=some r else qi cp r)))/\
 ((∀a a1 r,Im (Zh2 a a1=some r) (qI (Vs a a1) (λv1=>JJ a a1 0 v1 0=some r)))/\
 (∀q cn x n r,Im (Ze4 q cn x n=some r) (if n<(q.Atoms.length:Int)then qI (Zh2 q x) (λv1=>Ze4 q cn (orI x (andI v1 cn)) (w (n+1))=some r)else qb (decide (x=cn)) r))))/\
 (((∀a a1 r,Im (ZbQ a a1=some r) (Ze4 a a1 (andI a1 (w (0-a1))) 0=some r))/\
 (∀a a1 r,Im (Zh3 a a1=some r) (qB (ZbO a a1) (if 0<a1 then qV (ZbQ a a1) (λv4=>qb v4 r)else qb false r) (qb false r))))/\
 ((∀q cp cn m r,Im (QK q cp cn m=some r) (if m<cn then if(andI m cn)=m then qB (ZbQ q m) (qB (ZbQ q (w (cn-m))) (cp.length+1<=68719476736/\QK q (cp++[m]) cn (w (m+1))=some r) (QK q cp cn (w (m+1))=some r)) (QK q cp cn (w (m+1))=some r)else QK q cp cn (w (m+1))=some r else some (.own 0,[.arr 3 1 true (cp.map ic)])=some r))/\
 ((∀a a1 r,Im (JK a a1=some r) (qB (Zh3 a a1) (QK a ([]:WA) a1 1=some r) (some (.own 0,[.arr 3 1 true (([]:WA).map ic)])=some r)))/\
 (∀cp cn i r,Im (JL cp cn i=some r) (if i<4 then qB (ZB cn 0 15) (¬i<0/\if(andI (shrI cn i) 1)=1 then cp.length+1<=68719476736/\JL (cp++[i]) cn (w (i+1))=some r else JL cp cn (w (i+1))=some r) (some (.own 0,[.arr 3 1 true (cp.map ic)])=some r)else some (.own 0,[.arr 3 1 true (cp.map ic)])=some r)))))):=by
 and_intros
 all_goals(intros;unfold Im;(try simp only[Zez,Ze0,Ze1,Ze2,JG,JH,ZbO,JI,ZbP,Vs,JJ,Zh2,Ze4,ZbQ,Zh3,QK,JK,JL,JF,Zlr,XC,Z7,Zf.c_def,Uq,Ze.c_def,ZB,Ur,Zey,mpl,dfs,qs]);(try simp only[itb]);(try simp only[itf,gS,kk]))
 all_goals(repeat' first|refine exI λ_=>?_|refine anJ λ_ _=>?_|refine anI λ_=>?_|refine orE2 ?_ ?_|exact False.elim)
 all_goals(intro h;first|rw[Zl ZbL.eq_1]|refine ZR Z4f rfl ?_|refine run Z4g rfl ?_|refine run Z4h rfl ?_|rw[Zl Zhz.eq_1]|rw[Zl Zls.eq_1]|refine run Z4i rfl ?_|rw[Zl Zlu.eq_1]|refine run Z4j rfl ?_|rw[Zl Zlx.eq_1]|refine run Z4k rfl ?_|refine run Z4l rfl ?_|rw[Zl Zlz.eq_1]|refine run Z4m rfl ?_|rw[Zl Zl1.eq_1])
 all_goals (refine Yc ?_ h;clear h;simp +decide[*,kk,tI,tII,ZbN,ZbM,Ztu,Ztv,Ztw,Zh0,Zlt,Ztx,Zty,Zlv,Ztz,Zly,Zt0,Zt1,Zt2,Zl0,Zt3,Zt4,Zl2])
abbrev ZwV:=uq Ww.1.1.1.1
abbrev ZwW:=uq Ww.1.1.1.2
abbrev ZwX:=uq Ww.1.1.2.1
abbrev ZwY:=uq Ww.1.1.2.2
abbrev ZwZ:=uq Ww.1.2.1.1
abbrev Z6R:=uq Ww.1.2.1.2
abbrev Zxa:=uq Ww.1.2.2.1
abbrev Zxb:=uq Ww.1.2.2.2.1
abbrev Zpq:=uq Ww.1.2.2.2.2
abbrev Z6S:=uq Ww.2.1.1.1
abbrev Zxc:=uq Ww.2.1.1.2
abbrev Z6T:=uq Ww.2.1.2.1
abbrev Zxd:=uq Ww.2.1.2.2
abbrev Z6U:=uq Ww.2.2.1.1
abbrev Z6V:=uq Ww.2.2.1.2
abbrev Zxe:=uq Ww.2.2.2.1
abbrev Zxf:=uq Ww.2.2.2.2.1
abbrev Zxg:=uq Ww.2.2.2.2.2
theorem Kb:(((∀a r,Im (Ze5 a=some r) (JL ([]:WA) a 0=some r))/\
 (∀a r,Im (ZbR a=some r) (some (.agg [.own 0],[.arr 97 3 true (([(⟨1,a,0⟩:Zj)]).map Zj.c)])=some r)))/\
 ((∀a a1 a2 a3 r,Im (Qn a a1 a2 a3=some r) (a.Steps.length<=68719476736/\a.Steps.length+a1.Steps.length<=68719476736/\a.Steps.length+a1.Steps.length+1<=68719476736/\some (.agg [.own 0],[.arr 97 3 true (((a.Steps++a1.Steps)++[(⟨a2,0,a3⟩:Zj)]).map Zj.c)])=some r))/\
 (∀cc cd v r,Im (JM cc cd v=some r) (if v<4 then ¬v<0/\if(andI (shrI cd v) 1)=1 then cc.length+1<=68719476736/\JM (cc++[v]) cd (w (v+1))=some r else JM cc cd (w (v+1))=some r else some (.own 0,[.arr 3 1 true (cc.map ic)])=some r))))/\
 (((∀a r,Im (Zl5 a=some r) (JM ([]:WA) a 0=some r))/\
 (∀a a1 r,Im (UE a a1=some r) (qB (ZbO a a1) (qI (Vs a a1) (λv2=>qO 3 1 ic (Zl5 v2) (λv3=>some (.own 0,[.arr 3 1 true (v3.map ic)])=some r))) (some (.own 0,[.arr 3 1 true (([]:WA).map ic)])=some r))))/\
 ((∀cc x y i r,Im (ZbS cc x y i=some r) (if i<(x.length:Int)then qG x i (λe1=>qB (VX y e1) (cc.length+1<=68719476736/\ZbS (cc++[e1]) x y (w (i+1))=some r) (ZbS cc x y (w (i+1))=some r))else some (.own 0,[.arr 3 1 true (cc.map ic)])=some r))/\
 ((∀a a1 a2 r,Im (Ze6 a a1 a2=some r) (qO 3 1 ic (UE a a1) (λv1=>qO 3 1 ic (UE a a2) (λv2=>ZbS ([]:WA) v1 v2 0=some r))))/\
 (∀a a1 r,Im (JN a a1=some r) (qB (ZB a1 0 3) (¬a1<0/\qb (decide ((andI (shrI a a1) 1)=1)) r) (qb false r)))))):=by
 and_intros
 all_goals(intros;unfold Im;(try simp only[Ze5,ZbR,Qn,JM,Zl5,UE,ZbS,Ze6,JN,ZbO,Vs,Ze.c_def,VX,ZB,JL,mpl,dfs,qs]);(try simp only[itb]);(try simp only[itf,gS,kk]))
 all_goals(repeat' first|refine exI λ_=>?_|refine anJ λ_ _=>?_|refine anI λ_=>?_|refine orE2 ?_ ?_|exact False.elim)
 all_goals(intro h;first|refine run Z4n rfl ?_|refine run Z4o rfl ?_|refine run Z4p rfl ?_|rw[Zl Zl3.eq_1]|refine run Z4q rfl ?_|refine run Z4r rfl ?_|rw[Zl Zl6.eq_1]|refine run Z4s rfl ?_|refine run Z4t rfl ?_)
 all_goals (refine Yc ?_ h;clear h;simp +decide[*,kk,tI,tII,Zt5,Zt6,Zt7,Zt8,Zl4,Zt9,ZtA,ZtB,Zl7,ZtC,ZtD])
abbrev Z6W:=uq Kb.1.1.1
abbrev Z6X:=uq Kb.1.1.2
abbrev Z6Y:=uq Kb.1.2.1
abbrev Zjc:=uq Kb.1.2.2
abbrev Zxh:=uq Kb.2.1.1
abbrev Zxi:=uq Kb.2.1.2
abbrev Zxj:=uq Kb.2.2.1
abbrev Z6Z:=uq Kb.2.2.2.1
abbrev Z7a:=uq Kb.2.2.2.2
theorem Zpr{c:Zf}{cl cd:Int}{x:List Zc}{cc:Int}{x1:List Zc}{n:Int}{r:XR}(h:(if 0<n then(∃(v:Zf) (v1:Int),Z7 c 5=some (I v1,[.box (v.c.map .t)])/\(0<=v1/\(∃(e2:V5),([(⟨#[114]⟩:V5),(⟨#[115]⟩:V5),(⟨#[116]⟩:V5),(⟨#[117]⟩:V5),(⟨#[118]⟩:V5)])[v1.toNat]?=some e2/\(∃(e3:Int),([2,2,2,3,1])[v1.toNat]?=some e3/\(∃(v2:Zf) (v3:Int),Z7 v 4=some (I v3,[.box (v2.c.map .t)])/\(Ze1 v2 cl cd x cc x1 e2 n e3 v3 0=some r))))))else(∃(v4:Bool),Uq (⟨cc,x1⟩:Ze)=some (Bo v4,[])/\(if v4=true then(some (.agg [I cc,.own 1],[.box (c.c.map .t),.xarr 185 2 (x1.map Zc.c)])=some r)else(some (.agg [I cd,.own 1],[.box (c.c.map .t),.xarr 185 2 (x.map Zc.c)])=some r))))):Ur c cl cd x cc x1 n=some r:=by
 unfold Ur;rw[Zl QI.eq_1];simp only[Z7,Uq,Zf.c_def,Ze.c_def,mpl,dfs]at h
 try simp only[itb]at h
 try simp only[itf,gS,kk]at h
 rcases h with⟨q1,v,v1,q2,q3,e2,⟨g4,q4⟩,e3,⟨g5,q5⟩,v2,v3,q6,h⟩|⟨q1,v4,q7,(⟨q8,h⟩|⟨q8,h⟩)⟩
 all_goals try (have z_q4:=Zjb sc g4 q4;simp only[Yw,Yb5,dfs]at z_q4;obtain⟨x_q4,z_q4⟩:=z_q4;have y_q4:v1<5:=by(have y:=g4;simp at y;omega))
 all_goals try (have z_q5:=Zjb ic g5 q5;simp only[Yw,Yb5,dfs]at z_q5;obtain⟨x_q5,z_q5⟩:=z_q5;have y_q5:v1<5:=by(have y:=g5;simp at y;omega))
 all_goals (refine Yc ?_ h;clear h;simp +decide[*,kk,tI,tII,Ze1,QJ])
theorem Zge{q:Ze}{x:Zj}{x1:Za}{cc:List Za}{c:WA}{n x2:Int}{x3:Bool}{r:XR}(h:(if x3=true then(if x.Zc=0 then(if n<2 then(some (.tup [.agg [I 0,I 0,I 0,I 0],I (-1)],[])=some r)else(0<=(w (n-2))/\(∃(e1:Int),c[(w (n-2)).toNat]?=some e1/\(0<=e1/\(∃(e2:Za),cc[e1.toNat]?=some e2/\(0<=(w (n-1))/\(∃(e3:Int),c[(w (n-1)).toNat]?=some e3/\(0<=e3/\(∃(e4:Za),cc[e3.toNat]?=some e4/\(∃(v:Int),Vs q e2.Mask=some (I v,[])/\(∃(v1:Int),Vs q e4.Mask=some (I v1,[])/\(if(andI e2.Mask e4.Mask)=0 then(if(andI v v1)=0 then(some (.tup [.agg [I 0,I 0,I 0,I 0],I (-1)],[])=some r)else(if x.Kind=4 then(K5 q x x1 e2 e4 (⟨(orI e2.Mask e4.Mask),(-1),e1,e3⟩:Za) (andI v v1) false=some r)else(if x.Order=0 then(if x.Kind=5 then(ZbT q x x1 e2 e4 (⟨(orI e2.Mask e4.Mask),e2.Order,e1,e3⟩:Za) (andI v v1)=some r)else(K5 q x x1 e2 e4 (⟨(orI e2.Mask e4.Mask),(-1),e1,e3⟩:Za) (andI v v1) false=some r))else(some (.tup [.agg [I 0,I 0,I 0,I 0],I (-1)],[])=some r))))else(some (.tup [.agg [I 0,I 0,I 0,I 0],I (-1)],[])=some r)))))))))))))else(some (.tup [.agg [I 0,I 0,I 0,I 0],I (-1)],[])=some r))else(some (.tup [.agg [I 0,I 0,I 0,I 0],I (-1)],[])=some r))):JP q x x1 cc c n x2 x3=some r:=by
 unfold JP;rw[Ev_eq ZhA.eq_1];by_cases q1:x3=true
 .rw[Ya q1]at h;by_cases q2:x.Zc=0
  .rw[Ya q2]at h;replace q2:=eq_true q2;by_cases q3:n<2
   .rw[Ya q3]at h;refine Yc ?_ h;clear h;simp +decide[*,tI,tII]
   .rw[Yb q3]at h;obtain⟨q4,h⟩:=h;obtain⟨e1,q5,h⟩:=h;have gq5:=Xv q5;have kq5:=Xz q5;obtain⟨q6,h⟩:=h;obtain⟨e2,q7,h⟩:=h;have gq7:=Xv q7;have kq7:=Xz q7;obtain⟨q8,h⟩:=h;obtain⟨e3,q9,h⟩:=h;have gq9:=Xv q9;have kq9:=Xz q9;obtain⟨q10,h⟩:=h;obtain⟨e4,q11,h⟩:=h;have gq11:=Xv q11;have kq11:=Xz q11;obtain⟨v,q12,h⟩:=h;unfold Vs at q12
    try simp at q12
    obtain⟨v1,q13,h⟩:=h;unfold Vs at q13
    try simp at q13
    by_cases q14:(andI e2.Mask e4.Mask)=0
    .rw[Ya q14]at h;replace q14:=eq_true q14;by_cases q15:(andI v v1)=0
     .rw[Ya q15]at h;replace q15:=eq_true q15;refine Yc ?_ h;clear h;simp +decide[*,tI,tII]
     .rw[Yb q15]at h;replace q15:=eq_false q15;by_cases q16:x.Kind=4
      .rw[Ya q16]at h;replace q16:=eq_true q16;have q17:(x.Kind=5)=False:=eq_false (by intro hh;simp_all);refine Yc ?_ h;clear h;simp +decide[*,tI,tII,K5]
      .rw[Yb q16]at h;replace q16:=eq_false q16;by_cases q18:x.Order=0
       .rw[Ya q18]at h;replace q18:=eq_true q18;by_cases q19:x.Kind=5
        .rw[Ya q19]at h;replace q19:=eq_true q19;refine Yc ?_ h;clear h;simp +decide[*,tI,tII,ZbT]
        .rw[Yb q19]at h;replace q19:=eq_false q19;refine Yc ?_ h;clear h;simp +decide[*,tI,tII,K5]
       .rw[Yb q18]at h;replace q18:=eq_false q18;refine Yc ?_ h;clear h;simp +decide[*,tI,tII]
    .rw[Yb q14]at h;replace q14:=eq_false q14;refine Yc ?_ h;clear h;simp +decide[*,tI,tII]
  .rw[Yb q2]at h;replace q2:=eq_false q2;refine Yc ?_ h;clear h;simp +decide[*,tI,tII]
 .rw[Yb q1]at h;refine Yc ?_ h;clear h;simp +decide[*,tI,tII]
theorem Kc:(((∀x x1 x2 a b y v r,Im (ZbT x x1 x2 a b y v=some r) (if x1.Kind=4 then qB (JN v x1.Order) (if a.Order=x1.Order then if b.Order=x1.Order then some (.tup [.agg [I y.Mask,I x1.Order,I y.Left,I y.Right],I 2],[])=some r else some (.tup [.agg [I 0,I 0,I 0,I 0],I (-1)],[])=some r else some (.tup [.agg [I 0,I 0,I 0,I 0],I (-1)],[])=some r) (some (.tup [.agg [I 0,I 0,I 0,I 0],I (-1)],[])=some r)else some (.tup [.agg (y.c.map .t),I 2],[])=some r))/\
 (∀x x1 x2 a b y v x3 r,Im (K5 x x1 x2 a b y v x3=some r) (if x1.Kind=4 then qB (JN v x1.Order) (if a.Order=x1.Order then if b.Order=x1.Order then some (.tup [.agg [I y.Mask,I x1.Order,I y.Left,I y.Right],I 2],[])=some r else some (.tup [.agg [I 0,I 0,I 0,I 0],I (-1)],[])=some r else some (.tup [.agg [I 0,I 0,I 0,I 0],I (-1)],[])=some r) (some (.tup [.agg [I 0,I 0,I 0,I 0],I (-1)],[])=some r)else some (.tup [.agg (y.c.map .t),I 2],[])=some r)))/\
 ((∀a a1 a2 a3 r,Im (JO a a1 a2 a3=some r) (if a1.Kind=1 then qB (ZB a1.Zc 0 (w ((a.Atoms.length:Int)-1))) (if a1.Order=0 then ¬a1.Zc<0/\qG a.Atoms a1.Zc (λe2=>∃e3,e2.Vars[0]?=some e3/\some (.tup [.agg [I (shlI 1 a1.Zc),I e3,I (-1),I (-1)],I 0],[])=some r)else some (.tup [.agg [I 0,I 0,I 0,I 0],I (-1)],[])=some r) (some (.tup [.agg [I 0,I 0,I 0,I 0],I (-1)],[])=some r)else if a1.Kind=2 then if a1.Zc=0 then if(a3.length:Int)<1 then some (.tup [.agg [I 0,I 0,I 0,I 0],I (-1)],[])=some r else 0<=(w ((a3.length:Int)-1))/\∃e4,a3[(w ((a3.length:Int)-1)).toNat]?=some e4/\qG a2 e4 (λe5=>if e5.Order=a1.Order then some (.tup [.agg [I 0,I 0,I 0,I 0],I (-1)],[])=some r else qI (Vs a e5.Mask) (λv13=>qB (JN v13 a1.Order) (some (.tup [.agg [I e5.Mask,I a1.Order,I e4,I (-1)],I 1],[])=some r) (some (.tup [.agg [I 0,I 0,I 0,I 0],I (-1)],[])=some r)))else some (.tup [.agg [I 0,I 0,I 0,I 0],I (-1)],[])=some r else if a1.Kind=3 then JP a a1 (⟨0,0,0,0⟩:Za) a2 a3 (a3.length:Int) a1.Kind true=some r else if a1.Kind=4 then JP a a1 (⟨0,0,0,0⟩:Za) a2 a3 (a3.length:Int) a1.Kind true=some r else if a1.Kind=5 then if a1.Zc=0 then if(a3.length:Int)<2 then some (.tup [.agg [I 0,I 0,I 0,I 0],I (-1)],[])=some r else 0<=(w ((a3.length:Int)-2))/\∃e8,a3[(w ((a3.length:Int)-2)).toNat]?=some e8/\qG a2 e8 (λe9=>0<=(w ((a3.length:Int)-1))/\∃e10,a3[(w ((a3.length:Int)-1)).toNat]?=some e10/\qG a2 e10 (λe11=>qI (Vs a e9.Mask) (λv23=>qI (Vs a e11.Mask) (λv24=>if(andI e9.Mask e11.Mask)=0 then if(andI v23 v24)=0 then some (.tup [.agg [I 0,I 0,I 0,I 0],I (-1)],[])=some r else if a1.Order=0 then ZbT a a1 (⟨0,0,0,0⟩:Za) e9 e11 (⟨(orI e9.Mask e11.Mask),e9.Order,e8,e10⟩:Za) (andI v23 v24)=some r else some (.tup [.agg [I 0,I 0,I 0,I 0],I (-1)],[])=some r else some (.tup [.agg [I 0,I 0,I 0,I 0],I (-1)],[])=some r))))else some (.tup [.agg [I 0,I 0,I 0,I 0],I (-1)],[])=some r else some (.tup [.agg [I 0,I 0,I 0,I 0],I (-1)],[])=some r))/\
 (∀q p cd cc i r,Im (Ze7 q p cd cc i=some r) (if i<(p.Steps.length:Int)then qG p.Steps i (λe1=>∃(v4:Za),∃v5,JO q e1 cd cc=some (.tup [.agg (v4.c.map .t),I v5],[])/\if v5<0 then some (.tup [.own 0,Bo false],[.arr 113 4 true (([]:List Za).map Za.c)])=some r else cd.length+1<=68719476736/\0<=(w ((cc.length:Int)-v5))/\(w ((cc.length:Int)-v5)).toNat<=cc.length/\(w ((cc.length:Int)-v5)).toNat<=68719476736/\(w ((cc.length:Int)-v5)).toNat+1<=68719476736/\Ze7 q p (cd++[v4]) ((cc.take ((w ((cc.length:Int)-v5)).toNat))++[i]) (w (i+1))=some r)else if(cc.length:Int)=1 then some (.tup [.own 0,Bo true],[.arr 113 4 true (cd.map Za.c)])=some r else some (.tup [.own 0,Bo false],[.arr 113 4 true (([]:List Za).map Za.c)])=some r))))/\
 (((∀a a1 r,Im (K6 a a1=some r) (qB (Uq a) (qB (ZB (a1.Steps.length:Int) 1 14) (Ze7 a a1 ([]:List Za) ([]:WA) 0=some r) (some (.tup [.own 0,Bo false],[.arr 113 4 true (([]:List Za).map Za.c)])=some r)) (some (.tup [.own 0,Bo false],[.arr 113 4 true (([]:List Za).map Za.c)])=some r)))/\
 (∀a a1 r,Im (ZbU a a1=some r) (∃(v1:List Za),∃v2,K6 a a1=some (.tup [.own 0,Bo v2],[.arr 113 4 true (v1.map Za.c)])/\if v2=true then 0<=(w ((v1.length:Int)-1))/\∃e2,v1[(w ((v1.length:Int)-1)).toNat]?=some e2/\qi e2.Order r else qi (-1) r)))/\
 ((∀a a1 r,Im (ZbV a a1=some r) (a.Steps.length<=68719476736/\a.Steps.length+1<=68719476736/\some (.agg [.own 0],[.arr 97 3 true ((a.Steps++[(⟨2,0,a1⟩:Zj)]).map Zj.c)])=some r))/\
 ((∀x a a1 r,Im (JQ x a a1=some r) (qO 3 1 ic (JK a a1) (λv1=>if(v1.length:Int)=0 then qO 3 1 ic (Ze5 a1) (λv4=>if(v4.length:Int)=0 then ∃(v6:List Zj),ZbR 0=some (.agg [.own 0],[.arr 97 3 true (v6.map Zj.c)])/\some (.agg [.own 1],[.box (x.c.map .t),.arr 97 3 true (v6.map Zj.c)])=some r else ∃e4,v4[0]?=some e4/\∃(v12:List Zj),ZbR e4=some (.agg [.own 0],[.arr 97 3 true (v12.map Zj.c)])/\some (.agg [.own 1],[.box (x.c.map .t),.arr 97 3 true (v12.map Zj.c)])=some r)else ∃(v13:Zf),∃v14,Z7 x (v1.length:Int)=some (I v14,[.box (v13.c.map .t)])/\qG v1 v14 (λe7=>∃(v15:Zf) (v16:List Zj),JQ v13 a e7=some (.agg [.own 1],[.box (v15.c.map .t),.arr 97 3 true (v16.map Zj.c)])/\∃(v17:Zf) (v18:List Zj),JQ v15 a (w (a1-e7))=some (.agg [.own 1],[.box (v17.c.map .t),.arr 97 3 true (v18.map Zj.c)])/\∃(v20:Zf),∃v21,Z7 v17 3=some (I v21,[.box (v20.c.map .t)])/\if v21=0 then ∃(v22:List Zj),Qn (⟨v16⟩:Zo) (⟨v18⟩:Zo) 3 0=some (.agg [.own 0],[.arr 97 3 true (v22.map Zj.c)])/\some (.agg [.own 1],[.box (v20.c.map .t),.arr 97 3 true (v22.map Zj.c)])=some r else if v21=1 then ∃(v23:List Zj),Qn (⟨v16⟩:Zo) (⟨v18⟩:Zo) 5 0=some (.agg [.own 0],[.arr 97 3 true (v23.map Zj.c)])/\some (.agg [.own 1],[.box (v20.c.map .t),.arr 97 3 true (v23.map Zj.c)])=some r else qO 3 1 ic (Ze6 a e7 (w (a1-e7))) (λv24=>∃(v25:Zf),∃v26,Z7 v20 (v24.length:Int)=some (I v26,[.box (v25.c.map .t)])/\qG v24 v26 (λe15=>qI (ZbU a (⟨v16⟩:Zo)) (λv27=>if v27=e15 then qI (ZbU a (⟨v18⟩:Zo)) (λv28=>if v28=e15 then ∃(v29:List Zj),Qn (⟨v16⟩:Zo) (⟨v18⟩:Zo) 4 e15=some (.agg [.own 0],[.arr 97 3 true (v29.map Zj.c)])/\some (.agg [.own 1],[.box (v25.c.map .t),.arr 97 3 true (v29.map Zj.c)])=some r else ∃(v30:List Zj),ZbV (⟨v18⟩:Zo) e15=some (.agg [.own 0],[.arr 97 3 true (v30.map Zj.c)])/\∃(v31:List Zj),Qn (⟨v16⟩:Zo) (⟨v30⟩:Zo) 4 e15=some (.agg [.own 0],[.arr 97 3 true (v31.map Zj.c)])/\some (.agg [.own 1],[.box (v25.c.map .t),.arr 97 3 true (v31.map Zj.c)])=some r)else ∃(v32:List Zj),ZbV (⟨v16⟩:Zo) e15=some (.agg [.own 0],[.arr 97 3 true (v32.map Zj.c)])/\qI (ZbU a (⟨v18⟩:Zo)) (λv33=>if v33=e15 then ∃(v34:List Zj),Qn (⟨v32⟩:Zo) (⟨v18⟩:Zo) 4 e15=some (.agg [.own 0],[.arr 97 3 true (v34.map Zj.c)])/\some (.agg [.own 1],[.box (v25.c.map .t),.arr 97 3 true (v34.map Zj.c)])=some r else ∃(v35:List Zj),ZbV (⟨v18⟩:Zo) e15=some (.agg [.own 0],[.arr 97 3 true (v35.map Zj.c)])/\∃(v36:List Zj),Qn (⟨v32⟩:Zo) (⟨v35⟩:Zo) 4 e15=some (.agg [.own 0],[.arr 97 3 true (v36.map Zj.c)])/\some (.agg [.own 1],[.box (v25.c.map .t),.arr 97 3 true (v36.map Zj.c)])=some r))))))))/\
 (∀x r,Im (Ze8 x=some r) (∃(v1:Zf),∃(v2:List Zc),∃v3,JG x=some (.agg [I v3,.own 1],[.box (v1.c.map .t),.xarr 185 2 (v2.map Zc.c)])/\∃(v4:Zf),∃v5,Z7 v1 14=some (I v5,[.box (v4.c.map .t)])/\if v5=0 then ∃(v6:Zf),∃(v7:WA),∃v8,XU v4 ([0,5,(w (v3+1)),9223372036854775807])=some (I v8,[.box (v6.c.map .t),.arr 3 1 true (v7.map ic)])/\some (.agg [I v8,.own 1],[.box (v6.c.map .t),.xarr 185 2 (v2.map Zc.c)])=some r else if v5=1 then ∃(v9:Zf),∃(v10:List V5),∃v11,JF v4 ([(⟨#[]⟩:V5),(⟨#[119]⟩:V5),(⟨#[114]⟩:V5)])=some (.t (.str v11),[.box (v9.c.map .t),.arr 9 1 true (v10.map sc)])/\v2.length+1<=68719476736/\some (.agg [I v3,.own 1],[.box (v9.c.map .t),.xarr 185 2 ((v2++[(⟨v11,[0]⟩:Zc)]).map Zc.c)])=some r else if v5=2 then ∃e5,v2[0]?=some e5/\some (.agg [I v3,.own 1],[.box (v4.c.map .t),.xarr 185 2 ((v2.set 0 (⟨e5.Name,([]:WA)⟩:Zc)).map Zc.c)])=some r else if v5=3 then ∃e6,v2[0]?=some e6/\∃y7 t8,e6.Vars=y7::t8/\∃(v17:Zf),∃(v18:WA),∃v19,XU v4 ([(-1),4,1])=some (I v19,[.box (v17.c.map .t),.arr 3 1 true (v18.map ic)])/\∃e10,(y7::t8)[0]?=some e10/\some (.agg [I v3,.own 1],[.box (v17.c.map .t),.xarr 185 2 ((v2.set 0 (⟨e6.Name,((y7::t8).set 0 v19)⟩:Zc)).map Zc.c)])=some r else some (.agg [I v3,.own 1],[.box (v4.c.map .t),.xarr 185 2 (v2.map Zc.c)])=some r))))):=by
 and_intros
 all_goals(intros;unfold Im;(try simp only[JO,Ze7,K6,ZbU,ZbV,JQ,Ze8,JN,ZB,Vs,Ze.c_def,Zj.c_def,Za.c_def,Uq,Zo.c_def,JK,Ze5,ZbR,Z7,Qn,Ze6,Zf.c_def,JG,XU,JF,JP,ZbT,K5,mpl,dfs,qs]);(try simp only[itb]);(try simp only[itf,gS,kk]))
 all_goals(repeat' first|refine exI λ_=>?_|refine anJ λ_ _=>?_|refine anI λ_=>?_|refine orE2 ?_ ?_|exact False.elim)
 all_goals(intro h;first|rw[Ev_eq Zh9.eq_1]|refine run Z4u rfl ?_|rw[Zl Zl9.eq_1]|refine run Z4v rfl ?_|refine run Z4w rfl ?_|refine run Z4x rfl ?_|refine ZR Z4y rfl ?_|refine ZR Z4z rfl ?_)
 all_goals (refine Yc ?_ h;clear h;simp +decide[*,kk,tI,tII,ZtE,ZtF,ZhA,ZlA,ZtG,ZtH,ZtI,ZtL,ZtJ,ZtK,ZtO,ZtN])
abbrev Z7b:=uq Kc.1.1.1
abbrev Zps:=uq Kc.1.1.2
abbrev Qv:=uq Kc.1.2.1
abbrev Zxk:=uq Kc.1.2.2
abbrev Z7c:=uq Kc.2.1.1
abbrev Zxl:=uq Kc.2.1.2
abbrev Z7d:=uq Kc.2.2.1
abbrev Ja:=uq Kc.2.2.2.1
abbrev Zgf:=uq Kc.2.2.2.2
theorem Wx:((((∀x r,Im (ZbW x=some r) (∃(v:Zf),∃(v1:List Zc),∃v2,JG x=some (.agg [I v2,.own 1],[.box (v.c.map .t),.xarr 185 2 (v1.map Zc.c)])/\qI (JH (⟨v2,v1⟩:Ze)) (λv3=>∃(v6:Zf) (v7:List Zj),JQ v (⟨v2,v1⟩:Ze) v3=some (.agg [.own 1],[.box (v6.c.map .t),.arr 97 3 true (v7.map Zj.c)])/\∃(v9:Zf),∃v10,Z7 v6 12=some (I v10,[.box (v9.c.map .t)])/\if v10=0 then 0<=(w ((v7.length:Int)-1))/\0<=(w ((v7.length:Int)-1)).toNat/\(w ((v7.length:Int)-1)).toNat<=v7.length/\some (.tup [.agg [I v2,L 2 (v1.map Zc.c)],.agg [L 3 ((v7.take ((w ((v7.length:Int)-1)).toNat)).map Zj.c)]],[.box (v9.c.map .t)])=some r else if v10=1 then ∃(v12:Zf),∃v13,Z7 v9 (v7.length:Int)=some (I v13,[.box (v12.c.map .t)])/\∃(v14:Zf),∃v15,Z7 v12 7=some (I v15,[.box (v14.c.map .t)])/\qG v7 v13 (λe7=>some (.tup [.agg [I v2,L 2 (v1.map Zc.c)],.agg [L 3 ((v7.set v13.toNat (⟨v15,e7.Zc,e7.Order⟩:Zj)).map Zj.c)]],[.box (v14.c.map .t)])=some r)else if v10=2 then ∃(v19:Zf),∃v20,Z7 v9 (v7.length:Int)=some (I v20,[.box (v19.c.map .t)])/\∃(v22:Zf),∃v23,Z7 v19 5=some (I v23,[.box (v22.c.map .t)])/\qG v7 v20 (λe10=>some (.tup [.agg [I v2,L 2 (v1.map Zc.c)],.agg [L 3 ((v7.set v20.toNat (⟨e10.Kind,e10.Zc,(w (v23-1))⟩:Zj)).map Zj.c)]],[.box (v22.c.map .t)])=some r)else if v10=3 then ∃(v24:Zf),∃(v25:WA),∃v26,XU v9 ([(-1),4,1])=some (I v26,[.box (v24.c.map .t),.arr 3 1 true (v25.map ic)])/\∃e12,v7[0]?=some e12/\some (.tup [.agg [I v2,L 2 (v1.map Zc.c)],.agg [L 3 ((v7.set 0 (⟨e12.Kind,v26,e12.Order⟩:Zj)).map Zj.c)]],[.box (v24.c.map .t)])=some r else if v10=4 then ∃(v27:Zf),∃(v28:List Zc),∃v29,Ze8 v9=some (.agg [I v29,.own 1],[.box (v27.c.map .t),.xarr 185 2 (v28.map Zc.c)])/\some (.tup [.agg [I v29,L 2 (v28.map Zc.c)],.agg [L 3 (v7.map Zj.c)]],[.box (v27.c.map .t)])=some r else some (.tup [.agg [I v2,L 2 (v1.map Zc.c)],.agg [L 3 (v7.map Zj.c)]],[.box (v9.c.map .t)])=some r)))/\
 (∀a r,Im (Ze9 a=some r) (∃(v:Zf),Zej a=some (.ptr 0 0,[.box (v.c.map .t)])/\∃(v3:Zf) (v4:Zm),Zb9 v=some (.agg (v4.c.map .t),[.box (v3.c.map .t)])/\∃(v6:Zf),∃v7,XC v3 10=some (Bo v7,[.box (v6.c.map .t)])/\if v7=true then ∃(v9:Zf) (v10:Zm),Zel v6=some (.agg (v10.c.map .t),[.box (v9.c.map .t)])/\∃(v12:Zf) (v13:Zn),ZbH v9=some (.agg (v13.c.map .t),[.box (v12.c.map .t)])/\∃(v14:Zf) (v15:Ze) (v16:Zo),ZbW v12=some (.tup [.agg (v15.c.map .t),.agg (v16.c.map .t)],[.box (v14.c.map .t)])/\some (.tup [.ptr 0 0,.agg (v10.c.map .t),.agg (v13.c.map .t),.agg (v15.c.map .t),.agg (v16.c.map .t)],[.box (v14.c.map .t)])=some r else ∃(v17:Zf) (v18:Zn),ZbH v6=some (.agg (v18.c.map .t),[.box (v17.c.map .t)])/\∃(v19:Zf) (v20:Ze) (v21:Zo),ZbW v17=some (.tup [.agg (v20.c.map .t),.agg (v21.c.map .t)],[.box (v19.c.map .t)])/\some (.tup [.ptr 0 0,.agg (v4.c.map .t),.agg (v18.c.map .t),.agg (v20.c.map .t),.agg (v21.c.map .t)],[.box (v19.c.map .t)])=some r)))/\
 ((∀x r,Im (ZeA x=some r) (∃(v:Zf),∃v1,XC x 12=some (Bo v1,[.box (v.c.map .t)])/\if v1=true then ∃(v3:Zf),∃(v4:WA),∃v5,XU v ([(-1),0,1000000000000,1000000000001,9223372036854775807])=some (I v5,[.box (v3.c.map .t),.arr 3 1 true (v4.map ic)])/\some (I v5,[.box (v3.c.map .t)])=some r else ∃(v6:Zf),∃(v7:WA),∃v8,XU v ([5,20,60,200,1000])=some (I v8,[.box (v6.c.map .t),.arr 3 1 true (v7.map ic)])/\∃(v9:Zf),∃v10,Z7 v6 40=some (I v10,[.box (v9.c.map .t)])/\some (I (w (v8+v10)),[.box (v9.c.map .t)])=some r))/\
 (∀x a r,Im (ZeB x a=some r) (∃(v:Zf),∃v1,XC x 10=some (Bo v1,[.box (v.c.map .t)])/\if v1=true then ∃(v3:Zf),∃(v4:WA),∃v5,XU v ([(-1),0,16,9223372036854775807])=some (I v5,[.box (v3.c.map .t),.arr 3 1 true (v4.map ic)])/\some (I v5,[.box (v3.c.map .t)])=some r else ¬(if(a.Atoms.length:Int)<4 then(a.Atoms.length:Int)else 4)<0/\∃(v6:Zf),∃v7,Z7 v (shlI 1 (if(a.Atoms.length:Int)<4 then(a.Atoms.length:Int)else 4))=some (I v7,[.box (v6.c.map .t)])/\some (I v7,[.box (v6.c.map .t)])=some r))))/\
 (((∀co n i r,Im (ZeC co n i=some r) (if i<(co.length:Int)then qG co i (λe1=>qB (ZB e1 0 9) (ZeC co n (w (i+1))=some r) (qb false r))else qb (decide ((co.length:Int)=n)) r))/\
 (∀a a1 r,Im (ZbX a a1=some r) (ZeC a a1 0=some r)))/\
 ((∀t i r,Im (ZbY t i=some r) (if i<(t.Rows.length:Int)then qG t.Rows i (λe1=>qB (ZbX e1 t.Arity) (if 0<i then 0<=(w (i-1))/\∃e3,t.Rows[(w (i-1)).toNat]?=some e3/\qI (QG e3 e1) (λv9=>if 0<=v9 then qb false r else ZbY t (w (i+1))=some r)else ZbY t (w (i+1))=some r) (qb false r))else qb true r))/\
 ((∀a r,Im (ZhB a=some r) (qB (ZbI a.Name) (qB (ZB a.Arity 1 3) (if 8<(a.Rows.length:Int)then qb false r else ZbY a 0=some r) (qb false r)) (qb false r)))/\
 (∀d i r,Im (ZbZ d i=some r) (if i<(d.Tables.length:Int)then qG d.Tables i (λe1=>qB (ZhB e1) (if 0<i then 0<=(w (i-1))/\∃e3,d.Tables[(w (i-1)).toNat]?=some e3/\if(Op.bytesLess e3.Name.toList e1.Name.toList)=true then ZbZ d (w (i+1))=some r else qb false r else ZbZ d (w (i+1))=some r) (qb false r))else qb (decide ((d.Tables.length:Int)<=6)) r))))))/\
 ((((∀a r,Im (ZhC a=some r) (ZbZ a 0=some r))/\
 (∀t cn cd cl cc i r,Im (ZlM t cn cd cl cc i=some r) (if i<(t.Rows.length:Int)then qG t.Rows i (λe1=>e1.length<=68719476736/\ZeE t cn cd cl cc ([e1]) (w (i+1))=some r)else some (.agg [.t (.str cl),I cc,.t .nil],[])=some r)))/\
 ((∀t cn cd cl cc x i r,Im (ZeE t cn cd cl cc x i=some r) (if i<(t.Rows.length:Int)then qG t.Rows i (λe1=>e1.length<=68719476736/\x.length+1<=68719476736/\ZeE t cn cd cl cc (x++[e1]) (w (i+1))=some r)else some (.agg [.t (.str cl),I cc,.own 0],[.arr 42 1 true (x.map isc)])=some r))/\
 (∀a r,Im (ZeD a=some r) (ZlM a (⟨#[]⟩:V5) 0 a.Name a.Arity 0=some r))))/\
 (((∀d cn cd cp i r,Im (ZeF d cn cd cp i=some r) (if i<(d.Tables.length:Int)then qB (ZhC d) (qG d.Tables i (λe2=>if e2.Name=cp then(∃v6 v7,ZeD e2=some (.agg [.t (.str v6),I v7,.t .nil],[])/\some (.tup [.agg [.t (.str v6),I v7,.t .nil],Bo true],[])=some r)\/(∃(v9:XS),∃v10,∃v11,ZeD e2=some (.agg [.t (.str v10),I v11,.own 0],[.arr 42 1 true (v9.map isc)])/\some (.tup [.agg [.t (.str v10),I v11,.own 0],Bo true],[.arr 42 1 true (v9.map isc)])=some r)else ZeF d cn cd cp (w (i+1))=some r)) (some (.tup [.agg [.t (.str (⟨#[]⟩:V5)),I 0,.t .nil],Bo false],[])=some r)else some (.tup [.agg [.t (.str (⟨#[]⟩:V5)),I 0,.t .nil],Bo false],[])=some r))/\
 (∀a a1 r,Im (UF a a1=some r) (ZeF a (⟨#[]⟩:V5) 0 a1 0=some r)))/\
 ((∀d q i r,Im (Zca d q i=some r) (if i<(q.Atoms.length:Int)then qG q.Atoms i (λe1=>(∃v3 v4 v5,UF d e1.Name=some (.tup [.agg [.t (.str v3),I v4,.t .nil],Bo v5],[])/\if v5=true then if v4=(e1.Vars.length:Int)then Zca d q (w (i+1))=some r else qb false r else qb false r)\/(∃(v6:XS),∃v7,∃v8,UF d e1.Name=some (.tup [.agg [.t (.str v7),I v8,.own 0],Bo true],[.arr 42 1 true (v6.map isc)])/\if v8=(e1.Vars.length:Int)then Zca d q (w (i+1))=some r else qb false r))else qb true r))/\
 ((∀a a1 r,Im (QL a a1=some r) (qB (Uq a1) (Zca a a1 0=some r) (qb false r)))/\
 (∀t a cu co i r,Im (JR t a cu co i=some r) (if i<(t.Rows.length:Int)then JS t a cu co i true 0=some r else qb false r)))))):=by
 and_intros
 all_goals(intros;unfold Im;(try simp only[ZbW,Ze9,ZeA,ZeB,ZeC,ZbX,ZbY,ZhB,ZbZ,ZhC,ZlM,ZeE,ZeD,ZeF,UF,Zca,QL,JR,JG,JH,JQ,Z7,XU,Ze8,Zf.c_def,Ze.c_def,Zej,Zb9,XC,Zel,ZbH,Zn.c_def,Zm.c_def,Zr.c_def,Zo.c_def,ZB,QG,ZbI,Zq.c_def,Uq,JS,mpl,dfs,qs]);(try simp only[itb]);(try simp only[itf,gS,kk]))
 all_goals(repeat' first|refine exI λ_=>?_|refine anJ λ_ _=>?_|refine anI λ_=>?_|refine orE2 ?_ ?_|exact False.elim)
 all_goals(intro h;first|refine ZR Z40 rfl ?_|refine run Z41 rfl ?_|refine ZR Z42 rfl ?_|refine ZR Z43 rfl ?_|rw[Zl ZlD.eq_1]|refine run Z44 rfl ?_|rw[Zl ZlG.eq_1]|refine run Z45 rfl ?_|rw[Zl ZlJ.eq_1]|refine run Z46 rfl ?_|rw[Zl ZhD.eq_1]|refine run Z47 rfl ?_|rw[Zl ZlO.eq_1]|refine run Z48 rfl ?_|rw[Zl ZlR.eq_1]|refine run Z49 rfl ?_|rw[Zl ZeG.eq_1])
 all_goals (refine Yc ?_ h;clear h;simp +decide[*,kk,tI,tII,ZtR,ZtQ,ZtU,ZtT,ZtV,ZtW,ZlE,ZtX,ZlH,ZtY,ZlK,ZtZ,ZhE,Zua,ZlP,Zub,ZlS,Zuc,ZeH])
abbrev Z7e:=uq Wx.1.1.1.1
abbrev Zxm:=uq Wx.1.1.1.2
abbrev Zxn:=uq Wx.1.1.2.1
abbrev Zxo:=uq Wx.1.1.2.2
abbrev Zxp:=uq Wx.1.2.1.1
abbrev Z7f:=uq Wx.1.2.1.2
abbrev Zxq:=uq Wx.1.2.2.1
abbrev Z7g:=uq Wx.1.2.2.2.1
abbrev Zxr:=uq Wx.1.2.2.2.2
abbrev Z7h:=uq Wx.2.1.1.1
abbrev Z7i:=uq Wx.2.1.1.2
abbrev Zxs:=uq Wx.2.1.2.1
abbrev Z7j:=uq Wx.2.1.2.2
abbrev Zxt:=uq Wx.2.2.1.1
abbrev Z7k:=uq Wx.2.2.1.2
abbrev Zxu:=uq Wx.2.2.2.1
abbrev Z7l:=uq Wx.2.2.2.2.1
abbrev Zxv:=uq Wx.2.2.2.2.2
theorem Zpt:(∀t a c cc i is k r,Im (JS t a c cc i is k=some r) (if k<(a.Vars.length:Int)then JT t a c cc i is k 0=some r else if is=true then qb true r else JR t a c cc (w (i+1))=some r))/\
 ((∀t a c cc i is k j r,Im (JT t a c cc i is k j=some r) (if j<(cc.length:Int)then if is=true then qG c j (λe1=>qG a.Vars k (λe2=>if e1=e2 then qH cc j (λe3=>qG t.Rows i (λe4=>qH e4 k (λe5=>JT t a c cc i (decide (e3=e5)) k (w (j+1))=some r)))else JT t a c cc i true k (w (j+1))=some r))else JT t a c cc i false k (w (j+1))=some r else JS t a c cc i is (w (k+1))=some r))/\
 (∀a a1 a2 a3 r,Im (ZeI a a1 a2 a3=some r) (JR a a1 a2 a3 0=some r))):=by
 and_intros
 all_goals(intros;unfold Im;(try simp only[JS,JT,ZeI,JR,mpl,dfs,qs]);(try simp only[itb]);(try simp only[itf,gS,kk]))
 all_goals(repeat' first|refine exI λ_=>?_|refine anJ λ_ _=>?_|refine anI λ_=>?_|refine orE2 ?_ ?_|exact False.elim)
 all_goals(intro h;first|rw[Zl ZhF.eq_1]|rw[Zl ZlT.eq_1]|refine run Z4A rfl ?_)
 all_goals (refine Yc ?_ h;clear h;simp +decide[*,kk,tI,tII,ZhG,ZhH,ZlU,Zud])
abbrev Zxw:=uq Zpt.1
abbrev Zxx:=uq Zpt.2.1
abbrev Z7m:=uq Zpt.2.2
end Go.Proofs.YtgbipcfdgfjplaaGreat
