/-
  Parts of the proofs for this seat: G1 G2 G3.
-/
import Derived.Test.YteaiinkcanpleaaGreatP12
set_option linter.all false
set_option maxRecDepth 100000
set_option maxHeartbeats 4000000
namespace Go.Proofs.YteaiinkcanpleaaGreat
open Go.AM
def ZJY:((((iM FK λa r=>qb (decide (1048576<(a.length:Int))) r)/\
 (iM aR λcode h1 i r=>if i<(code.length:Int)then if i<4000 then qG code i (λu1=>r (aR code (Ah (w ((w ((w (h1*131))+(w u1)))+7)) 1073741823) (w (i+1))))else uP code h1 r else uP code h1 r))/\
 ((iM aQ λa r=>r (aR a (w (10101+(a.length:Int))) 0))/\
 (iM He λx r=>qL (w ((w (x.h*6364136223846793005))+1442695040888963407)) λk1=>qL (Ah (Fy (Au k1 33) (Au k1 45)) 255) λk2=>if x.i<(x.b.length:Int)then qG x.b x.i (λu1=>r (some (I (Ah (w (k2+(w u1))) 255),[.box [L 1 (x.b.map (kc .u8)),I (w (x.i+1)),I k1]])))else r (some (I k2,[.box [L 1 (x.b.map (kc .u8)),I x.i,I k1]])))))/\
 (((iM Xk λx a r=>if a<=0 then r (some (I 0,[.box (x.c.map .t)]))else if a<=256 then BR (He x) (λu1 u2=>¬a=0/\r (some (I (Int.tmod u2 a),[.box (u1.c.map .t)])))else BR (He x) (λu1 u2=>BR (He u1) (λu3 u4=>BR (He u3) (λu5 u6=>BR (He u5) (λu7 u8=>¬a=0/\r (some (I (Int.tmod (w ((w ((w ((w (u2*16777216))+(w (u4*65536))))+(w (u6*256))))+u8)) a),[.box (u7.c.map .t)])))))))/\
 (iM Wy λx a r=>BR (Xk x a) (λu1 u2=>r (some (Bo (decide (u2=0)),[.box (u1.c.map .t)])))))/\
 ((iM ZrR λr=>qL ([]:List Zw) λk1=>r (some (.agg [I 1,I 1,I 0,I 0,I 0,.own 0,I 2,I 3,I 0,I 0,I 0,.own 1,I 4,I 2,I 1,I 1,I 0,.own 2,I 1,I 1,I 1,I 1,I 0,.own 3,I 1,I 0,I 0,I 1,I 1,.own 4],[.arr 147 2 true (k1.map Zw.c),.arr 147 2 true (([(⟨17,20⟩:Zw)]).map Zw.c),.arr 147 2 true (k1.map Zw.c),.arr 147 2 true (k1.map Zw.c),.arr 147 2 true (k1.map Zw.c)])))/\
 ((iM XI λx x1 r=>BR (Xk x (x1.length:Int)) (λu1 u2=>qG x1 u2 (λu3=>r (some (I u3,[.box (u1.c.map .t),.arr 3 1 true (x1.map ic)])))))/\
 (iM Hf λx r=>BR (Xk x 5) (λu1 u2=>BR (Xk u1 4) (λu3 u4=>BR (Xk u3 4) (λu5 u6=>BR (Xk u5 3) (λu7 u8=>Kd (Wy u7 3) (λu9 u10=>qL (w (1+u2)) λk1=>if u10=true then BR (Xk u9 3) (λu11 u12=>Kd (Wy u11 3) (λu13 u14=>if u14=true then Vo (XI u13 ([1,5,17,32])) (λu15 u16 Bw=>BR (Xk u15 20) (λBE Ci=>r (some (.agg [I k1,I u4,I u6,I u8,I u12,.own 1],[.box (BE.c.map .t),.arr 147 2 true (([(⟨Bw,Ci⟩:Zw)]).map Zw.c)]))))else r (some (.agg [I k1,I u4,I u6,I u8,I u12,.own 1],[.box (u13.c.map .t),.arr 147 2 true (([]:List Zw).map Zw.c)]))))else Kd (Wy u9 3) (λu11 u12=>if u12=true then Vo (XI u11 ([1,5,17,32])) (λu13 u14 u15=>BR (Xk u13 20) (λu16 Bw=>uQ k1 u4 u6 u8 u16 ([(⟨u15,Bw⟩:Zw)]) r))else uQ k1 u4 u6 u8 u11 ([]:List Zw) r)))))))))))/\
 ((((iM aS λx r=>Kd (Wy x 3) (λu1 u2=>if u2=true then ∃(u3:List Zw),∃(u4:List Zw),∃(u5:List Zw),∃(u6:List Zw),∃(u7:List Zw),∃u8,∃u9,∃u10,∃u11,∃u12,∃u13,∃u14,∃u15,∃u16,∃Bw,∃BE,∃Ci,∃u20,∃u21,∃u22,∃u23,∃u24,∃u25,∃u26,∃u27,∃u28,∃u29,∃u30,∃u31,∃u32,ZrR=some (.agg [I u8,I u9,I u10,I u11,I u12,.own 0,I u13,I u14,I u15,I u16,I Bw,.own 1,I BE,I Ci,I u20,I u21,I u22,.own 2,I u23,I u24,I u25,I u26,I u27,.own 3,I u28,I u29,I u30,I u31,I u32,.own 4],[.arr 147 2 true (u3.map Zw.c),.arr 147 2 true (u4.map Zw.c),.arr 147 2 true (u5.map Zw.c),.arr 147 2 true (u6.map Zw.c),.arr 147 2 true (u7.map Zw.c)])/\r (some (.agg [I u8,I u9,I u10,I u11,I u12,L 2 (u3.map Zw.c),I u13,I u14,I u15,I u16,I Bw,L 2 (u4.map Zw.c),I BE,I Ci,I u20,I u21,I u22,L 2 (u5.map Zw.c),I u23,I u24,I u25,I u26,I u27,L 2 (u6.map Zw.c),I u28,I u29,I u30,I u31,I u32,L 2 (u7.map Zw.c)],[.box (u1.c.map .t)]))else I9 (Hf u1) (λu3 u4 u5 u6 u7 u8 u9=>I9 (Hf u3) (λu10 u11 u12 u13 u14 u15 u16=>I9 (Hf u10) (λBw BE Ci u20 u21 u22 u23=>I9 (Hf Bw) (λu24 u25 u26 u27 u28 u29 u30=>I9 (Hf u24) (λu31 u32 u33 u34 u35 u36 u37=>r (some (.agg [I u5,I u6,I u7,I u8,I u9,L 2 (u4.map Zw.c),I u12,I u13,I u14,I u15,I u16,L 2 (u11.map Zw.c),I Ci,I u20,I u21,I u22,I u23,L 2 (BE.map Zw.c),I u26,I u27,I u28,I u29,I u30,L 2 (u25.map Zw.c),I u33,I u34,I u35,I u36,I u37,L 2 (u32.map Zw.c)],[.box (u31.c.map .t)])))))))))/\
 (iM ZrW λout row put i r=>if i<0 then False else if put=true then Kb out r else qM row (qN out (Kb (out++[row]) r))))/\
 ((iM Hg λa r=>r (ZrW ([]:WA) a false 0))/\
 (iM aT λa b i r=>if i<(a.length:Int)then if i<(b.length:Int)then qG a i (λu1=>qH b i (λu2=>if u1<u2 then qi (-1) r else if u2<u1 then qi 1 r else r (aT a b (w (i+1)))))else r (aU a b i false)else r (aU a b i false))))/\
 (((iM aU λa b i x r=>if(a.length:Int)<(b.length:Int)then qi (-1) r else if(b.length:Int)<(a.length:Int)then qi 1 r else qi 0 r)/\
 (iM Uq λa a1 r=>r (aT a a1 0)))/\
 ((iM Qm λout rows row put i r=>if i<(rows.length:Int)then qG rows i (λu1=>qI (Uq u1 row) (λu2=>qL (Qm (out++[u1]) rows row) λk2=>qL (qM u1 (qN out (r (k2 true (w (i+1)))))) λk1=>if u2=0 then if 0<u2 then k1 else k1 else if 0<u2 then if put=true then k1 else qM row (qN out (qM u1 (out.length+1+1<=68719476736/\r (Qm ((out++[row])++[u1]) rows row true (w (i+1))))))else qM u1 (qN out (r (k2 put (w (i+1)))))))else if put=true then Kb out r else qM row (qN out (Kb (out++[row]) r)))/\
 ((iM Jx λa a1 r=>r (Qm ([]:WA) a a1 false 0))/\
 (iM vO λc Name Arity Ak Ag arity val n r=>if 0<n then r (Pi c Name Arity Ak Ag ([]:WL) arity val n 0)else r (some (.agg [.t (.str Ak),I Ag,.own 1],[.box (c.c.map .t),.arr 32 1 true (([]:WA).map AF)]))))))):=by
 refine qu ?_
 and_intros
 all_goals(intros;unfold Im;(try simp only[FK,aR,aQ,He,Xk,Wy,ZrR,XI,Hf,aS,ZrW,Hg,aT,Uq,Qm,Jx,vO,Zo.c_def,aU,Pi,Aq,ZrV,Bc,A8]);(try simp only[Bd]);(try simp only[Be,gS,kk]))
 all_goals(repeat' first|refine Bp λ_=>?_|refine Bn λ_ _=>?_|refine Bm λ_=>?_|refine AH ?_ ?_|exact False.elim)
 all_goals(intro h;first|refine run ZFB rfl ?_|rw[Zl ZrP.eq_1]|refine run ZFC rfl ?_|refine XH ZFD rfl ?_|refine XH ZFE rfl ?_|refine XH ZFF rfl ?_|refine run ZFG rfl ?_|refine XH ZFH rfl ?_|refine XH ZFI rfl ?_|refine XH ZFJ rfl ?_|rw[Zl ZrT.eq_1]|refine run ZFK rfl ?_|rw[Zl ZrY.eq_1]|rw[Cb vK.eq_1]|refine run ZFL rfl ?_|rw[Zl Lk.eq_1])
 all_goals (refine Ye ?_ h;clear h;simp +decide[*,kk,tI,Av,Z4r,ZrQ,Z4s,Z4v,Z4u,Z4w,Z4x,Z4y,Z4z,Z42,Z40,Z41,Z43,Z46,ZrU,Z47,Z48,Z44,Z45,Ll])
abbrev Xz:=uq ZJY
def ZJZ:((iM Pi λc Name Arity Ak Ag row arity val n i r=>if i<arity then ∃(u1:Zo),∃u2,Xk c val=some (I u2,[.box (u1.c.map .t)])/\qN row (r (Pi u1 Name Arity Ak Ag (row++[u2]) arity val n (w (i+1))))else Uc (Hg row) (λu1=>r (Pj c Name Arity Ak Ag u1 arity val (w (n-1)))))/\
 (iM Pj λc Name Arity Ak Ag x arity val n r=>if 0<n then r (aV c Name Arity Ak Ag x ([]:WL) arity val n 0)else r (some (.agg [.t (.str Ak),I Ag,.own 1],[.box (c.c.map .t),.arr 32 1 true (x.map AF)]))))/\
 ((iM aV λc Name Arity Ak Ag x row arity val n i r=>if i<arity then ∃(u1:Zo),∃u2,Xk c val=some (I u2,[.box (u1.c.map .t)])/\qN row (r (aV u1 Name Arity Ak Ag x (row++[u2]) arity val n (w (i+1))))else Uc (Jx x row) (λu1=>r (Pj c Name Arity Ak Ag u1 arity val (w (n-1)))))/\
 (iM Q7 λx a a1 a2 a3 r=>BR (Xk x (w (a2+1))) (λu1 u2=>r (vO u1 (⟨#[]⟩:V6) 0 a a1 a1 a3 u2)))):=by
 refine qu ?_
 and_intros
 all_goals(intros;unfold Im;(try simp only[Pi,Pj,aV,Q7,Xk,Hg,Zo.c_def,Jx,vO,Aq,Bc,A8]);(try simp only[Bd]);(try simp only[Be,gS,kk]))
 all_goals(repeat' first|refine Bp λ_=>?_|refine Bn λ_ _=>?_|refine Bm λ_=>?_|refine AH ?_ ?_|exact False.elim)
 all_goals(intro h;first|rw[Zl vL.eq_1]|rw[Zl Lk.eq_1]|refine XH ZFM rfl ?_)
 all_goals (refine Ye ?_ h;clear h;simp +decide[*,kk,tI,Av,vN,vM,Ll,Z49])
abbrev HR:=uq ZJZ
def ZpR(a b:V6)(l:List UInt8)(h:b.data.toList=l):(a.toList=l)↔a=b:=by
 rw[<-ZrM,ByteArray.toList_eq b,h]
theorem Mq{α β:Type}(f:α->β){l:List α}{i:Nat}{e:α}(g:i<l.length)(q:l[i]=e):∃g2:i<(l.map f).length,(l.map f)[i]=f e:=⟨by simpa using g,by simp[q]⟩
def ZKa:iM vP λc x val most x1 x2 r=>if x2<x1 then qG x x2 (λu1=>qL (∃(u2:Zo),∃(u3:WA),∃u4,∃u5,Q7 c u1 1 most val=some (.agg [.t (.str u4),I u5,.own 1],[.box (u2.c.map .t),.arr 32 1 true (u3.map AF)])/\r (Ke u2 ([(⟨u4,u5,u3⟩:Zs)]) x val most x1 (w (x2+1)))) λk1=>qL (⟨#[118]⟩:V6) λk2=>if u1=(⟨#[117]⟩:V6)then if u1=k2 then k1 else ∃(u2:Zo),∃(u3:WA),∃u4,∃u5,Q7 c u1 3 most val=some (.agg [.t (.str u4),I u5,.own 1],[.box (u2.c.map .t),.arr 32 1 true (u3.map AF)])/\r (Ke u2 ([(⟨u4,u5,u3⟩:Zs)]) x val most x1 (w (x2+1)))else if u1=k2 then k1 else ∃(u2:Zo),∃(u3:WA),∃u4,∃u5,Q7 c u1 2 most val=some (.agg [.t (.str u4),I u5,.own 1],[.box (u2.c.map .t),.arr 32 1 true (u3.map AF)])/\r (Ke u2 ([(⟨u4,u5,u3⟩:Zs)]) x val most x1 (w (x2+1))))else ∃(u1:Zo),∃u2,Wy c 8=some (Bo u2,[.box (u1.c.map .t)])/\if u2=true then ∃(u3:Zo),∃u4,Xk u1 5=some (I u4,[.box (u3.c.map .t)])/\False else r (some (.agg [L 3 (([]:List Zs).map Zs.c)],[.box (u1.c.map .t)])):=by
 refine qu ?_;intro c x val most x1 x2 r;unfold Im;intro h;unfold vP
 try simp only[Aq]
 rw[Zl aW.eq_1];simp only[Q7,Wy,Xk,Zo.c_def,Bc,A8,Aq]at h
 try simp only[Bd]at h
 try simp only[Be,gS,kk]at h
 rcases h with⟨q1,q2,e1,⟨g3,q3⟩,(⟨q4,(⟨q5,v,v1,v2,v3,q6,h⟩|⟨q5,v4,v5,v6,v7,q7,h⟩)⟩|⟨q4,(⟨q8,v8,v9,v10,v11,q9,h⟩|⟨q8,v12,v13,v14,v15,q10,h⟩)⟩)⟩|⟨q1,v16,v17,q11,(⟨q12,v18,v19,q13,⟨⟩⟩|⟨q12,h⟩)⟩
 all_goals try (have s1:=ZpR e1 ⟨#[117]⟩ [117] rfl;have s2:=ZpR e1 ⟨#[118]⟩ [118] rfl)
 all_goals try exact absurd ((of_eq_true q4).symm.trans (of_eq_true q5)) Sm
 all_goals (refine Ye ?_ h;clear h;simp +decide[*,kk,tI,Av,Ke,ZrZ,Zsa,Zsb,aX,Aq])
abbrev ZKb:=uq ZKa
def ZKc:iM Ke λc x x1 val most x2 x3 r=>if x3<x2 then qG x1 x3 (λu1=>qL (∃(u2:Zo),∃(u3:WA),∃u4,∃u5,Q7 c u1 1 most val=some (.agg [.t (.str u4),I u5,.own 1],[.box (u2.c.map .t),.arr 32 1 true (u3.map AF)])/\qN x (r (Ke u2 (x++[(⟨u4,u5,u3⟩:Zs)]) x1 val most x2 (w (x3+1))))) λk1=>qL (⟨#[118]⟩:V6) λk2=>if u1=(⟨#[117]⟩:V6)then if u1=k2 then k1 else ∃(u2:Zo),∃(u3:WA),∃u4,∃u5,Q7 c u1 3 most val=some (.agg [.t (.str u4),I u5,.own 1],[.box (u2.c.map .t),.arr 32 1 true (u3.map AF)])/\qN x (r (Ke u2 (x++[(⟨u4,u5,u3⟩:Zs)]) x1 val most x2 (w (x3+1))))else if u1=k2 then k1 else ∃(u2:Zo),∃(u3:WA),∃u4,∃u5,Q7 c u1 2 most val=some (.agg [.t (.str u4),I u5,.own 1],[.box (u2.c.map .t),.arr 32 1 true (u3.map AF)])/\qN x (r (Ke u2 (x++[(⟨u4,u5,u3⟩:Zs)]) x1 val most x2 (w (x3+1)))))else ∃(u1:Zo),∃u2,Wy c 8=some (Bo u2,[.box (u1.c.map .t)])/\if u2=true then ∃(u3:Zo),∃u4,Xk u1 5=some (I u4,[.box (u3.c.map .t)])/\qG x u4 (λu5=>r (some (.agg [L 3 ((x.set u4.toNat (⟨u5.Name,u5.Arity,[]⟩:Zs)).map Zs.c)],[.box (u3.c.map .t)])))else r (some (.agg [L 3 (x.map Zs.c)],[.box (u1.c.map .t)])):=by
 refine qu ?_;intro c x x1 val most x2 x3 r;unfold Im;intro h;unfold Ke
 try simp only[Aq]
 rw[Zl aW.eq_1];simp only[Q7,Wy,Xk,Zo.c_def,Bc,A8,Aq]at h
 try simp only[Bd]at h
 try simp only[Be,gS,kk]at h
 rcases h with⟨q1,q2,e1,⟨g3,q3⟩,(⟨q4,(⟨q5,v,v1,v2,v3,q6,q7,h⟩|⟨q5,v4,v5,v6,v7,q8,q9,h⟩)⟩|⟨q4,(⟨q10,v8,v9,v10,v11,q11,q12,h⟩|⟨q10,v12,v13,v14,v15,q13,Bv,h⟩)⟩)⟩|⟨q1,v16,v17,BN,(⟨q16,v18,v19,EP,Cq,e8,⟨g19,Dz⟩,h⟩|⟨q16,h⟩)⟩
 all_goals try (have s1:=ZpR e1 ⟨#[117]⟩ [117] rfl;have s2:=ZpR e1 ⟨#[118]⟩ [118] rfl)
 all_goals try exact absurd ((of_eq_true q4).symm.trans (of_eq_true q5)) Sm
 all_goals (refine Ye ?_ h;clear h;simp +decide[*,kk,tI,Av,Ke,ZrZ,Zsa,Zsb,aX,Aq])
abbrev jV:=uq ZKc
def ZKd:((((iM aY λx r=>Vo (XI x ([2,3,4,6])) (λu1 u2 u3=>Vo (XI u1 ([2,4,6,8])) (λu4 u5 u6=>qL ([(⟨#[114]⟩:V6),(⟨#[115]⟩:V6),(⟨#[116]⟩:V6),(⟨#[117]⟩:V6),(⟨#[118]⟩:V6)]) λk1=>r (vP u4 k1 u3 u6 (k1.length:Int) 0))))/\
 (iM Lm λc Name To Ak DH m i r=>if i<m then if i=DH then r (Lm c Name To Ak DH m (w (i+1)))else ∃(u1:Zo),∃u2,Wy c 2=some (Bo u2,[.box (u1.c.map .t)])/\if u2=true then r (Pm u1 Name To Ak DH ([i]) m (w (i+1)))else r (Lm u1 Name To Ak DH m (w (i+1)))else ∃(u1:Zo),∃u2,Wy c 14=some (Bo u2,[.box (u1.c.map .t)])/\qL ([(-1),0,3,9223372036854775807]) λk1=>if u2=true then ∃(u3:Zo),∃(u4:WL),∃u5,XI u1 ([(-1),3,0])=some (I u5,[.box (u3.c.map .t),.arr 3 1 true (u4.map ic)])/\∃(u6:Zo),∃u7,Wy u3 16=some (Bo u7,[.box (u6.c.map .t)])/\if u7=true then ∃(u8:Zo),∃(u9:WL),∃u10,XI u6 k1=some (I u10,[.box (u8.c.map .t),.arr 3 1 true (u9.map ic)])/\r (some (.agg [.t (.str Ak),L 1 (([u10]).map ic),I u5],[.box (u8.c.map .t)]))else r (some (.agg [.t (.str Ak),L 1 (([]:WL).map ic),I u5],[.box (u6.c.map .t)]))else ∃(u3:Zo),∃u4,Wy u1 16=some (Bo u4,[.box (u3.c.map .t)])/\if u4=true then ∃(u5:Zo),∃(u6:WL),∃u7,XI u3 k1=some (I u7,[.box (u5.c.map .t),.arr 3 1 true (u6.map ic)])/\r (some (.agg [.t (.str Ak),L 1 (([u7]).map ic),I DH],[.box (u5.c.map .t)]))else r (some (.agg [.t (.str Ak),L 1 (([]:WL).map ic),I DH],[.box (u3.c.map .t)]))))/\
 ((iM Pm λc Name To Ak DH x m i r=>if i<m then if i=DH then r (Pm c Name To Ak DH x m (w (i+1)))else ∃(u1:Zo),∃u2,Wy c 2=some (Bo u2,[.box (u1.c.map .t)])/\qL (Pm u1 Name To Ak DH) λk2=>if u2=true then qN x (r (k2 (x++[i]) m (w (i+1))))else r (k2 x m (w (i+1)))else ∃(u1:Zo),∃u2,Wy c 14=some (Bo u2,[.box (u1.c.map .t)])/\qL ([(-1),0,3,9223372036854775807]) λk1=>if u2=true then ∃(u3:Zo),∃(u4:WL),∃u5,XI u1 ([(-1),3,0])=some (I u5,[.box (u3.c.map .t),.arr 3 1 true (u4.map ic)])/\∃(u6:Zo),∃u7,Wy u3 16=some (Bo u7,[.box (u6.c.map .t)])/\if u7=true then ∃(u8:Zo),∃(u9:WL),∃u10,XI u6 k1=some (I u10,[.box (u8.c.map .t),.arr 3 1 true (u9.map ic)])/\qN x (r (some (.agg [.t (.str Ak),L 1 ((x++[u10]).map ic),I u5],[.box (u8.c.map .t)])))else r (some (.agg [.t (.str Ak),L 1 (x.map ic),I u5],[.box (u6.c.map .t)]))else ∃(u3:Zo),∃u4,Wy u1 16=some (Bo u4,[.box (u3.c.map .t)])/\if u4=true then ∃(u5:Zo),∃(u6:WL),∃u7,XI u3 k1=some (I u7,[.box (u5.c.map .t),.arr 3 1 true (u6.map ic)])/\qN x (r (some (.agg [.t (.str Ak),L 1 ((x++[u7]).map ic),I DH],[.box (u5.c.map .t)])))else r (some (.agg [.t (.str Ak),L 1 (x.map ic),I DH],[.box (u3.c.map .t)])))/\
 (iM Ln λa r=>if(a.size:Int)=1 then ∃u1,a[0]?=some u1/\if 97<=(u1.toNat:Int)then qb (decide ((u1.toNat:Int)<=122)) r else qb false r else qb false r)))/\
 (((iM Z0 λa a1 a2 r=>if a1<=a then qb (decide (a<=a2)) r else qb false r)/\
 (iM bC λrow n i r=>if i<(row.length:Int)then qG row i (λu1=>qB (Z0 u1 0 9) (r (bC row n (w (i+1)))) (qb false r))else qb (decide ((row.length:Int)=n)) r))/\
 ((iM vT λa a1 r=>r (bC a a1 0))/\
 ((iM Pn λt i r=>if i<(t.Rows.length:Int)then qG t.Rows i (λu1=>qB (vT u1 t.Arity) (if 0<i then 0<=(w (i-1))/\∃u3,t.Rows[(w (i-1)).toNat]?=some u3/\qI (Uq u3 u1) (λu4=>if 0<=u4 then qb false r else r (Pn t (w (i+1))))else r (Pn t (w (i+1)))) (qb false r))else qb true r)/\
 (iM Jy λa r=>qB (Ln a.Name) (qB (Z0 a.Arity 1 3) (if 8<(a.Rows.length:Int)then qb false r else r (Pn a 0)) (qb false r)) (qb false r))))))/\
 ((((iM Pp λd i r=>if i<(d.Tables.length:Int)then qG d.Tables i (λu1=>qB (Jy u1) (if 0<i then 0<=(w (i-1))/\∃u3,d.Tables[(w (i-1)).toNat]?=some u3/\if(Op.bytesLess u3.Name.toList u1.Name.toList)=true then r (Pp d (w (i+1)))else qb false r else r (Pp d (w (i+1)))) (qb false r))else qb (decide ((d.Tables.length:Int)<=6)) r)/\
 (iM Po λa r=>r (Pp a 0)))/\
 ((iM Zss λt Name Arity Ak Ag i r=>if i<(t.Rows.length:Int)then qG t.Rows i (λu1=>qM u1 (r (Pq t Name Arity Ak Ag ([u1]) (w (i+1)))))else r (some (.agg [.t (.str Ak),I Ag,.t .nil],[])))/\
 (iM Pq λt Name Arity Ak Ag x i r=>if i<(t.Rows.length:Int)then qG t.Rows i (λu1=>qM u1 (qN x (r (Pq t Name Arity Ak Ag (x++[u1]) (w (i+1))))))else r (some (.agg [.t (.str Ak),I Ag,.own 0],[.arr 32 1 true (x.map AF)])))))/\
 (((iM KD λa r=>r (Zss a (⟨#[]⟩:V6) 0 a.Name a.Arity 0))/\
 (iM bD λd Name Arity name i r=>if i<(d.Tables.length:Int)then qB (Po d) (qG d.Tables i (λu2=>if u2.Name=name then((∃u3 u4,KD u2=some (.agg [.t (.str u3),I u4,.t .nil],[])/\r (some (.tup [.agg [.t (.str u3),I u4,.t .nil],Bo true],[])))\/(∃(u3:WA),∃u4,∃u5,KD u2=some (.agg [.t (.str u4),I u5,.own 0],[.arr 32 1 true (u3.map AF)])/\r (some (.tup [.agg [.t (.str u4),I u5,.own 0],Bo true],[.arr 32 1 true (u3.map AF)]))))else r (bD d Name Arity name (w (i+1))))) (uR r)else uR r))/\
 ((iM VK λa a1 r=>r (bD a (⟨#[]⟩:V6) 0 a1 0))/\
 ((iM Zsw λName Arity i r=>if i<0 then False else qb true r)/\
 (iM Hh λName Arity r=>qB (Ln Name) (qB (Z0 Arity 1 3) (r (Zsw Name Arity 0)) (qb false r)) (qb false r)))))):=by
 refine qu ?_
 and_intros
 all_goals(intros;unfold Im;(try simp only[aY,Lm,Pm,Ln,Z0,bC,vT,Pn,Jy,Pp,Po,Zss,Pq,KD,bD,VK,Zsw,Hh,XI,Zo.c_def,Wy,Uq,Zs.c_def,Zt.c_def,vP,Aq,Zsk,Zsr,Bc,A8]);(try simp only[Bd]);(try simp only[Be,gS,kk]))
 all_goals(repeat' first|refine Bp λ_=>?_|refine Bn λ_ _=>?_|refine Bm λ_=>?_|refine AH ?_ ?_|exact False.elim)
 all_goals(intro h;first|refine XH ZFN rfl ?_|rw[Zl vQ.eq_1]|refine run ZAl rfl ?_|refine run ZAm rfl ?_|rw[Zl Zsf.eq_1]|refine run ZFP rfl ?_|rw[Zl Zsi.eq_1]|refine run ZFQ rfl ?_|rw[Zl Zsm.eq_1]|refine run ZFR rfl ?_|rw[Zl Zsp.eq_1]|refine run ZFS rfl ?_|rw[Zl Zsu.eq_1]|refine run ZFT rfl ?_)
 all_goals (refine Ye ?_ h;clear h;simp +decide[*,kk,tI,Av,Z4A,Z4B,Z4C,Z4D,vS,Zsc,Zsd,Zsg,Z4F,Zsj,Z4G,Zsn,Z4H,Zsq,Z4I,Zsv,Z4J])
abbrev Xp:=uq ZKd
def ZKe:iM aZ λx r=>BR (Xk x 5) (λu1 u2=>qG ([2,2,2,3,1]) u2 (λu3=>qH ([(⟨#[114]⟩:V6),(⟨#[115]⟩:V6),(⟨#[116]⟩:V6),(⟨#[117]⟩:V6),(⟨#[118]⟩:V6)]) u2 (λu4=>BR (Xk u1 u3) (λu5 u6=>r (Lm u5 (⟨#[]⟩:V6) 0 u4 u6 u3 0))))):=by
 refine qu ?_;intro x r;unfold Im;intro h;unfold aZ
 try simp only[Aq]
 refine XH ZFO rfl ?_;simp only[Xk,Zo.c_def,Bc,A8,Aq]at h
 try simp only[Bd]at h
 try simp only[Be,gS,kk]at h
 rcases h with⟨v,v1,q1,q2,e2,⟨g3,q3⟩,e3,⟨g4,q4⟩,v2,v3,q5,h⟩
 all_goals try (have Mr:=Mq ic g3 q3;simp only[Yz,Dr,A8]at Mr;obtain⟨Aca,Mr⟩:=Mr;have Acb:v1<5:=by(have y:=g3;simp at y;omega))
 all_goals try (have Cc:=Mq sc g4 q4;simp only[Yz,Dr,A8]at Cc;obtain⟨jW,Cc⟩:=Cc;have jX:v1<5:=by(have y:=g4;simp at y;omega))
 all_goals (refine Ye ?_ h;clear h;simp +decide[*,kk,tI,Av,Z4E,Lm,Aq])
abbrev ZKf:=uq ZKe
def ZKg:((((iM bE λName Arity cols i r=>if i<(cols.length:Int)then qG cols i (λu1=>qB (Z0 u1 0 (w (Arity-1))) (qL (r (bE Name Arity cols (w (i+1)))) λk1=>if 0<i then 0<=(w (i-1))/\∃u3,cols[(w (i-1)).toNat]?=some u3/\if u1<=u3 then qb false r else k1 else k1) (qb false r))else qV (Hh Name Arity) (λu1=>qb u1 r))/\
 (iM vU λName Arity a r=>r (bE Name Arity a 0)))/\
 ((iM Zip λl x i r=>if i<(l.length:Int)then qG l i (λu1=>if u1=x then qb true r else r (Zip l x (w (i+1))))else qb false r)/\
 (iM Vw λa a1 r=>r (Zip a a1 0))))/\
 (((iM bF λt cols i r=>if i<(cols.length:Int)then qG cols i (λu1=>qB (Z0 u1 0 (w (t.Arity-1))) (qL (r (bF t cols (w (i+1)))) λk1=>if 0<i then 0<=(w (i-1))/\∃u3,cols[(w (i-1)).toNat]?=some u3/\if u1<=u3 then qb false r else k1 else k1) (qb false r))else qV (Jy t) (λu1=>qb u1 r))/\
 (iM Pr λa a1 r=>r (bF a a1 0)))/\
 ((iM Ps λa a1 r=>qL (qV (Vw a1.From a1.To) (λu6=>qb (!u6) r)) λk1=>qL (qb false r) λk2=>(∃u1 u2 u3,VK a a1.Name=some (.tup [.agg [.t (.str u1),I u2,.t .nil],Bo u3],[])/\if u3=true then qB (vU u1 u2 a1.From) (qB (Z0 a1.To 0 (w (u2-1))) k1 k2) k2 else k2)\/(∃(u1:WA),∃u2,∃u3,VK a a1.Name=some (.tup [.agg [.t (.str u2),I u3,.own 0],Bo true],[.arr 32 1 true (u1.map AF)])/\qB (Pr (⟨u2,u3,u1⟩:Zs) a1.From) (qB (Z0 a1.To 0 (w (u3-1))) k1 k2) k2))/\
 (iM bG λout row cols i r=>if i<(cols.length:Int)then qG cols i (λu1=>qB (Z0 u1 0 (w ((row.length:Int)-1))) (qG row u1 (λu3=>qN out (r (bG (out++[u3]) row cols (w (i+1)))))) (Pd ([]:WL) r))else aI out r))))/\
 ((((iM Hi λa a1 r=>r (bG ([]:WL) a a1 0))/\
 (iM ZsD λd f Name Arity k r=>if k<0 then qB (Ps d f) False (AZ ([]:WL) r)else AZ ([]:WL) r))/\
 ((iM Pt λd f Name Arity x k r=>if k<(x.length:Int)then qB (Ps d f) (qG x k (λu2=>Kc (Hi u2 f.From) (λu3 u4=>r (Hj d f Name Arity x u3 k 0)))) (AZ ([]:WL) r)else AZ ([]:WL) r)/\
 (iM Hj λd f Name Arity x y k i r=>if i<k then qG x i (λu1=>Kc (Hi u1 f.From) (λu2 u3=>qI (Uq u2 y) (λu4=>qL (r (Hj d f Name Arity x y k (w (i+1)))) λk1=>if u4=0 then qG u1 f.To (λu5=>qG x k (λu6=>qH u6 f.To (λu7=>if u5=u7 then k1 else AZ ([i,k]) r)))else k1)))else r (Pt d f Name Arity x (w (k+1))))))/\
 (((iM vW λa a1 r=>(∃u1 u2 u3,VK a a1.Name=some (.tup [.agg [.t (.str u1),I u2,.t .nil],Bo u3],[])/\r (ZsD a a1 u1 u2 0))\/(∃(u1:WA),∃u2,∃u3,VK a a1.Name=some (.tup [.agg [.t (.str u2),I u3,.own 0],Bo true],[.arr 32 1 true (u1.map AF)])/\r (Pt a a1 u2 u3 u1 0)))/\
 (iM Pu λa a1 r=>qB (Ps a a1) (AO (vW a a1) (λu2=>qb (decide ((u2.length:Int)=0)) r)) (qb false r)))/\
 ((iM Hk λx x1 r=>BR (Xk x (x1.length:Int)) (λu1 u2=>qG x1 u2 (λu3=>r (some (.t (.str u3),[.box (u1.c.map .t),.arr 9 1 true (x1.map sc)])))))/\
 (iM Pw λa a1 r=>qL (qb false r) λk1=>qL (Z0 a1.IntoColumn 0) λk2=>qL (Z0 a1.Column 0) λk3=>qL (VK a a1.Into) λk4=>(∃u1 u2 u3,VK a a1.Name=some (.tup [.agg [.t (.str u1),I u2,.t .nil],Bo u3],[])/\((∃u4 u5 u6,k4=some (.tup [.agg [.t (.str u4),I u5,.t .nil],Bo u6],[])/\if u3=true then if u6=true then qB (k3 (w (u2-1))) (qV (k2 (w (u5-1))) (λu8=>qb u8 r)) k1 else k1 else k1)\/(∃(u4:WA),∃u5,∃u6,k4=some (.tup [.agg [.t (.str u5),I u6,.own 0],Bo true],[.arr 32 1 true (u4.map AF)])/\if u3=true then qB (k3 (w (u2-1))) (qV (k2 (w (u6-1))) (λu8=>qb u8 r)) k1 else k1)))\/(∃(u1:WA),∃u2,∃u3,VK a a1.Name=some (.tup [.agg [.t (.str u2),I u3,.own 0],Bo true],[.arr 32 1 true (u1.map AF)])/\((∃u4 u5 u6,k4=some (.tup [.agg [.t (.str u4),I u5,.t .nil],Bo u6],[])/\if u6=true then qB (k3 (w (u3-1))) (qV (k2 (w (u5-1))) (λu8=>qb u8 r)) k1 else k1)\/(∃(u4:WA),∃u5,∃u6,k4=some (.tup [.agg [.t (.str u5),I u6,.own 0],Bo true],[.arr 32 1 true (u4.map AF)])/\qB (k3 (w (u3-1))) (qV (k2 (w (u6-1))) (λu8=>qb u8 r)) k1))))))):=by
 refine qu ?_
 and_intros
 all_goals(intros;unfold Im;(try simp only[bE,vU,Zip,Vw,bF,Pr,Ps,bG,Hi,ZsD,Pt,Hj,vW,Pu,Hk,Pw,Z0,Hh,Jy,Zs.c_def,VK,Zt.c_def,ZD.c_def,Uq,Xk,Zo.c_def,Zs0,Aq,ZsC,ZsB,Bc,A8]);(try simp only[Bd]);(try simp only[Be,gS,kk]))
 all_goals(repeat' first|refine Bp λ_=>?_|refine Bn λ_ _=>?_|refine Bm λ_=>?_|refine AH ?_ ?_|exact False.elim)
 all_goals(intro h;first|rw[Zl Zsy.eq_1]|refine run ZFU rfl ?_|rw[Zl Zs2.eq_1]|refine run ZAn rfl ?_|refine run ZFV rfl ?_|rw[Zl Zs6.eq_1]|refine run ZFW rfl ?_|rw[Zl vV.eq_1]|rw[Zl Zs8.eq_1]|refine run ZFX rfl ?_|refine run ZFY rfl ?_|refine XH ZAo rfl ?_|refine run ZGa rfl ?_)
 all_goals (refine Ye ?_ h;clear h;simp +decide[*,kk,tI,Av,Zsz,Z4K,Zs3,Zs4,Z4L,Zs7,Z4M,ZsA,Zs9,Z4N,Z4O,ZsE,Z4T])
abbrev WM:=uq ZKg
def jY(a b:V6)(l:List UInt8)(h:b.data.toList=l):(a.toList=l)↔a=b:=by
 rw[<-ZrM,ByteArray.toList_eq b,h]
def ZKh:iM Pv λx r=>qL (⟨#[118]⟩:V6) λk2=>qL ([(⟨#[114]⟩:V6),(⟨#[115]⟩:V6),(⟨#[116]⟩:V6),(⟨#[117]⟩:V6),k2]) λk1=>∃(u1:Zo),∃(u2:List V6),∃u3,Hk x k1=some (.t (.str u3),[.box (u1.c.map .t),.arr 9 1 true (u2.map sc)])/\BR (Xk u1 2) (λu4 u5=>∃(u6:Zo),∃(u7:List V6),∃u8,Hk u4 k1=some (.t (.str u8),[.box (u6.c.map .t),.arr 9 1 true (u7.map sc)])/\BR (Xk u6 2) (λu9 u10=>qL (Wy u9 14) λk3=>qL ([(-1),3]) λk4=>if u3=k2 then if u8=k2 then Kd k3 (λu11 u12=>if u12=true then Vo (XI u11 k4) (λu13 u14 u15=>r (some (.agg [.t (.str u3),I u15,.t (.str u8),I 0],[.box (u13.c.map .t)])))else r (some (.agg [.t (.str u3),I 0,.t (.str u8),I 0],[.box (u11.c.map .t)])))else Kd k3 (λu11 u12=>if u12=true then Vo (XI u11 k4) (λu13 u14 u15=>r (some (.agg [.t (.str u3),I u15,.t (.str u8),I u10],[.box (u13.c.map .t)])))else r (some (.agg [.t (.str u3),I 0,.t (.str u8),I u10],[.box (u11.c.map .t)])))else if u8=k2 then Kd k3 (λu11 u12=>if u12=true then Vo (XI u11 k4) (λu13 u14 u15=>r (some (.agg [.t (.str u3),I u15,.t (.str u8),I 0],[.box (u13.c.map .t)])))else r (some (.agg [.t (.str u3),I u5,.t (.str u8),I 0],[.box (u11.c.map .t)])))else Kd k3 (λu11 u12=>if u12=true then Vo (XI u11 k4) (λu13 u14 u15=>r (some (.agg [.t (.str u3),I u15,.t (.str u8),I u10],[.box (u13.c.map .t)])))else r (some (.agg [.t (.str u3),I u5,.t (.str u8),I u10],[.box (u11.c.map .t)]))))):=by
 refine qu ?_;intro x r;unfold Im;intro h;unfold Pv
 try simp only[Aq]
 refine XH ZFZ rfl ?_;simp only[Hk,Xk,Wy,XI,Zo.c_def,Bc,A8,Aq]at h
 try simp only[Bd]at h
 try simp only[Be,gS,kk]at h
 rcases h with⟨v,v1,v2,q1,v3,v4,q2,v5,v6,v7,q3,v8,v9,q4,(⟨q5,(⟨q6,v10,v11,q7,(⟨q8,v12,v13,v14,q9,h⟩|⟨q8,h⟩)⟩|⟨q6,v15,v16,q10,(⟨q11,v17,v18,v19,q12,h⟩|⟨q11,h⟩)⟩)⟩|⟨q5,(⟨q13,v20,v21,Bv,(⟨BN,v22,v23,v24,q16,h⟩|⟨BN,h⟩)⟩|⟨q13,v25,v26,EP,(⟨Cq,v27,v28,v29,Dz,h⟩|⟨Cq,h⟩)⟩)⟩)⟩
 all_goals (have s1:=jY v2 ⟨#[118]⟩ [118] rfl;have s2:=jY v7 ⟨#[118]⟩ [118] rfl)
 all_goals (refine Ye ?_ h;clear h;simp +decide[*,kk,tI,Av,Z4S,Z4P,Z4Q,Z4R,Aq])
abbrev ZKi:=uq ZKh
