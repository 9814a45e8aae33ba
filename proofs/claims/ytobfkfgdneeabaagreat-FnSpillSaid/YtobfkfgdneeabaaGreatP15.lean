/-
  Parts of the proofs for this seat: G1 G2 G3.
-/
import Derived.Test.YtobfkfgdneeabaaGreatP13
import Derived.Test.YtobfkfgdneeabaaGreatP14
set_option linter.all false
set_option maxRecDepth 100000
set_option maxHeartbeats 4000000
namespace Go.Proofs.YtobfkfgdneeabaaGreat
open Go.AM
def ZMX:((((iM Mr λa r=>qb (decide (1048576<(a.length:Int))) r)/\
 (iM gM λcode h1 i r=>if i<(code.length:Int)then if i<4000 then qG code i (λu1=>r (gM code (Ai (w ((w ((w (h1*131))+(w u1)))+7)) 1073741823) (w (i+1))))else z8 code h1 r else z8 code h1 r))/\
 ((iM gL λa r=>r (gM a (w (10101+(a.length:Int))) 0))/\
 (iM H4 λx r=>qL (w ((w (x.h*6364136223846793005))+1442695040888963407)) λk1=>qL (Ai (Gg (As k1 33) (As k1 45)) 255) λk2=>if x.i<(x.b.length:Int)then qG x.b x.i (λu1=>r (some (I (Ai (w (k2+(w u1))) 255),[.box [L 1 (x.b.map (kc .u8)),I (w (x.i+1)),I k1]])))else r (some (I k2,[.box [L 1 (x.b.map (kc .u8)),I x.i,I k1]])))))/\
 (((iM ZR λx a r=>if a<=0 then r (some (I 0,[.box (x.c.map .t)]))else if a<=256 then BW (H4 x) (λu1 u2=>¬a=0/\R5 (Int.tmod u2 a) u1 r)else BW (H4 x) (λu1 u2=>BW (H4 u1) (λu3 u4=>BW (H4 u3) (λu5 u6=>BW (H4 u5) (λu7 u8=>¬a=0/\R5 (Int.tmod (w ((w ((w ((w (u2*16777216))+(w (u4*65536))))+(w (u6*256))))+u8)) a) u7 r)))))/\
 (iM Xo λx a r=>BW (ZR x a) (λu1 u2=>r (some (Bo (decide (u2=0)),[.box (u1.c.map .t)])))))/\
 ((iM ZsW λr=>qL ([]:List Z4) λk1=>r (some (.agg [I 1,I 1,I 0,I 0,I 0,.own 0,I 2,I 3,I 0,I 0,I 0,.own 1,I 4,I 2,I 1,I 1,I 0,.own 2,I 1,I 1,I 1,I 1,I 0,.own 3,I 1,I 0,I 0,I 1,I 1,.own 4],[.arr 198 2 true (k1.map Z4.c),.arr 198 2 true (([(⟨17,20⟩:Z4)]).map Z4.c),.arr 198 2 true (k1.map Z4.c),.arr 198 2 true (k1.map Z4.c),.arr 198 2 true (k1.map Z4.c)])))/\
 ((iM Wu λx x1 r=>BW (ZR x (x1.length:Int)) (λu1 u2=>qG x1 u2 (λu3=>r (some (I u3,[.box (u1.c.map .t),.arr 3 1 true (x1.map ic)])))))/\
 (iM H5 λx r=>BW (ZR x 5) (λu1 u2=>BW (ZR u1 4) (λu3 u4=>BW (ZR u3 4) (λu5 u6=>BW (ZR u5 3) (λu7 u8=>Uj (Xo u7 3) (λu9 u10=>qL (w (1+u2)) λk1=>if u10=true then BW (ZR u9 3) (λu11 u12=>Uj (Xo u11 3) (λu13 u14=>if u14=true then Kd (Wu u13 ([1,5,17,32])) (λu15 u16 CT=>BW (ZR u15 20) (λDh FA=>r (some (.agg [I k1,I u4,I u6,I u8,I u12,.own 1],[.box (Dh.c.map .t),.arr 198 2 true (([(⟨CT,FA⟩:Z4)]).map Z4.c)]))))else r (some (.agg [I k1,I u4,I u6,I u8,I u12,.own 1],[.box (u13.c.map .t),.arr 198 2 true (([]:List Z4).map Z4.c)]))))else Uj (Xo u9 3) (λu11 u12=>if u12=true then Kd (Wu u11 ([1,5,17,32])) (λu13 u14 u15=>BW (ZR u13 20) (λu16 CT=>Znj k1 u4 u6 u8 u16 ([(⟨u15,CT⟩:Z4)]) r))else Znj k1 u4 u6 u8 u11 ([]:List Z4) r)))))))))))/\
 ((((iM gN λx r=>Uj (Xo x 3) (λu1 u2=>if u2=true then ∃(u3:List Z4),∃(u4:List Z4),∃(u5:List Z4),∃(u6:List Z4),∃(u7:List Z4),∃u8,∃u9,∃u10,∃u11,∃u12,∃u13,∃u14,∃u15,∃u16,∃CT,∃Dh,∃FA,∃u20,∃u21,∃u22,∃u23,∃u24,∃u25,∃u26,∃u27,∃u28,∃u29,∃u30,∃u31,∃u32,ZsW=some (.agg [I u8,I u9,I u10,I u11,I u12,.own 0,I u13,I u14,I u15,I u16,I CT,.own 1,I Dh,I FA,I u20,I u21,I u22,.own 2,I u23,I u24,I u25,I u26,I u27,.own 3,I u28,I u29,I u30,I u31,I u32,.own 4],[.arr 198 2 true (u3.map Z4.c),.arr 198 2 true (u4.map Z4.c),.arr 198 2 true (u5.map Z4.c),.arr 198 2 true (u6.map Z4.c),.arr 198 2 true (u7.map Z4.c)])/\r (some (.agg [I u8,I u9,I u10,I u11,I u12,L 2 (u3.map Z4.c),I u13,I u14,I u15,I u16,I CT,L 2 (u4.map Z4.c),I Dh,I FA,I u20,I u21,I u22,L 2 (u5.map Z4.c),I u23,I u24,I u25,I u26,I u27,L 2 (u6.map Z4.c),I u28,I u29,I u30,I u31,I u32,L 2 (u7.map Z4.c)],[.box (u1.c.map .t)]))else Mb (H5 u1) (λu3 u4 u5 u6 u7 u8 u9=>Mb (H5 u3) (λu10 u11 u12 u13 u14 u15 u16=>Mb (H5 u10) (λCT Dh FA u20 u21 u22 u23=>Mb (H5 CT) (λu24 u25 u26 u27 u28 u29 u30=>Mb (H5 u24) (λu31 u32 u33 u34 u35 u36 u37=>r (some (.agg [I u5,I u6,I u7,I u8,I u9,L 2 (u4.map Z4.c),I u12,I u13,I u14,I u15,I u16,L 2 (u11.map Z4.c),I FA,I u20,I u21,I u22,I u23,L 2 (Dh.map Z4.c),I u26,I u27,I u28,I u29,I u30,L 2 (u25.map Z4.c),I u33,I u34,I u35,I u36,I u37,L 2 (u32.map Z4.c)],[.box (u31.c.map .t)])))))))))/\
 (iM Ztb λout row put i r=>if i<0 then False else if put=true then Q6 out r else qM row (qN out (Q6 (out++[row]) r))))/\
 ((iM KE λa r=>r (Ztb ([]:XS) a false 0))/\
 (iM gO λa b i r=>if i<(a.length:Int)then if i<(b.length:Int)then qG a i (λu1=>qH b i (λu2=>if u1<u2 then qi (-1) r else if u2<u1 then qi 1 r else r (gO a b (w (i+1)))))else r (gP a b i false)else r (gP a b i false))))/\
 (((iM gP λa b i x r=>if(a.length:Int)<(b.length:Int)then qi (-1) r else if(b.length:Int)<(a.length:Int)then qi 1 r else qi 0 r)/\
 (iM Vy λa a1 r=>r (gO a a1 0)))/\
 ((iM Qg λout rows row put i r=>if i<(rows.length:Int)then qG rows i (λu1=>qI (Vy u1 row) (λu2=>qL (Qg (out++[u1]) rows row) λk2=>qL (qM u1 (qN out (r (k2 true (w (i+1)))))) λk1=>if u2=0 then if 0<u2 then k1 else k1 else if 0<u2 then if put=true then k1 else qM row (qN out (qM u1 (out.length+1+1<=68719476736/\r (Qg ((out++[row])++[u1]) rows row true (w (i+1))))))else qM u1 (qN out (r (k2 put (w (i+1)))))))else if put=true then Q6 out r else qM row (qN out (Q6 (out++[row]) r)))/\
 ((iM Kh λa a1 r=>r (Qg ([]:XS) a a1 false 0))/\
 (iM ZnC λc Name Arity Al Ah arity val n r=>if 0<n then r (Sl c Name Arity Al Ah ([]:V2) arity val n 0)else r (some (.agg [.t (.str Al),I Ah,.own 1],[.box (c.c.map .t),.arr 38 1 true (([]:XS).map Ae)]))))))):=by
 refine qu ?_
 and_intros
 all_goals(intros;unfold Im;(try simp only[Mr,gM,gL,H4,ZR,Xo,ZsW,Wu,H5,gN,Ztb,KE,gO,Vy,Qg,Kh,ZnC,Zo.c_def,gP,Sl,Bm,Zta,A7,AY]);(try simp only[AZ]);(try simp only[A0,gS,kk]))
 all_goals(repeat' first|refine Bs λ_=>?_|refine Br λ_ _=>?_|refine Bq λ_=>?_|refine AL ?_ ?_|exact False.elim)
 all_goals(intro h;first|refine run ZI5 rfl ?_|rw[Zk ZsU.eq_1]|refine run ZI6 rfl ?_|refine Xx ZI7 rfl ?_|refine Xx ZI8 rfl ?_|refine Xx ZI9 rfl ?_|refine run ZIA rfl ?_|refine Xx ZIB rfl ?_|refine Xx ZIC rfl ?_|refine Xx ZID rfl ?_|rw[Zk ZsY.eq_1]|refine run ZIE rfl ?_|rw[Zk Ztd.eq_1]|rw[HW Zn8.eq_1]|refine run ZIF rfl ?_|rw[Zk Ms.eq_1])
 all_goals (refine Yd ?_ h;clear h;simp +decide[*,kk,tI,Ax,Z6k,ZsV,Z6l,Z6o,Z6n,Z6p,Z6q,Z6r,Z6s,Z6v,Z6t,Z6u,Z6w,Z6z,ZsZ,Z60,Z61,Z6x,Z6y,Mt])
abbrev Xl:=uq ZMX
def ZMY:((iM Sl λc Name Arity Al Ah row arity val n i r=>if i<arity then ∃(u1:Zo),∃u2,ZR c val=some (I u2,[.box (u1.c.map .t)])/\qN row (r (Sl u1 Name Arity Al Ah (row++[u2]) arity val n (w (i+1))))else Vb (KE row) (λu1=>r (Sm c Name Arity Al Ah u1 arity val (w (n-1)))))/\
 (iM Sm λc Name Arity Al Ah x arity val n r=>if 0<n then r (gQ c Name Arity Al Ah x ([]:V2) arity val n 0)else r (some (.agg [.t (.str Al),I Ah,.own 1],[.box (c.c.map .t),.arr 38 1 true (x.map Ae)]))))/\
 ((iM gQ λc Name Arity Al Ah x row arity val n i r=>if i<arity then ∃(u1:Zo),∃u2,ZR c val=some (I u2,[.box (u1.c.map .t)])/\qN row (r (gQ u1 Name Arity Al Ah x (row++[u2]) arity val n (w (i+1))))else Vb (Kh x row) (λu1=>r (Sm c Name Arity Al Ah u1 arity val (w (n-1)))))/\
 (iM Q8 λx a a1 a2 a3 r=>BW (ZR x (w (a2+1))) (λu1 u2=>r (ZnC u1 (⟨#[]⟩:KI) 0 a a1 a1 a3 u2)))):=by
 refine qu ?_
 and_intros
 all_goals(intros;unfold Im;(try simp only[Sl,Sm,gQ,Q8,ZR,KE,Zo.c_def,Kh,ZnC,Bm,A7,AY]);(try simp only[AZ]);(try simp only[A0,gS,kk]))
 all_goals(repeat' first|refine Bs λ_=>?_|refine Br λ_ _=>?_|refine Bq λ_=>?_|refine AL ?_ ?_|exact False.elim)
 all_goals(intro h;first|rw[Zk Zn9.eq_1]|rw[Zk Ms.eq_1]|refine Xx ZIG rfl ?_)
 all_goals (refine Yd ?_ h;clear h;simp +decide[*,kk,tI,Ax,ZnB,ZnA,Mt,Z62])
abbrev IM:=uq ZMY
def Zq3(a b:KI)(l:List UInt8)(h:b.data.toList=l):(a.toList=l)↔a=b:=by
 rw[<-ZsG,ByteArray.toList_eq b,h]
def ZMZ:iM ZnD λc x val most x1 x2 r=>if x2<x1 then qG x x2 (λu1=>qL (∃(u2:Zo),∃(u3:XS),∃u4,∃u5,Q8 c u1 1 most val=some (.agg [.t (.str u4),I u5,.own 1],[.box (u2.c.map .t),.arr 38 1 true (u3.map Ae)])/\r (Ki u2 ([(⟨u4,u5,u3⟩:Zl)]) x val most x1 (w (x2+1)))) λk1=>qL (⟨#[118]⟩:KI) λk2=>if u1=(⟨#[117]⟩:KI)then if u1=k2 then k1 else ∃(u2:Zo),∃(u3:XS),∃u4,∃u5,Q8 c u1 3 most val=some (.agg [.t (.str u4),I u5,.own 1],[.box (u2.c.map .t),.arr 38 1 true (u3.map Ae)])/\r (Ki u2 ([(⟨u4,u5,u3⟩:Zl)]) x val most x1 (w (x2+1)))else if u1=k2 then k1 else ∃(u2:Zo),∃(u3:XS),∃u4,∃u5,Q8 c u1 2 most val=some (.agg [.t (.str u4),I u5,.own 1],[.box (u2.c.map .t),.arr 38 1 true (u3.map Ae)])/\r (Ki u2 ([(⟨u4,u5,u3⟩:Zl)]) x val most x1 (w (x2+1))))else ∃(u1:Zo),∃u2,Xo c 8=some (Bo u2,[.box (u1.c.map .t)])/\if u2=true then ∃(u3:Zo),∃u4,ZR u1 5=some (I u4,[.box (u3.c.map .t)])/\False else r (some (.agg [L 3 (([]:List Zl).map Zl.c)],[.box (u1.c.map .t)])):=by
 refine qu ?_;intro c x val most x1 x2 r;unfold Im;intro h;unfold ZnD;(try simp only[Bm]);rw[Zk gT.eq_1];simp only[Q8,Xo,ZR,Zo.c_def,A7,AY,Bm]at h
 try simp only[AZ]at h
 try simp only[A0,gS,kk]at h
 rcases h with⟨q1,q2,e1,⟨g3,q3⟩,(⟨q4,(⟨q5,v,v1,v2,v3,q6,h⟩|⟨q5,v4,v5,v6,v7,q7,h⟩)⟩|⟨q4,(⟨q8,v8,v9,v10,v11,q9,h⟩|⟨q8,v12,v13,v14,v15,q10,h⟩)⟩)⟩|⟨q1,v16,v17,q11,(⟨q12,v18,v19,q13,⟨⟩⟩|⟨q12,h⟩)⟩
 all_goals try (have s1:=Zq3 e1 ⟨#[117]⟩ [117] rfl;have s2:=Zq3 e1 ⟨#[118]⟩ [118] rfl)
 all_goals try exact absurd ((of_eq_true q4).symm.trans (of_eq_true q5)) Om
 all_goals (refine Yd ?_ h;clear h;simp +decide[*,kk,tI,Ax,Ki,Zte,Ztf,Ztg,gU,Bm])
abbrev ZNa:=uq ZMZ
def ZNb:iM Ki λc x x1 val most x2 x3 r=>if x3<x2 then qG x1 x3 (λu1=>qL (∃(u2:Zo),∃(u3:XS),∃u4,∃u5,Q8 c u1 1 most val=some (.agg [.t (.str u4),I u5,.own 1],[.box (u2.c.map .t),.arr 38 1 true (u3.map Ae)])/\qN x (r (Ki u2 (x++[(⟨u4,u5,u3⟩:Zl)]) x1 val most x2 (w (x3+1))))) λk1=>qL (⟨#[118]⟩:KI) λk2=>if u1=(⟨#[117]⟩:KI)then if u1=k2 then k1 else ∃(u2:Zo),∃(u3:XS),∃u4,∃u5,Q8 c u1 3 most val=some (.agg [.t (.str u4),I u5,.own 1],[.box (u2.c.map .t),.arr 38 1 true (u3.map Ae)])/\qN x (r (Ki u2 (x++[(⟨u4,u5,u3⟩:Zl)]) x1 val most x2 (w (x3+1))))else if u1=k2 then k1 else ∃(u2:Zo),∃(u3:XS),∃u4,∃u5,Q8 c u1 2 most val=some (.agg [.t (.str u4),I u5,.own 1],[.box (u2.c.map .t),.arr 38 1 true (u3.map Ae)])/\qN x (r (Ki u2 (x++[(⟨u4,u5,u3⟩:Zl)]) x1 val most x2 (w (x3+1)))))else ∃(u1:Zo),∃u2,Xo c 8=some (Bo u2,[.box (u1.c.map .t)])/\if u2=true then ∃(u3:Zo),∃u4,ZR u1 5=some (I u4,[.box (u3.c.map .t)])/\qG x u4 (λu5=>r (some (.agg [L 3 ((x.set u4.toNat (⟨u5.Name,u5.Arity,[]⟩:Zl)).map Zl.c)],[.box (u3.c.map .t)])))else r (some (.agg [L 3 (x.map Zl.c)],[.box (u1.c.map .t)])):=by
 refine qu ?_;intro c x x1 val most x2 x3 r;unfold Im;intro h;unfold Ki;(try simp only[Bm]);rw[Zk gT.eq_1];simp only[Q8,Xo,ZR,Zo.c_def,A7,AY,Bm]at h
 try simp only[AZ]at h
 try simp only[A0,gS,kk]at h
 rcases h with⟨q1,q2,e1,⟨g3,q3⟩,(⟨q4,(⟨q5,v,v1,v2,v3,q6,q7,h⟩|⟨q5,v4,v5,v6,v7,q8,q9,h⟩)⟩|⟨q4,(⟨q10,v8,v9,v10,v11,q11,q12,h⟩|⟨q10,v12,v13,v14,v15,q13,BK,h⟩)⟩)⟩|⟨q1,v16,v17,B9,(⟨q16,v18,v19,CU,Ca,e8,⟨g19,CV⟩,h⟩|⟨q16,h⟩)⟩
 all_goals try (have s1:=Zq3 e1 ⟨#[117]⟩ [117] rfl;have s2:=Zq3 e1 ⟨#[118]⟩ [118] rfl)
 all_goals try exact absurd ((of_eq_true q4).symm.trans (of_eq_true q5)) Om
 all_goals (refine Yd ?_ h;clear h;simp +decide[*,kk,tI,Ax,Ki,Zte,Ztf,Ztg,gU,Bm])
abbrev o8:=uq ZNb
def ZNc:((((iM gV λx r=>Kd (Wu x ([2,3,4,6])) (λu1 u2 u3=>Kd (Wu u1 ([2,4,6,8])) (λu4 u5 u6=>qL ([(⟨#[114]⟩:KI),(⟨#[115]⟩:KI),(⟨#[116]⟩:KI),(⟨#[117]⟩:KI),(⟨#[118]⟩:KI)]) λk1=>r (ZnD u4 k1 u3 u6 (k1.length:Int) 0))))/\
 (iM Mu λc Name To Al Ec m i r=>if i<m then if i=Ec then r (Mu c Name To Al Ec m (w (i+1)))else ∃(u1:Zo),∃u2,Xo c 2=some (Bo u2,[.box (u1.c.map .t)])/\if u2=true then r (Sp u1 Name To Al Ec ([i]) m (w (i+1)))else r (Mu u1 Name To Al Ec m (w (i+1)))else ∃(u1:Zo),∃u2,Xo c 14=some (Bo u2,[.box (u1.c.map .t)])/\qL ([(-1),0,3,9223372036854775807]) λk1=>if u2=true then ∃(u3:Zo),∃(u4:V2),∃u5,Wu u1 ([(-1),3,0])=some (I u5,[.box (u3.c.map .t),.arr 3 1 true (u4.map ic)])/\∃(u6:Zo),∃u7,Xo u3 16=some (Bo u7,[.box (u6.c.map .t)])/\if u7=true then ∃(u8:Zo),∃(u9:V2),∃u10,Wu u6 k1=some (I u10,[.box (u8.c.map .t),.arr 3 1 true (u9.map ic)])/\r (some (.agg [.t (.str Al),L 1 (([u10]).map ic),I u5],[.box (u8.c.map .t)]))else r (some (.agg [.t (.str Al),L 1 (([]:V2).map ic),I u5],[.box (u6.c.map .t)]))else ∃(u3:Zo),∃u4,Xo u1 16=some (Bo u4,[.box (u3.c.map .t)])/\if u4=true then ∃(u5:Zo),∃(u6:V2),∃u7,Wu u3 k1=some (I u7,[.box (u5.c.map .t),.arr 3 1 true (u6.map ic)])/\r (some (.agg [.t (.str Al),L 1 (([u7]).map ic),I Ec],[.box (u5.c.map .t)]))else r (some (.agg [.t (.str Al),L 1 (([]:V2).map ic),I Ec],[.box (u3.c.map .t)]))))/\
 ((iM Sp λc Name To Al Ec x m i r=>if i<m then if i=Ec then r (Sp c Name To Al Ec x m (w (i+1)))else ∃(u1:Zo),∃u2,Xo c 2=some (Bo u2,[.box (u1.c.map .t)])/\qL (Sp u1 Name To Al Ec) λk2=>if u2=true then qN x (r (k2 (x++[i]) m (w (i+1))))else r (k2 x m (w (i+1)))else ∃(u1:Zo),∃u2,Xo c 14=some (Bo u2,[.box (u1.c.map .t)])/\qL ([(-1),0,3,9223372036854775807]) λk1=>if u2=true then ∃(u3:Zo),∃(u4:V2),∃u5,Wu u1 ([(-1),3,0])=some (I u5,[.box (u3.c.map .t),.arr 3 1 true (u4.map ic)])/\∃(u6:Zo),∃u7,Xo u3 16=some (Bo u7,[.box (u6.c.map .t)])/\if u7=true then ∃(u8:Zo),∃(u9:V2),∃u10,Wu u6 k1=some (I u10,[.box (u8.c.map .t),.arr 3 1 true (u9.map ic)])/\qN x (r (some (.agg [.t (.str Al),L 1 ((x++[u10]).map ic),I u5],[.box (u8.c.map .t)])))else r (some (.agg [.t (.str Al),L 1 (x.map ic),I u5],[.box (u6.c.map .t)]))else ∃(u3:Zo),∃u4,Xo u1 16=some (Bo u4,[.box (u3.c.map .t)])/\if u4=true then ∃(u5:Zo),∃(u6:V2),∃u7,Wu u3 k1=some (I u7,[.box (u5.c.map .t),.arr 3 1 true (u6.map ic)])/\qN x (r (some (.agg [.t (.str Al),L 1 ((x++[u7]).map ic),I Ec],[.box (u5.c.map .t)])))else r (some (.agg [.t (.str Al),L 1 (x.map ic),I Ec],[.box (u3.c.map .t)])))/\
 (iM Mv λa r=>if(a.size:Int)=1 then ∃u1,a[0]?=some u1/\if 97<=(u1.toNat:Int)then qb (decide ((u1.toNat:Int)<=122)) r else qb false r else qb false r)))/\
 (((iM Z0 λa a1 a2 r=>if a1<=a then qb (decide (a<=a2)) r else qb false r)/\
 (iM gX λrow n i r=>if i<(row.length:Int)then qG row i (λu1=>qB (Z0 u1 0 9) (r (gX row n (w (i+1)))) (qb false r))else qb (decide ((row.length:Int)=n)) r))/\
 ((iM Sq λa a1 r=>r (gX a a1 0))/\
 ((iM Sr λt i r=>if i<(t.Rows.length:Int)then qG t.Rows i (λu1=>qB (Sq u1 t.Arity) (if 0<i then 0<=(w (i-1))/\∃u3,t.Rows[(w (i-1)).toNat]?=some u3/\qI (Vy u3 u1) (λu4=>if 0<=u4 then qb false r else r (Sr t (w (i+1))))else r (Sr t (w (i+1)))) (qb false r))else qb true r)/\
 (iM Jw λa r=>qB (Mv a.Name) (qB (Z0 a.Arity 1 3) (if 8<(a.Rows.length:Int)then qb false r else r (Sr a 0)) (qb false r)) (qb false r))))))/\
 ((((iM St λd i r=>if i<(d.Tables.length:Int)then qG d.Tables i (λu1=>qB (Jw u1) (if 0<i then 0<=(w (i-1))/\∃u3,d.Tables[(w (i-1)).toNat]?=some u3/\if(Op.bytesLess u3.Name.toList u1.Name.toList)=true then r (St d (w (i+1)))else qb false r else r (St d (w (i+1)))) (qb false r))else qb (decide ((d.Tables.length:Int)<=6)) r)/\
 (iM Ss λa r=>r (St a 0)))/\
 ((iM Ztx λt Name Arity Al Ah i r=>if i<(t.Rows.length:Int)then qG t.Rows i (λu1=>qM u1 (r (Su t Name Arity Al Ah ([u1]) (w (i+1)))))else r (some (.agg [.t (.str Al),I Ah,.t .nil],[])))/\
 (iM Su λt Name Arity Al Ah x i r=>if i<(t.Rows.length:Int)then qG t.Rows i (λu1=>qM u1 (qN x (r (Su t Name Arity Al Ah (x++[u1]) (w (i+1))))))else r (some (.agg [.t (.str Al),I Ah,.own 0],[.arr 38 1 true (x.map Ae)])))))/\
 (((iM KF λa r=>r (Ztx a (⟨#[]⟩:KI) 0 a.Name a.Arity 0))/\
 (iM gY λd Name Arity name i r=>if i<(d.Tables.length:Int)then qB (Ss d) (qG d.Tables i (λu2=>if u2.Name=name then((∃u3 u4,KF u2=some (.agg [.t (.str u3),I u4,.t .nil],[])/\r (some (.tup [.agg [.t (.str u3),I u4,.t .nil],Bo true],[])))\/(∃(u3:XS),∃u4,∃u5,KF u2=some (.agg [.t (.str u4),I u5,.own 0],[.arr 38 1 true (u3.map Ae)])/\r (some (.tup [.agg [.t (.str u4),I u5,.own 0],Bo true],[.arr 38 1 true (u3.map Ae)]))))else r (gY d Name Arity name (w (i+1))))) (R6 r)else R6 r))/\
 ((iM WG λa a1 r=>r (gY a (⟨#[]⟩:KI) 0 a1 0))/\
 ((iM Zt1 λName Arity i r=>if i<0 then False else qb true r)/\
 (iM H6 λName Arity r=>qB (Mv Name) (qB (Z0 Arity 1 3) (r (Zt1 Name Arity 0)) (qb false r)) (qb false r)))))):=by
 refine qu ?_
 and_intros
 all_goals(intros;unfold Im;(try simp only[gV,Mu,Sp,Mv,Z0,gX,Sq,Sr,Jw,St,Ss,Ztx,Su,KF,gY,WG,Zt1,H6,Wu,Zo.c_def,Xo,Vy,Zl.c_def,Zj.c_def,ZnD,Bm,Ztp,Ztw,A7,AY]);(try simp only[AZ]);(try simp only[A0,gS,kk]))
 all_goals(repeat' first|refine Bs λ_=>?_|refine Br λ_ _=>?_|refine Bq λ_=>?_|refine AL ?_ ?_|exact False.elim)
 all_goals(intro h;first|refine Xx ZIH rfl ?_|rw[Zk ZnE.eq_1]|refine run ZCe rfl ?_|refine run ZCf rfl ?_|rw[Zk Ztk.eq_1]|refine run ZIJ rfl ?_|rw[Zk Ztn.eq_1]|refine run ZIK rfl ?_|rw[Zk Ztr.eq_1]|refine run ZIL rfl ?_|rw[Zk Ztu.eq_1]|refine run ZIM rfl ?_|rw[Zk Ztz.eq_1]|refine run ZIN rfl ?_)
 all_goals (refine Yd ?_ h;clear h;simp +decide[*,kk,tI,Ax,Z63,Z64,Z65,Z66,ZnF,Zth,Zti,Ztl,Z68,Zto,Z69,Zts,Z6A,Ztv,Z6B,Zt0,Z6C])
abbrev Xg:=uq ZNc
def ZNd:iM gW λx r=>BW (ZR x 5) (λu1 u2=>qG ([2,2,2,3,1]) u2 (λu3=>qH ([(⟨#[114]⟩:KI),(⟨#[115]⟩:KI),(⟨#[116]⟩:KI),(⟨#[117]⟩:KI),(⟨#[118]⟩:KI)]) u2 (λu4=>BW (ZR u1 u3) (λu5 u6=>r (Mu u5 (⟨#[]⟩:KI) 0 u4 u6 u3 0))))):=by
 refine qu ?_;intro x r;unfold Im;intro h;unfold gW;(try simp only[Bm]);refine Xx ZII rfl ?_;simp only[ZR,Zo.c_def,A7,AY,Bm]at h
 try simp only[AZ]at h
 try simp only[A0,gS,kk]at h
 rcases h with⟨v,v1,q1,q2,e2,⟨g3,q3⟩,e3,⟨g4,q4⟩,v2,v3,q5,h⟩
 all_goals try (have NR:=R0 ic g3 q3;simp only[Yv,De,AY]at NR;obtain⟨AbW,NR⟩:=NR;have AbX:v1<5:=by(have y:=g3;simp at y;omega))
 all_goals try (have Cs:=R0 sc g4 q4;simp only[Yv,De,AY]at Cs;obtain⟨o9,Cs⟩:=Cs;have pA:v1<5:=by(have y:=g4;simp at y;omega))
 all_goals (refine Yd ?_ h;clear h;simp +decide[*,kk,tI,Ax,Z67,Mu,Bm])
abbrev ZNe:=uq ZNd
def ZNf:((((iM gZ λName Arity cols i r=>if i<(cols.length:Int)then qG cols i (λu1=>qB (Z0 u1 0 (w (Arity-1))) (qL (r (gZ Name Arity cols (w (i+1)))) λk1=>if 0<i then 0<=(w (i-1))/\∃u3,cols[(w (i-1)).toNat]?=some u3/\if u1<=u3 then qb false r else k1 else k1) (qb false r))else qV (H6 Name Arity) (λu1=>qb u1 r))/\
 (iM ZnG λName Arity a r=>r (gZ Name Arity a 0)))/\
 ((iM hJ λl x i r=>if i<(l.length:Int)then qG l i (λu1=>if u1=x then qb true r else r (hJ l x (w (i+1))))else qb false r)/\
 (iM VW λa a1 r=>r (hJ a a1 0))))/\
 (((iM hU λt cols i r=>if i<(cols.length:Int)then qG cols i (λu1=>qB (Z0 u1 0 (w (t.Arity-1))) (qL (r (hU t cols (w (i+1)))) λk1=>if 0<i then 0<=(w (i-1))/\∃u3,cols[(w (i-1)).toNat]?=some u3/\if u1<=u3 then qb false r else k1 else k1) (qb false r))else qV (Jw t) (λu1=>qb u1 r))/\
 (iM Sv λa a1 r=>r (hU a a1 0)))/\
 ((iM Sw λa a1 r=>qL (qV (VW a1.From a1.To) (λu6=>qb (!u6) r)) λk1=>qL (qb false r) λk2=>(∃u1 u2 u3,WG a a1.Name=some (.tup [.agg [.t (.str u1),I u2,.t .nil],Bo u3],[])/\if u3=true then qB (ZnG u1 u2 a1.From) (qB (Z0 a1.To 0 (w (u2-1))) k1 k2) k2 else k2)\/(∃(u1:XS),∃u2,∃u3,WG a a1.Name=some (.tup [.agg [.t (.str u2),I u3,.own 0],Bo true],[.arr 38 1 true (u1.map Ae)])/\qB (Sv (⟨u2,u3,u1⟩:Zl) a1.From) (qB (Z0 a1.To 0 (w (u3-1))) k1 k2) k2))/\
 (iM iA λout row cols i r=>if i<(cols.length:Int)then qG cols i (λu1=>qB (Z0 u1 0 (w ((row.length:Int)-1))) (qG row u1 (λu3=>qN out (r (iA (out++[u3]) row cols (w (i+1)))))) (r (some (.tup [.own 0,Bo false],[.arr 3 1 true (([]:V2).map ic)]))))else r (some (.tup [.own 0,Bo true],[.arr 3 1 true (out.map ic)]))))))/\
 ((((iM H7 λa a1 r=>r (iA ([]:V2) a a1 0))/\
 (iM ZtI λd f Name Arity k r=>if k<0 then qB (Sw d f) False (Bn ([]:V2) r)else Bn ([]:V2) r))/\
 ((iM Sx λd f Name Arity x k r=>if k<(x.length:Int)then qB (Sw d f) (qG x k (λu2=>R7 (H7 u2 f.From) (λu3 u4=>r (H8 d f Name Arity x u3 k 0)))) (Bn ([]:V2) r)else Bn ([]:V2) r)/\
 (iM H8 λd f Name Arity x y k i r=>if i<k then qG x i (λu1=>R7 (H7 u1 f.From) (λu2 u3=>qI (Vy u2 y) (λu4=>qL (r (H8 d f Name Arity x y k (w (i+1)))) λk1=>if u4=0 then qG u1 f.To (λu5=>qG x k (λu6=>qH u6 f.To (λu7=>if u5=u7 then k1 else Bn ([i,k]) r)))else k1)))else r (Sx d f Name Arity x (w (k+1))))))/\
 (((iM ZnI λa a1 r=>(∃u1 u2 u3,WG a a1.Name=some (.tup [.agg [.t (.str u1),I u2,.t .nil],Bo u3],[])/\r (ZtI a a1 u1 u2 0))\/(∃(u1:XS),∃u2,∃u3,WG a a1.Name=some (.tup [.agg [.t (.str u2),I u3,.own 0],Bo true],[.arr 38 1 true (u1.map Ae)])/\r (Sx a a1 u2 u3 u1 0)))/\
 (iM Sy λa a1 r=>qB (Sw a a1) (AX (ZnI a a1) (λu2=>qb (decide ((u2.length:Int)=0)) r)) (qb false r)))/\
 ((iM H9 λx x1 r=>BW (ZR x (x1.length:Int)) (λu1 u2=>qG x1 u2 (λu3=>r (some (.t (.str u3),[.box (u1.c.map .t),.arr 9 1 true (x1.map sc)])))))/\
 (iM SA λa a1 r=>qL (qb false r) λk1=>qL (Z0 a1.IntoColumn 0) λk2=>qL (Z0 a1.Column 0) λk3=>qL (WG a a1.Into) λk4=>(∃u1 u2 u3,WG a a1.Name=some (.tup [.agg [.t (.str u1),I u2,.t .nil],Bo u3],[])/\((∃u4 u5 u6,k4=some (.tup [.agg [.t (.str u4),I u5,.t .nil],Bo u6],[])/\if u3=true then if u6=true then qB (k3 (w (u2-1))) (qV (k2 (w (u5-1))) (λu8=>qb u8 r)) k1 else k1 else k1)\/(∃(u4:XS),∃u5,∃u6,k4=some (.tup [.agg [.t (.str u5),I u6,.own 0],Bo true],[.arr 38 1 true (u4.map Ae)])/\if u3=true then qB (k3 (w (u2-1))) (qV (k2 (w (u6-1))) (λu8=>qb u8 r)) k1 else k1)))\/(∃(u1:XS),∃u2,∃u3,WG a a1.Name=some (.tup [.agg [.t (.str u2),I u3,.own 0],Bo true],[.arr 38 1 true (u1.map Ae)])/\((∃u4 u5 u6,k4=some (.tup [.agg [.t (.str u4),I u5,.t .nil],Bo u6],[])/\if u6=true then qB (k3 (w (u3-1))) (qV (k2 (w (u5-1))) (λu8=>qb u8 r)) k1 else k1)\/(∃(u4:XS),∃u5,∃u6,k4=some (.tup [.agg [.t (.str u5),I u6,.own 0],Bo true],[.arr 38 1 true (u4.map Ae)])/\qB (k3 (w (u3-1))) (qV (k2 (w (u6-1))) (λu8=>qb u8 r)) k1))))))):=by
 refine qu ?_
 and_intros
 all_goals(intros;unfold Im;(try simp only[gZ,ZnG,hJ,VW,hU,Sv,Sw,iA,H7,ZtI,Sx,H8,ZnI,Sy,H9,SA,Z0,H6,Jw,Zl.c_def,WG,Zj.c_def,Z9.c_def,Vy,ZR,Zo.c_def,Zt5,Bm,ZtH,ZtG,A7,AY]);(try simp only[AZ]);(try simp only[A0,gS,kk]))
 all_goals(repeat' first|refine Bs λ_=>?_|refine Br λ_ _=>?_|refine Bq λ_=>?_|refine AL ?_ ?_|exact False.elim)
 all_goals(intro h;first|rw[Zk Zt3.eq_1]|refine run ZIO rfl ?_|rw[Zk Zt7.eq_1]|refine run ZCg rfl ?_|refine run ZIP rfl ?_|rw[Zk ZtB.eq_1]|refine run ZIQ rfl ?_|rw[Zk ZnH.eq_1]|rw[Zk ZtD.eq_1]|refine run ZIR rfl ?_|refine run ZIS rfl ?_|refine Xx ZCh rfl ?_|refine run ZIU rfl ?_)
 all_goals (refine Yd ?_ h;clear h;simp +decide[*,kk,tI,Ax,Zt4,Z6D,Zt8,Zt9,Z6E,ZtC,Z6F,ZtF,ZtE,Z6G,Z6H,ZtJ,Z6M])
abbrev WM:=uq ZNf
def pB(a b:KI)(l:List UInt8)(h:b.data.toList=l):(a.toList=l)↔a=b:=by
 rw[<-ZsG,ByteArray.toList_eq b,h]
def ZNg:iM Sz λx r=>qL (⟨#[118]⟩:KI) λk2=>qL ([(⟨#[114]⟩:KI),(⟨#[115]⟩:KI),(⟨#[116]⟩:KI),(⟨#[117]⟩:KI),k2]) λk1=>∃(u1:Zo),∃(u2:List KI),∃u3,H9 x k1=some (.t (.str u3),[.box (u1.c.map .t),.arr 9 1 true (u2.map sc)])/\BW (ZR u1 2) (λu4 u5=>∃(u6:Zo),∃(u7:List KI),∃u8,H9 u4 k1=some (.t (.str u8),[.box (u6.c.map .t),.arr 9 1 true (u7.map sc)])/\BW (ZR u6 2) (λu9 u10=>qL (Xo u9 14) λk3=>qL ([(-1),3]) λk4=>if u3=k2 then if u8=k2 then Uj k3 (λu11 u12=>if u12=true then Kd (Wu u11 k4) (λu13 u14 u15=>r (some (.agg [.t (.str u3),I u15,.t (.str u8),I 0],[.box (u13.c.map .t)])))else r (some (.agg [.t (.str u3),I 0,.t (.str u8),I 0],[.box (u11.c.map .t)])))else Uj k3 (λu11 u12=>if u12=true then Kd (Wu u11 k4) (λu13 u14 u15=>r (some (.agg [.t (.str u3),I u15,.t (.str u8),I u10],[.box (u13.c.map .t)])))else r (some (.agg [.t (.str u3),I 0,.t (.str u8),I u10],[.box (u11.c.map .t)])))else if u8=k2 then Uj k3 (λu11 u12=>if u12=true then Kd (Wu u11 k4) (λu13 u14 u15=>r (some (.agg [.t (.str u3),I u15,.t (.str u8),I 0],[.box (u13.c.map .t)])))else r (some (.agg [.t (.str u3),I u5,.t (.str u8),I 0],[.box (u11.c.map .t)])))else Uj k3 (λu11 u12=>if u12=true then Kd (Wu u11 k4) (λu13 u14 u15=>r (some (.agg [.t (.str u3),I u15,.t (.str u8),I u10],[.box (u13.c.map .t)])))else r (some (.agg [.t (.str u3),I u5,.t (.str u8),I u10],[.box (u11.c.map .t)]))))):=by
 refine qu ?_;intro x r;unfold Im;intro h;unfold Sz;(try simp only[Bm]);refine Xx ZIT rfl ?_;simp only[H9,ZR,Xo,Wu,Zo.c_def,A7,AY,Bm]at h
 try simp only[AZ]at h
 try simp only[A0,gS,kk]at h
 rcases h with⟨v,v1,v2,q1,v3,v4,q2,v5,v6,v7,q3,v8,v9,q4,(⟨q5,(⟨q6,v10,v11,q7,(⟨q8,v12,v13,v14,q9,h⟩|⟨q8,h⟩)⟩|⟨q6,v15,v16,q10,(⟨q11,v17,v18,v19,q12,h⟩|⟨q11,h⟩)⟩)⟩|⟨q5,(⟨q13,v20,v21,BK,(⟨B9,v22,v23,v24,q16,h⟩|⟨B9,h⟩)⟩|⟨q13,v25,v26,CU,(⟨Ca,v27,v28,v29,CV,h⟩|⟨Ca,h⟩)⟩)⟩)⟩
 all_goals (have s1:=pB v2 ⟨#[118]⟩ [118] rfl;have s2:=pB v7 ⟨#[118]⟩ [118] rfl)
 all_goals (refine Yd ?_ h;clear h;simp +decide[*,kk,tI,Ax,Z6L,Z6I,Z6J,Z6K,Bm])
abbrev ZNh:=uq ZNg
