/-
  Parts of the proofs for this seat: G1 G2 G3.
-/
import Derived.Test.YtggcnlojfngdeaaGreatP13
set_option linter.all false
set_option maxRecDepth 100000
set_option maxHeartbeats 4000000
namespace Go.Proofs.YtggcnlojfngdeaaGreat
open Go.AM
def ZHw:((((iM vS λa r=>qb (decide (1048576<(a.length:Int))) r)/\
 (iM bD λcode h1 i r=>if i<(code.length:Int)then if i<4000 then qG code i (λu1=>r (bD code (Aj (w ((w ((w (h1*131))+(w u1)))+7)) 1073741823) (w (i+1))))else uL code h1 r else uL code h1 r))/\
 ((iM bC λa r=>r (bD a (w (10101+(a.length:Int))) 0))/\
 (iM G7 λx r=>qL (w ((w (x.h*6364136223846793005))+1442695040888963407)) λk1=>qL (Aj (FN (At k1 33) (At k1 45)) 255) λk2=>if x.i<(x.b.length:Int)then qG x.b x.i (λu1=>r (some (I (Aj (w (k2+(w u1))) 255),[.box [L 1 (x.b.map (kc .u8)),I (w (x.i+1)),I k1]])))else r (some (I k2,[.box [L 1 (x.b.map (kc .u8)),I x.i,I k1]])))))/\
 (((iM ZT λx a r=>if a<=0 then r (some (I 0,[.box (x.c.map .t)]))else if a<=256 then BA (G7 x) (λu1 u2=>¬a=0/\aL (Int.tmod u2 a) u1 r)else BA (G7 x) (λu1 u2=>BA (G7 u1) (λu3 u4=>BA (G7 u3) (λu5 u6=>BA (G7 u5) (λu7 u8=>¬a=0/\aL (Int.tmod (w ((w ((w ((w (u2*16777216))+(w (u4*65536))))+(w (u6*256))))+u8)) a) u7 r)))))/\
 (iM XJ λx a r=>BA (ZT x a) (λu1 u2=>r (some (Bo (decide (u2=0)),[.box (u1.c.map .t)])))))/\
 ((iM Zrp λr=>qL ([]:List Z9) λk1=>r (some (.agg [I 1,I 1,I 0,I 0,I 0,.own 0,I 2,I 3,I 0,I 0,I 0,.own 1,I 4,I 2,I 1,I 1,I 0,.own 2,I 1,I 1,I 1,I 1,I 0,.own 3,I 1,I 0,I 0,I 1,I 1,.own 4],[.arr 188 2 true (k1.map Z9.c),.arr 188 2 true (([(⟨17,20⟩:Z9)]).map Z9.c),.arr 188 2 true (k1.map Z9.c),.arr 188 2 true (k1.map Z9.c),.arr 188 2 true (k1.map Z9.c)])))/\
 ((iM XY λx x1 r=>BA (ZT x (x1.length:Int)) (λu1 u2=>qG x1 u2 (λu3=>r (some (I u3,[.box (u1.c.map .t),.arr 3 1 true (x1.map ic)])))))/\
 (iM G8 λx r=>BA (ZT x 5) (λu1 u2=>BA (ZT u1 4) (λu3 u4=>BA (ZT u3 4) (λu5 u6=>BA (ZT u5 3) (λu7 u8=>UL (XJ u7 3) (λu9 u10=>qL (w (1+u2)) λk1=>if u10=true then BA (ZT u9 3) (λu11 u12=>UL (XJ u11 3) (λu13 u14=>if u14=true then VZ (XY u13 ([1,5,17,32])) (λu15 u16 DM=>BA (ZT u15 20) (λHH HI=>r (some (.agg [I k1,I u4,I u6,I u8,I u12,.own 1],[.box (HH.c.map .t),.arr 188 2 true (([(⟨DM,HI⟩:Z9)]).map Z9.c)]))))else r (some (.agg [I k1,I u4,I u6,I u8,I u12,.own 1],[.box (u13.c.map .t),.arr 188 2 true (([]:List Z9).map Z9.c)]))))else UL (XJ u9 3) (λu11 u12=>if u12=true then VZ (XY u11 ([1,5,17,32])) (λu13 u14 u15=>BA (ZT u13 20) (λu16 DM=>uM k1 u4 u6 u8 u16 ([(⟨u15,DM⟩:Z9)]) r))else uM k1 u4 u6 u8 u11 ([]:List Z9) r)))))))))))/\
 ((((iM bE λx r=>UL (XJ x 3) (λu1 u2=>if u2=true then ∃(u3:List Z9),∃(u4:List Z9),∃(u5:List Z9),∃(u6:List Z9),∃(u7:List Z9),∃u8,∃u9,∃u10,∃u11,∃u12,∃u13,∃u14,∃u15,∃u16,∃DM,∃HH,∃HI,∃u20,∃u21,∃u22,∃u23,∃u24,∃u25,∃u26,∃u27,∃u28,∃u29,∃u30,∃u31,∃u32,Zrp=some (.agg [I u8,I u9,I u10,I u11,I u12,.own 0,I u13,I u14,I u15,I u16,I DM,.own 1,I HH,I HI,I u20,I u21,I u22,.own 2,I u23,I u24,I u25,I u26,I u27,.own 3,I u28,I u29,I u30,I u31,I u32,.own 4],[.arr 188 2 true (u3.map Z9.c),.arr 188 2 true (u4.map Z9.c),.arr 188 2 true (u5.map Z9.c),.arr 188 2 true (u6.map Z9.c),.arr 188 2 true (u7.map Z9.c)])/\r (some (.agg [I u8,I u9,I u10,I u11,I u12,L 2 (u3.map Z9.c),I u13,I u14,I u15,I u16,I DM,L 2 (u4.map Z9.c),I HH,I HI,I u20,I u21,I u22,L 2 (u5.map Z9.c),I u23,I u24,I u25,I u26,I u27,L 2 (u6.map Z9.c),I u28,I u29,I u30,I u31,I u32,L 2 (u7.map Z9.c)],[.box (u1.c.map .t)]))else I7 (G8 u1) (λu3 u4 u5 u6 u7 u8 u9=>I7 (G8 u3) (λu10 u11 u12 u13 u14 u15 u16=>I7 (G8 u10) (λDM HH HI u20 u21 u22 u23=>I7 (G8 DM) (λu24 u25 u26 u27 u28 u29 u30=>I7 (G8 u24) (λu31 u32 u33 u34 u35 u36 u37=>r (some (.agg [I u5,I u6,I u7,I u8,I u9,L 2 (u4.map Z9.c),I u12,I u13,I u14,I u15,I u16,L 2 (u11.map Z9.c),I HI,I u20,I u21,I u22,I u23,L 2 (HH.map Z9.c),I u26,I u27,I u28,I u29,I u30,L 2 (u25.map Z9.c),I u33,I u34,I u35,I u36,I u37,L 2 (u32.map Z9.c)],[.box (u31.c.map .t)])))))))))/\
 (iM Zrv λout row put i r=>if i<0 then False else if put=true then Ky out r else qM row (qN out (Ky (out++[row]) r))))/\
 ((iM G9 λa r=>r (Zrv ([]:XV) a false 0))/\
 (iM bF λa b i r=>if i<(a.length:Int)then if i<(b.length:Int)then qG a i (λu1=>qH b i (λu2=>if u1<u2 then qi (-1) r else if u2<u1 then qi 1 r else r (bF a b (w (i+1)))))else r (bG a b i false)else r (bG a b i false))))/\
 (((iM bG λa b i x r=>if(a.length:Int)<(b.length:Int)then qi (-1) r else if(b.length:Int)<(a.length:Int)then qi 1 r else qi 0 r)/\
 (iM Ut λa a1 r=>r (bF a a1 0)))/\
 ((iM Ql λout rows row put i r=>if i<(rows.length:Int)then qG rows i (λu1=>qI (Ut u1 row) (λu2=>qL (Ql (out++[u1]) rows row) λk2=>qL (qM u1 (qN out (r (k2 true (w (i+1)))))) λk1=>if u2=0 then if 0<u2 then k1 else k1 else if 0<u2 then if put=true then k1 else qM row (qN out (qM u1 (out.length+1+1<=68719476736/\r (Ql ((out++[row])++[u1]) rows row true (w (i+1))))))else qM u1 (qN out (r (k2 put (w (i+1)))))))else if put=true then Ky out r else qM row (qN out (Ky (out++[row]) r)))/\
 ((iM Jd λa a1 r=>r (Ql ([]:XV) a a1 false 0))/\
 (iM vX λc Name Arity Al Ad arity val n r=>if 0<n then r (Pv c Name Arity Al Ad ([]:WL) arity val n 0)else r (some (.agg [.t (.str Al),I Ad,.own 1],[.box (c.c.map .t),.arr 44 1 true (([]:XV).map AA)]))))))):=by
 refine qu ?_
 and_intros
 all_goals(intros;unfold Im;(try simp only[vS,bD,bC,G7,ZT,XJ,Zrp,XY,G8,bE,Zrv,G9,bF,Ut,Ql,Jd,vX,Zl.c_def,bG,Pv,Ar,Zru,Bf,A7]);(try simp only[Bc]);(try simp only[Bd,gS,kk]))
 all_goals(repeat' first|refine Br λ_=>?_|refine Bq λ_ _=>?_|refine Bp λ_=>?_|refine AL ?_ ?_|exact False.elim)
 all_goals(intro h;first|refine run ZD0 rfl ?_|rw[Zk Zrn.eq_1]|refine run ZD1 rfl ?_|refine XD ZD2 rfl ?_|refine XD ZD3 rfl ?_|refine XD ZD4 rfl ?_|refine run ZD5 rfl ?_|refine XD Z7Y rfl ?_|refine XD ZD6 rfl ?_|refine XD ZD7 rfl ?_|rw[Zk Zrs.eq_1]|refine run ZD8 rfl ?_|rw[Zk Zrx.eq_1]|rw[B8 vT.eq_1]|refine run ZD9 rfl ?_|rw[Zk Lq.eq_1])
 all_goals (refine Yg ?_ h;clear h;simp +decide[*,kk,tI,Az,Z29,Zro,Z2A,Z2D,Z2C,Z2E,Z2F,Z2G,Zrq,Z2J,Z2H,Z2I,Z2K,Z2N,Zrt,Z2O,Z2P,Z2L,Z2M,Lr])
abbrev Xz:=uq ZHw
def ZHx:((iM Pv λc Name Arity Al Ad row arity val n i r=>if i<arity then ∃(u1:Zl),∃u2,ZT c val=some (I u2,[.box (u1.c.map .t)])/\qN row (r (Pv u1 Name Arity Al Ad (row++[u2]) arity val n (w (i+1))))else UM (G9 row) (λu1=>r (Pw c Name Arity Al Ad u1 arity val (w (n-1)))))/\
 (iM Pw λc Name Arity Al Ad x arity val n r=>if 0<n then r (bH c Name Arity Al Ad x ([]:WL) arity val n 0)else r (some (.agg [.t (.str Al),I Ad,.own 1],[.box (c.c.map .t),.arr 44 1 true (x.map AA)]))))/\
 ((iM bH λc Name Arity Al Ad x row arity val n i r=>if i<arity then ∃(u1:Zl),∃u2,ZT c val=some (I u2,[.box (u1.c.map .t)])/\qN row (r (bH u1 Name Arity Al Ad x (row++[u2]) arity val n (w (i+1))))else UM (Jd x row) (λu1=>r (Pw c Name Arity Al Ad u1 arity val (w (n-1)))))/\
 (iM Vx λx a a1 a2 a3 r=>BA (ZT x (w (a2+1))) (λu1 u2=>r (vX u1 (⟨#[]⟩:V5) 0 a a1 a1 a3 u2)))):=by
 refine qu ?_
 and_intros
 all_goals(intros;unfold Im;(try simp only[Pv,Pw,bH,Vx,ZT,G9,Zl.c_def,Jd,vX,Ar,Bf,A7]);(try simp only[Bc]);(try simp only[Bd,gS,kk]))
 all_goals(repeat' first|refine Br λ_=>?_|refine Bq λ_ _=>?_|refine Bp λ_=>?_|refine AL ?_ ?_|exact False.elim)
 all_goals(intro h;first|rw[Zk vU.eq_1]|rw[Zk Lq.eq_1]|refine XD ZDA rfl ?_)
 all_goals (refine Yg ?_ h;clear h;simp +decide[*,kk,tI,Az,vW,vV,Lr,Z2Q])
abbrev HJ:=uq ZHx
def Zph(a b:V5)(l:List UInt8)(h:b.data.toList=l):(a.toList=l)↔a=b:=by
 rw[<-ZqX,ByteArray.toList_eq b,h]
def Z8e{α β:Type}(f:α->β){l:List α}{i:Nat}{e:α}(g:i<l.length)(q:l[i]=e):∃g2:i<(l.map f).length,(l.map f)[i]=f e:=⟨by simpa using g,by simp[q]⟩
def ZHy:iM vY λc x val most x1 x2 r=>if x2<x1 then qG x x2 (λu1=>qL (∃(u2:Zl),∃(u3:XV),∃u4,∃u5,Vx c u1 1 most val=some (.agg [.t (.str u4),I u5,.own 1],[.box (u2.c.map .t),.arr 44 1 true (u3.map AA)])/\r (QX u2 ([(⟨u4,u5,u3⟩:Zm)]) x val most x1 (w (x2+1)))) λk1=>qL (⟨#[118]⟩:V5) λk2=>if u1=(⟨#[117]⟩:V5)then if u1=k2 then k1 else ∃(u2:Zl),∃(u3:XV),∃u4,∃u5,Vx c u1 3 most val=some (.agg [.t (.str u4),I u5,.own 1],[.box (u2.c.map .t),.arr 44 1 true (u3.map AA)])/\r (QX u2 ([(⟨u4,u5,u3⟩:Zm)]) x val most x1 (w (x2+1)))else if u1=k2 then k1 else ∃(u2:Zl),∃(u3:XV),∃u4,∃u5,Vx c u1 2 most val=some (.agg [.t (.str u4),I u5,.own 1],[.box (u2.c.map .t),.arr 44 1 true (u3.map AA)])/\r (QX u2 ([(⟨u4,u5,u3⟩:Zm)]) x val most x1 (w (x2+1))))else ∃(u1:Zl),∃u2,XJ c 8=some (Bo u2,[.box (u1.c.map .t)])/\if u2=true then ∃(u3:Zl),∃u4,ZT u1 5=some (I u4,[.box (u3.c.map .t)])/\False else r (some (.agg [.own 1],[.box (u1.c.map .t),.arr 150 3 true (([]:List Zm).map Zm.c)])):=by
 refine qu ?_;intro c x val most x1 x2 r;unfold Im;intro h;unfold vY
 try simp only[Ar]
 rw[Zk bI.eq_1];simp only[Vx,XJ,ZT,Zl.c_def,Bf,A7,Ar]at h
 try simp only[Bc]at h
 try simp only[Bd,gS,kk]at h
 rcases h with⟨q1,q2,e1,⟨g3,q3⟩,(⟨q4,(⟨q5,v,v1,v2,v3,q6,h⟩|⟨q5,v4,v5,v6,v7,q7,h⟩)⟩|⟨q4,(⟨q8,v8,v9,v10,v11,q9,h⟩|⟨q8,v12,v13,v14,v15,q10,h⟩)⟩)⟩|⟨q1,v16,v17,q11,(⟨q12,v18,v19,q13,⟨⟩⟩|⟨q12,h⟩)⟩
 all_goals try (have s1:=Zph e1 ⟨#[117]⟩ [117] rfl;have s2:=Zph e1 ⟨#[118]⟩ [118] rfl)
 all_goals try exact absurd ((of_eq_true q4).symm.trans (of_eq_true q5)) Sm
 all_goals (refine Yg ?_ h;clear h;simp +decide[*,kk,tI,Az,QX,Zry,Zrz,Zr0,bJ,Ar])
abbrev ZHz:=uq ZHy
def ZH0:iM QX λc x x1 val most x2 x3 r=>if x3<x2 then qG x1 x3 (λu1=>qL (∃(u2:Zl),∃(u3:XV),∃u4,∃u5,Vx c u1 1 most val=some (.agg [.t (.str u4),I u5,.own 1],[.box (u2.c.map .t),.arr 44 1 true (u3.map AA)])/\qN x (r (QX u2 (x++[(⟨u4,u5,u3⟩:Zm)]) x1 val most x2 (w (x3+1))))) λk1=>qL (⟨#[118]⟩:V5) λk2=>if u1=(⟨#[117]⟩:V5)then if u1=k2 then k1 else ∃(u2:Zl),∃(u3:XV),∃u4,∃u5,Vx c u1 3 most val=some (.agg [.t (.str u4),I u5,.own 1],[.box (u2.c.map .t),.arr 44 1 true (u3.map AA)])/\qN x (r (QX u2 (x++[(⟨u4,u5,u3⟩:Zm)]) x1 val most x2 (w (x3+1))))else if u1=k2 then k1 else ∃(u2:Zl),∃(u3:XV),∃u4,∃u5,Vx c u1 2 most val=some (.agg [.t (.str u4),I u5,.own 1],[.box (u2.c.map .t),.arr 44 1 true (u3.map AA)])/\qN x (r (QX u2 (x++[(⟨u4,u5,u3⟩:Zm)]) x1 val most x2 (w (x3+1)))))else ∃(u1:Zl),∃u2,XJ c 8=some (Bo u2,[.box (u1.c.map .t)])/\if u2=true then ∃(u3:Zl),∃u4,ZT u1 5=some (I u4,[.box (u3.c.map .t)])/\qG x u4 (λu5=>r (some (.agg [.own 1],[.box (u3.c.map .t),.arr 150 3 true ((x.set u4.toNat (⟨u5.Name,u5.Arity,[]⟩:Zm)).map Zm.c)])))else r (some (.agg [.own 1],[.box (u1.c.map .t),.arr 150 3 true (x.map Zm.c)])):=by
 refine qu ?_;intro c x x1 val most x2 x3 r;unfold Im;intro h;unfold QX
 try simp only[Ar]
 rw[Zk bI.eq_1];simp only[Vx,XJ,ZT,Zl.c_def,Bf,A7,Ar]at h
 try simp only[Bc]at h
 try simp only[Bd,gS,kk]at h
 rcases h with⟨q1,q2,e1,⟨g3,q3⟩,(⟨q4,(⟨q5,v,v1,v2,v3,q6,q7,h⟩|⟨q5,v4,v5,v6,v7,q8,q9,h⟩)⟩|⟨q4,(⟨q10,v8,v9,v10,v11,q11,q12,h⟩|⟨q10,v12,v13,v14,v15,q13,BB,h⟩)⟩)⟩|⟨q1,v16,v17,BW,(⟨q16,v18,v19,EZ,Ce,e8,⟨g19,De⟩,h⟩|⟨q16,h⟩)⟩
 all_goals try (have s1:=Zph e1 ⟨#[117]⟩ [117] rfl;have s2:=Zph e1 ⟨#[118]⟩ [118] rfl)
 all_goals try exact absurd ((of_eq_true q4).symm.trans (of_eq_true q5)) Sm
 all_goals (refine Yg ?_ h;clear h;simp +decide[*,kk,tI,Az,QX,Zry,Zrz,Zr0,bJ,Ar])
abbrev jQ:=uq ZH0
def ZH1:((((iM Ls λx r=>VZ (XY x ([2,3,4,6])) (λu1 u2 u3=>VZ (XY u1 ([2,4,6,8])) (λu4 u5 u6=>qL ([(⟨#[114]⟩:V5),(⟨#[115]⟩:V5),(⟨#[116]⟩:V5),(⟨#[117]⟩:V5),(⟨#[118]⟩:V5)]) λk1=>r (vY u4 k1 u3 u6 (k1.length:Int) 0))))/\
 (iM Lt λc Name To Al DN m i r=>if i<m then if i=DN then r (Lt c Name To Al DN m (w (i+1)))else ∃(u1:Zl),∃u2,XJ c 2=some (Bo u2,[.box (u1.c.map .t)])/\if u2=true then r (Pz u1 Name To Al DN ([i]) m (w (i+1)))else r (Lt u1 Name To Al DN m (w (i+1)))else ∃(u1:Zl),∃u2,XJ c 14=some (Bo u2,[.box (u1.c.map .t)])/\qL ([(-1),0,3,9223372036854775807]) λk1=>if u2=true then ∃(u3:Zl),∃(u4:WL),∃u5,XY u1 ([(-1),3,0])=some (I u5,[.box (u3.c.map .t),.arr 3 1 true (u4.map ic)])/\∃(u6:Zl),∃u7,XJ u3 16=some (Bo u7,[.box (u6.c.map .t)])/\if u7=true then ∃(u8:Zl),∃(u9:WL),∃u10,XY u6 k1=some (I u10,[.box (u8.c.map .t),.arr 3 1 true (u9.map ic)])/\r (some (.agg [.t (.str Al),L 1 (([u10]).map ic),I u5],[.box (u8.c.map .t)]))else r (some (.agg [.t (.str Al),L 1 (([]:WL).map ic),I u5],[.box (u6.c.map .t)]))else ∃(u3:Zl),∃u4,XJ u1 16=some (Bo u4,[.box (u3.c.map .t)])/\if u4=true then ∃(u5:Zl),∃(u6:WL),∃u7,XY u3 k1=some (I u7,[.box (u5.c.map .t),.arr 3 1 true (u6.map ic)])/\r (some (.agg [.t (.str Al),L 1 (([u7]).map ic),I DN],[.box (u5.c.map .t)]))else r (some (.agg [.t (.str Al),L 1 (([]:WL).map ic),I DN],[.box (u3.c.map .t)]))))/\
 ((iM Pz λc Name To Al DN x m i r=>if i<m then if i=DN then r (Pz c Name To Al DN x m (w (i+1)))else ∃(u1:Zl),∃u2,XJ c 2=some (Bo u2,[.box (u1.c.map .t)])/\qL (Pz u1 Name To Al DN) λk2=>if u2=true then qN x (r (k2 (x++[i]) m (w (i+1))))else r (k2 x m (w (i+1)))else ∃(u1:Zl),∃u2,XJ c 14=some (Bo u2,[.box (u1.c.map .t)])/\qL ([(-1),0,3,9223372036854775807]) λk1=>if u2=true then ∃(u3:Zl),∃(u4:WL),∃u5,XY u1 ([(-1),3,0])=some (I u5,[.box (u3.c.map .t),.arr 3 1 true (u4.map ic)])/\∃(u6:Zl),∃u7,XJ u3 16=some (Bo u7,[.box (u6.c.map .t)])/\if u7=true then ∃(u8:Zl),∃(u9:WL),∃u10,XY u6 k1=some (I u10,[.box (u8.c.map .t),.arr 3 1 true (u9.map ic)])/\qN x (r (some (.agg [.t (.str Al),L 1 ((x++[u10]).map ic),I u5],[.box (u8.c.map .t)])))else r (some (.agg [.t (.str Al),L 1 (x.map ic),I u5],[.box (u6.c.map .t)]))else ∃(u3:Zl),∃u4,XJ u1 16=some (Bo u4,[.box (u3.c.map .t)])/\if u4=true then ∃(u5:Zl),∃(u6:WL),∃u7,XY u3 k1=some (I u7,[.box (u5.c.map .t),.arr 3 1 true (u6.map ic)])/\qN x (r (some (.agg [.t (.str Al),L 1 ((x++[u7]).map ic),I DN],[.box (u5.c.map .t)])))else r (some (.agg [.t (.str Al),L 1 (x.map ic),I DN],[.box (u3.c.map .t)])))/\
 (iM Lu λa r=>if(a.size:Int)=1 then ∃u1,a[0]?=some u1/\if 97<=(u1.toNat:Int)then qb (decide ((u1.toNat:Int)<=122)) r else qb false r else qb false r)))/\
 (((iM Z0 λa a1 a2 r=>if a1<=a then qb (decide (a<=a2)) r else qb false r)/\
 (iM bL λrow n i r=>if i<(row.length:Int)then qG row i (λu1=>qB (Z0 u1 0 9) (r (bL row n (w (i+1)))) (qb false r))else qb (decide ((row.length:Int)=n)) r))/\
 ((iM wB λa a1 r=>r (bL a a1 0))/\
 ((iM PA λt i r=>if i<(t.Rows.length:Int)then qG t.Rows i (λu1=>qB (wB u1 t.Arity) (if 0<i then 0<=(w (i-1))/\∃u3,t.Rows[(w (i-1)).toNat]?=some u3/\qI (Ut u3 u1) (λu4=>if 0<=u4 then qb false r else r (PA t (w (i+1))))else r (PA t (w (i+1)))) (qb false r))else qb true r)/\
 (iM Je λa r=>qB (Lu a.Name) (qB (Z0 a.Arity 1 3) (if 8<(a.Rows.length:Int)then qb false r else r (PA a 0)) (qb false r)) (qb false r))))))/\
 ((((iM PC λd i r=>if i<(d.Tables.length:Int)then qG d.Tables i (λu1=>qB (Je u1) (if 0<i then 0<=(w (i-1))/\∃u3,d.Tables[(w (i-1)).toNat]?=some u3/\if(Op.bytesLess u3.Name.toList u1.Name.toList)=true then r (PC d (w (i+1)))else qb false r else r (PC d (w (i+1)))) (qb false r))else qb (decide ((d.Tables.length:Int)<=6)) r)/\
 (iM PB λa r=>r (PC a 0)))/\
 ((iM ZrH λt Name Arity Al Ad i r=>if i<(t.Rows.length:Int)then qG t.Rows i (λu1=>qM u1 (r (PD t Name Arity Al Ad ([u1]) (w (i+1)))))else r (some (.agg [.t (.str Al),I Ad,.t .nil],[])))/\
 (iM PD λt Name Arity Al Ad x i r=>if i<(t.Rows.length:Int)then qG t.Rows i (λu1=>qM u1 (qN x (r (PD t Name Arity Al Ad (x++[u1]) (w (i+1))))))else r (some (.agg [.t (.str Al),I Ad,.own 0],[.arr 44 1 true (x.map AA)])))))/\
 (((iM K1 λa r=>r (ZrH a (⟨#[]⟩:V5) 0 a.Name a.Arity 0))/\
 (iM bM λd Name Arity name i r=>if i<(d.Tables.length:Int)then qB (PB d) (qG d.Tables i (λu2=>if u2.Name=name then((∃u3 u4,K1 u2=some (.agg [.t (.str u3),I u4,.t .nil],[])/\r (some (.tup [.agg [.t (.str u3),I u4,.t .nil],Bo true],[])))\/(∃(u3:XV),∃u4,∃u5,K1 u2=some (.agg [.t (.str u4),I u5,.own 0],[.arr 44 1 true (u3.map AA)])/\r (some (.tup [.agg [.t (.str u4),I u5,.own 0],Bo true],[.arr 44 1 true (u3.map AA)]))))else r (bM d Name Arity name (w (i+1))))) (uN r)else uN r))/\
 ((iM VK λa a1 r=>r (bM a (⟨#[]⟩:V5) 0 a1 0))/\
 ((iM ZrL λName Arity i r=>if i<0 then False else qb true r)/\
 (iM Ha λName Arity r=>qB (Lu Name) (qB (Z0 Arity 1 3) (r (ZrL Name Arity 0)) (qb false r)) (qb false r)))))):=by
 refine qu ?_
 and_intros
 all_goals(intros;unfold Im;(try simp only[Ls,Lt,Pz,Lu,Z0,bL,wB,PA,Je,PC,PB,ZrH,PD,K1,bM,VK,ZrL,Ha,XY,Zl.c_def,XJ,Ut,Zm.c_def,Zq.c_def,vY,Ar,Zr9,ZrG,Bf,A7]);(try simp only[Bc]);(try simp only[Bd,gS,kk]))
 all_goals(repeat' first|refine Br λ_=>?_|refine Bq λ_ _=>?_|refine Bp λ_=>?_|refine AL ?_ ?_|exact False.elim)
 all_goals(intro h;first|refine XD ZDB rfl ?_|rw[Zk vZ.eq_1]|refine run Z7Z rfl ?_|refine run Z8a rfl ?_|rw[Zk Zr4.eq_1]|refine run ZDD rfl ?_|rw[Zk Zr7.eq_1]|refine run ZDE rfl ?_|rw[Zk ZrB.eq_1]|refine run ZDF rfl ?_|rw[Zk ZrE.eq_1]|refine run ZDG rfl ?_|rw[Zk ZrJ.eq_1]|refine run ZDH rfl ?_)
 all_goals (refine Yg ?_ h;clear h;simp +decide[*,kk,tI,Az,Z2R,Z2S,Z2T,Z2U,wA,Zr1,Zr2,Zr5,Z2W,Zr8,Z2X,ZrC,Z2Y,ZrF,Z2Z,ZrK,Z3a])
abbrev Xn:=uq ZH1
def ZH2:iM JT λx r=>BA (ZT x 5) (λu1 u2=>qG ([2,2,2,3,1]) u2 (λu3=>qH ([(⟨#[114]⟩:V5),(⟨#[115]⟩:V5),(⟨#[116]⟩:V5),(⟨#[117]⟩:V5),(⟨#[118]⟩:V5)]) u2 (λu4=>BA (ZT u1 u3) (λu5 u6=>r (Lt u5 (⟨#[]⟩:V5) 0 u4 u6 u3 0))))):=by
 refine qu ?_;intro x r;unfold Im;intro h;unfold JT
 try simp only[Ar]
 refine XD ZDC rfl ?_;simp only[ZT,Zl.c_def,Bf,A7,Ar]at h
 try simp only[Bc]at h
 try simp only[Bd,gS,kk]at h
 rcases h with⟨v,v1,q1,q2,e2,⟨g3,q3⟩,e3,⟨g4,q4⟩,v2,v3,q5,h⟩
 all_goals try (have Mo:=Z8e ic g3 q3;simp only[Yx,Dm,A7]at Mo;obtain⟨Acl,Mo⟩:=Mo;have Acm:v1<5:=by(have y:=g3;simp at y;omega))
 all_goals try (have B9:=Z8e sc g4 q4;simp only[Yx,Dm,A7]at B9;obtain⟨jR,B9⟩:=B9;have jS:v1<5:=by(have y:=g4;simp at y;omega))
 all_goals (refine Yg ?_ h;clear h;simp +decide[*,kk,tI,Az,Z2V,Lt,Ar])
abbrev ZH3:=uq ZH2
def ZH4:((((iM bN λName Arity cols i r=>if i<(cols.length:Int)then qG cols i (λu1=>qB (Z0 u1 0 (w (Arity-1))) (qL (r (bN Name Arity cols (w (i+1)))) λk1=>if 0<i then 0<=(w (i-1))/\∃u3,cols[(w (i-1)).toNat]?=some u3/\if u1<=u3 then qb false r else k1 else k1) (qb false r))else qV (Ha Name Arity) (λu1=>qb u1 r))/\
 (iM wC λName Arity a r=>r (bN Name Arity a 0)))/\
 ((iM bO λl x i r=>if i<(l.length:Int)then qG l i (λu1=>if u1=x then qb true r else r (bO l x (w (i+1))))else qb false r)/\
 (iM Vn λa a1 r=>r (bO a a1 0))))/\
 (((iM bP λt cols i r=>if i<(cols.length:Int)then qG cols i (λu1=>qB (Z0 u1 0 (w (t.Arity-1))) (qL (r (bP t cols (w (i+1)))) λk1=>if 0<i then 0<=(w (i-1))/\∃u3,cols[(w (i-1)).toNat]?=some u3/\if u1<=u3 then qb false r else k1 else k1) (qb false r))else qV (Je t) (λu1=>qb u1 r))/\
 (iM PE λa a1 r=>r (bP a a1 0)))/\
 ((iM PF λa a1 r=>qL (qV (Vn a1.From a1.To) (λu6=>qb (!u6) r)) λk1=>qL (qb false r) λk2=>(∃u1 u2 u3,VK a a1.Name=some (.tup [.agg [.t (.str u1),I u2,.t .nil],Bo u3],[])/\if u3=true then qB (wC u1 u2 a1.From) (qB (Z0 a1.To 0 (w (u2-1))) k1 k2) k2 else k2)\/(∃(u1:XV),∃u2,∃u3,VK a a1.Name=some (.tup [.agg [.t (.str u2),I u3,.own 0],Bo true],[.arr 44 1 true (u1.map AA)])/\qB (PE (⟨u2,u3,u1⟩:Zm) a1.From) (qB (Z0 a1.To 0 (w (u3-1))) k1 k2) k2))/\
 (iM bQ λout row cols i r=>if i<(cols.length:Int)then qG cols i (λu1=>qB (Z0 u1 0 (w ((row.length:Int)-1))) (qG row u1 (λu3=>qN out (r (bQ (out++[u3]) row cols (w (i+1)))))) (Pl ([]:WL) r))else uO out r))))/\
 ((((iM Hb λa a1 r=>r (bQ ([]:WL) a a1 0))/\
 (iM Zsc λd f Name Arity k r=>if k<0 then qB (PF d f) False (A3 ([]:WL) r)else A3 ([]:WL) r))/\
 ((iM PG λd f Name Arity x k r=>if k<(x.length:Int)then qB (PF d f) (qG x k (λu2=>Kz (Hb u2 f.From) (λu3 u4=>r (Hc d f Name Arity x u3 k 0)))) (A3 ([]:WL) r)else A3 ([]:WL) r)/\
 (iM Hc λd f Name Arity x y k i r=>if i<k then qG x i (λu1=>Kz (Hb u1 f.From) (λu2 u3=>qI (Ut u2 y) (λu4=>qL (r (Hc d f Name Arity x y k (w (i+1)))) λk1=>if u4=0 then qG u1 f.To (λu5=>qG x k (λu6=>qH u6 f.To (λu7=>if u5=u7 then k1 else A3 ([i,k]) r)))else k1)))else r (PG d f Name Arity x (w (k+1))))))/\
 (((iM wE λa a1 r=>(∃u1 u2 u3,VK a a1.Name=some (.tup [.agg [.t (.str u1),I u2,.t .nil],Bo u3],[])/\r (Zsc a a1 u1 u2 0))\/(∃(u1:XV),∃u2,∃u3,VK a a1.Name=some (.tup [.agg [.t (.str u2),I u3,.own 0],Bo true],[.arr 44 1 true (u1.map AA)])/\r (PG a a1 u2 u3 u1 0)))/\
 (iM Lv λa a1 r=>qB (PF a a1) (A4 (wE a a1) (λu2=>qb (decide ((u2.length:Int)=0)) r)) (qb false r)))/\
 ((iM Q2 λx x1 r=>BA (ZT x (x1.length:Int)) (λu1 u2=>qG x1 u2 (λu3=>r (some (.t (.str u3),[.box (u1.c.map .t),.arr 9 1 true (x1.map sc)])))))/\
 (iM PH λa a1 r=>qL (qb false r) λk1=>qL (Z0 a1.IntoColumn 0) λk2=>qL (Z0 a1.Column 0) λk3=>qL (VK a a1.Into) λk4=>(∃u1 u2 u3,VK a a1.Name=some (.tup [.agg [.t (.str u1),I u2,.t .nil],Bo u3],[])/\((∃u4 u5 u6,k4=some (.tup [.agg [.t (.str u4),I u5,.t .nil],Bo u6],[])/\if u3=true then if u6=true then qB (k3 (w (u2-1))) (qV (k2 (w (u5-1))) (λu8=>qb u8 r)) k1 else k1 else k1)\/(∃(u4:XV),∃u5,∃u6,k4=some (.tup [.agg [.t (.str u5),I u6,.own 0],Bo true],[.arr 44 1 true (u4.map AA)])/\if u3=true then qB (k3 (w (u2-1))) (qV (k2 (w (u6-1))) (λu8=>qb u8 r)) k1 else k1)))\/(∃(u1:XV),∃u2,∃u3,VK a a1.Name=some (.tup [.agg [.t (.str u2),I u3,.own 0],Bo true],[.arr 44 1 true (u1.map AA)])/\((∃u4 u5 u6,k4=some (.tup [.agg [.t (.str u4),I u5,.t .nil],Bo u6],[])/\if u6=true then qB (k3 (w (u3-1))) (qV (k2 (w (u5-1))) (λu8=>qb u8 r)) k1 else k1)\/(∃(u4:XV),∃u5,∃u6,k4=some (.tup [.agg [.t (.str u5),I u6,.own 0],Bo true],[.arr 44 1 true (u4.map AA)])/\qB (k3 (w (u3-1))) (qV (k2 (w (u6-1))) (λu8=>qb u8 r)) k1))))))):=by
 refine qu ?_
 and_intros
 all_goals(intros;unfold Im;(try simp only[bN,wC,bO,Vn,bP,PE,PF,bQ,Hb,Zsc,PG,Hc,wE,Lv,Q2,PH,Z0,Ha,Je,Zm.c_def,VK,Zq.c_def,Zx.c_def,Ut,ZT,Zl.c_def,ZrP,Ar,Zsb,Zsa,Bf,A7]);(try simp only[Bc]);(try simp only[Bd,gS,kk]))
 all_goals(repeat' first|refine Br λ_=>?_|refine Bq λ_ _=>?_|refine Bp λ_=>?_|refine AL ?_ ?_|exact False.elim)
 all_goals(intro h;first|rw[Zk ZrN.eq_1]|refine run ZDI rfl ?_|rw[Zk ZrR.eq_1]|refine run Z8b rfl ?_|refine run ZDJ rfl ?_|rw[Zk ZrV.eq_1]|refine run ZDK rfl ?_|rw[Zk wD.eq_1]|rw[Zk ZrX.eq_1]|refine run ZDL rfl ?_|refine run ZDM rfl ?_|refine XD Z8c rfl ?_|refine run ZDO rfl ?_)
 all_goals (refine Yg ?_ h;clear h;simp +decide[*,kk,tI,Az,ZrO,Z3b,ZrS,ZrT,Z3c,ZrW,Z3d,ZrZ,ZrY,Z3e,Z3f,Zsd,Z3k])
abbrev WI:=uq ZH4
def jT(a b:V5)(l:List UInt8)(h:b.data.toList=l):(a.toList=l)↔a=b:=by
 rw[<-ZqX,ByteArray.toList_eq b,h]
def ZH5:iM K2 λx r=>qL (⟨#[118]⟩:V5) λk2=>qL ([(⟨#[114]⟩:V5),(⟨#[115]⟩:V5),(⟨#[116]⟩:V5),(⟨#[117]⟩:V5),k2]) λk1=>∃(u1:Zl),∃(u2:List V5),∃u3,Q2 x k1=some (.t (.str u3),[.box (u1.c.map .t),.arr 9 1 true (u2.map sc)])/\BA (ZT u1 2) (λu4 u5=>∃(u6:Zl),∃(u7:List V5),∃u8,Q2 u4 k1=some (.t (.str u8),[.box (u6.c.map .t),.arr 9 1 true (u7.map sc)])/\BA (ZT u6 2) (λu9 u10=>qL (XJ u9 14) λk3=>qL ([(-1),3]) λk4=>if u3=k2 then if u8=k2 then UL k3 (λu11 u12=>if u12=true then VZ (XY u11 k4) (λu13 u14 u15=>r (some (.agg [.t (.str u3),I u15,.t (.str u8),I 0],[.box (u13.c.map .t)])))else r (some (.agg [.t (.str u3),I 0,.t (.str u8),I 0],[.box (u11.c.map .t)])))else UL k3 (λu11 u12=>if u12=true then VZ (XY u11 k4) (λu13 u14 u15=>r (some (.agg [.t (.str u3),I u15,.t (.str u8),I u10],[.box (u13.c.map .t)])))else r (some (.agg [.t (.str u3),I 0,.t (.str u8),I u10],[.box (u11.c.map .t)])))else if u8=k2 then UL k3 (λu11 u12=>if u12=true then VZ (XY u11 k4) (λu13 u14 u15=>r (some (.agg [.t (.str u3),I u15,.t (.str u8),I 0],[.box (u13.c.map .t)])))else r (some (.agg [.t (.str u3),I u5,.t (.str u8),I 0],[.box (u11.c.map .t)])))else UL k3 (λu11 u12=>if u12=true then VZ (XY u11 k4) (λu13 u14 u15=>r (some (.agg [.t (.str u3),I u15,.t (.str u8),I u10],[.box (u13.c.map .t)])))else r (some (.agg [.t (.str u3),I u5,.t (.str u8),I u10],[.box (u11.c.map .t)]))))):=by
 refine qu ?_;intro x r;unfold Im;intro h;unfold K2
 try simp only[Ar]
 refine XD ZDN rfl ?_;simp only[Q2,ZT,XJ,XY,Zl.c_def,Bf,A7,Ar]at h
 try simp only[Bc]at h
 try simp only[Bd,gS,kk]at h
 rcases h with⟨v,v1,v2,q1,v3,v4,q2,v5,v6,v7,q3,v8,v9,q4,(⟨q5,(⟨q6,v10,v11,q7,(⟨q8,v12,v13,v14,q9,h⟩|⟨q8,h⟩)⟩|⟨q6,v15,v16,q10,(⟨q11,v17,v18,v19,q12,h⟩|⟨q11,h⟩)⟩)⟩|⟨q5,(⟨q13,v20,v21,BB,(⟨BW,v22,v23,v24,q16,h⟩|⟨BW,h⟩)⟩|⟨q13,v25,v26,EZ,(⟨Ce,v27,v28,v29,De,h⟩|⟨Ce,h⟩)⟩)⟩)⟩
 all_goals (have s1:=jT v2 ⟨#[118]⟩ [118] rfl;have s2:=jT v7 ⟨#[118]⟩ [118] rfl)
 all_goals (refine Yg ?_ h;clear h;simp +decide[*,kk,tI,Az,Z3j,Z3g,Z3h,Z3i,Ar])
abbrev ZH6:=uq ZH5
