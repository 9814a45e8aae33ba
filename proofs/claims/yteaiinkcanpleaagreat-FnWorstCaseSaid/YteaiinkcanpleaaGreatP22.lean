/-
  Parts of the proofs for this seat: G28 G29 G30.
-/
import Derived.Test.YteaiinkcanpleaaGreatP12
set_option linter.all false
set_option maxRecDepth 100000
set_option maxHeartbeats 4000000
namespace Go.Proofs.YteaiinkcanpleaaGreat
open Go.AM
def ZLg:iM F7 λm q sizes mask Aw AA AB AC list4 AQ some1 AR AS AT x a r=>qI (F6 m q (⟨x⟩:Ze) sizes) (λu1=>qL (r (some (.tup [],[WW m q sizes mask Aw AA AB AC list4 AQ some1 AR AS AT,.arr 149 3 true (x.map Zk.c)]))) λk6=>qL (w (a+1)) λk7=>if k7=0 then qL (r (some (.tup [],[.box [I m.Scan.Fixed,I m.Scan.ZR,I m.Scan.ZS,I m.Scan.ZT,I m.Scan.ZU,L 2 (m.Scan.Steps.map Zw.c),I m.Sort_.Fixed,I m.Sort_.ZR,I m.Sort_.ZS,I m.Sort_.ZT,I m.Sort_.ZU,L 2 (m.Sort_.Steps.map Zw.c),I m.Hash.Fixed,I m.Hash.ZR,I m.Hash.ZS,I m.Hash.ZT,I m.Hash.ZU,L 2 (m.Hash.Steps.map Zw.c),I m.Merge.Fixed,I m.Merge.ZR,I m.Merge.ZS,I m.Merge.ZT,I m.Merge.ZU,L 2 (m.Merge.Steps.map Zw.c),I m.Nested.Fixed,I m.Nested.ZR,I m.Nested.ZS,I m.Nested.ZT,I m.Nested.ZU,L 2 (m.Nested.Steps.map Zw.c),I q.Zh,L 2 (q.Atoms.map Zg.c),L 1 (sizes.map ic),I mask,I mask,I a,I u1,L 3 (x.map Zk.c),I AA.Mask,I AA.Order,I AA.Cost,L 3 (AA.Ze.Steps.map Zk.c),I AB.Mask,I AB.Order,I AB.Cost,L 3 (AB.Ze.Steps.map Zk.c),I AC.Mask,I AC.Order,I AC.Cost,L 3 (AC.Ze.Steps.map Zk.c),I list4.Mask,I list4.Order,I list4.Cost,L 3 (list4.Ze.Steps.map Zk.c),Bo true,Bo some1,Bo AR,Bo AS,Bo AT],.dead]))) λk1=>if AQ=true then if u1<Aw.Cost then k1 else k6 else k1 else if k7=1 then qL (r (some (.tup [],[.box [I m.Scan.Fixed,I m.Scan.ZR,I m.Scan.ZS,I m.Scan.ZT,I m.Scan.ZU,L 2 (m.Scan.Steps.map Zw.c),I m.Sort_.Fixed,I m.Sort_.ZR,I m.Sort_.ZS,I m.Sort_.ZT,I m.Sort_.ZU,L 2 (m.Sort_.Steps.map Zw.c),I m.Hash.Fixed,I m.Hash.ZR,I m.Hash.ZS,I m.Hash.ZT,I m.Hash.ZU,L 2 (m.Hash.Steps.map Zw.c),I m.Merge.Fixed,I m.Merge.ZR,I m.Merge.ZS,I m.Merge.ZT,I m.Merge.ZU,L 2 (m.Merge.Steps.map Zw.c),I m.Nested.Fixed,I m.Nested.ZR,I m.Nested.ZS,I m.Nested.ZT,I m.Nested.ZU,L 2 (m.Nested.Steps.map Zw.c),I q.Zh,L 2 (q.Atoms.map Zg.c),L 1 (sizes.map ic),I mask,I Aw.Mask,I Aw.Order,I Aw.Cost,L 3 (Aw.Ze.Steps.map Zk.c),I mask,I a,I u1,L 3 (x.map Zk.c),I AB.Mask,I AB.Order,I AB.Cost,L 3 (AB.Ze.Steps.map Zk.c),I AC.Mask,I AC.Order,I AC.Cost,L 3 (AC.Ze.Steps.map Zk.c),I list4.Mask,I list4.Order,I list4.Cost,L 3 (list4.Ze.Steps.map Zk.c),Bo AQ,Bo true,Bo AR,Bo AS,Bo AT],.dead]))) λk2=>if some1=true then if u1<AA.Cost then k2 else k6 else k2 else if k7=2 then qL (r (some (.tup [],[.box [I m.Scan.Fixed,I m.Scan.ZR,I m.Scan.ZS,I m.Scan.ZT,I m.Scan.ZU,L 2 (m.Scan.Steps.map Zw.c),I m.Sort_.Fixed,I m.Sort_.ZR,I m.Sort_.ZS,I m.Sort_.ZT,I m.Sort_.ZU,L 2 (m.Sort_.Steps.map Zw.c),I m.Hash.Fixed,I m.Hash.ZR,I m.Hash.ZS,I m.Hash.ZT,I m.Hash.ZU,L 2 (m.Hash.Steps.map Zw.c),I m.Merge.Fixed,I m.Merge.ZR,I m.Merge.ZS,I m.Merge.ZT,I m.Merge.ZU,L 2 (m.Merge.Steps.map Zw.c),I m.Nested.Fixed,I m.Nested.ZR,I m.Nested.ZS,I m.Nested.ZT,I m.Nested.ZU,L 2 (m.Nested.Steps.map Zw.c),I q.Zh,L 2 (q.Atoms.map Zg.c),L 1 (sizes.map ic),I mask,I Aw.Mask,I Aw.Order,I Aw.Cost,L 3 (Aw.Ze.Steps.map Zk.c),I AA.Mask,I AA.Order,I AA.Cost,L 3 (AA.Ze.Steps.map Zk.c),I mask,I a,I u1,L 3 (x.map Zk.c),I AC.Mask,I AC.Order,I AC.Cost,L 3 (AC.Ze.Steps.map Zk.c),I list4.Mask,I list4.Order,I list4.Cost,L 3 (list4.Ze.Steps.map Zk.c),Bo AQ,Bo some1,Bo true,Bo AS,Bo AT],.dead]))) λk3=>if AR=true then if u1<AB.Cost then k3 else k6 else k3 else if k7=3 then qL (r (some (.tup [],[.box [I m.Scan.Fixed,I m.Scan.ZR,I m.Scan.ZS,I m.Scan.ZT,I m.Scan.ZU,L 2 (m.Scan.Steps.map Zw.c),I m.Sort_.Fixed,I m.Sort_.ZR,I m.Sort_.ZS,I m.Sort_.ZT,I m.Sort_.ZU,L 2 (m.Sort_.Steps.map Zw.c),I m.Hash.Fixed,I m.Hash.ZR,I m.Hash.ZS,I m.Hash.ZT,I m.Hash.ZU,L 2 (m.Hash.Steps.map Zw.c),I m.Merge.Fixed,I m.Merge.ZR,I m.Merge.ZS,I m.Merge.ZT,I m.Merge.ZU,L 2 (m.Merge.Steps.map Zw.c),I m.Nested.Fixed,I m.Nested.ZR,I m.Nested.ZS,I m.Nested.ZT,I m.Nested.ZU,L 2 (m.Nested.Steps.map Zw.c),I q.Zh,L 2 (q.Atoms.map Zg.c),L 1 (sizes.map ic),I mask,I Aw.Mask,I Aw.Order,I Aw.Cost,L 3 (Aw.Ze.Steps.map Zk.c),I AA.Mask,I AA.Order,I AA.Cost,L 3 (AA.Ze.Steps.map Zk.c),I AB.Mask,I AB.Order,I AB.Cost,L 3 (AB.Ze.Steps.map Zk.c),I mask,I a,I u1,L 3 (x.map Zk.c),I list4.Mask,I list4.Order,I list4.Cost,L 3 (list4.Ze.Steps.map Zk.c),Bo AQ,Bo some1,Bo AR,Bo true,Bo AT],.dead]))) λk4=>if AS=true then if u1<AC.Cost then k4 else k6 else k4 else if k7=4 then qL (r (some (.tup [],[.box [I m.Scan.Fixed,I m.Scan.ZR,I m.Scan.ZS,I m.Scan.ZT,I m.Scan.ZU,L 2 (m.Scan.Steps.map Zw.c),I m.Sort_.Fixed,I m.Sort_.ZR,I m.Sort_.ZS,I m.Sort_.ZT,I m.Sort_.ZU,L 2 (m.Sort_.Steps.map Zw.c),I m.Hash.Fixed,I m.Hash.ZR,I m.Hash.ZS,I m.Hash.ZT,I m.Hash.ZU,L 2 (m.Hash.Steps.map Zw.c),I m.Merge.Fixed,I m.Merge.ZR,I m.Merge.ZS,I m.Merge.ZT,I m.Merge.ZU,L 2 (m.Merge.Steps.map Zw.c),I m.Nested.Fixed,I m.Nested.ZR,I m.Nested.ZS,I m.Nested.ZT,I m.Nested.ZU,L 2 (m.Nested.Steps.map Zw.c),I q.Zh,L 2 (q.Atoms.map Zg.c),L 1 (sizes.map ic),I mask,I Aw.Mask,I Aw.Order,I Aw.Cost,L 3 (Aw.Ze.Steps.map Zk.c),I AA.Mask,I AA.Order,I AA.Cost,L 3 (AA.Ze.Steps.map Zk.c),I AB.Mask,I AB.Order,I AB.Cost,L 3 (AB.Ze.Steps.map Zk.c),I AC.Mask,I AC.Order,I AC.Cost,L 3 (AC.Ze.Steps.map Zk.c),I mask,I a,I u1,L 3 (x.map Zk.c),Bo AQ,Bo some1,Bo AR,Bo AS,Bo true],.dead]))) λk5=>if AT=true then if u1<list4.Cost then k5 else k6 else k5 else False):=by
 refine qu ?_;intro m q sizes mask Aw AA AB AC list4 AQ some1 AR AS AT x a r;unfold Im;intro h;unfold F7
 try simp only[Aq]
 refine XH ZJx rfl ?_;obtain⟨v,q1,h⟩:=h;unfold F6 at q1
 try simp[Aq]at q1
 by_cases q2:(w (a+1))=0
 .rw[Ya q2]at h;by_cases q3:AQ=true
  .rw[Ya q3]at h;by_cases q4:v<Aw.Cost
   .rw[Ya q4]at h;refine Ye ?_ h;clear h;simp +decide[*,Ut,tI,Av,Aq]
   .rw[Yb q4]at h;refine Ye ?_ h;clear h;simp +decide[*,Ut,tI,Av,Aq]
  .rw[Yb q3]at h;refine Ye ?_ h;clear h;simp +decide[*,Ut,tI,Av,Aq]
 .rw[Yb q2]at h;replace q2:=eq_false q2;by_cases q5:(w (a+1))=1
  .rw[Ya q5]at h;by_cases q6:some1=true
   .rw[Ya q6]at h;by_cases q7:v<AA.Cost
    .rw[Ya q7]at h;refine Ye ?_ h;clear h;simp +decide[*,Ut,tI,Av,Aq]
    .rw[Yb q7]at h;refine Ye ?_ h;clear h;simp +decide[*,Ut,tI,Av,Aq]
   .rw[Yb q6]at h;refine Ye ?_ h;clear h;simp +decide[*,Ut,tI,Av,Aq]
  .rw[Yb q5]at h;replace q5:=eq_false q5;by_cases q8:(w (a+1))=2
   .rw[Ya q8]at h;by_cases q9:AR=true
    .rw[Ya q9]at h;by_cases q10:v<AB.Cost
     .rw[Ya q10]at h;refine Ye ?_ h;clear h;simp +decide[*,Ut,tI,Av,Aq]
     .rw[Yb q10]at h;refine Ye ?_ h;clear h;simp +decide[*,Ut,tI,Av,Aq]
    .rw[Yb q9]at h;refine Ye ?_ h;clear h;simp +decide[*,Ut,tI,Av,Aq]
   .rw[Yb q8]at h;replace q8:=eq_false q8;by_cases q11:(w (a+1))=3
    .rw[Ya q11]at h;by_cases q12:AS=true
     .rw[Ya q12]at h;by_cases q13:v<AC.Cost
      .rw[Ya q13]at h;refine Ye ?_ h;clear h;simp +decide[*,Ut,tI,Av,Aq]
      .rw[Yb q13]at h;refine Ye ?_ h;clear h;simp +decide[*,Ut,tI,Av,Aq]
     .rw[Yb q12]at h;refine Ye ?_ h;clear h;simp +decide[*,Ut,tI,Av,Aq]
    .rw[Yb q11]at h;replace q11:=eq_false q11;by_cases Bv:(w (a+1))=4
     .rw[Ya Bv]at h;by_cases BN:AT=true
      .rw[Ya BN]at h;by_cases q16:v<list4.Cost
       .rw[Ya q16]at h;refine Ye ?_ h;clear h;simp +decide[*,Ut,tI,Av,Aq]
       .rw[Yb q16]at h;refine Ye ?_ h;clear h;simp +decide[*,Ut,tI,Av,Aq]
      .rw[Yb BN]at h;refine Ye ?_ h;clear h;simp +decide[*,Ut,tI,Av,Aq]
     .rw[Yb Bv]at h;replace Bv:=eq_false Bv;cases h
abbrev UR:=uq ZLg
def ZLh:(iM Mg λq out mask x r=>if x<mask then qL (r (Mg q out mask (w (x+1)))) λk1=>if(Ah x mask)=x then qB (F3 q x) (qB (F3 q (Z4 mask x)) (qN out (r (Mg q (out++[x]) mask (w (x+1))))) k1) k1 else k1 else AZ out r)/\
 (iM iZ λa a1 r=>qB (L8 a a1) (r (Mg a ([]:WL) a1 1)) (KC r)):=by
 refine qu ?_
 and_intros
 all_goals(intros;unfold Im;(try simp only[Mg,iZ,F3,Zc.c_def,L8,Aq,Bc,A8]);(try simp only[Bd]);(try simp only[Be,gS,kk]))
 all_goals(repeat' first|refine Bp λ_=>?_|refine Bn λ_ _=>?_|refine Bm λ_=>?_|refine AH ?_ ?_|exact False.elim)
 all_goals(intro h;first|rw[Zl ZzG.eq_1]|refine run ZJy rfl ?_)
 all_goals (refine Ye ?_ h;clear h;simp +decide[*,kk,tI,Av,Z9y,ZzH,Z9z])
abbrev Z0G:=uq ZLh
def ZLi:(((iM Sj λMask Order Cost best x x1 x2 r=>if x2<x1 then qG x x2 (λu1=>if u1.Cost<best.Cost then r (Sj Mask Order Cost u1 x x1 (w (x2+1)))else r (Sj Mask Order Cost best x x1 (w (x2+1))))else r (some (.agg (best.c.map .t),[])))/\
 (iM Mh λa r=>∃u1,a[0]?=some u1/\r (Sj 0 0 0 u1 a (a.length:Int) 0)))/\
 ((iM F8 λa r=>qM a.Steps (Ju a.Steps r))/\
 ((iM J8 λa a1 a2 a3 r=>BZ (F8 a) (λu1=>u1.length+a1.Steps.length<=68719476736/\u1.length+a1.Steps.length+1<=68719476736/\Ju ((u1++a1.Steps)++[(⟨a2,0,a3⟩:Zk)]) r))/\
 (iM i7 λm q sizes mask Aw AA AB AC list4 AQ some1 AR AS AT r=>r (Vj m q sizes mask Aw AA AB AC list4 AQ some1 AR AS AT true ([]:List Zd) AQ some1 AR AS AT 0)))))/\
 (((iM F9 λa a1 r=>qB (L7 a a1) (AO (J5 a a1) (λu2=>AZ u2 r)) (KC r))/\
 (iM Mi λa a1 a2 r=>(AO (F9 a a1) (λu1=>(AO (F9 a a2) (λu2=>AO (HE u1 u2) (λu3=>AZ u3 r)))\/(F9 a a2=some (.t .nil,[])/\AO (Z94 u1) (λu2=>AZ u2 r))))\/(F9 a a1=some (.t .nil,[])/\((AO (F9 a a2) (λu1=>AO (Z95 u1) (λu2=>AZ u2 r)))\/(F9 a a2=some (.t .nil,[])/\AO Z96 (λu1=>AZ u1 r))))))/\
 ((iM Zp4 λa a1 r=>BZ (F8 a) (λu1=>qN u1 (Ju (u1++[(⟨2,0,a1⟩:Zk)]) r)))/\
 ((iM i8 λm q x sizes v x1 x2 x3 r=>if x3<x2 then qG x1 x3 (λu1=>qL (r (i8 m q x sizes v x1 x2 (w (x3+1)))) λk1=>if u1.Order=v then qI (F6 m q (⟨x⟩:Ze) sizes) (λu2=>if u1.Cost<=u2 then r (some (.agg (u1.Ze.c.map .t),[]))else k1)else k1)else Ju x r)/\
 (iM Mj λa a1 a2 a3 a4 r=>∃(u1:Zd),Mh a3=some (.agg (u1.c.map .t),[])/\if u1.Order=a4 then r (some (.agg (u1.Ze.c.map .t),[]))else BZ (Zp4 u1.Ze a4) (λu2=>r (i8 a a1 u2 a2 a4 a3 (a3.length:Int) 0)))))):=by
 refine qu ?_
 and_intros
 all_goals(intros;unfold Im;(try simp only[Sj,Mh,F8,J8,i7,F9,Mi,Zp4,i8,Mj,Ze.c_def,L7,J5,Zc.c_def,HE,Z94,Z95,Z96,F6,Zf.c_def,Zz.c_def,Zd.c_def,Vj,Aq,Bc,A8]);(try simp only[Bd]);(try simp only[Be,gS,kk]))
 all_goals(repeat' first|refine Bp λ_=>?_|refine Bn λ_ _=>?_|refine Bm λ_=>?_|refine AH ?_ ?_|exact False.elim)
 all_goals(intro h;first|rw[Zl i5.eq_1]|refine run ZAp rfl ?_|refine run ZJz rfl ?_|refine run ZJ0 rfl ?_|refine XH ZJ1 rfl ?_|refine run ZJ2 rfl ?_|refine run ZJ3 rfl ?_|refine run ZJ4 rfl ?_|rw[Zl ZzN.eq_1]|refine run ZJ5 rfl ?_)
 all_goals (refine Ye ?_ h;clear h;simp +decide[*,kk,tI,Av,ZzI,i6,ZzJ,Z90,Z91,Z92,Z93,Z97,Z98,ZzO,Z99])
abbrev US:=uq ZLi
def ZLj:iM Vj λm q sizes mask Aw AA AB AC list4 AQ some1 AR AS AT fr out x0 x1 x2 x3 x4 x r=>if x<5 then qL (Vj m q sizes mask Aw AA AB AC list4 AQ some1 AR AS AT) λk1=>qL (w (x+1)) λk2=>if x=0 then if x0=true then qN out (r (k1 false (out++[Aw]) true x1 x2 x3 x4 k2))else r (k1 fr out false x1 x2 x3 x4 k2)else if x=1 then if x1=true then qN out (r (k1 false (out++[AA]) x0 true x2 x3 x4 k2))else r (k1 fr out x0 false x2 x3 x4 k2)else if x=2 then if x2=true then qN out (r (k1 false (out++[AB]) x0 x1 true x3 x4 k2))else r (k1 fr out x0 x1 false x3 x4 k2)else if x=3 then if x3=true then qN out (r (k1 false (out++[AC]) x0 x1 x2 true x4 k2))else r (k1 fr out x0 x1 x2 false x4 k2)else if x=4 then if x4=true then qN out (r (k1 false (out++[list4]) x0 x1 x2 x3 true k2))else r (k1 fr out x0 x1 x2 x3 false k2)else False else r (some (.own 1,[WW m q sizes mask Aw AA AB AC list4 AQ some1 AR AS AT,.arr 77 4 fr (out.map Zd.c)])):=by
 refine qu ?_;intro m q sizes mask Aw AA AB AC list4 AQ some1 AR AS AT fr out x0 x1 x2 x3 x4 x r;unfold Im;intro h;unfold Vj
 try simp only[Aq]
 rw[Zl ZzK.eq_1];by_cases q1:x<5
 .rw[Ya q1]at h;by_cases q2:x=0
  .rw[Ya q2]at h;subst q2;by_cases q3:x0=true
   .rw[Ya q3]at h;obtain⟨q4,h⟩:=h;have rq4:=Vf (b:=48) q4 Z;have sq4:=Vg q4
    try simp[*]at rq4
    try simp[*]at sq4
    refine Ye ?_ h;clear h;simp +decide[*,tI,Av,Vj,KN,Aq]
   .rw[Yb q3]at h;refine Ye ?_ h;clear h;simp +decide[*,tI,Av,Vj,KN,Aq]
  .rw[Yb q2]at h;replace q2:=eq_false q2;by_cases q5:x=1
   .rw[Ya q5]at h;subst q5;by_cases q6:x1=true
    .rw[Ya q6]at h;obtain⟨q7,h⟩:=h;have rq7:=Vf (b:=48) q7 Z;have sq7:=Vg q7
     try simp[*]at rq7
     try simp[*]at sq7
     refine Ye ?_ h;clear h;simp +decide[*,tI,Av,Vj,KN,Aq]
    .rw[Yb q6]at h;refine Ye ?_ h;clear h;simp +decide[*,tI,Av,Vj,KN,Aq]
   .rw[Yb q5]at h;replace q5:=eq_false q5;by_cases q8:x=2
    .rw[Ya q8]at h;subst q8;by_cases q9:x2=true
     .rw[Ya q9]at h;obtain⟨q10,h⟩:=h;have Mu:=Vf (b:=48) q10 Z;have Mv:=Vg q10
      try simp[*]at Mu
      try simp[*]at Mv
      refine Ye ?_ h;clear h;simp +decide[*,tI,Av,Vj,KN,Aq]
     .rw[Yb q9]at h;refine Ye ?_ h;clear h;simp +decide[*,tI,Av,Vj,KN,Aq]
    .rw[Yb q8]at h;replace q8:=eq_false q8;by_cases q11:x=3
     .rw[Ya q11]at h;subst q11;by_cases q12:x3=true
      .rw[Ya q12]at h;obtain⟨q13,h⟩:=h;have AaX:=Vf (b:=48) q13 Z;have AaY:=Vg q13
       try simp[*]at AaX
       try simp[*]at AaY
       refine Ye ?_ h;clear h;simp +decide[*,tI,Av,Vj,KN,Aq]
      .rw[Yb q12]at h;refine Ye ?_ h;clear h;simp +decide[*,tI,Av,Vj,KN,Aq]
     .rw[Yb q11]at h;replace q11:=eq_false q11;by_cases Bv:x=4
      .rw[Ya Bv]at h;subst Bv;by_cases BN:x4=true
       .rw[Ya BN]at h;obtain⟨q16,h⟩:=h;have AaZ:=Vf (b:=48) q16 Z;have Aa0:=Vg q16
        try simp[*]at AaZ
        try simp[*]at Aa0
        refine Ye ?_ h;clear h;simp +decide[*,tI,Av,Vj,KN,Aq]
       .rw[Yb BN]at h;refine Ye ?_ h;clear h;simp +decide[*,tI,Av,Vj,KN,Aq]
      .rw[Yb Bv]at h;replace Bv:=eq_false Bv;cases h
 .rw[Yb q1]at h;refine Ye ?_ h;clear h;simp +decide[*,tI,Av,ZzL,Aq]
abbrev KP:=uq ZLj
def ZLk:((iM HO λm q fr table fr1 out x sizes x1 x2 r=>if x2<x1 then qG x x2 (λu1=>qL (⟨0,0,0,(⟨[]⟩:Ze)⟩:Zd) λk1=>qL (Z9B m q fr table fr1 out) λk5=>qL (iZ q u1) λk7=>qL (k7=some (.t .nil,[])/\r (k5 m q sizes u1 k1 k1 k1 k1 k1 false false false false false x sizes u1 x1 x2 0 0)) λk2=>qL (Mk m q fr table fr1 out) λk6=>qL (k6 m q sizes u1 k1 k1 k1 k1 k1 false false false false false x) λk3=>(Sh u1=some (.t .nil,[])/\(k2\/(AO k7 (λu2=>r (k3 u2 sizes u1 x1 x2 (u2.length:Int) 0)))))\/(AO (Sh u1) (λu2=>if(u2.length:Int)=1 then ∃u3,u2[0]?=some u3/\BZ (iQ u3) (λu4=>qG q.Atoms u3 (λu5=>∃u6,u5.Vars[0]?=some u6/\(qL (F7 m q sizes u1 k1 k1 k1 k1 k1 false false false false false u4 u6) λk4=>(FI k4 (λu7 u8 u9 u10 u11 u12 u13 u14 u15 u16 Bw BE Ci u20=>(k7=some (.t .nil,[])/\r (k5 u7 u8 u9 u10 u11 u12 u13 u14 u15 u16 Bw BE Ci u20 x sizes u1 x1 x2 0 0))\/(AO k7 (λu21=>r (k6 u7 u8 u9 u10 u11 u12 u13 u14 u15 u16 Bw BE Ci u20 x u21 sizes u1 x1 x2 (u21.length:Int) 0)))))\/(FJ k4 (λu7 u8 u9 u10 u11 u12 u13 u14 u15 u16 Bw BE Ci u20 u21=>(k7=some (.t .nil,[])/\r (k5 u7 u8 u9 u10 u11 u12 u13 u14 u15 u16 Bw BE Ci u20 x sizes u1 x1 x2 0 0))\/(AO k7 (λu22=>r (k6 u7 u8 u9 u10 u11 u12 u13 u14 u15 u16 Bw BE Ci u20 x u22 sizes u1 x1 x2 (u22.length:Int) 0))))))))else k2\/(AO k7 (λu3=>r (k3 u3 sizes u1 x1 x2 (u3.length:Int) 0))))))else r (jA fr1 out (out.length:Int) 0))/\
 (iM Mk λm q fr table fr1 out Gd Ge sizes mask Aw AA AB AC list4 AQ some1 AR AS AT x x1 sizes1 A3 x2 x3 x4 x5 r=>if x5<x4 then qG x1 x5 (λu1=>qG table u1 (λu2=>0<=(Z4 A3 u1)/\∃u3,table[(Z4 A3 u1).toNat]?=some u3/\∃(u4:Zd),Mh u3=some (.agg (u4.c.map .t),[])/\∃(u5:Zd),Mh u2=some (.agg (u5.c.map .t),[])/\BZ (J8 u5.Ze u4.Ze 3 0) (λu6=>qL (F7 Gd Ge sizes mask Aw AA AB AC list4 AQ some1 AR AS AT u6 (-1)) λk1=>qL (Sl m q fr table fr1 out) λk2=>(FI k1 (λu7 u8 u9 u10 u11 u12 u13 u14 u15 u16 Bw BE Ci u20=>r (k2 u7 u8 u9 u10 u11 u12 u13 u14 u15 u16 Bw BE Ci u20 u4.Ze x x1 sizes1 A3 u1 u2 u3 x2 x3 x4 x5 u2 (u2.length:Int) 0)))\/(FJ k1 (λu7 u8 u9 u10 u11 u12 u13 u14 u15 u16 Bw BE Ci u20 u21=>r (k2 u7 u8 u9 u10 u11 u12 u13 u14 u15 u16 Bw BE Ci u20 u4.Ze x x1 sizes1 A3 u1 u2 u3 x2 x3 x4 x5 u2 (u2.length:Int) 0))))))else ∃u1,∃(u2:List Zd),i7 Gd Ge sizes mask Aw AA AB AC list4 AQ some1 AR AS AT=some (.own 1,[WW Gd Ge sizes mask Aw AA AB AC list4 AQ some1 AR AS AT,.arr 77 4 u1 (u2.map Zd.c)])/\qG table A3 (λu3=>out.length+u2.length<=68719476736/\r (HO m q (fr && u1) (table.set A3.toNat u2) (fr1 && flat (u2.map Zd.c)) (out++u2) x sizes1 x2 (w (x3+1))))))/\
 ((iM jA λfr out x x1 r=>if x1<x then qG out x1 (λu1=>BZ (F8 u1.Ze) (λu2=>r (jA fr (out.set x1.toNat (⟨u1.Mask,u1.Order,u1.Cost,(⟨u2⟩:Ze)⟩:Zd)) x (w (x1+1)))))else r (some (.own 0,[.arr 77 4 fr (out.map Zd.c)])))/\
 ((iM Sl λm q fr table fr1 out Gd Ge sizes mask Aw AA AB AC list4 AQ some1 AR AS AT y x x1 sizes1 A3 x2 left right x3 x4 x5 x6 x7 x8 x9 r=>if x9<x8 then qG x7 x9 (λu1=>BZ (J8 u1.Ze y 5 0) (λu2=>qL (F7 Gd Ge sizes mask Aw AA AB AC list4 AQ some1 AR AS AT u2 u1.Order) λk1=>qL (Sl m q fr table fr1 out) λk2=>(FI k1 (λu3 u4 u5 u6 u7 u8 u9 u10 u11 u12 u13 u14 u15 u16=>r (k2 u3 u4 u5 u6 u7 u8 u9 u10 u11 u12 u13 u14 u15 u16 y x x1 sizes1 A3 x2 left right x3 x4 x5 x6 x7 x8 (w (x9+1)))))\/(FJ k1 (λu3 u4 u5 u6 u7 u8 u9 u10 u11 u12 u13 u14 u15 u16 Bw=>r (k2 u3 u4 u5 u6 u7 u8 u9 u10 u11 u12 u13 u14 u15 u16 y x x1 sizes1 A3 x2 left right x3 x4 x5 x6 x7 x8 (w (x9+1)))))))else AO (Mi q x2 (Z4 A3 x2)) (λu1=>r (Sn m q fr table fr1 out Gd Ge sizes mask Aw AA AB AC list4 AQ some1 AR AS AT x x1 u1 sizes1 A3 left right x3 x4 x5 x6 (u1.length:Int) 0)))/\
 (iM Sn λm q fr table fr1 out Gd Ge sizes mask Aw AA AB AC list4 AQ some1 AR AS AT x x1 x2 sizes1 A3 left right x3 x4 x5 x6 x7 x8 r=>if x8<x7 then qG x2 x8 (λu1=>qL (F7 Gd Ge sizes mask Aw AA AB AC list4 AQ some1 AR AS AT) λk1=>qL (Sn m q fr table fr1 out) λk2=>qL (w (x8+1)) λk3=>qL (Mj m q sizes1) λk5=>qL (k5 right u1) λk4=>(∃(u2:Ze),k5 left u1=some (.agg (u2.c.map .t),[])/\((∃(u3:Ze),k4=some (.agg (u3.c.map .t),[])/\BZ (J8 u2 u3 4 u1) (λu4=>(FI (k1 u4 u1) (λu5 u6 u7 u8 u9 u10 u11 u12 u13 u14 u15 u16 Bw BE=>r (k2 u5 u6 u7 u8 u9 u10 u11 u12 u13 u14 u15 u16 Bw BE x x1 x2 sizes1 A3 left right x3 x4 x5 x6 x7 k3)))\/(FJ (k1 u4 u1) (λu5 u6 u7 u8 u9 u10 u11 u12 u13 u14 u15 u16 Bw BE Ci=>r (k2 u5 u6 u7 u8 u9 u10 u11 u12 u13 u14 u15 u16 Bw BE x x1 x2 sizes1 A3 left right x3 x4 x5 x6 x7 k3)))))\/(BZ k4 (λu3=>BZ (J8 u2 (⟨u3⟩:Ze) 4 u1) (λu4=>(FI (k1 u4 u1) (λu5 u6 u7 u8 u9 u10 u11 u12 u13 u14 u15 u16 Bw BE=>r (k2 u5 u6 u7 u8 u9 u10 u11 u12 u13 u14 u15 u16 Bw BE x x1 x2 sizes1 A3 left right x3 x4 x5 x6 x7 k3)))\/(FJ (k1 u4 u1) (λu5 u6 u7 u8 u9 u10 u11 u12 u13 u14 u15 u16 Bw BE Ci=>r (k2 u5 u6 u7 u8 u9 u10 u11 u12 u13 u14 u15 u16 Bw BE x x1 x2 sizes1 A3 left right x3 x4 x5 x6 x7 k3))))))))\/(BZ (k5 left u1) (λu2=>(∃(u3:Ze),k4=some (.agg (u3.c.map .t),[])/\BZ (J8 (⟨u2⟩:Ze) u3 4 u1) (λu4=>(FI (k1 u4 u1) (λu5 u6 u7 u8 u9 u10 u11 u12 u13 u14 u15 u16 Bw BE=>r (k2 u5 u6 u7 u8 u9 u10 u11 u12 u13 u14 u15 u16 Bw BE x x1 x2 sizes1 A3 left right x3 x4 x5 x6 x7 k3)))\/(FJ (k1 u4 u1) (λu5 u6 u7 u8 u9 u10 u11 u12 u13 u14 u15 u16 Bw BE Ci=>r (k2 u5 u6 u7 u8 u9 u10 u11 u12 u13 u14 u15 u16 Bw BE x x1 x2 sizes1 A3 left right x3 x4 x5 x6 x7 k3)))))\/(BZ k4 (λu3=>BZ (J8 (⟨u2⟩:Ze) (⟨u3⟩:Ze) 4 u1) (λu4=>(FI (k1 u4 u1) (λu5 u6 u7 u8 u9 u10 u11 u12 u13 u14 u15 u16 Bw BE=>r (k2 u5 u6 u7 u8 u9 u10 u11 u12 u13 u14 u15 u16 Bw BE x x1 x2 sizes1 A3 left right x3 x4 x5 x6 x7 k3)))\/(FJ (k1 u4 u1) (λu5 u6 u7 u8 u9 u10 u11 u12 u13 u14 u15 u16 Bw BE Ci=>r (k2 u5 u6 u7 u8 u9 u10 u11 u12 u13 u14 u15 u16 Bw BE x x1 x2 sizes1 A3 left right x3 x4 x5 x6 x7 k3)))))))))else r (Mk m q fr table fr1 out Gd Ge sizes mask Aw AA AB AC list4 AQ some1 AR AS AT x x1 sizes1 A3 x3 x4 x5 (w (x6+1)))))):=by
 refine qu ?_
 and_intros
 all_goals(intros;unfold Im;(try simp only[HO,Mk,jA,Sl,Sn,Sh,iZ,iQ,F7,Zf.c_def,Zz.c_def,Ze.c_def,Zd.c_def,Zk.c_def,Zc.c_def,ZFs,Mh,J8,i7,F8,Mi,Mj,Z9B,Aq,Zp8,ZzX,Zp9,Bc,A8]);(try simp only[Bd]);(try simp only[Be,gS,kk]))
 all_goals(repeat' first|refine Bp λ_=>?_|refine Bn λ_ _=>?_|refine Bm λ_=>?_|refine AH ?_ ?_|exact False.elim)
 all_goals(intro h;first|rw[Zl Zp6.eq_1]|rw[Zl i9.eq_1]|rw[Zl ZzU.eq_1]|rw[Zl ZzP.eq_1]|rw[Zl ZzQ.eq_1])
 all_goals (refine Ye ?_ h;clear h;simp +decide[*,kk,tI,Av,Z9A,ZzW,ZzT,ZzS,ZzV,ZzR,Zp5])
abbrev JA:=uq ZLk
def ZLl:iM Sk λa a1 a2 r=>qB (Sf a) (qB (Me a1 a2) (qI (UP a1) (λu3=>qL (w (u3+1)) λk1=>0<=k1/\k1<=k1/\k1.toNat*24<=room/\k1<=140737488355328/\AO (iP a1) (λu4=>r (HO a a1 true (List.replicate k1.toNat ([])) true ([]:List Zd) u4 a2 (u4.length:Int) 0)))) (KC r)) (KC r):=by
 refine qu ?_;intro a a1 a2 r;unfold Im;intro h;unfold Sk
 try simp only[Aq]
 refine run ZJ6 rfl ?_;obtain⟨v,q1,h⟩:=h;unfold Sf at q1
 try simp[Aq]at q1
 by_cases q2:v=true
 .rw[Ya q2]at h;obtain⟨v1,q3,h⟩:=h;unfold Me at q3
  try simp[Aq]at q3
  by_cases q4:v1=true
  .rw[Ya q4]at h;obtain⟨v2,q5,h⟩:=h;unfold UP at q5
   try simp[Aq]at q5
   obtain⟨q6,h⟩:=h;obtain⟨q7,h⟩:=h;obtain⟨q8,h⟩:=h;have j7:=q8;try simp[Aq]at j7
   obtain⟨q9,h⟩:=h;obtain⟨v3,q10,h⟩:=h;unfold iP at q10
   try simp[Aq]at q10
   refine Ye ?_ h;clear h;simp +decide[*,Zp7,tI,Av,HO,Zp8,Aq]
  .rw[Yb q4]at h;refine Ye ?_ h;clear h;simp +decide[*,Zp7,tI,Av,Aq]
 .rw[Yb q2]at h;refine Ye ?_ h;clear h;simp +decide[*,Zp7,tI,Av,Aq]
abbrev ZLm:=uq ZLl
