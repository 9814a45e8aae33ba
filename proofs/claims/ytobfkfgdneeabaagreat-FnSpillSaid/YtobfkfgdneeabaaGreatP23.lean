/-
  Parts of the proofs for this seat: G25 G26 G27.
-/
import Derived.Test.YtobfkfgdneeabaaGreatP13
import Derived.Test.YtobfkfgdneeabaaGreatP14
set_option linter.all false
set_option maxRecDepth 100000
set_option maxHeartbeats 4000000
namespace Go.Proofs.YtobfkfgdneeabaaGreat
open Go.AM
def ZOs:((iM nF λo left right budget k r=>if k<=7 then qI (KL k) (λu1=>qI (Ik o left right u1) (λu2=>if u2<=budget then r (nF o left right budget (w (k+1)))else qi k r))else qi k r)/\
 (iM W8 λa a1 a2 a3 r=>r (nF a a1 a2 a3 0)))/\
 ((iM ZpS λa r=>Vb (Is a) (λu1=>∃(u2:XS),ZzT u1=some (.tup [],[.arr 38 1 true (u2.map Ae)])/\∃(u3:XS),ZzU u2=some (.own 1,[.dead,.arr 38 1 true (u3.map Ae)])/\Q6 u3 r))/\
 ((iM KO λa r=>qB (QD a) (AX (VX a.Vars) (λu2=>Vb (ZpS a.Rows) (λu3=>VR u2 u3 r))) (BQ r))/\
 (iM nI λa a1 a2 a3 a4 r=>qL (R4 ([]:List Zu) ([]:V2) ([]:XS) r) λk1=>(Nq a1 a2 a3=some (.tup [.t .nil,.t .nil,Bo false],[])/\k1)\/(∃(u1:List Zf),∃u2,∃(u3:List Ze),Nq a1 a2 a3=some (.tup [.own 0,.own 1,Bo true],[.arr 81 4 true (u1.map Zf.c),.arr 134 2 u2 (u3.map Ze.c)])/\qB (M4 a) (qB (Xd a4 0 1000000000000) (r (Nu a a3 false 0 0 u1 u2 u3 false 0 0 a4 a3.Steps (a3.Steps.length:Int) 0)) k1) k1)))):=by
 refine qu ?_
 and_intros
 all_goals(intros;unfold Im;(try simp only[nF,W8,ZpS,KO,nI,KL,Ik,Zy.c_def,Is,ZzT,ZzU,QD,VX,Ze.c_def,Nq,M4,Xd,Zj.c_def,Zt.c_def,Zr.c_def,Zc.c_def,Nu,Bm,ZzV,A7,AY]);(try simp only[AZ]);(try simp only[A0,gS,kk]))
 all_goals(repeat' first|refine Bs λ_=>?_|refine Br λ_ _=>?_|refine Bq λ_=>?_|refine AL ?_ ?_|exact False.elim)
 all_goals(intro h;first|rw[Zk ZzR.eq_1]|refine run ZLZ rfl ?_|refine run ZMa rfl ?_|refine run ZMb rfl ?_|refine run ZMc rfl ?_)
 all_goals (refine Yd ?_ h;clear h;simp +decide[*,kk,tI,Ax,ZzS,ZAT,ZAU,ZAV,ZAW])
abbrev IU:=uq ZOs
def ZOt:iM Nu λm p Done Cost Steps info fr l AP AN Av budget x x1 x2 r=>qL ([]:V2) λk2=>qL ([]:List Zu) λk4=>if x2<x1 then qG x x2 (λu1=>∃u2 u3 u4,GU info l x2=some (.tup [I u2,I u3,I u4],[])/\qI (Nt m p info l x2) (λu5=>qL (w (budget-AN)) λk1=>if k1<u5 then if 3<=u1.Kind then Ko m=some (.bsl 1 5,[.box (m.c.map .t),.box [.ptr 0 0,.ptr 0 6,.ptr 0 12,.ptr 0 18,.ptr 0 24]])/\qL (w (u1.Kind-1)) λk3=>if k3=0 then qI (W8 m.Scan u2 u3 k1) (λu6=>qH info x2 (λu7=>r (some (.tup [.agg [Bo AP,I budget,I Av,L 3 (([(⟨u7.Mask,u6,false⟩:Zu)]).map Zu.c),L 1 (k2.map ic),L 1 (([]:XS).map Ae)],Bo true],[]))))else if k3=1 then qI (W8 m.Sort_ u2 u3 k1) (λu6=>qH info x2 (λu7=>r (some (.tup [.agg [Bo AP,I budget,I Av,L 3 (([(⟨u7.Mask,u6,false⟩:Zu)]).map Zu.c),L 1 (k2.map ic),L 1 (([]:XS).map Ae)],Bo true],[]))))else if k3=2 then qI (W8 m.Hash u2 u3 k1) (λu6=>qH info x2 (λu7=>r (some (.tup [.agg [Bo AP,I budget,I Av,L 3 (([(⟨u7.Mask,u6,false⟩:Zu)]).map Zu.c),L 1 (k2.map ic),L 1 (([]:XS).map Ae)],Bo true],[]))))else if k3=3 then qI (W8 m.Merge u2 u3 k1) (λu6=>qH info x2 (λu7=>r (some (.tup [.agg [Bo AP,I budget,I Av,L 3 (([(⟨u7.Mask,u6,false⟩:Zu)]).map Zu.c),L 1 (k2.map ic),L 1 (([]:XS).map Ae)],Bo true],[]))))else if k3=4 then qI (W8 m.Nested u2 u3 k1) (λu6=>qH info x2 (λu7=>r (some (.tup [.agg [Bo AP,I budget,I Av,L 3 (([(⟨u7.Mask,u6,false⟩:Zu)]).map Zu.c),L 1 (k2.map ic),L 1 (([]:XS).map Ae)],Bo true],[]))))else False else r (some (.tup [.agg [Bo AP,I budget,I Av,L 3 (k4.map Zu.c),L 1 (k2.map ic),L 1 (([]:XS).map Ae)],Bo true],[]))else if 3<=u1.Kind then qH info x2 (λu6=>qH l x2 (λu7=>qI (IB (u7.Rows.length:Int)) (λu8=>r (IC m p Done Cost Steps info fr l AP (w (AN+u5)) (w (Av+1)) ([(⟨u6.Mask,u8,true⟩:Zu)]) budget x x1 (w (x2+1))))))else r (Nu m p Done Cost Steps info fr l AP (w (AN+u5)) (w (Av+1)) budget x x1 (w (x2+1)))))else qL (w ((l.length:Int)-1)) λk5=>0<=k5/\∃u1,l[k5.toNat]?=some u1/\((Vm (KO u1) (λu2 u3=>r (some (.tup [.agg [Bo true,I AN,I Av,L 3 (k4.map Zu.c),L 1 (u2.map ic),L 1 (u3.map Ae)],Bo true],[]))))\/(KO u1=some (.tup [.agg [.t .nil,.t .nil],Bo false],[])/\r (some (.tup [.agg [Bo true,I AN,I Av,L 3 (k4.map Zu.c),L 1 (k2.map ic),L 1 (([]:XS).map Ae)],Bo true],[])))):=by
 refine qu ?_;intro m p Done Cost Steps info fr l AP AN Av budget x x1 x2 r;unfold Im;intro h;unfold Nu;(try simp only[ZzV,Bm]);rw[Zk ZpT.eq_1];by_cases q1:x2<x1
 .rw[Ya q1]at h;obtain⟨q2,h⟩:=h;obtain⟨e1,q3,h⟩:=h;have gq3:=Wk q3;have kq3:=Ws q3;obtain⟨v,v1,v2,q4,h⟩:=h;unfold GU at q4
  try simp[Bm]at q4
  obtain⟨v3,q5,h⟩:=h;unfold Nt at q5
  try simp[Bm]at q5
  by_cases q6:(w (budget-AN))<v3
  .rw[Ya q6]at h;by_cases q7:3<=e1.Kind
   .rw[Ya q7]at h;obtain⟨q8,h⟩:=h;unfold Ko at q8
    try simp[Bm]at q8
    by_cases q9:(w (e1.Kind-1))=0
    .rw[Ya q9]at h;obtain⟨v4,q10,h⟩:=h;unfold W8 at q10
     try simp[Bm]at q10
     obtain⟨e6,q11,h⟩:=h;have pD:=Wk q11;have pE:=Ws q11;refine Yd ?_ h;clear h;simp +decide[*,tI,Ax,QF,Bm]
    .rw[Yb q9]at h;replace q9:=eq_false q9;by_cases q12:(w (e1.Kind-1))=1
     .rw[Ya q12]at h;obtain⟨v5,q13,h⟩:=h;unfold W8 at q13
      try simp[Bm]at q13
      obtain⟨e8,BK,h⟩:=h;have Ab0:=Wk BK;have Ab1:=Ws BK;refine Yd ?_ h;clear h;simp +decide[*,tI,Ax,QF,Bm]
     .rw[Yb q12]at h;replace q12:=eq_false q12;by_cases B9:(w (e1.Kind-1))=2
      .rw[Ya B9]at h;obtain⟨v6,q16,h⟩:=h;unfold W8 at q16
       try simp[Bm]at q16
       obtain⟨e10,CU,h⟩:=h;have Ab2:=Wk CU;have Ab3:=Ws CU;refine Yd ?_ h;clear h;simp +decide[*,tI,Ax,QF,Bm]
      .rw[Yb B9]at h;replace B9:=eq_false B9;by_cases Ca:(w (e1.Kind-1))=3
       .rw[Ya Ca]at h;obtain⟨v7,CV,h⟩:=h;unfold W8 at CV
        try simp[Bm]at CV
        obtain⟨e12,D1,h⟩:=h;have Ab4:=Wk D1;have Ab5:=Ws D1;refine Yd ?_ h;clear h;simp +decide[*,tI,Ax,QF,Bm]
       .rw[Yb Ca]at h;replace Ca:=eq_false Ca;by_cases DR:(w (e1.Kind-1))=4
        .rw[Ya DR]at h;obtain⟨v8,q22,h⟩:=h;unfold W8 at q22
         try simp[Bm]at q22
         obtain⟨e14,q23,h⟩:=h;have AaO:=Wk q23;have AaP:=Ws q23;refine Yd ?_ h;clear h;simp +decide[*,tI,Ax,QF,Bm]
        .rw[Yb DR]at h;replace DR:=eq_false DR;cases h
   .rw[Yb q7]at h;refine Yd ?_ h;clear h;simp +decide[*,tI,Ax,QF,Bm]
  .rw[Yb q6]at h;by_cases q24:3<=e1.Kind
   .rw[Ya q24]at h;obtain⟨e15,Ee,h⟩:=h;have Ab6:=Wk Ee;have Ab7:=Ws Ee;obtain⟨e16,Ef,h⟩:=h;have Ab8:=Wk Ef;have Ab9:=Ws Ef;obtain⟨v9,GZ,h⟩:=h;unfold IB at GZ
    try simp[Bm]at GZ
    refine Yd ?_ h;clear h;simp +decide[*,tI,Ax,IC,nH,ZzV,Bm]
   .rw[Yb q24]at h;refine Yd ?_ h;clear h;simp +decide[*,tI,Ax,Nu,nH,ZzV,Bm]
 .rw[Yb q1]at h;obtain⟨NV,h⟩:=h;have AaQ:=NV;try simp[Bm]at AaQ
  obtain⟨e18,IQ,h⟩:=h;have Aca:=Wk IQ;have Acb:=Ws IQ;rcases h with h|h
  .obtain⟨v10,v11,q30,h⟩:=h;unfold KO at q30
   try simp[Bm]at q30
   refine Yd ?_ h;clear h;simp +decide[*,tI,Ax,T9,Bm]
  .obtain⟨IR,h⟩:=h;unfold KO at IR
   try simp[Bm]at IR
   refine Yd ?_ h;clear h;simp +decide[*,tI,Ax,T9,Bm]
abbrev ZCx:=uq ZOt
def ZOu:iM IC λm p Done Cost Steps info fr l AP AN Av x budget x1 x2 x3 r=>qL ([]:V2) λk2=>if x3<x2 then qG x1 x3 (λu1=>∃u2 u3 u4,GU info l x3=some (.tup [I u2,I u3,I u4],[])/\qI (Nt m p info l x3) (λu5=>qL (w (budget-AN)) λk1=>if k1<u5 then if 3<=u1.Kind then Ko m=some (.bsl 1 5,[.box (m.c.map .t),.box [.ptr 0 0,.ptr 0 6,.ptr 0 12,.ptr 0 18,.ptr 0 24]])/\qL (w (u1.Kind-1)) λk4=>if k4=0 then qI (W8 m.Scan u2 u3 k1) (λu6=>qH info x3 (λu7=>qN x (r (some (.tup [.agg [Bo AP,I budget,I Av,L 3 ((x++[(⟨u7.Mask,u6,false⟩:Zu)]).map Zu.c),L 1 (k2.map ic),L 1 (([]:XS).map Ae)],Bo true],[])))))else if k4=1 then qI (W8 m.Sort_ u2 u3 k1) (λu6=>qH info x3 (λu7=>qN x (r (some (.tup [.agg [Bo AP,I budget,I Av,L 3 ((x++[(⟨u7.Mask,u6,false⟩:Zu)]).map Zu.c),L 1 (k2.map ic),L 1 (([]:XS).map Ae)],Bo true],[])))))else if k4=2 then qI (W8 m.Hash u2 u3 k1) (λu6=>qH info x3 (λu7=>qN x (r (some (.tup [.agg [Bo AP,I budget,I Av,L 3 ((x++[(⟨u7.Mask,u6,false⟩:Zu)]).map Zu.c),L 1 (k2.map ic),L 1 (([]:XS).map Ae)],Bo true],[])))))else if k4=3 then qI (W8 m.Merge u2 u3 k1) (λu6=>qH info x3 (λu7=>qN x (r (some (.tup [.agg [Bo AP,I budget,I Av,L 3 ((x++[(⟨u7.Mask,u6,false⟩:Zu)]).map Zu.c),L 1 (k2.map ic),L 1 (([]:XS).map Ae)],Bo true],[])))))else if k4=4 then qI (W8 m.Nested u2 u3 k1) (λu6=>qH info x3 (λu7=>qN x (r (some (.tup [.agg [Bo AP,I budget,I Av,L 3 ((x++[(⟨u7.Mask,u6,false⟩:Zu)]).map Zu.c),L 1 (k2.map ic),L 1 (([]:XS).map Ae)],Bo true],[])))))else False else r (some (.tup [.agg [Bo AP,I budget,I Av,L 3 (x.map Zu.c),L 1 (k2.map ic),L 1 (([]:XS).map Ae)],Bo true],[]))else qL (IC m p Done Cost Steps info fr l AP (w (AN+u5)) (w (Av+1))) λk3=>if 3<=u1.Kind then qH info x3 (λu6=>qH l x3 (λu7=>qI (IB (u7.Rows.length:Int)) (λu8=>qN x (r (k3 (x++[(⟨u6.Mask,u8,true⟩:Zu)]) budget x1 x2 (w (x3+1)))))))else r (k3 x budget x1 x2 (w (x3+1)))))else qL (w ((l.length:Int)-1)) λk5=>0<=k5/\∃u1,l[k5.toNat]?=some u1/\((Vm (KO u1) (λu2 u3=>r (some (.tup [.agg [Bo true,I AN,I Av,L 3 (x.map Zu.c),L 1 (u2.map ic),L 1 (u3.map Ae)],Bo true],[]))))\/(KO u1=some (.tup [.agg [.t .nil,.t .nil],Bo false],[])/\r (some (.tup [.agg [Bo true,I AN,I Av,L 3 (x.map Zu.c),L 1 (k2.map ic),L 1 (([]:XS).map Ae)],Bo true],[])))):=by
 refine qu ?_;intro m p Done Cost Steps info fr l AP AN Av x budget x1 x2 x3 r;unfold Im;intro h;unfold IC;(try simp only[ZzV,Bm]);rw[Zk ZpT.eq_1];by_cases q1:x3<x2
 .rw[Ya q1]at h;obtain⟨q2,h⟩:=h;obtain⟨e1,q3,h⟩:=h;have gq3:=Wk q3;have kq3:=Ws q3;obtain⟨v,v1,v2,q4,h⟩:=h;unfold GU at q4
  try simp[Bm]at q4
  obtain⟨v3,q5,h⟩:=h;unfold Nt at q5
  try simp[Bm]at q5
  by_cases q6:(w (budget-AN))<v3
  .rw[Ya q6]at h;by_cases q7:3<=e1.Kind
   .rw[Ya q7]at h;obtain⟨q8,h⟩:=h;unfold Ko at q8
    try simp[Bm]at q8
    by_cases q9:(w (e1.Kind-1))=0
    .rw[Ya q9]at h;obtain⟨v4,q10,h⟩:=h;unfold W8 at q10
     try simp[Bm]at q10
     obtain⟨e6,q11,h⟩:=h;have pD:=Wk q11;have pE:=Ws q11;obtain⟨q12,h⟩:=h;have AaR:=Q3 (b:=24) q12 E;have AaS:=Q4 q12
     try simp[*]at AaR
     try simp[*]at AaS
     refine Yd ?_ h;clear h;simp +decide[*,tI,Ax,QF,Bm]
    .rw[Yb q9]at h;replace q9:=eq_false q9;by_cases q13:(w (e1.Kind-1))=1
     .rw[Ya q13]at h;obtain⟨v5,BK,h⟩:=h;unfold W8 at BK
      try simp[Bm]at BK
      obtain⟨e8,B9,h⟩:=h;have Acd:=Wk B9;have Ace:=Ws B9;obtain⟨q16,h⟩:=h;have AaT:=Q3 (b:=24) q16 E;have AaU:=Q4 q16
      try simp[*]at AaT
      try simp[*]at AaU
      refine Yd ?_ h;clear h;simp +decide[*,tI,Ax,QF,Bm]
     .rw[Yb q13]at h;replace q13:=eq_false q13;by_cases CU:(w (e1.Kind-1))=2
      .rw[Ya CU]at h;obtain⟨v6,Ca,h⟩:=h;unfold W8 at Ca
       try simp[Bm]at Ca
       obtain⟨e10,CV,h⟩:=h;have Acf:=Wk CV;have Acg:=Ws CV;obtain⟨D1,h⟩:=h;have AaV:=Q3 (b:=24) D1 E;have AaW:=Q4 D1
       try simp[*]at AaV
       try simp[*]at AaW
       refine Yd ?_ h;clear h;simp +decide[*,tI,Ax,QF,Bm]
      .rw[Yb CU]at h;replace CU:=eq_false CU;by_cases DR:(w (e1.Kind-1))=3
       .rw[Ya DR]at h;obtain⟨v7,q22,h⟩:=h;unfold W8 at q22
        try simp[Bm]at q22
        obtain⟨e12,q23,h⟩:=h;have AaO:=Wk q23;have AaP:=Ws q23;obtain⟨q24,h⟩:=h;have AaX:=Q3 (b:=24) q24 E;have AaY:=Q4 q24
        try simp[*]at AaX
        try simp[*]at AaY
        refine Yd ?_ h;clear h;simp +decide[*,tI,Ax,QF,Bm]
       .rw[Yb DR]at h;replace DR:=eq_false DR;by_cases Ee:(w (e1.Kind-1))=4
        .rw[Ya Ee]at h;obtain⟨v8,Ef,h⟩:=h;unfold W8 at Ef
         try simp[Bm]at Ef
         obtain⟨e14,GZ,h⟩:=h;have Ach:=Wk GZ;have Aci:=Ws GZ;obtain⟨NV,h⟩:=h;have AaZ:=Q3 (b:=24) NV E;have Aa0:=Q4 NV
         try simp[*]at AaZ
         try simp[*]at Aa0
         refine Yd ?_ h;clear h;simp +decide[*,tI,Ax,QF,Bm]
        .rw[Yb Ee]at h;replace Ee:=eq_false Ee;cases h
   .rw[Yb q7]at h;refine Yd ?_ h;clear h;simp +decide[*,tI,Ax,QF,Bm]
  .rw[Yb q6]at h;by_cases IQ:3<=e1.Kind
   .rw[Ya IQ]at h;obtain⟨e15,q30,h⟩:=h;have Acj:=Wk q30;have Ack:=Ws q30;obtain⟨e16,IR,h⟩:=h;have Acl:=Wk IR;have Acm:=Ws IR;obtain⟨v9,q32,h⟩:=h;unfold IB at q32
    try simp[Bm]at q32
    obtain⟨q33,h⟩:=h;have Aa1:=Q3 (b:=24) q33 E;have Aa2:=Q4 q33
    try simp[*]at Aa1
    try simp[*]at Aa2
    refine Yd ?_ h;clear h;simp +decide[*,tI,Ax,IC,nH,ZzV,Bm]
   .rw[Yb IQ]at h;refine Yd ?_ h;clear h;simp +decide[*,tI,Ax,IC,nH,ZzV,Bm]
 .rw[Yb q1]at h;obtain⟨q34,h⟩:=h;have Aa3:=q34;try simp[Bm]at Aa3
  obtain⟨e18,q35,h⟩:=h;have Acn:=Wk q35;have Aco:=Ws q35;rcases h with h|h
  .obtain⟨v10,v11,q36,h⟩:=h;unfold KO at q36
   try simp[Bm]at q36
   refine Yd ?_ h;clear h;simp +decide[*,tI,Ax,T9,Bm]
  .obtain⟨q37,h⟩:=h;unfold KO at q37
   try simp[Bm]at q37
   refine Yd ?_ h;clear h;simp +decide[*,tI,Ax,T9,Bm]
abbrev ZCy:=uq ZOu
def ZOv:((((iM YA λa a1 a2 a3 a4 a5 r=>∃(u1:Zr),∃u2,Iv a2 a3 a4=some (.tup [.agg (u1.c.map .t),Bo u2],[])/\if u2=true then Sb (nI a a1 a2 u1 a5) (λu3 u4=>r (some (.tup [.agg (u3.c.map .t),Bo u4],[])))else R4 ([]:List Zu) ([]:V2) ([]:XS) r)/\
 (iM ZpU λa a1 r=>Qe (M0 a) (λu1 u2=>qL (z6 u1 u2 r) λk3=>qB (Iu a) (qB (Xd a1.Mask 0 (w ((a.Low.length:Int)-1))) (qG u1 a1.Mask (λu5=>qL (u1.set a1.Mask.toNat (if u5<a1.Class then a1.Class else u5)) λk1=>if a1.Exact=true then qH u2 a1.Mask (λu6=>qL (u2.set a1.Mask.toNat (if a1.Class<u6 then a1.Class else u6)) λk2=>qB (Iu (⟨k1,k2⟩:Box)) (Sc k1 k2 r) k3)else qB (Iu (⟨k1,u2⟩:Box)) (Sc k1 u2 r) k3)) k3) k3)))/\
 ((iM YB λx x1 n x2 x3 x4 r=>if x4<x3 then qG x2 x4 (λu1=>Znu (ZpU (⟨x,x1⟩:Box) u1) (λu2 u3 u4=>if u4=true then r (YB u2 u3 (w (n+1)) x2 x3 (w (x4+1)))else r (YB x x1 n x2 x3 (w (x4+1)))))else Znv n x x1 r)/\
 (iM ZpW λa a1 r=>Qe (M0 a) (λu1 u2=>r (YB u1 u2 0 a1 (a1.length:Int) 0)))))/\
 (((iM YC λm db q p x x1 budget total i r=>if i<4 then qI (M8 q p (⟨x,x1⟩:Box)) (λu1=>if u1=0 then H1 x x1 total r else Sb (YA m db q p u1 budget) (λu2 u3=>Znw (ZpW (⟨x,x1⟩:Box) u2.Seen) (λu4 u5 u6=>if u2.Done=true then r (YC m db q p u4 u5 budget (w (total+u2.Cost)) (w (i+1)))else H1 u4 u5 (w (total+u2.Cost)) r)))else H1 x x1 total r)/\
 (iM nJ λa a1 a2 a3 a4 a5 r=>Qe (M0 a4) (λu1 u2=>qL (JY u1 u2 r) λk1=>qB (M4 a) (qB (GK a1 a2) (qB (mL a2 a3) (qB (TX a2 a4) (qB (Xd a5 0 1000000000000) (r (YC a a1 a2 a3 u1 u2 a5 0 0)) k1) k1) k1) k1) k1)))/\
 ((iM ID λa a1 r=>if a1=1 then r (some (.agg (a.Scan.c.map .t),[]))else if a1=2 then r (some (.agg (a.Sort_.c.map .t),[]))else if a1=3 then r (some (.agg (a.Hash.c.map .t),[]))else if a1=4 then r (some (.agg (a.Merge.c.map .t),[]))else r (some (.agg (a.Nested.c.map .t),[])))/\
 ((iM GV λa r=>qV (Z0 a (-99) 99) (λu1=>qb u1 r))/\
 (iM Nv λo i r=>if i<(o.Steps.length:Int)then qG o.Steps i (λu1=>qB (Z0 u1.From 1 8192) (qB (GV u1.Add) (if 0<i then 0<=(w (i-1))/\∃u4,o.Steps[(w (i-1)).toNat]?=some u4/\if u1.From<=u4.From then qb false r else r (Nv o (w (i+1)))else r (Nv o (w (i+1)))) (qb false r)) (qb false r))else qb true r)))))/\
 ((((iM IE λa r=>qL (qb false r) λk1=>qB (GV a.Fixed) (qB (GV a.Vj) (qB (GV a.Vk) (qB (GV a.Vl) (qB (GV a.Vv) (if 4<(a.Steps.length:Int)then k1 else r (Nv a 0)) k1) k1) k1) k1) k1)/\
 (iM Nw λo l Bd n i r=>if i<(o.Steps.length:Int)then qG o.Steps i (λu1=>if u1.From<=(w (l+Bd))then r (Nw o l Bd (w (n+u1.Add)) (w (i+1)))else r (Nw o l Bd n (w (i+1))))else qi n r))/\
 ((iM GX λa a1 a2 a3 r=>qB (IE a) (qB (Z0 a1 0 4096) (qB (Z0 a2 0 4096) (qB (Z0 a3 0 4096) (r (Nw a a1 a2 (w ((w ((w ((w (a.Fixed+(w (a.Vj*a1))))+(w (a.Vk*a2))))+(w (a.Vl*a3))))+(w ((w (a.Vv*a1))*a2)))) 0)) (qi 0 r)) (qi 0 r)) (qi 0 r)) (qi 0 r))/\
 (iM Nx λa a1 r=>∃u1,a1[0]?=some u1/\qI (Kn u1) (λu2=>∃u3,a1[1]?=some u3/\qI (Kn u3) (λu4=>∃u5,a1[2]?=some u5/\qI (Kn u5) (λu6=>qI (GX a u2 u4 u6) (λu7=>qi u7 r)))))))/\
 (((iM YD λo a r=>if a<=7 then r (YE o a 0)else Znx ([]:V2) r)/\
 (iM YE λo a b r=>if b<=7 then r (YF o a b 0)else r (YD o (w (a+1)))))/\
 ((iM YF λo a b e r=>if e<=7 then r (IF o ([a,b,e]) a b e 0)else r (YE o a (w (b+1))))/\
 ((iM IF λo x a b e k r=>if k<3 then qM x (qG x k (λu1=>qL (r (IF o x a b e (w (k+1)))) λk1=>if(w (u1+1))<=7 then qL (x.set k.toNat (w (u1+1))) λk2=>qI (Nx o k2) (λu2=>qI (Nx o x) (λu3=>if u2<u3 then r (some (.tup [.own 0,.own 1,Bo true],[.arr 3 1 true (x.map ic),.arr 3 1 true (k2.map ic)]))else k1))else k1))else r (YF o a b (w (e+1))))/\
 (iM nK λa r=>qB (IE a) (r (YD a 0)) (Znx ([]:V2) r)))))):=by
 refine qu ?_
 and_intros
 all_goals(intros;unfold Im;(try simp only[YA,ZpU,YB,ZpW,YC,nJ,ID,GV,Nv,IE,Nw,GX,Nx,YD,YE,YF,IF,nK,Iv,nI,XC.c_def,Zj.c_def,Zt.c_def,Zy.c_def,Zr.c_def,Zc.c_def,Run.c_def,M0,Iu,Xd,Box.c_def,tI,Zu.c_def,M8,M4,GK,mL,TX,Z0,Kn,Bm,Z0l,Z0m,Z0n,A7,AY]);(try simp only[AZ]);(try simp only[A0,gS,kk]))
 all_goals(repeat' first|refine Bs λ_=>?_|refine Br λ_ _=>?_|refine Bq λ_=>?_|refine AL ?_ ?_|exact False.elim)
 all_goals(intro h;first|refine run ZMd rfl ?_|refine run ZMe rfl ?_|rw[Zk ZzW.eq_1]|refine run ZMf rfl ?_|rw[Zk ZzZ.eq_1]|refine run ZMg rfl ?_|refine run ZMh rfl ?_|refine run ZMi rfl ?_|rw[Zk Z0c.eq_1]|refine run ZMj rfl ?_|rw[Zk Z0e.eq_1]|refine run ZMk rfl ?_|refine run ZMl rfl ?_|rw[Zk Zqa.eq_1]|rw[Zk ZpZ.eq_1]|rw[Zk ZpY.eq_1]|rw[Zk Z0g.eq_1]|refine run ZMm rfl ?_)
 all_goals (refine Yd ?_ h;clear h;simp +decide[*,kk,tI,Ax,ZAX,ZBa,ZAZ,ZBb,ZzX,ZBc,Z0a,ZBd,ZBe,ZBf,Z0d,ZBg,ZBh,Z0f,ZBi,ZBj,Z0k,Z0j,Z0i,Z0h,ZBk])
abbrev W0:=uq ZOv
def ZOw:((iM YG λo a r=>if a<=7 then r (YH o a 0)else Bn ([]:V2) r)/\
 ((iM YH λo a b r=>if b<=7 then r (nL o a b 0)else r (YG o (w (a+1))))/\
 (iM nL λo a b e r=>if e<=7 then qI (Nx o ([a,b,e])) (λu1=>if u1<1 then Bn ([a,b,e]) r else r (nL o a b (w (e+1))))else r (YH o a (w (b+1))))))/\
 (((iM Zqd λa r=>r (YG a 0))/\
 (iM YI λm k r=>qL ([]:V2) λk1=>if k<=5 then ∃(u1:Zy),ID m k=some (.agg (u1.c.map .t),[])/\qB (IE u1) (∃(u3:V2),∃(u4:V2),∃u5,nK u1=some (.tup [.own 0,.own 1,Bo u5],[.arr 3 1 true (u3.map ic),.arr 3 1 true (u4.map ic)])/\if u5=true then Zny k u3 u4 r else AX (Zqd u1) (λu6=>if 0<(u6.length:Int)then Zny k u6 k1 r else r (YI m (w (k+1))))) (r (some (.tup [I k,.own 0,.own 1],[.arr 3 1 true (k1.map ic),.arr 3 1 true (k1.map ic)])))else r (some (.tup [I 0,.own 0,.own 1],[.arr 3 1 true (k1.map ic),.arr 3 1 true (k1.map ic)]))))/\
 ((iM Z0x λa r=>r (YI a 1))/\
 (iM IG λa r=>∃(u1:V2),∃(u2:V2),∃u3,Z0x a=some (.tup [I u3,.own 0,.own 1],[.arr 3 1 true (u1.map ic),.arr 3 1 true (u2.map ic)])/\qb (decide (u3=0)) r))):=by
 refine qu ?_
 and_intros
 all_goals(intros;unfold Im;(try simp only[YG,YH,nL,Zqd,YI,Z0x,IG,Nx,Zy.c_def,ID,IE,nK,Zt.c_def,Bm,Z0s,Z0t,A7,AY]);(try simp only[AZ]);(try simp only[A0,gS,kk]))
 all_goals(repeat' first|refine Bs λ_=>?_|refine Br λ_ _=>?_|refine Bq λ_=>?_|refine AL ?_ ?_|exact False.elim)
 all_goals(intro h;first|rw[Zk Zqc.eq_1]|rw[Zk Zqb.eq_1]|rw[Zk Z0o.eq_1]|refine run ZMn rfl ?_|rw[Zk Z0v.eq_1]|refine run ZMo rfl ?_|refine run ZMp rfl ?_)
 all_goals (refine Yd ?_ h;clear h;simp +decide[*,kk,tI,Ax,Z0r,Z0q,Z0p,ZBl,Z0w,ZBm,ZBn])
abbrev Kt:=uq ZOw
def ZOx:((((iM nN λa a1 r=>Gk (Qh a a1) (λu1 u2=>qb u2 r))/\
 (iM nP λl i r=>if i<(l.length:Int)then qG l i (λu1=>qB (Z0 u1 0 7) (r (nP l (w (i+1)))) (qb false r))else qb (decide ((l.length:Int)<=16)) r))/\
 ((iM nO λa r=>r (nP a 0))/\
 (iM nQ λa b i r=>if i<(a.length:Int)then qG a i (λu1=>qH b i (λu2=>if u1<u2 then qb false r else r (nQ a b (w (i+1)))))else qb true r)))/\
 (((iM Nz λa a1 r=>if(a.length:Int)=(a1.length:Int)then r (nQ a a1 0)else qb false r)/\
 (iM Kq λa r=>if 0<(a.Low.length:Int)then qB (nO a.Low) (qB (nO a.High) (qV (Nz a.High a.Low) (λu3=>qb u3 r)) (qb false r)) (qb false r)else qb false r))/\
 ((iM II λa r=>qM a.Low (qM a.High (Zns a.Low a.High r)))/\
 ((iM nS λb info i r=>if i<(info.length:Int)then qG info i (λu1=>qL (r (nS b info (w (i+1)))) λk1=>if 0<=u1.Right then qG b.Low u1.Mask (λu2=>qH b.High u1.Mask (λu3=>if u2<u3 then qi u1.Mask r else k1))else k1)else qi 0 r)/\
 (iM NA λa a1 a2 r=>Gk (Qh a a1) (λu1 u2=>if u2=true then qB (Kq a2) (qI (Wv a) (λu4=>if(a2.Low.length:Int)=(w (u4+1))then r (nS a2 u1 0)else qi 0 r)) (qi 0 r)else qi 0 r))))))/\
 ((((iM nU λinfo i r=>qG info i (λu1=>if 0<=u1.Left then r (nU info u1.Left)else qi i r))/\
 (iM nT λa a1 r=>r (nU a a1)))/\
 ((iM nV λq p info mask is i r=>if i<(info.length:Int)then if is=true then qG info i (λu1=>qL (r (nV q p info mask true (w (i+1)))) λk1=>if 0<=u1.Right then if u1.Mask=mask then((fX (YJ q p i) (λu2=>gC u2 r))\/(YJ q p i=some (.tup [.agg [.t .nil],Bo false],[])/\Gl r))else k1 else k1)else Gl r else Gl r)/\
 (iM YK λa a1 a2 r=>Gk (Qh a a1) (λu1 u2=>r (nV a a1 u1 a2 u2 0)))))/\
 (((iM Zqh λq Name Arity x i k r=>if k<0 then r (ZBx q Name Arity x ([]:V2) i k 0)else Qd x r)/\
 (iM Zqi λq Name Arity x x1 i k r=>if k<(x.length:Int)then r (nY q Name Arity x x1 ([]:V2) i k 0)else Qd x1 r))/\
 ((iM nY λq Name Arity x x1 row i k j r=>if j<(x1.length:Int)then qG x k (λu1=>qG q.Atoms i (λu2=>qG x1 j (λu3=>qI (Gw u2 u3) (λu4=>qG u1 u4 (λu5=>qN row (r (nY q Name Arity x x1 (row++[u5]) i k (w (j+1)))))))))else r (NB q Name Arity x x1 ([row]) i (w (k+1))))/\
 ((iM NB λq Name Arity x x1 x2 i k r=>if k<(x.length:Int)then r (nZ q Name Arity x x1 x2 ([]:V2) i k 0)else VR x1 x2 r)/\
 (iM nZ λq Name Arity x x1 x2 row i k j r=>if j<(x1.length:Int)then qG x k (λu1=>qG q.Atoms i (λu2=>qG x1 j (λu3=>qI (Gw u2 u3) (λu4=>qG u1 u4 (λu5=>qN row (r (nZ q Name Arity x x1 x2 (row++[u5]) i k (w (j+1)))))))))else qN x2 (r (NB q Name Arity x x1 (x2++[row]) i (w (k+1))))))))):=by
 refine qu ?_
 and_intros
 all_goals(intros;unfold Im;(try simp only[nN,nP,nO,nQ,Nz,Kq,II,nS,NA,nU,nT,nV,YK,Zqh,Zqi,nY,NB,nZ,Qh,Zr.c_def,Zc.c_def,Z0,Wv,Box.c_def,YJ,Gw,Zd.c_def,ZBx,Bm,nX,Zqg,Zqj,A7,AY]);(try simp only[AZ]);(try simp only[A0,gS,kk]))
 all_goals(repeat' first|refine Bs λ_=>?_|refine Br λ_ _=>?_|refine Bq λ_=>?_|refine AL ?_ ?_|exact False.elim)
 all_goals(intro h;first|refine run ZMq rfl ?_|rw[Zk Z0z.eq_1]|refine run ZMr rfl ?_|rw[Zk Z02.eq_1]|refine run ZMs rfl ?_|refine run ZMt rfl ?_|refine run ZMu rfl ?_|rw[Zk Z05.eq_1]|refine run ZMv rfl ?_|rw[Zk Z08.eq_1]|refine run ZMw rfl ?_|rw[Zk Z0B.eq_1]|refine run ZMy rfl ?_|rw[Zk Zqf.eq_1]|rw[Zk Z0D.eq_1])
 all_goals (refine Yd ?_ h;clear h;simp +decide[*,kk,tI,Ax,ZBo,Z00,ZBp,Z03,ZBq,ZBr,ZBs,Z06,ZBt,Z09,ZBu,Z0C,ZBv,Z0G,Z0F,Z0E])
abbrev W1:=uq ZOx
def ZOy:((iM nW λa a1 a2 r=>qB (QA a a1) (qB (Z0 a2 0 (w ((a1.Atoms.length:Int)-1))) (qG a1.Atoms a2 (λu3=>(∃u4 u5 u6,WG a u3.Name=some (.tup [.agg [.t (.str u4),I u5,.t .nil],Bo u6],[])/\¬a2<0/\AX (Q9 a1 (Ac 1 a2)) (λu7=>r (Zqh a1 u4 u5 u7 a2 0)))\/(∃(u4:XS),∃u5,∃u6,WG a u3.Name=some (.tup [.agg [.t (.str u5),I u6,.own 0],Bo true],[.arr 38 1 true (u4.map Ae)])/\¬a2<0/\AX (Q9 a1 (Ac 1 a2)) (λu7=>r (Zqi a1 u5 u6 u4 u7 a2 0))))) (BQ r)) (BQ r))/\
 ((iM n5 λl v i r=>if i<(l.length:Int)then qG l i (λu1=>if u1=v then qi i r else r (n5 l v (w (i+1))))else qi (-1) r)/\
 (iM QG λa a1 r=>r (n5 a a1 0))))/\
 ((iM YM λs i r=>if i<(s.Vars.length:Int)then qG s.Vars i (λu1=>qB (Z0 u1 0 3) (if 0<i then 0<=(w (i-1))/\∃u3,s.Vars[(w (i-1)).toNat]?=some u3/\if u1<=u3 then qb false r else r (YM s (w (i+1)))else r (YM s (w (i+1)))) (qb false r))else r (n8 s 0))/\
 ((iM n8 λs i r=>if i<(s.Rows.length:Int)then qG s.Rows i (λu1=>qB (Sq u1 (s.Vars.length:Int)) (r (n8 s (w (i+1)))) (qb false r))else qb (decide ((s.Rows.length:Int)<=4096)) r)/\
 (iM Qj λa r=>r (YM a 0)))):=by
 refine qu ?_
 and_intros
 all_goals(intros;unfold Im;(try simp only[nW,n5,QG,YM,n8,Qj,QA,Z0,WG,Q9,Zj.c_def,Zc.c_def,Sq,Zqh,Zqi,Bm,nX,Zqg,A7,AY]);(try simp only[AZ]);(try simp only[A0,gS,kk]))
 all_goals(repeat' first|refine Bs λ_=>?_|refine Br λ_ _=>?_|refine Bq λ_=>?_|refine AL ?_ ?_|exact False.elim)
 all_goals(intro h;first|refine run ZMz rfl ?_|rw[Zk Z0I.eq_1]|refine run ZM0 rfl ?_|rw[Zk Z0K.eq_1]|rw[Zk Z0L.eq_1]|refine run ZM1 rfl ?_)
 all_goals (refine Yd ?_ h;clear h;simp +decide[*,kk,tI,Ax,ZBw,Z0J,ZBy,Z0N,Z0M,ZBz])
abbrev G0:=uq ZOy
def ZOz:iM YJ λa a1 a2 r=>Gk (Qh a a1) (λu1 u2=>if u2=true then qB (Z0 a2 0 (w ((u1.length:Int)-1))) (qI (nT u1 a2) (λu4=>0<=u4/\qL (w (a2+1)) λk2=>0<=k2/\u4.toNat<=k2.toNat/\k2.toNat<=a1.Steps.length/\qL ((a1.Steps.take (k2.toNat)).drop u4.toNat) λk1=>qM k1 (gC k1 r))) (Gl r)else Gl r):=by
 refine qu ?_;intro a a1 a2 r;unfold Im;intro h;unfold YJ;(try simp only[Bm]);refine run ZMx rfl ?_;obtain⟨v,v1,q1,h⟩:=h;unfold Qh at q1
 try simp[Bm]at q1
 by_cases q2:v1=true
 .rw[Ya q2]at h;obtain⟨v2,q3,h⟩:=h;unfold Z0 at q3
  try simp[Bm]at q3
  by_cases q4:v2=true
  .rw[Ya q4]at h;obtain⟨v3,q5,h⟩:=h;unfold nT at q5
   try simp[Bm]at q5
   obtain⟨q6,h⟩:=h;obtain⟨q7,h⟩:=h;obtain⟨q8,h⟩:=h;have pH:=q8;try simp[Bm]at pH
   obtain⟨q9,h⟩:=h;have zq9:=q9;try simp[Bm]at zq9
   obtain⟨q10,h⟩:=h;have NT:=Q3 (b:=24) q10 E;have NU:=Q4 q10
   try simp[*]at NT
   try simp[*]at NU
   refine Yd ?_ h;clear h;simp +decide[*,Zqe,tI,Ax,Bm]
  .rw[Yb q4]at h;refine Yd ?_ h;clear h;simp +decide[*,Zqe,tI,Ax,Bm]
 .rw[Yb q2]at h;refine Yd ?_ h;clear h;simp +decide[*,Zqe,tI,Ax,Bm]
abbrev ZO0:=uq ZOz
