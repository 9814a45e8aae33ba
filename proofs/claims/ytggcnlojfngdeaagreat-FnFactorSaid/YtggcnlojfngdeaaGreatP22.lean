/-
  Parts of the proofs for this seat: G25 G26 G27 G28 V1 V2 V3 V4 V5 V6 OP AD MK SP.
-/
import Derived.Test.YtggcnlojfngdeaaGreatP14
import Derived.Test.YtggcnlojfngdeaaGreatP15
import Derived.Test.YtggcnlojfngdeaaGreatP16
import Derived.Test.YtggcnlojfngdeaaGreatP17
import Derived.Test.YtggcnlojfngdeaaGreatP18
import Derived.Test.YtggcnlojfngdeaaGreatP19
import Derived.Test.YtggcnlojfngdeaaGreatP20
import Derived.Test.YtggcnlojfngdeaaGreatP21
set_option linter.all false
set_option maxRecDepth 100000
set_option maxHeartbeats 4000000
namespace Go.Proofs.YtggcnlojfngdeaaGreat
open Go.AM
def ZIr:iM XM λx x1 x2 r=>if x2<x1 then qL (w (1+x2)) λk2=>qL (r (some (.tup [I k2,.t .nil,.t .nil],[]))) λk1=>if x2=0 then qB (WT x.Scan) ((WC x.Scan=some (.tup [.t .nil,.t .nil,Bo false],[])/\UM UR (λu2=>r (Hz x u2 k2 x1 x2 (u2.length:Int) 0)))\/(∃(u2:WL) (u3:WL),WC x.Scan=some (.tup [L 1 (u3.map ic),.own 0,Bo true],[.arr 3 1 true (u2.map ic)])/\r (some (.tup [I k2,L 1 (u3.map ic),.own 0],[.arr 3 1 true (u2.map ic)])))) k1 else if x2=1 then qB (WT x.Sort_) ((WC x.Sort_=some (.tup [.t .nil,.t .nil,Bo false],[])/\UM UR (λu2=>r (HA x u2 k2 x1 x2 (u2.length:Int) 0)))\/(∃(u2:WL) (u3:WL),WC x.Sort_=some (.tup [L 1 (u3.map ic),.own 0,Bo true],[.arr 3 1 true (u2.map ic)])/\r (some (.tup [I k2,L 1 (u3.map ic),.own 0],[.arr 3 1 true (u2.map ic)])))) k1 else if x2=2 then qB (WT x.Hash) ((WC x.Hash=some (.tup [.t .nil,.t .nil,Bo false],[])/\UM UR (λu2=>r (HB x u2 k2 x1 x2 (u2.length:Int) 0)))\/(∃(u2:WL) (u3:WL),WC x.Hash=some (.tup [L 1 (u3.map ic),.own 0,Bo true],[.arr 3 1 true (u2.map ic)])/\r (some (.tup [I k2,L 1 (u3.map ic),.own 0],[.arr 3 1 true (u2.map ic)])))) k1 else if x2=3 then qB (WT x.Merge) ((WC x.Merge=some (.tup [.t .nil,.t .nil,Bo false],[])/\UM UR (λu2=>r (HC x u2 k2 x1 x2 (u2.length:Int) 0)))\/(∃(u2:WL) (u3:WL),WC x.Merge=some (.tup [L 1 (u3.map ic),.own 0,Bo true],[.arr 3 1 true (u2.map ic)])/\r (some (.tup [I k2,L 1 (u3.map ic),.own 0],[.arr 3 1 true (u2.map ic)])))) k1 else if x2=4 then qB (WT x.Nested) ((WC x.Nested=some (.tup [.t .nil,.t .nil,Bo false],[])/\UM UR (λu2=>r (HD x u2 k2 x1 x2 (u2.length:Int) 0)))\/(∃(u2:WL) (u3:WL),WC x.Nested=some (.tup [L 1 (u3.map ic),.own 0,Bo true],[.arr 3 1 true (u2.map ic)])/\r (some (.tup [I k2,L 1 (u3.map ic),.own 0],[.arr 3 1 true (u2.map ic)])))) k1 else False else r (some (.tup [I 0,.t .nil,.t .nil],[])):=by
 refine qu ?_;intro x x1 x2 r;unfold Im;intro h;unfold XM
 try simp only[F6,Ar]
 rw[Zk ZoM.eq_1];by_cases q1:x2<x1
 .rw[Ya q1]at h;by_cases q2:x2=0
  .rw[Ya q2]at h;subst q2;obtain⟨v,q3,h⟩:=h;unfold WT at q3
   try simp[Ar]at q3
   by_cases q4:v=true
   .rw[Ya q4]at h;rcases h with h|h
    .obtain⟨q5,h⟩:=h;unfold WC at q5
     try simp[Ar]at q5
     obtain⟨v1,q6,h⟩:=h;unfold UR at q6
     try simp[Ar]at q6
     refine Yg ?_ h;clear h;simp +decide[*,tI,Az,Hz,KB,F6,Ar]
    .obtain⟨v2,v3,q7,h⟩:=h;unfold WC at q7
     try simp[Ar]at q7
     refine Yg ?_ h;clear h;simp +decide[*,tI,Az,Ar]
   .rw[Yb q4]at h;refine Yg ?_ h;clear h;simp +decide[*,tI,Az,Ar]
  .rw[Yb q2]at h;replace q2:=eq_false q2;by_cases q8:x2=1
   .rw[Ya q8]at h;subst q8;obtain⟨v4,q9,h⟩:=h;unfold WT at q9
    try simp[Ar]at q9
    by_cases q10:v4=true
    .rw[Ya q10]at h;rcases h with h|h
     .obtain⟨q11,h⟩:=h;unfold WC at q11
      try simp[Ar]at q11
      obtain⟨v5,q12,h⟩:=h;unfold UR at q12
      try simp[Ar]at q12
      refine Yg ?_ h;clear h;simp +decide[*,tI,Az,HA,KB,F6,Ar]
     .obtain⟨v6,v7,q13,h⟩:=h;unfold WC at q13
      try simp[Ar]at q13
      refine Yg ?_ h;clear h;simp +decide[*,tI,Az,Ar]
    .rw[Yb q10]at h;refine Yg ?_ h;clear h;simp +decide[*,tI,Az,Ar]
   .rw[Yb q8]at h;replace q8:=eq_false q8;by_cases BB:x2=2
    .rw[Ya BB]at h;subst BB;obtain⟨v8,BW,h⟩:=h;unfold WT at BW
     try simp[Ar]at BW
     by_cases q16:v8=true
     .rw[Ya q16]at h;rcases h with h|h
      .obtain⟨EZ,h⟩:=h;unfold WC at EZ
       try simp[Ar]at EZ
       obtain⟨v9,Ce,h⟩:=h;unfold UR at Ce
       try simp[Ar]at Ce
       refine Yg ?_ h;clear h;simp +decide[*,tI,Az,HB,KB,F6,Ar]
      .obtain⟨v10,v11,De,h⟩:=h;unfold WC at De
       try simp[Ar]at De
       refine Yg ?_ h;clear h;simp +decide[*,tI,Az,Ar]
     .rw[Yb q16]at h;refine Yg ?_ h;clear h;simp +decide[*,tI,Az,Ar]
    .rw[Yb BB]at h;replace BB:=eq_false BB;by_cases DO:x2=3
     .rw[Ya DO]at h;subst DO;obtain⟨v12,F8,h⟩:=h;unfold WT at F8
      try simp[Ar]at F8
      by_cases q22:v12=true
      .rw[Ya q22]at h;rcases h with h|h
       .obtain⟨q23,h⟩:=h;unfold WC at q23
        try simp[Ar]at q23
        obtain⟨v13,q24,h⟩:=h;unfold UR at q24
        try simp[Ar]at q24
        refine Yg ?_ h;clear h;simp +decide[*,tI,Az,HC,KB,F6,Ar]
       .obtain⟨v14,v15,HM,h⟩:=h;unfold WC at HM
        try simp[Ar]at HM
        refine Yg ?_ h;clear h;simp +decide[*,tI,Az,Ar]
      .rw[Yb q22]at h;refine Yg ?_ h;clear h;simp +decide[*,tI,Az,Ar]
     .rw[Yb DO]at h;replace DO:=eq_false DO;by_cases Mt:x2=4
      .rw[Ya Mt]at h;subst Mt;obtain⟨v16,HN,h⟩:=h;unfold WT at HN
       try simp[Ar]at HN
       by_cases HO:v16=true
       .rw[Ya HO]at h;rcases h with h|h
        .obtain⟨HP,h⟩:=h;unfold WC at HP
         try simp[Ar]at HP
         obtain⟨v17,q30,h⟩:=h;unfold UR at q30
         try simp[Ar]at q30
         refine Yg ?_ h;clear h;simp +decide[*,tI,Az,HD,KB,F6,Ar]
        .obtain⟨v18,v19,q31,h⟩:=h;unfold WC at q31
         try simp[Ar]at q31
         refine Yg ?_ h;clear h;simp +decide[*,tI,Az,Ar]
       .rw[Yb HO]at h;refine Yg ?_ h;clear h;simp +decide[*,tI,Az,Ar]
      .rw[Yb Mt]at h;replace Mt:=eq_false Mt;cases h
 .rw[Yb q1]at h;refine Yg ?_ h;clear h;simp +decide[*,tI,Az,Zym,Ar]
abbrev Su:=uq ZIr
def ZIs:((((iM Hz λo x kind x1 x2 x3 x4 r=>if x4<x3 then qG x x4 (λu1=>qI (KA o.Scan u1) (λu2=>if u2<1 then I9 kind u1 r else r (Hz o x kind x1 x2 x3 (w (x4+1)))))else r (XM o x1 (w (x2+1))))/\
 (iM HA λo x kind x1 x2 x3 x4 r=>if x4<x3 then qG x x4 (λu1=>qI (KA o.Sort_ u1) (λu2=>if u2<1 then I9 kind u1 r else r (HA o x kind x1 x2 x3 (w (x4+1)))))else r (XM o x1 (w (x2+1)))))/\
 ((iM HB λo x kind x1 x2 x3 x4 r=>if x4<x3 then qG x x4 (λu1=>qI (KA o.Hash u1) (λu2=>if u2<1 then I9 kind u1 r else r (HB o x kind x1 x2 x3 (w (x4+1)))))else r (XM o x1 (w (x2+1))))/\
 (iM HC λo x kind x1 x2 x3 x4 r=>if x4<x3 then qG x x4 (λu1=>qI (KA o.Merge u1) (λu2=>if u2<1 then I9 kind u1 r else r (HC o x kind x1 x2 x3 (w (x4+1)))))else r (XM o x1 (w (x2+1))))))/\
 (((iM HD λo x kind x1 x2 x3 x4 r=>if x4<x3 then qG x x4 (λu1=>qI (KA o.Nested u1) (λu2=>if u2<1 then I9 kind u1 r else r (HD o x kind x1 x2 x3 (w (x4+1)))))else r (XM o x1 (w (x2+1))))/\
 (iM Sh λa r=>Jm a=some (.bsl 1 5,[.box (a.c.map .t),.box [.ptr 0 0,.ptr 0 6,.ptr 0 12,.ptr 0 18,.ptr 0 24]])/\r (XM a 5 0)))/\
 ((iM iP λa r=>(∃(u1:WL),∃u2,∃(u3:WL),Sh a=some (.tup [I u2,L 1 (u3.map ic),.own 0],[.arr 3 1 true (u1.map ic)])/\qb (decide (u2=0)) r)\/(∃u1,Sh a=some (.tup [I u1,.t .nil,.t .nil],[])/\qb (decide (u1=0)) r)\/(∃u1,∃(u2:WL),Sh a=some (.tup [I u1,L 1 (u2.map ic),.t .nil],[])/\qb (decide (u1=0)) r))/\
 ((iM ZoN λa r=>if(a.size:Int)=1 then ∃u1,a[0]?=some u1/\if 97<=(u1.toNat:Int)then qb (decide ((u1.toNat:Int)<=122)) r else qb false r else qb false r)/\
 (iM iQ λs v x x1 r=>if x1<x then qG s x1 (λu1=>if v=u1 then qi x1 r else r (iQ s v x (w (x1+1))))else qi (-1) r)))))/\
 ((((iM ZoO λa a1 r=>r (iQ a a1 (a.length:Int) 0))/\
 (iM Jo λa a1 r=>qI (ZoO a a1) (λu1=>qb (decide (0<=u1)) r)))/\
 ((iM iR λs v x x1 r=>if x1<x then qG s x1 (λu1=>if v=u1 then qi x1 r else r (iR s v x (w (x1+1))))else qi (-1) r)/\
 (iM ZoP λa a1 r=>r (iR a a1 (a.length:Int) 0))))/\
 (((iM ZoQ λa a1 r=>qI (ZoP a a1) (λu1=>qb (decide (0<=u1)) r))/\
 (iM Mi λq seen x x1 x2 r=>if x2<x1 then qG x x2 (λu1=>qB (ZoN u1.Name) (qB (ZW (u1.Vars.length:Int) 1 3) (r (iT q seen u1 x x1 x2 u1.Vars (u1.Vars.length:Int) 0)) (qb false r)) (qb false r))else qV (ZoQ seen false) (λu1=>qb (!u1) r)))/\
 ((iM iT λq seen a x x1 x2 x3 x4 x5 r=>if x5<x4 then qG x3 x5 (λu1=>qB (ZW u1 0 (w (q.Zg-1))) (x5.toNat<=a.Vars.length/\qB (Jo (a.Vars.take x5.toNat) u1) (qb false r) (qG seen u1 (λu4=>r (iT q (seen.set u1.toNat true) a x x1 x2 x3 x4 (w (x5+1)))))) (qb false r))else r (Mi q seen x x1 (w (x2+1))))/\
 ((iM iU λlocation x x1 x2 r=>if x2<x1 then qG x x2 (λu1=>qB (ZW u1 0 7) (r (iU location x x1 (w (x2+1)))) (qb false r))else qb (decide ((location.length:Int)<=16)) r)/\
 (iM HE λa r=>r (iU a a (a.length:Int) 0)))))):=by
 refine qu ?_
 and_intros
 all_goals(intros;unfold Im;(try simp only[Hz,HA,HB,HC,HD,Sh,iP,ZoN,iQ,ZoO,Jo,iR,ZoP,ZoQ,Mi,iT,iU,HE,KA,Zz.c_def,Jm,Zf.c_def,ZW,XM,KB,Ar,F6,ZoT,Bf,A7]);(try simp only[Bc]);(try simp only[Bd,gS,kk]))
 all_goals(repeat' first|refine Br λ_=>?_|refine Bq λ_ _=>?_|refine Bp λ_=>?_|refine AL ?_ ?_|exact False.elim)
 all_goals(intro h;first|rw[Zk Zyk.eq_1]|refine run ZGK rfl ?_|refine run ZGL rfl ?_|refine run ZGM rfl ?_|rw[Zk Zyo.eq_1]|refine run ZGN rfl ?_|refine run ZGO rfl ?_|rw[Zk Zyr.eq_1]|refine run ZGP rfl ?_|refine run ZGQ rfl ?_|rw[Zk ZoR.eq_1]|rw[Zk Zyt.eq_1]|rw[Zk Zyx.eq_1]|refine run ZGS rfl ?_)
 all_goals (refine Yg ?_ h;clear h;simp +decide[*,kk,tI,Az,Zyl,Z7s,Z7t,Z7u,Zyp,Z7v,Z7w,Zys,Z7x,Z7y,Zyv,Zyu,Zyy,Z7z])
abbrev Wk:=uq ZIs
def ZIt:iM Jp λa r=>qB (ZW a.Zg 1 4) (qB (ZW (a.Atoms.length:Int) 1 4) (0<=a.Zg/\a.Zg.toNat*1<=room/\a.Zg<=140737488355328/\r (Mi a (List.replicate (a.Zg).toNat false) a.Atoms (a.Atoms.length:Int) 0)) (qb false r)) (qb false r):=by
 refine qu ?_;intro a r;unfold Im;intro h;unfold Jp
 try simp only[Ar]
 refine run ZGR rfl ?_;obtain⟨v,q1,h⟩:=h;unfold ZW at q1
 try simp[Ar]at q1
 by_cases q2:v=true
 .rw[Ya q2]at h;obtain⟨v1,q3,h⟩:=h;unfold ZW at q3
  try simp[Ar]at q3
  by_cases q4:v1=true
  .rw[Ya q4]at h;obtain⟨q5,h⟩:=h;obtain⟨q6,h⟩:=h;have zq6:=q6;try simp[Ar]at zq6
   obtain⟨q7,h⟩:=h;refine Yg ?_ h;clear h;simp +decide[*,ZoS,tI,Az,Mi,ZoT,Ar]
  .rw[Yb q4]at h;refine Yg ?_ h;clear h;simp +decide[*,ZoS,tI,Az,Ar]
 .rw[Yb q2]at h;refine Yg ?_ h;clear h;simp +decide[*,ZoS,tI,Az,Ar]
abbrev ZIu:=uq ZIt
def ZIv:((((iM iV λa b x x1 r=>if x1<x then qG a x1 (λu1=>qH b x1 (λu2=>if u1<u2 then qb false r else r (iV a b x (w (x1+1)))))else qb true r)/\
 (iM Mj λa a1 r=>if(a.length:Int)=(a1.length:Int)then r (iV a a1 (a.length:Int) 0)else qb false r))/\
 ((iM Si λa r=>qB (HE a.Low) (qB (HE a.High) (if 0<(a.Low.length:Int)then qV (Mj a.High a.Low) (λu3=>qb u3 r)else qb false r) (qb false r)) (qb false r))/\
 (iM iW λb n x x1 r=>if x1<x then qG b.High x1 (λu1=>qH b.Low x1 (λu2=>r (iW b (w (n*(w ((w (u1-u2))+1)))) x (w (x1+1)))))else qi n r)))/\
 (((iM ZoU λa r=>r (iW a 1 (a.Low.length:Int) 0))/\
 (iM iX λa r=>qB (Si a) (qI (ZoU a) (λu2=>qi (if 401<u2 then 401 else u2) r)) (qi 0 r)))/\
 ((iM HF λa r=>qB (Jp a) (¬(a.Atoms.length:Int)<0/\qi (w ((Ac 1 (a.Atoms.length:Int))-1)) r) (qi 0 r))/\
 ((iM Mk λq out mask v r=>if v<q.Zg then r (iZ q out mask v q.Atoms (q.Atoms.length:Int) 0)else A3 out r)/\
 (iM iZ λq out mask v x x1 x2 r=>if x2<x1 then qG x x2 (λu1=>¬x2<0/\qL (r (iZ q out mask v x x1 (w (x2+1)))) λk1=>if(Aj (At mask x2) 1)=1 then qB (Jo u1.Vars v) (qN out (r (Mk q (out++[v]) mask (w (v+1))))) k1 else k1)else r (Mk q out mask (w (v+1))))))))/\
 ((((iM Sj λa a1 r=>r (Mk a ([]:WL) a1 0))/\
 (iM Sk λout b x x1 x2 r=>if x2<x1 then qG x x2 (λu1=>qB (Jo b u1) (qN out (r (Sk (out++[u1]) b x x1 (w (x2+1))))) (r (Sk out b x x1 (w (x2+1)))))else A3 out r))/\
 ((iM ZoX λa a1 r=>r (Sk ([]:WL) a1 a (a.length:Int) 0))/\
 (iM Sl λa a1 a2 a3 r=>if a1.Kind=1 then qB (ZW a1.Zd 0 (w ((a.Atoms.length:Int)-1))) (if a1.Order=0 then ¬a1.Zd<0/\qG a.Atoms a1.Zd (λu2=>∃u3,u2.Vars[0]?=some u3/\r (some (.tup [.agg [I (Ac 1 a1.Zd),I u3,I (-1),I (-1)],Bo true],[])))else JN r) (JN r)else if a1.Zd=0 then qL (a3.length:Int) λk2=>qL (w (k2-1)) λk4=>if a1.Kind=2 then if k2<1 then JN r else 0<=k4/\∃u1,a3[k4.toNat]?=some u1/\qG a2 u1 (λu2=>A4 (Sj a u2.Mask) (λu3=>qB (Jo u3 a1.Order) (if u2.Order=a1.Order then JN r else r (some (.tup [.agg [I u2.Mask,I a1.Order,I u1,I (-1)],Bo true],[]))) (JN r)))else if k2<2 then JN r else 0<=(w (k2-2))/\∃u1,a3[(w (k2-2)).toNat]?=some u1/\0<=k4/\∃u2,a3[k4.toNat]?=some u2/\qG a2 u1 (λu3=>qG a2 u2 (λu4=>A4 (Sj a u3.Mask) (λu5=>A4 (Sj a u4.Mask) (λu6=>A4 (ZoX u5 u6) (λu7=>qL (Au u3.Mask u4.Mask) λk1=>qL (Lc k1 u1 u2 r) λk5=>if(Aj u3.Mask u4.Mask)=0 then if(u7.length:Int)=0 then k5 else if a1.Kind=3 then r (some (.tup [.agg [I k1,I (-1),I u1,I u2],Bo (decide (a1.Order=0))],[]))else if a1.Kind=5 then r (some (.tup [.agg [I k1,I u3.Order,I u1,I u2],Bo (decide (a1.Order=0))],[]))else if a1.Kind=4 then qL (r (some (.tup [.agg [I k1,I a1.Order,I u1,I u2],Bo false],[]))) λk3=>qB (Jo u7 a1.Order) (if u3.Order=a1.Order then r (some (.tup [.agg [I k1,I a1.Order,I u1,I u2],Bo (decide (u4.Order=a1.Order))],[]))else k3) k3 else k5 else k5)))))else JN r)))/\
 (((iM i4 λq info stack x x1 x2 r=>qL (stack.length:Int) λk1=>if x2<x1 then qG x x2 (λu1=>∃(u2:Zp),∃u3,Sl q u1 info stack=some (.tup [.agg (u2.c.map .t),Bo u3],[])/\if u3=true then qN info (qL (i4 q (info++[u2])) λk2=>if 0<=u2.Right then qL (w (k1-2)) λk3=>0<=k3/\k3.toNat<=stack.length/\k3.toNat+1<=68719476736/\r (k2 ((stack.take (k3.toNat))++[x2]) x x1 (w (x2+1)))else if 0<=u2.Left then qL (w (k1-1)) λk4=>0<=k4/\k4.toNat<=stack.length/\k4.toNat+1<=68719476736/\r (k2 ((stack.take (k4.toNat))++[x2]) x x1 (w (x2+1)))else qN stack (r (k2 (stack++[x2]) x x1 (w (x2+1)))))else Pq r)else if k1=1 then vE info r else Pq r)/\
 (iM HG λa a1 r=>qB (Jp a) (qB (ZW (a1.Steps.length:Int) 1 14) (r (i4 a ([]:List Zp) ([]:WL) a1.Steps (a1.Steps.length:Int) 0)) (Pq r)) (Pq r)))/\
 ((iM i5 λa a1 r=>(HG a a1=some (.tup [.t .nil,Bo false],[])/\qi 0 r)\/(vH (HG a a1) (λu1=>qL (w ((u1.length:Int)-1)) λk1=>0<=k1/\∃u2,u1[k1.toNat]?=some u2/\qi u2.Mask r)))/\
 ((iM i7 λl n x x1 x2 r=>if x2<x1 then qG x x2 (λu1=>qB (ZW u1 0 (w (n-1))) (x2.toNat<=l.length/\qB (Jo (l.take x2.toNat) u1) (qb false r) (r (i7 l n x x1 (w (x2+1))))) (qb false r))else qb (decide (0<(l.length:Int))) r)/\
 (iM i6 λa a1 r=>r (i7 a a1 a (a.length:Int) 0)))))):=by
 refine qu ?_
 and_intros
 all_goals(intros;unfold Im;(try simp only[iV,Mj,Si,iW,ZoU,iX,HF,Mk,iZ,Sj,Sk,ZoX,Sl,i4,HG,i5,i7,i6,HE,Box.c_def,Jp,Zc.c_def,Jo,ZW,Zn.c_def,Zp.c_def,Zj.c_def,Ar,Zy8,Bf,A7]);(try simp only[Bc]);(try simp only[Bd,gS,kk]))
 all_goals(repeat' first|refine Br λ_=>?_|refine Bq λ_ _=>?_|refine Bp λ_=>?_|refine AL ?_ ?_|exact False.elim)
 all_goals(intro h;first|rw[Zk Zy0.eq_1]|refine run ZGT rfl ?_|refine run ZGU rfl ?_|rw[Zk Zy3.eq_1]|refine run ZGV rfl ?_|refine run ZGW rfl ?_|refine run ZGX rfl ?_|rw[Zk ZoV.eq_1]|rw[Zk Zy5.eq_1]|refine run ZGY rfl ?_|rw[Zk Zy9.eq_1]|refine run ZGZ rfl ?_|refine run ZHa rfl ?_|rw[Zk ZyB.eq_1]|refine run ZHb rfl ?_|refine run ZHc rfl ?_|rw[Zk ZyE.eq_1]|refine run ZHd rfl ?_)
 all_goals (refine Yg ?_ h;clear h;simp +decide[*,kk,tI,Az,Zy1,Z70,Z71,Zy4,Z72,Z73,Z74,Zy7,Zy6,Z75,Z76,ZyA,Z77,Z78,Z79,ZyC,Z7A,Z7B,ZyF,Z7C])
abbrev XE:=uq ZIv
def ZIw:((iM i9 λq b x x1 x2 r=>if x2<x1 then qG x x2 (λu1=>qI (i5 q u1) (λu2=>qI (HF q) (λu3=>if u2=u3 then r (i9 q b x x1 (w (x2+1)))else qb false r)))else r (Sn b b.Budgets (b.Budgets.length:Int) 0))/\
 ((iM Sn λb x x1 x2 r=>if x2<x1 then qG x x2 (λu1=>qB (ZW u1 1 500000000000) (qL (r (Sn b x x1 (w (x2+1)))) λk1=>if 0<x2 then 0<=(w (x2-1))/\∃u3,b.Budgets[(w (x2-1)).toNat]?=some u3/\if u1=(w (b.Ratio*u3))then k1 else qb false r else k1) (qb false r))else r (So b b.Contours (b.Contours.length:Int) 0))/\
 (iM So λb x x1 x2 r=>if x2<x1 then qG x x2 (λu1=>qB (i6 u1 (b.Plans.length:Int)) (r (So b x x1 (w (x2+1)))) (qb false r))else qL (b.Budgets.length:Int) λk1=>if 0<k1 then qb (decide ((b.Contours.length:Int)=k1)) r else qb false r)))/\
 ((iM i8 λa a1 r=>qL (qb false r) λk1=>qB (Jp a) (qB (ZW a1.Version 1 999) (qB (ZW a1.Ratio 2 8) (qB (ZW a1.Slack 0 100) (qI (iX a1.Box) (λu5=>qB (ZW u5 1 400) (qI (HF a) (λu7=>if(a1.Box.Low.length:Int)=(w (u7+1))then r (i9 a a1 a1.Plans (a1.Plans.length:Int) 0)else k1)) k1)) k1) k1) k1) k1)/\
 ((iM jA λa a1 r=>qB (Si a) (qB (Mj a1 a.Low) (qV (Mj a.High a1) (λu3=>qb u3 r)) (qb false r)) (qb false r))/\
 (iM jB λa a1 r=>qB (ZW a 0 1000000000000) (qB (ZW a1 0 100) (qi (w (Int.tdiv (w (a*(w (100+a1)))) 100)) r) (qi (-1) r)) (qi (-1) r)))):=by
 refine qu ?_
 and_intros
 all_goals(intros;unfold Im;(try simp only[i9,Sn,So,i8,jA,jB,i5,HF,Zj.c_def,Zc.c_def,ZW,i6,Jp,iX,Box.c_def,Si,Mj,Ar,Bf,A7]);(try simp only[Bc]);(try simp only[Bd,gS,kk]))
 all_goals(repeat' first|refine Br λ_=>?_|refine Bq λ_ _=>?_|refine Bp λ_=>?_|refine AL ?_ ?_|exact False.elim)
 all_goals(intro h;first|rw[Zk ZyG.eq_1]|rw[Zk ZyH.eq_1]|rw[Zk ZyI.eq_1]|refine run ZHe rfl ?_|refine run ZHf rfl ?_|refine run ZHg rfl ?_)
 all_goals (refine Yg ?_ h;clear h;simp +decide[*,kk,tI,Az,ZyL,ZyK,ZyJ,Z7D,Z7E,Z7F])
abbrev F9:=uq ZIw
def ZIx:(((iM Mm λout location x x1 x2 r=>if x2<x1 then qG x x2 (λu1=>qI (F4 u1) (λu2=>qN out (r (Mm (out++[u2]) location x x1 (w (x2+1))))))else qB (HE location) (A3 out r) (r (some (.t .nil,[]))))/\
 (iM Sp λa r=>r (Mm ([]:WL) a a (a.length:Int) 0)))/\
 ((iM jC λq sizes x x1 x2 r=>if x2<x1 then qG x x2 (λu1=>qB (ZW u1 0 4096) (r (jC q sizes x x1 (w (x2+1)))) (qb false r))else qB (Jp q) (qI (HF q) (λu2=>qb (decide ((sizes.length:Int)=(w (u2+1)))) r)) (qb false r))/\
 (iM ZoZ λa a1 r=>r (jC a a1 a1 (a1.length:Int) 0))))/\
 (((iM WH λa a1 a2 a3 r=>qB (WT a) (qB (ZW a1 0 4096) (qB (ZW a2 0 4096) (qB (ZW a3 0 4096) (qI (Sf a a1 a2 a3) (λu5=>qi u5 r)) (qi 0 r)) (qi 0 r)) (qi 0 r)) (qi 0 r))/\
 (iM VM λm info out sizes x x1 x2 r=>if x2<x1 then qG x x2 (λu1=>qH info x2 (λu2=>qG sizes u2.Mask (λu3=>qL (jH m info out u1 sizes x2) λk1=>qL (jI m info out u1 sizes x2) λk2=>if 0<=u2.Left then qH info u2.Left (λu4=>qG sizes u4.Mask (λu5=>if 0<=u2.Right then qH info u2.Right (λu6=>qG sizes u6.Mask (λu7=>r (k1 u5 u7 x x1 x2)))else r (k2 u5 0 x x1 x2 false)))else if 0<=u2.Right then qH info u2.Right (λu4=>qG sizes u4.Mask (λu5=>r (k1 u3 u5 x x1 x2)))else r (k2 u3 0 x x1 x2 false))))else A3 out r))/\
 ((iM Mn λa a1 a2 a3 r=>(HG a1 a2=some (.tup [.t .nil,Bo false],[])/\r (some (.t .nil,[])))\/(vH (HG a1 a2) (λu1=>qB (ZoZ a1 a3) (r (VM a u1 ([]:WL) a3 a2.Steps (a2.Steps.length:Int) 0)) (r (some (.t .nil,[]))))))/\
 ((iM jK λn x x1 x2 r=>if x2<x1 then qG x x2 (λu1=>r (jK (w (n+u1)) x x1 (w (x2+1))))else qi n r)/\
 (iM jJ λa r=>r (jK 0 a (a.length:Int) 0))))):=by
 refine qu ?_
 and_intros
 all_goals(intros;unfold Im;(try simp only[Mm,Sp,jC,ZoZ,WH,VM,Mn,jK,jJ,F4,HE,ZW,Jp,HF,Zc.c_def,WT,Sf,Zz.c_def,HG,Zj.c_def,jH,jI,Ar,Bf,A7]);(try simp only[Bc]);(try simp only[Bd,gS,kk]))
 all_goals(repeat' first|refine Br λ_=>?_|refine Bq λ_ _=>?_|refine Bp λ_=>?_|refine AL ?_ ?_|exact False.elim)
 all_goals(intro h;first|rw[Zk ZyN.eq_1]|refine run ZHh rfl ?_|rw[Zk ZyQ.eq_1]|refine run ZHi rfl ?_|refine run ZHj rfl ?_|rw[Zk jF.eq_1]|refine run ZHk rfl ?_|rw[Zk ZyT.eq_1]|refine run ZHl rfl ?_)
 all_goals (refine Yg ?_ h;clear h;simp +decide[*,kk,tI,Az,ZyO,Z7G,ZyR,Z7H,Z7I,Z7J,jG,Z7K,ZyU,Z7L])
abbrev Ud:=uq ZIx
def ZIy:iM jH λm info out x sizes i left right x1 x2 x3 r=>Jm m=some (.bsl 1 5,[.box (m.c.map .t),.box [.ptr 0 0,.ptr 0 6,.ptr 0 12,.ptr 0 18,.ptr 0 24]])/\qL (w (x.Kind-1)) λk1=>qL (w (x3+1)) λk2=>qL (VM m info) λk3=>if k1=0 then qG info i (λu1=>qG sizes u1.Mask (λu2=>qI (WH m.Scan left right u2) (λu3=>qN out (r (k3 (out++[u3]) sizes x1 x2 k2)))))else if k1=1 then qG info i (λu1=>qG sizes u1.Mask (λu2=>qI (WH m.Sort_ left right u2) (λu3=>qN out (r (k3 (out++[u3]) sizes x1 x2 k2)))))else if k1=2 then qG info i (λu1=>qG sizes u1.Mask (λu2=>qI (WH m.Hash left right u2) (λu3=>qN out (r (k3 (out++[u3]) sizes x1 x2 k2)))))else if k1=3 then qG info i (λu1=>qG sizes u1.Mask (λu2=>qI (WH m.Merge left right u2) (λu3=>qN out (r (k3 (out++[u3]) sizes x1 x2 k2)))))else if k1=4 then qG info i (λu1=>qG sizes u1.Mask (λu2=>qI (WH m.Nested left right u2) (λu3=>qN out (r (k3 (out++[u3]) sizes x1 x2 k2)))))else False:=by
 refine qu ?_;intro m info out x sizes i left right x1 x2 x3 r;unfold Im;intro h;unfold jH
 try simp only[Ar]
 rw[B8 jE.eq_1];obtain⟨q1,h⟩:=h;unfold Jm at q1
 try simp[Ar]at q1
 by_cases q2:(w (x.Kind-1))=0
 .rw[Ya q2]at h;obtain⟨q3,h⟩:=h;obtain⟨e2,q4,h⟩:=h;have gq4:=Wi q4;have kq4:=Wo q4;obtain⟨q5,h⟩:=h;obtain⟨e3,q6,h⟩:=h;have gq6:=Wi q6;have kq6:=Wo q6;obtain⟨v,q7,h⟩:=h;unfold WH at q7
  try simp[Ar]at q7
  obtain⟨q8,h⟩:=h;have rq8:=Up (b:=8) q8 Z;have sq8:=Uq q8
  try simp[*]at rq8
  try simp[*]at sq8
  refine Yg ?_ h;clear h;simp +decide[*,tI,Az,VM,Ar]
 .rw[Yb q2]at h;replace q2:=eq_false q2;by_cases q9:(w (x.Kind-1))=1
  .rw[Ya q9]at h;obtain⟨q10,h⟩:=h;obtain⟨e5,q11,h⟩:=h;have jV:=Wi q11;have jW:=Wo q11;obtain⟨q12,h⟩:=h;obtain⟨e6,q13,h⟩:=h;have AaX:=Wi q13;have AaY:=Wo q13;obtain⟨v1,BB,h⟩:=h;unfold WH at BB
   try simp[Ar]at BB
   obtain⟨BW,h⟩:=h;have Mu:=Up (b:=8) BW Z;have Mv:=Uq BW
   try simp[*]at Mu
   try simp[*]at Mv
   refine Yg ?_ h;clear h;simp +decide[*,tI,Az,VM,Ar]
  .rw[Yb q9]at h;replace q9:=eq_false q9;by_cases q16:(w (x.Kind-1))=2
   .rw[Ya q16]at h;obtain⟨EZ,h⟩:=h;obtain⟨e8,Ce,h⟩:=h;have AaZ:=Wi Ce;have Aa0:=Wo Ce;obtain⟨De,h⟩:=h;obtain⟨e9,DO,h⟩:=h;have Aa1:=Wi DO;have Aa2:=Wo DO;obtain⟨v2,F8,h⟩:=h;unfold WH at F8
    try simp[Ar]at F8
    obtain⟨q22,h⟩:=h;have Mw:=Up (b:=8) q22 Z;have Mx:=Uq q22
    try simp[*]at Mw
    try simp[*]at Mx
    refine Yg ?_ h;clear h;simp +decide[*,tI,Az,VM,Ar]
   .rw[Yb q16]at h;replace q16:=eq_false q16;by_cases q23:(w (x.Kind-1))=3
    .rw[Ya q23]at h;obtain⟨q24,h⟩:=h;obtain⟨e11,HM,h⟩:=h;have Aa3:=Wi HM;have Aa4:=Wo HM;obtain⟨Mt,h⟩:=h;obtain⟨e12,HN,h⟩:=h;have Aa5:=Wi HN;have Aa6:=Wo HN;obtain⟨v3,HO,h⟩:=h;unfold WH at HO
     try simp[Ar]at HO
     obtain⟨HP,h⟩:=h;have My:=Up (b:=8) HP Z;have Mz:=Uq HP
     try simp[*]at My
     try simp[*]at Mz
     refine Yg ?_ h;clear h;simp +decide[*,tI,Az,VM,Ar]
    .rw[Yb q23]at h;replace q23:=eq_false q23;by_cases q30:(w (x.Kind-1))=4
     .rw[Ya q30]at h;obtain⟨q31,h⟩:=h;obtain⟨e14,q32,h⟩:=h;have Aa7:=Wi q32;have Aa8:=Wo q32;obtain⟨q33,h⟩:=h;obtain⟨e15,jY,h⟩:=h;have Aa9:=Wi jY;have Aba:=Wo jY;obtain⟨v4,q35,h⟩:=h;unfold WH at q35
      try simp[Ar]at q35
      obtain⟨jZ,h⟩:=h;have MA:=Up (b:=8) jZ Z;have MB:=Uq jZ
      try simp[*]at MA
      try simp[*]at MB
      refine Yg ?_ h;clear h;simp +decide[*,tI,Az,VM,Ar]
     .rw[Yb q30]at h;replace q30:=eq_false q30;cases h
abbrev ZIz:=uq ZIy
def ZI0:iM jI λm info out x sizes i left right x1 x2 x3 x4 r=>Jm m=some (.bsl 1 5,[.box (m.c.map .t),.box [.ptr 0 0,.ptr 0 6,.ptr 0 12,.ptr 0 18,.ptr 0 24]])/\qL (w (x.Kind-1)) λk1=>qL (w (x3+1)) λk2=>qL (VM m info) λk3=>if k1=0 then qG info i (λu1=>qG sizes u1.Mask (λu2=>qI (WH m.Scan left right u2) (λu3=>qN out (r (k3 (out++[u3]) sizes x1 x2 k2)))))else if k1=1 then qG info i (λu1=>qG sizes u1.Mask (λu2=>qI (WH m.Sort_ left right u2) (λu3=>qN out (r (k3 (out++[u3]) sizes x1 x2 k2)))))else if k1=2 then qG info i (λu1=>qG sizes u1.Mask (λu2=>qI (WH m.Hash left right u2) (λu3=>qN out (r (k3 (out++[u3]) sizes x1 x2 k2)))))else if k1=3 then qG info i (λu1=>qG sizes u1.Mask (λu2=>qI (WH m.Merge left right u2) (λu3=>qN out (r (k3 (out++[u3]) sizes x1 x2 k2)))))else if k1=4 then qG info i (λu1=>qG sizes u1.Mask (λu2=>qI (WH m.Nested left right u2) (λu3=>qN out (r (k3 (out++[u3]) sizes x1 x2 k2)))))else False:=by
 refine qu ?_;intro m info out x sizes i left right x1 x2 x3 x4 r;unfold Im;intro h;unfold jI
 try simp only[Ar]
 rw[B8 jE.eq_1];obtain⟨q1,h⟩:=h;unfold Jm at q1
 try simp[Ar]at q1
 by_cases q2:(w (x.Kind-1))=0
 .rw[Ya q2]at h;obtain⟨q3,h⟩:=h;obtain⟨e2,q4,h⟩:=h;have gq4:=Wi q4;have kq4:=Wo q4;obtain⟨q5,h⟩:=h;obtain⟨e3,q6,h⟩:=h;have gq6:=Wi q6;have kq6:=Wo q6;obtain⟨v,q7,h⟩:=h;unfold WH at q7
  try simp[Ar]at q7
  obtain⟨q8,h⟩:=h;have rq8:=Up (b:=8) q8 Z;have sq8:=Uq q8
  try simp[*]at rq8
  try simp[*]at sq8
  refine Yg ?_ h;clear h;simp +decide[*,tI,Az,VM,Ar]
 .rw[Yb q2]at h;replace q2:=eq_false q2;by_cases q9:(w (x.Kind-1))=1
  .rw[Ya q9]at h;obtain⟨q10,h⟩:=h;obtain⟨e5,q11,h⟩:=h;have jV:=Wi q11;have jW:=Wo q11;obtain⟨q12,h⟩:=h;obtain⟨e6,q13,h⟩:=h;have AaX:=Wi q13;have AaY:=Wo q13;obtain⟨v1,BB,h⟩:=h;unfold WH at BB
   try simp[Ar]at BB
   obtain⟨BW,h⟩:=h;have Mu:=Up (b:=8) BW Z;have Mv:=Uq BW
   try simp[*]at Mu
   try simp[*]at Mv
   refine Yg ?_ h;clear h;simp +decide[*,tI,Az,VM,Ar]
  .rw[Yb q9]at h;replace q9:=eq_false q9;by_cases q16:(w (x.Kind-1))=2
   .rw[Ya q16]at h;obtain⟨EZ,h⟩:=h;obtain⟨e8,Ce,h⟩:=h;have AaZ:=Wi Ce;have Aa0:=Wo Ce;obtain⟨De,h⟩:=h;obtain⟨e9,DO,h⟩:=h;have Aa1:=Wi DO;have Aa2:=Wo DO;obtain⟨v2,F8,h⟩:=h;unfold WH at F8
    try simp[Ar]at F8
    obtain⟨q22,h⟩:=h;have Mw:=Up (b:=8) q22 Z;have Mx:=Uq q22
    try simp[*]at Mw
    try simp[*]at Mx
    refine Yg ?_ h;clear h;simp +decide[*,tI,Az,VM,Ar]
   .rw[Yb q16]at h;replace q16:=eq_false q16;by_cases q23:(w (x.Kind-1))=3
    .rw[Ya q23]at h;obtain⟨q24,h⟩:=h;obtain⟨e11,HM,h⟩:=h;have Aa3:=Wi HM;have Aa4:=Wo HM;obtain⟨Mt,h⟩:=h;obtain⟨e12,HN,h⟩:=h;have Aa5:=Wi HN;have Aa6:=Wo HN;obtain⟨v3,HO,h⟩:=h;unfold WH at HO
     try simp[Ar]at HO
     obtain⟨HP,h⟩:=h;have My:=Up (b:=8) HP Z;have Mz:=Uq HP
     try simp[*]at My
     try simp[*]at Mz
     refine Yg ?_ h;clear h;simp +decide[*,tI,Az,VM,Ar]
    .rw[Yb q23]at h;replace q23:=eq_false q23;by_cases q30:(w (x.Kind-1))=4
     .rw[Ya q30]at h;obtain⟨q31,h⟩:=h;obtain⟨e14,q32,h⟩:=h;have Aa7:=Wi q32;have Aa8:=Wo q32;obtain⟨q33,h⟩:=h;obtain⟨e15,jY,h⟩:=h;have Aa9:=Wi jY;have Aba:=Wo jY;obtain⟨v4,q35,h⟩:=h;unfold WH at q35
      try simp[Ar]at q35
      obtain⟨jZ,h⟩:=h;have MA:=Up (b:=8) jZ Z;have MB:=Uq jZ
      try simp[*]at MA
      try simp[*]at MB
      refine Yg ?_ h;clear h;simp +decide[*,tI,Az,VM,Ar]
     .rw[Yb q30]at h;replace q30:=eq_false q30;cases h
abbrev ZI1:=uq ZI0
def ZI2:iM jL λa a1 a2 a3 r=>(Mn a a1 a2 a3=some (.t .nil,[])/\qi (-1) r)\/(A4 (Mn a a1 a2 a3) (λu1=>u1≠[]/\qI (jJ u1) (λu2=>qi u2 r))):=by
 refine qu ?_;intro a a1 a2 a3 r;unfold Im;intro h;unfold jL
 try simp only[Ar]
 refine run ZHm rfl ?_;rcases h with h|h
 .obtain⟨q1,h⟩:=h;unfold Mn at q1
  try simp[Ar]at q1
  refine Yg ?_ h;clear h;simp +decide[*,ZyV,tI,Az,Ar]
 .obtain⟨v,q2,h⟩:=h;unfold Mn at q2
  try simp[Ar]at q2
  obtain⟨q3,h⟩:=h;obtain⟨yq3,Acp,eq3⟩:=List.exists_cons_of_ne_nil q3
  first|subst eq3|skip
  obtain⟨v1,q4,h⟩:=h;unfold jJ at q4
  try simp[Ar]at q4
  refine Yg ?_ h;clear h;simp +decide[*,ZyV,tI,Az,Ar]
abbrev ZI3:=uq ZI2
def ZI4:(((iM Zpa λa a1 a2 a3 r=>(A4 (Sp a3) (λu1=>qI (jL a a1 a2 u1) (λu2=>qi u2 r)))\/(Sp a3=some (.t .nil,[])/\qI (Z7M a a1 a2) (λu1=>qi u1 r)))/\
 ((iM Sq λm q b location total x x1 x2 r=>if x2<x1 then qG x x2 (λu1=>qH b.Budgets x2 (λu2=>qI (jB u2 b.Slack) (λu3=>r (jN m q b location total u3 x x1 x2 u1 (u1.length:Int) 0))))else Pr r)/\
 (iM jN λm q b location total Bn x x1 x2 x3 x4 x5 r=>if x5<x4 then qG x3 x5 (λu1=>qG b.Plans u1 (λu2=>qI (Zpa m q u2 location) (λu3=>if u3<=Bn then r (some (.tup [I (w (total+u3)),Bo true],[]))else r (jN m q b location (w (total+Bn)) Bn x x1 x2 x3 x4 (w (x5+1))))))else r (Sq m q b location total x x1 (w (x2+1))))))/\
 ((iM Zpc λa a1 a2 a3 r=>r (Sq a a1 a2 a3 0 a2.Contours (a2.Contours.length:Int) 0))/\
 ((iM Zpd λa a1 a2 a3 r=>qB (iP a) (qB (i8 a1 a2) (qB (jA a2.Box a3) (∃u4 u5,Zpc a a1 a2 a3=some (.tup [I u4,Bo u5],[])/\r (some (.tup [I u4,Bo u5],[]))) (Pr r)) (Pr r)) (Pr r))/\
 (iM Zpe λx a a1 r=>qL (Lg x ([]:List Ze) r) λk1=>qB (FY a) (qB (R8 a1 x) (∃(u3:List ZU),L2 a1=some (.own 0,[.arr 158 3 true (u3.map ZU.c)])/\∃u4,∃(u5:List Ze),F1 u3 x a a1=some (.own 2,[.arr 158 3 true (u3.map ZU.c),.arr 3 1 true (x.map ic),.arr 117 4 u4 (u5.map Ze.c)])/\r (some (.own 1,[.arr 3 1 true (x.map ic),.arr 117 4 u4 (u5.map Ze.c)]))) k1) k1))))/\
 (((iM Zpf λx a a1 r=>(∃(u1:WL),∃u2,∃(u3:List Ze),Zpe x a a1=some (.own 1,[.arr 3 1 true (u1.map ic),.arr 117 4 u2 (u3.map Ze.c)])/\qI (Wp a1) (λu4=>(Po (Qm u3 u4) (λu5 u6 u7=>vI u5 u6 u7 u1 r))\/(Pp (Qm u3 u4) (λu5 u6 u7 u8=>vJ u6 u7 u8 u1 u5 r))))\/(∃(u1:WL) (u2:List Ze),Zpe x a a1=some (.own 1,[.arr 3 1 true (u1.map ic),.arr 117 4 true (u2.map Ze.c)])/\qI (Wp a1) (λu3=>(Po (Qm u2 u3) (λu4 u5 u6=>vI u4 u5 u6 u1 r))\/(Pp (Qm u2 u3) (λu4 u5 u6 u7=>vJ u5 u6 u7 u1 u4 r)))))/\
 ((iM Zza λx a a1 r=>(∃(u1:WL),∃u2,∃u3,∃u4,Zpf x a a1=some (.tup [.agg [I u2,I u3,I u4,.t .nil],Bo false],[.arr 3 1 true (u1.map ic)])/\r (some (I (-1),[.arr 3 1 true (u1.map ic)])))\/(∃(u1:WL),∃(u2:List Zn),∃u3,∃u4,∃u5,Zpf x a a1=some (.tup [.agg [I u3,I u4,I u5,.own 1],Bo true],[.arr 3 1 true (u1.map ic),.arr 210 3 true (u2.map Zn.c)])/\r (some (I u5,[.arr 3 1 true (u1.map ic)]))))/\
 (iM jO λa a1 a2 r=>A4 (K8 a2) (λu1=>∃(u2:WL),∃u3,Zza u1 a a1=some (I u3,[.arr 3 1 true (u2.map ic)])/\qi u3 r))))/\
 ((iM Zpg λa a1 a2 r=>qL (qb false r) λk1=>qB (Jl a1) (qB (ZW a1.Num 0 1000000) (if 10000<a1.Den then k1 else qB (ZW a 0 100000000000000) (qB (ZW a2 0 1000000000000) (qb (decide ((w (a*a1.Den))<=(w (a1.Num*a2)))) r) k1) k1) k1) k1)/\
 ((iM jP λm q b f code n k r=>if k<8 then qI (iK code k) (λu1=>¬n=0/\Kz (Kc b.Box (Int.tmod u1 n)) (λu2 u3=>∃u4 u5,Zpd m q b u2=some (.tup [I u4,Bo u5],[])/\if u5=true then qI (jO m q u2) (λu6=>qB (Zpg u4 f u6) (r (jP m q b f code n (w (k+1)))) (qb false r))else qb false r))else qb true r)/\
 (iM Zzc λa r=>qB (vS a) (qb true r) (∃(u2:Zf),∃(u3:Zr),∃(u4:Zc),∃u5,∃u6,P0 a=some (.tup [.agg (u2.c.map .t),.agg (u3.c.map .t),.agg (u4.c.map .t),I u5,I u6],[])/\∃(u7:Z6),∃u8,iD u2 u3 u4 u5 u6=some (.tup [.agg (u7.c.map .t),Bo u8],[])/\if u8=true then Bs (iH u7) (λu9 u10=>if u10=true then qI (Md u7) (λu11=>qI (iI u7) (λu12=>if u11=u12 then if(w ((w (u9.Num*100))*(w (u5-1))))=(w ((w ((w ((w (u9.Den*u12))*(w (100+u6))))*u5))*u5))then qI (Jj u7.Box) (λu13=>r (jP u2 u4 u7 u9 a u13 0))else qb false r else qb false r))else qb false r)else qb true r))))):=by
 refine qu ?_
 and_intros
 all_goals(intros;unfold Im;(try simp only[Zpa,Sq,jN,Zpc,Zpd,Zpe,Zpf,Zza,jO,Zpg,jP,Zzc,Sp,jL,Z7M,Zf.c_def,Zz.c_def,Zj.c_def,Zc.c_def,jB,iP,i8,jA,Z6.c_def,Box.c_def,FY,R8,L2,F1,ZU.c_def,Wp,Qm,Ze.c_def,K8,Jl,ZW,Zb.c_def,iK,Kc,vS,P0,iD,iH,Md,iI,Jj,Z2.c_def,Zq.c_def,Zr.c_def,Ar,ZyZ,Bf,A7]);(try simp only[Bc]);(try simp only[Bd,gS,kk]))
 all_goals(repeat' first|refine Br λ_=>?_|refine Bq λ_ _=>?_|refine Bp λ_=>?_|refine AL ?_ ?_|exact False.elim)
 all_goals(intro h;first|refine run ZHn rfl ?_|rw[Zk Zpb.eq_1]|rw[Zk ZyW.eq_1]|refine run ZHo rfl ?_|refine run ZHp rfl ?_|refine XD ZHq rfl ?_|refine XD ZHr rfl ?_|refine XD ZHs rfl ?_|refine run ZHt rfl ?_|refine run ZHu rfl ?_|rw[Zk Zzb.eq_1]|refine run ZHv rfl ?_)
 all_goals (refine Yg ?_ h;clear h;simp +decide[*,kk,tI,Az,Z7N,ZyY,ZyX,Z7O,Z7P,Z7Q,Z7R,Z7S,Z7T,Z7U,Z7W,Z7X])
abbrev Uv:=uq ZI4
@[simp] theorem Vy(a b c:Int):ZW a b c=some (Bo (Ak a b c),[]):=by
 apply ZIl;by_cases h:b<=a<;>simp[Ak,h]
@[simp] theorem ZH(a b c:Int):Z0 a b c=some (Bo (Ak a b c),[]):=by
 apply Xn.1.2.1.1;by_cases h:b<=a<;>simp[Ak,h]
def ZI5(xs:WL)(v:Int)(hx:Le xs):∀i,i<=xs.length->
  iQ xs v xs.length i=some (I (Ua (λx=>decide (v=x)) (xs.drop i) i),[]):=by
 refine down _ ?_ ?_
 .apply Wk.1.2.2.2.2;simp[Ua]
 .intro i hi ih;apply Wk.1.2.2.2.2;have h4:=ZK (i:=i) Z
  simp_all [Zrd]
@[simp] def Aaa(xs:WL)(v:Int)(hx:Le xs):ZoO xs v=some (I (Ua (λx=>decide (v=x)) xs 0),[]):=by
 apply Wk.2.1.1.1;have:=ZI5 xs v hx 0 (Yc _);simpa using this
@[simp] def Sv(xs:WL)(v:Int)(hx:Le xs):Jo xs v=some (Bo (has xs v),[]):=by
 apply Wk.2.1.1.2;unfold has;rcases tf (xs.any (λx=>decide (v=x)))with e|e
 .simp_all [Z2w]
 .simp_all [Z2x]
def ZI6(xs:List Bool)(v:Bool)(hx:Le xs):∀i,i<=xs.length->
  iR xs v xs.length i=some (I (Ua (λx=>v == x) (xs.drop i) i),[]):=by
 refine down _ ?_ ?_
 .apply Wk.2.1.2.1;simp[Ua]
 .intro i hi ih;apply Wk.2.1.2.1;have h4:=ZK (i:=i) Z
  simp_all [Zrd]
@[simp] def ZI7(xs:List Bool)(v:Bool)(hx:Le xs):ZoQ xs v=some (Bo (xs.any (λx=>v == x)),[]):=by
 apply Wk.2.2.1.1;have q:ZoP xs v=some (I (Ua (λx=>v == x) xs 0),[]):=by
  apply Wk.2.1.2.2;have:=ZI6 xs v hx 0 (Yc _);simpa using this
 rcases tf (xs.any (λx=>v == x))with e|e
 .simp_all [Z2w]
 .simp_all [Z2x]
def ZI8(xs:WL)(v:Int)(hx:Le xs):∀i,i<=xs.length->bO xs v i=some (Bo (has (xs.drop i) v),[]):=by
 unfold has;refine down _ ?_ ?_
 .simp[WI.1.1.2.1]
 .intro i hi ih;apply WI.1.1.2.1;have h4:=ZK (i:=i) Z;rw[ZCX _ hi];simp at ih;by_cases e:v=xs[i]
  .simp[hi,h4,<-e]
  .have e':¬xs[i]=v:=λhc=>e hc.symm
   simp[hi,h4,e,e',ih]
@[simp] theorem Qn(xs:WL)(v:Int)(hx:Le xs):Vn xs v=some (Bo (has xs v),[]):=by
 apply WI.1.1.2.2;have:=ZI8 xs v hx 0 (Yc _);simpa using this
def Z8i(s:V5)(P:Prop):(if(s.size:Int)=1 then(∃(b1:UInt8),s[0]?=some b1/\(if 97<=(b1.toNat:Int)then(some (Bo (decide ((b1.toNat:Int)<=122)),[])=some (Bo (Qk s),([]:WM)))else(some (Bo false,[])=some (Bo (Qk s),([]:WM)))))else(some (Bo false,[])=some (Bo (Qk s),([]:WM)))):=by
 by_cases h:s.size=1
 .obtain⟨b,hb⟩:=AaG h;rw[Ao];refine⟨b,hb,?_⟩;have e:Qk s=(decide (97<=(b.toNat:Int)) && decide ((b.toNat:Int)<=122)):=by
   unfold Qk;rw[hb];simp only[h,decide_true,Yl]
  simp_all
 .have h':¬(s.size:Int)=1:=by omega
  have:Qk s=false:=by unfold Qk;split<;>simp[h]
  simp[h',this]
@[simp] def j4(s:V5):ZoN s=some (Bo (Qk s),[]):=Wk.1.2.2.2.1 _ _ (Z8i s True)
@[simp] def Zzf(s:V5):Lu s=some (Bo (Qk s),[]):=Xn.1.1.2.2 _ _ (Z8i s True)
def AS(q:Zc):Prop:=Le q.Atoms/\∀a∈q.Atoms,Le a.Vars
def Dg(p:Nat->Bool)(n:Nat):List Bool:=(List.range n).map p
def ZI9(p:Nat->Bool)(n:Nat){v:Int}(h:Ak v 0 ((n:Int)-1)=true):(Dg p n).set v.toNat true=Dg (W8 p [v]) n:=by
 simp[Ak]at h;apply ON
 .simp[Dg]
 .intro i h1 h2;simp only[Dg,CD,Dy,List.length_range]at h1;rw[List.getElem_set];simp only[Dg,List.getElem_map,List.getElem_range];by_cases e:v.toNat=i
  .have:(i:Int)=v:=by omega
   simp[e,W8,has,this]
  .have:¬(i:Int)=v:=by omega
   simp[e,W8,has,this]
def ZIA(q:Zc)(n:Nat)(hn:n<=4)(hq:q.Zg=n)(a:Zd)(qa:List Zd)(l j:Int)(hv:Le a.Vars)(r:XS):∀k,k<=a.Vars.length->∀p,
  (if W9 n (a.Vars.take k) (a.Vars.drop k)=true then Mi q (Dg (W8 p (a.Vars.drop k)) n) qa l (w (j+1))=some r else some (Bo false,[])=some r)->
  iT q (Dg p n) a qa l j a.Vars a.Vars.length k=some r:=by
 refine down _ ?_ ?_
 .intro p h;apply Wk.2.2.2.1;simpa[W9,ZqZ]using h
 .intro k hk ih p h;have h4:=ZK (i:=k) Z;have hw:w (q.Zg-1)=(n:Int)-1:=by rw[hq];exact ZF Z Z
  have hl:=Sv (a.Vars.take k) a.Vars[k] (by simp;omega);apply Wk.2.2.2.1;rw[vK _ hk]at h;rcases tf (Ak a.Vars[k] 0 ((n:Int)-1))with e1|e1
  .simp_all
  .rcases tf (has (a.Vars.take k) a.Vars[k])with e2|e2
   .rw[Zra p hk]at h;simp only[e1,e2,Yl,Bool.not_false]at h;have ih:=ih _ h;have e0:=e1;simp[Ak]at e0;have e5:(a.Vars[k]).toNat<(Dg p n).length:=by simp[Dg];omega
    have e6:=ZI9 p n e1;have e7:k<=a.Vars.length:=by omega
    simp_all
   .simp[e1,e2]at h;have e7:k<=a.Vars.length:=by omega
    simp_all
def ZIB(q:Zc)(n:Nat)(hn:n<=4)(hq:q.Zg=n)(qa:List Zd)(hl:Le qa)(hv:∀a∈qa,Le a.Vars):∀k,k<=qa.length->∀p,
  Mi q (Dg p n) qa qa.length k=some (Bo ((qa.drop k).all (WE n) && (List.range n).all (Ur p (qa.drop k))),[]):=by
 refine down _ ?_ ?_
 .intro p;apply Wk.2.2.1.2;have e:Ur p []=p:=by funext u;simp[Ur]
  have q1:=ZI7 (Dg p n) false (by simp[Dg];omega);have q2:(Dg p n).any (λx=>false == x)=!(List.range n).all p:=Lh p n
  simp_all
 .intro k hk ih p;apply Wk.2.2.1.2;have h4:=ZK (i:=k) Z;rw[JO _ hk];rcases tf (Qk qa[k].Name)with e1|e1
  .simp[hk,e1,WE]
  rcases tf (Ak qa[k].Vars.length 1 3)with e2|e2
  .simp[hk,e1,e2,WE]
  have b:=ZIA q n hn hq qa[k] qa qa.length k (hv _ (Ye hk)) (Bo (WE n qa[k] && (qa.drop (k+1)).all (WE n) && (List.range n).all (Ur p (qa.drop k))),[]) 0 (Yc _) p ?_
  .simp_all
  .simp only[List.take_zero,Yq,WE,e1,e2,Yl]
   simp_all [tf,Yl,Z2y]
@[simp] def Zpj(q:Zc)(h:AS q):Jp q=some (Bo (Z3 q.Zg q.Atoms),[]):=by
 apply ZIu;unfold Z3;rcases tf (Ak q.Zg 1 4)with e1|e1
 .simp[e1]
 rcases tf (Ak q.Atoms.length 1 4)with e2|e2
 .simp[e1,e2]
 have e0:=e1;simp[Ak]at e0;have hn:q.Zg=(q.Zg.toNat:Int):=by omega
 have b:=ZIB q q.Zg.toNat Z hn q.Atoms h.1 h.2 0 (Yc _) (λ_=>false);have r1:q.Zg.toNat<=room:=YU Z;have r2:q.Zg<=room:=by
  omega
 have r3:q.Zg<=140737488355328:=by omega
 have ez:Dg (λ_=>false) q.Zg.toNat=List.replicate q.Zg.toNat false:=by
  apply ON<;>simp[Dg]
 rw[ez,<-hn]at b;simp at b;simp[e1,e2,e0,r1,r2,r3,b];omega
def ZIC(q:Zc)(n:Nat)(c:1<=n)(hn:n<=4)(hq:q.Zg=n)(a:Zd)(j:Int)(hv:Le a.Vars)(r:XS):∀k,k<=a.Vars.length->∀p,
  (if W9 n (a.Vars.take k) (a.Vars.drop k)=true then PO q (Xt (W8 p (a.Vars.drop k))) (w (j+1))=some r else some (Bo false,[])=some r)->
  cS q a (Xt p) j k=some r:=by
 refine down _ ?_ ?_
 .intro p h;apply Ss.2.1;simpa[W9,ZqZ]using h
 .intro k hk ih p h;have h4:=ZK (i:=k) Z;have hw:w (q.Zg-1)=(n:Int)-1:=by rw[hq];exact ZF Z Z
  have hl:=Qn (a.Vars.take k) a.Vars[k] (by simp;omega);have e7:k<=a.Vars.length:=by omega
  apply Ss.2.1;rw[vK _ hk]at h;rcases tf (Ak a.Vars[k] 0 ((n:Int)-1))with e1|e1
  .simp_all
  .rcases tf (has (a.Vars.take k) a.Vars[k])with e2|e2
   .rw[Zra p hk]at h;simp only[e1,e2,Yl,Bool.not_false]at h;have ih:=ih _ h;have e0:=e1;simp[Ak]at e0;have e6:=Zrb p (v:=a.Vars[k]) (by simp[Ak];omega)
    simp_all
   .simp_all
def j5(n:Int)(p:Nat->Bool):Bool:=decide (Xt p=w (Ac 1 n-1))
def ZID(q:Zc)(n:Nat)(c:1<=n)(hn:n<=4)(hq:q.Zg=n)(hl:Le q.Atoms)(hv:∀a∈q.Atoms,Le a.Vars):∀k,k<=q.Atoms.length->∀p,
  PO q (Xt p) k=some (Bo ((q.Atoms.drop k).all (WE n) && j5 n (Ur p (q.Atoms.drop k))),[]):=by
 refine down _ ?_ ?_
 .intro p;apply Ss.1.2;have e:Ur p []=p:=by funext u;simp[Ur]
  have h0:¬(n:Int)<0:=by omega
  simp[e,hq,h0,j5]
 .intro k hk ih p;apply Ss.1.2;have h4:=ZK (i:=k) Z;rw[JO _ hk];rcases tf (Qk q.Atoms[k].Name)with e1|e1
  .simp[hk,e1,WE]
  rcases tf (Ak q.Atoms[k].Vars.length 1 3)with e2|e2
  .simp[hk,e1,e2,WE]
  have b:=ZIC q n c hn hq q.Atoms[k] k (hv _ (Ye hk)) (Bo (WE n q.Atoms[k] && (q.Atoms.drop (k+1)).all (WE n) && j5 n (Ur p (q.Atoms.drop k))),[]) 0 (Yc _) p ?_
  .simp_all
  .simp only[List.take_zero,Yq,WE,e1,e2,Yl]
   simp_all [tf,Yl,Z2y]
@[simp] def MC(q:Zc)(h:AS q):Q3 q=some (Bo (Z3 q.Zg q.Atoms),[]):=by
 apply Ss.2.2;unfold Z3;rcases tf (Ak q.Zg 1 4)with e1|e1
 .simp[e1]
 rcases tf (Ak q.Atoms.length 1 4)with e2|e2
 .simp[e1,e2]
 have e0:=e1;simp[Ak]at e0;obtain⟨k,hk⟩:∃k:Nat,q.Zg=k:=⟨q.Zg.toNat,Z⟩;have b:=ZID q k Z Z hk h.1 h.2 0 (Yc _) (λ_=>false);have ez:Xt (λ_=>false)=0:=rfl;rw[ez]at b;simp only[Yq,Int.ofNat_zero]at b;have e3:(q.Atoms.all (WE k) && j5 k (Ur (λ_=>false) q.Atoms))=(q.Atoms.all (WE k) && (List.range k).all (Ur (λ_=>false) q.Atoms)):=by
  rcases tf (q.Atoms.all (WE k))with e3|e3
  .simp[e3]
  .have hk':k=1\/k=2\/k=3\/k=4:=by omega
   have hz:=all_in e3;have hz':∀u:Nat,k<=u->Ur (λ_=>false) q.Atoms u=false:=λu hu=>by simp only[Ur,Fh];exact hz u Z
   rw[e3,Yl,Yl,Fg,j5,decide_eq_true_eq,Xt];rcases hk' with rfl|rfl|rfl|rfl
   .simp[Ac,ZF,vM,hz' 1 Z,hz' 2 Z,hz' 3 Z,DX]
   .simp[Ac,ZF,vM,hz' 2 Z,hz' 3 Z,DX]
   .simp[Ac,ZF,vM,hz' 3 Z,DX,and_assoc]
   .simp[Ac,ZF,vM,DX,and_assoc]
 simp_all
@[simp] def Zzg(q:Zc)(h:AS q):HF q=some (I (Z7 q.Zg q.Atoms),[]):=by
 apply XE.1.2.2.1;have q1:=Zpj q h;unfold Z7;rcases tf (Z3 q.Zg q.Atoms)with e|e
 .simp[q1,e]
 .have:=(Jc e).2.2.1;have h0:¬((q.Atoms.length:Int)<0):=by omega
  simp[q1,e,this,h0]
@[simp] def Ue(q:Zc)(h:AS q):Wp q=some (I (Z7 q.Zg q.Atoms),[]):=by
 apply Wz.1.1.2.1;have q1:=MC q h;unfold Z7;rcases tf (Z3 q.Zg q.Atoms)with e|e
 .simp[q1,e]
 .have:=(Jc e).2.2.1
  simp_all
def ZIE(xs:WL)(hx:Le xs):∀i,i<=xs.length->fT xs i=some (Bo (QV (xs.drop i) && decide ((xs.length:Int)<=16)),[]):=by
 refine down _ ?_ ?_
 .apply X8.2.2.2.2.1;simp[QV]
 .intro i hi ih;apply X8.2.2.2.2.1;have h4:=ZK (i:=i) Z;rw[Z2t hi];simp at ih;rcases tf (Ak xs[i] 0 7)with h|h<;>simp[hi,h4,h,ih]
@[simp] def Zpk(xs:WL)(hx:Le xs):Hq xs=some (Bo (Xs xs),[]):=by
 apply X8.2.2.2.2.2;have:=ZIE xs hx 0 (Yc _);simpa[Xs]using this
def ZIF(xs:WL)(hx:Le xs):∀i,i<=xs.length->iU xs xs xs.length i=some (Bo (QV (xs.drop i) && decide ((xs.length:Int)<=16)),[]):=by
 refine down _ ?_ ?_
 .apply Wk.2.2.2.2.1;simp[QV]
 .intro i hi ih;apply Wk.2.2.2.2.1;have h4:=ZK (i:=i) Z;rw[Z2t hi];simp at ih;rcases tf (Ak xs[i] 0 7)with h|h<;>simp[hi,h4,h,ih]
@[simp] def Zpl(xs:WL)(hx:Le xs):HE xs=some (Bo (Xs xs),[]):=by
 apply Wk.2.2.2.2.2;have:=ZIF xs hx 0 (Yc _);simpa[Xs]using this
def ZIG(xs ys:WL)(hx:Le xs)(hl:ys.length=xs.length):∀i,i<=xs.length->fU xs ys i=some (Bo (Qj (xs.drop i) (ys.drop i)),[]):=by
 refine down _ ?_ ?_
 .apply Ke.1.1.1;simp[Qj]
 .intro i hi ih;apply Ke.1.1.1;have hi2:i<ys.length:=by omega
  have h4:=ZK (i:=i) Z;rw[Z2u hi hi2];simp at ih;by_cases h:xs[i]<ys[i]
  .simp[hi,hi2,h4,h,show ¬ys[i]<=xs[i] by omega]
  .simp[hi,hi2,h4,h,show ys[i]<=xs[i] by omega,ih]
@[simp] def Zzh(xs ys:WL)(hx:Le xs):LX xs ys=some (Bo (dom xs ys),[]):=by
 apply Ke.1.1.2;by_cases hl:ys.length=xs.length
 .have:=ZIG xs ys hx hl 0 (Yc _);simp at this;simp[hl,this,dom]
 .have h2:¬((xs.length:Int)=ys.length):=by omega
  have h1:¬(xs.length=ys.length):=by omega
  simp[h1,h2,dom]
def ZIH(xs ys:WL)(hx:Le xs)(hl:ys.length=xs.length):∀i,i<=xs.length->iV xs ys xs.length i=some (Bo (Qj (xs.drop i) (ys.drop i)),[]):=by
 refine down _ ?_ ?_
 .apply XE.1.1.1.1;simp[Qj]
 .intro i hi ih;apply XE.1.1.1.1;have hi2:i<ys.length:=by omega
  have h4:=ZK (i:=i) Z;rw[Z2u hi hi2];simp at ih;by_cases h:xs[i]<ys[i]
  .simp[hi,hi2,h4,h,show ¬ys[i]<=xs[i] by omega]
  .simp[hi,hi2,h4,h,show ys[i]<=xs[i] by omega,ih]
@[simp] def Zzi(xs ys:WL)(hx:Le xs):Mj xs ys=some (Bo (dom xs ys),[]):=by
 apply XE.1.1.1.2;by_cases hl:ys.length=xs.length
 .have:=ZIH xs ys hx hl 0 (Yc _);simp at this;simp[hl,this,dom]
 .have h2:¬((xs.length:Int)=ys.length):=by omega
  have h1:¬(xs.length=ys.length):=by omega
  simp[h1,h2,dom]
def E0(b:Box):Prop:=Le b.Low/\Le b.High
@[simp] def Z8j(b:Box)(h:E0 b):Si b=some (Bo (Xj b.Low b.High),[]):=by
 apply XE.1.1.2.1;have q1:=Zpl b.Low h.1;have q2:=Zpl b.High h.2;have q3:=Zzi b.High b.Low h.2;unfold Xj;rcases tf (Xs b.Low)with e1|e1<;>rcases tf (Xs b.High)with e2|e2<;>by_cases e3:0<b.Low.length<;>simp[q1,q2,q3,e1,e2,e3]
@[simp] def Zzj(b:Box)(h:E0 b):Hr b=some (Bo (Xj b.Low b.High),[]):=by
 apply Ke.1.2.1;have q1:=Zpk b.Low h.1;have q2:=Zpk b.High h.2;have q3:=Zzh b.High b.Low h.2;unfold Xj;rcases tf (Xs b.Low)with e1|e1<;>rcases tf (Xs b.High)with e2|e2<;>by_cases e3:0<b.Low.length<;>simp[q1,q2,q3,e1,e2,e3]
def ZII(b:Box)(hv:Xj b.Low b.High=true):∀i,i<=b.Low.length->∀n:Int,1<=n->n<=8 ^ i->
  iW b n b.Low.length i=some (I (n*vol (b.Low.drop i) (b.High.drop i)),[]):=by
 obtain⟨b1,b2,b3,b4⟩:=WR hv;refine down _ ?_ ?_
 .intro n _ _;apply XE.1.1.2.2;rw[Ym,<-b1,Ym,Zrk];simp
 .intro i hi0 ih n hn1 hn2;apply XE.1.1.2.2;have h5:=ZK (i:=i) Z;have hi2:i<b.High.length:=by omega
  obtain⟨g1,g2,g3⟩:=b4 i hi0 hi2;have p1:=vQ (i:=i+1) Z;have p2:(8:Int) ^ (i+1)=8 ^ i*8:=Int.pow_succ 8 i;have hd:(b.High[i]-b.Low[i]+1)<=8:=by omega
  have hd1:1<=(b.High[i]-b.Low[i]+1):=by omega
  have m1:n*(b.High[i]-b.Low[i]+1)<=8 ^ i*8:=Int.mul_le_mul hn2 hd Z Z;have m2:1<=n*(b.High[i]-b.Low[i]+1):=by
   have:=Int.mul_le_mul hn1 hd1 Z Z;omega
  have w1:IntKind.wrap .i64 (b.High[i]-b.Low[i])=b.High[i]-b.Low[i]:=ZF Z Z;have w2:IntKind.wrap .i64 (b.High[i]-b.Low[i]+1)=b.High[i]-b.Low[i]+1:=ZF Z Z;have w3:IntKind.wrap .i64 (n*(b.High[i]-b.Low[i]+1))=n*(b.High[i]-b.Low[i]+1):=ZF Z Z;have ih:=ih (n*(b.High[i]-b.Low[i]+1)) m2 Z;rw[Zrl hi0 hi2,<-Int.mul_assoc];simp at ih;simp[hi0,hi2,h5,w1,w2,w3,ih]
@[simp] def ZIJ(b:Box)(h:E0 b):iX b=some (I (Xd b.Low b.High),[]):=by
 apply XE.1.2.1.2;have q1:=Z8j b h;unfold Xd;rcases tf (Xj b.Low b.High)with e|e
 .simp[q1,e]
 .have q2:=ZII b e 0 (Yc _) 1 Z Sm;have q3:ZoU b=some (I (vol b.Low b.High),[]):=XE.1.2.1.1 _ _ (by simpa using q2);simp[q1,q3,e,Vv]
def ZIK(b:Box)(hv:Xj b.Low b.High=true):∀i,i<=b.Low.length->∀n:Int,1<=n->
  fV b (Vv n) i=some (I (Vv (n*vol (b.Low.drop i) (b.High.drop i))),[]):=by
 obtain⟨b1,b2,b3,b4⟩:=WR hv;refine down _ ?_ ?_
 .intro n _;apply Ke.1.2.2;rw[Ym,<-b1,Ym,Zrk];simp[b1]
 .intro i hi0 ih n hn1;apply Ke.1.2.2;have h5:=ZK (i:=i) Z;have hi2:i<b.High.length:=by omega
  obtain⟨g1,g2,g3⟩:=b4 i hi0 hi2;have hd:(b.High[i]-b.Low[i]+1)<=8:=by omega
  have hd1:1<=(b.High[i]-b.Low[i]+1):=by omega
  obtain⟨c1,c2⟩:=Ln hn1;have m1:Vv n*(b.High[i]-b.Low[i]+1)<=401*8:=Int.mul_le_mul c2 hd Z Z;have m2:1*1<=Vv n*(b.High[i]-b.Low[i]+1):=Int.mul_le_mul c1 hd1 Z Z;have m3:1*1<=n*(b.High[i]-b.Low[i]+1):=Int.mul_le_mul hn1 hd1 Z Z;have w1:IntKind.wrap .i64 (b.High[i]-b.Low[i])=b.High[i]-b.Low[i]:=ZF Z Z;have w2:IntKind.wrap .i64 (b.High[i]-b.Low[i]+1)=b.High[i]-b.Low[i]+1:=ZF Z Z;have w3:IntKind.wrap .i64 (Vv n*(b.High[i]-b.Low[i]+1))=Vv n*(b.High[i]-b.Low[i]+1):=ZF Z Z;have ih:=ih (n*(b.High[i]-b.Low[i]+1)) Z;rw[<-ZDg hn1 hd1]at ih;rw[Zrl hi0 hi2,<-Int.mul_assoc];simp at ih;simp[hi0,hi2,h5,w1,w2,w3,ZDh,ih]
@[simp] def Zpm(b:Box)(h:E0 b):Jj b=some (I (Xd b.Low b.High),[]):=by
 apply Ke.2.1.1;have q1:=Zzj b h;unfold Xd;rcases tf (Xj b.Low b.High)with e|e
 .simp[q1,e]
 .have q2:=ZIK b e 0 (Yc _) 1 Z;have e1:Vv 1=1:=by decide
  rw[e1]at q2;simp at q2;simp[q1,e,q2]
def ZIL(q:Zc)(m:Int)(hl:Le q.Atoms)(hv:∀a∈q.Atoms,Le a.Vars)(v:Nat)(c:v<8)(out:WL)(ho:out.length<=8)(r:XS):∀i,i<=q.Atoms.length->
  Mk q (out++if WF m (q.Atoms.drop i) i v=true then[(v:Int)]else[]) m (w ((v:Int)+1))=some r->
  iZ q out m v q.Atoms q.Atoms.length i=some r:=by
 refine down _ ?_ ?_
 .intro h;apply XE.1.2.2.2.2;simpa[WF]using h
 .intro i hi ih h;apply XE.1.2.2.2.2;have h4:=ZK (i:=i) Z;have c1:=Sv q.Atoms[i].Vars v (hv _ (Ye hi));have h0:¬(i:Int)<0:=by omega
  rw[Zre _ hi]at h;by_cases e1:Aj (At m i) 1=1
  .have e2:Z1 m i=true:=by simp[Z1,e1]
   rcases tf (has q.Atoms[i].Vars v)with e3|e3
   .simp_all
   .simp[e2,e3]at h;have e4:out.length+1<=68719476736:=by omega
    simp_all
  .have e2:Z1 m i=false:=by simp[Z1,e1]
   simp_all
def ZIM(q:Zc)(m:Int)(hl:Le q.Atoms)(hv:∀a∈q.Atoms,Le a.Vars)(n:Nat)(hq:q.Zg=n)(hn:n<=4):∀k,k<=n->
  Mk q (XC m q.Atoms k) m k=some (.own 0,[.arr ZV 1 true ((XC m q.Atoms n).map ic)]):=by
 refine down _ ?_ ?_
 .simp_all [XE.1.2.2.2.1]
 .intro k hk ih;apply XE.1.2.2.2.1;have h4:=ZK (i:=k) Z
  have b:=ZIL q m hl hv k Z (XC m q.Atoms k) (by have:=aW m q.Atoms k;omega) _ 0 (Yc _) (by
   rw[Yq,<-ZDb,show w ((k:Int)+1)=(k:Int)+1 from h4];simpa using ih)
  simp_all
@[simp] def Zzk(q:Zc)(m:Int)(h:AS q)(hv:Z3 q.Zg q.Atoms=true):Sj q m=some (.own 0,[.arr ZV 1 true ((XC m q.Atoms q.Zg.toNat).map ic)]):=by
 apply XE.2.1.1.1;have hn:=K0 hv;have b:=ZIM q m h.1 h.2 q.Zg.toNat Z Z 0 (Yc _);simpa[XC]using b
def MD(b xs:WL)(hb:Le b)(hx:xs.length<=1000000):∀i,i<=xs.length->
  Sk ((xs.take i).filter (has b)) b xs xs.length i=some (.own 0,[.arr ZV 1 true ((xs.filter (has b)).map ic)]):=by
 refine down _ ?_ ?_
 .simp[XE.2.1.1.2]
 .intro i hi ih;apply XE.2.1.1.2;have h4:=ZK (i:=i) Z;have c1:=Sv b xs[i] hb;have e4:((xs.take i).filter (has b)).length+1<=68719476736:=by
   grind
  rw[Zrg _ hi]at ih;rcases tf (has b xs[i])with e|e
  .simp_all
  .simp_all
@[simp] def ME(xs b:WL)(hb:Le b)(hx:xs.length<=1000000):ZoX xs b=some (.own 0,[.arr ZV 1 true ((xs.filter (has b)).map ic)]):=by
 apply XE.2.1.2.1;have:=MD b xs hb hx 0 (Yc _);simpa using this
def ZIN(q:Zc)(m:Int)(hv:∀a∈q.Atoms,Le a.Vars)(c:vO q.Atoms)(i:Nat)(hi:i<q.Atoms.length)(hm:Z1 m i=true)(r:XS):∀k,k<=q.Atoms[i].Vars.length->∀p,
  PX q m (Xt (W8 p (q.Atoms[i].Vars.drop k))) (w ((i:Int)+1))=some r->cZ q m (Xt p) i k=some r:=by
 have e1:Aj (At m i) 1=1:=by simpa[Z1]using hm
 have h0:¬(i:Int)<0:=by omega
 have ha:=Ye hi;refine down _ ?_ ?_
 .simp_all [Wz.1.2.1.2,Ym,ZqZ]
 .intro k hk ih p h;apply Wz.1.2.1.2;have h4:=ZK (i:=k) (by have:=hv _ ha;omega);have e6:=Zrb p (v:=q.Atoms[i].Vars[k]) (c _ ha _ (Ye hk));have e7:=c _ ha _ (Ye hk);simp[Ak]at e7
  simp_all [Zra]
def ZIO(q:Zc)(m:Int)(hl:Le q.Atoms)(hv:∀a∈q.Atoms,Le a.Vars)(c:vO q.Atoms):∀i,i<=q.Atoms.length->∀p,
  PX q m (Xt p) i=some (I (Xt (JQ m p q.Atoms i)),[]):=by
 refine down _ ?_ ?_
 .intro p;apply Wz.1.2.1.1;have e:JQ m p q.Atoms q.Atoms.length=p:=by funext u;simp[JQ,WF]
  simp[e]
 .intro i hi ih p;apply Wz.1.2.1.1;have h4:=ZK (i:=i) Z;have h0:¬(i:Int)<0:=by omega
  rw[ZDa m p hi];rcases tf (Z1 m i)with e|e
  .have e1:¬Aj (At m i) 1=1:=by simpa[Z1]using e
   simp_all [Wz.1.2.1.2]
  .have ih:=ih (W8 p q.Atoms[i].Vars);have b:=ZIN q m hv c i hi e _ 0 (Yc _) p (by rw[Yq,show w ((i:Int)+1)=(i:Int)+1 from h4];simpa using ih);simp at b;simp[hi,e,b]
@[simp] def MF(q:Zc)(m:Int)(h:AS q)(c:vO q.Atoms):Uc q m=some (I (Xt (pV m q.Atoms)),[]):=by
 apply Wz.1.2.2.1;have b:=ZIO q m h.1 h.2 c 0 (Yc _) (λ_=>false);have ez:Xt (λ_=>false)=0:=rfl;have e:JQ m (λ_=>false) q.Atoms 0=pV m q.Atoms:=by funext u;simp[JQ,pV]
 simp_all
def ZIP(q:Zc)(hq:AS q)(h:Z3 q.Zg q.Atoms=true)(x:Zn)(info:List Zp)(st:WL)(hs:UN info st)(cc:info.length<=100)(cd:st.length<=100) :
  match Ub q.Atoms x info st with
  |some y=>Sl q x info st=some (.tup [.agg (y.c.map .t),Bo true],[])
  |none=>∃y:Zp,Sl q x info st=some (.tup [.agg (y.c.map .t),Bo false],[]):=by
 have hl:=WZ h;have wl:w ((q.Atoms.length:Int)-1)=(q.Atoms.length:Int)-1:=ZF Z Z;unfold Ub;by_cases k1:x.Kind=1
 .rw[Ya k1];by_cases c1:Ak x.Zd 0 (q.Atoms.length-1)=true/\x.Order=0
  .rw[Ya c1];have c2:=c1.1;simp[Ak]at c2;have hlt:x.Zd.toNat<q.Atoms.length:=by omega
   have hv:=Ps h _ (Ye hlt);have h0:¬x.Zd<0:=by omega
   simp only;apply XE.2.1.2.2;have e:q.Atoms[x.Zd.toNat].Vars.headD 0=q.Atoms[x.Zd.toNat].Vars[0]' Z:=by
    rw[Yde,hd0 Z]
   rw[Yde]at e;simp[k1,wl,c1,h0,hlt,c2,e,show 0<q.Atoms[x.Zd.toNat].Vars.length by omega]
  .rw[Yb c1];refine⟨⟨0,-1,-1,-1⟩,XE.2.1.2.2 _ _ _ _ _ ?_⟩;rcases tf (Ak x.Zd 0 (q.Atoms.length-1))with e|e
   .simp[k1,wl,e]
   .have e2:¬x.Order=0:=λhc=>c1 ⟨e,hc⟩
    simp[k1,wl,e,e2]
 rw[Yb k1];by_cases k0:x.Zd=0
 rotate_left
 .rw[Ya k0];exact⟨⟨0,-1,-1,-1⟩,XE.2.1.2.2 _ _ _ _ _ (by simp[k1,k0])⟩
 rw[Yb (by simpa using k0)];have w1:w ((st.length:Int)-1)=(st.length:Int)-1:=ZF Z Z;have w2:w ((st.length:Int)-2)=(st.length:Int)-2:=ZF Z Z;by_cases k2:x.Kind=2
 .rw[Ya k2];by_cases n1:st.length<1
  .have:W3 st info 1=none:=by unfold W3;rw[Ap]
   rw[this];have n1':(st.length:Int)<1:=by omega
   exact⟨⟨0,-1,-1,-1⟩,XE.2.1.2.2 _ _ _ _ _ (by simp[k1,k2,k0,n1'])⟩
  .have n1':¬(st.length:Int)<1:=by omega
   obtain⟨s,y,t1,t2,t3,t4⟩:=Lj hs (Z:1<=1) (Z:1<=st.length);have z1:(0:Int)<=(st.length:Int)-1:=by omega
   have z5:(1:Int)<=(st.length:Int):=by omega
   have z2:((st.length:Int)-1).toNat=st.length-1:=by omega
   have q1:=Zzk q y.Mask hq h;have q2:=Sv (XC y.Mask q.Atoms q.Zg.toNat) x.Order (by have:=aW y.Mask q.Atoms q.Zg.toNat;have:=K0 h;omega);rw[aX h]at q2;rw[t1];simp only;by_cases c1:Bg q.Atoms y.Mask x.Order=true/\y.Order≠x.Order
   .rw[Ya c1];apply XE.2.1.2.2;simp[k1,k2,k0,n1',w1,z1,z2,z5,t2,t3,t4,q1,q2,c1]
   .rw[Yb c1];refine⟨⟨0,-1,-1,-1⟩,XE.2.1.2.2 _ _ _ _ _ ?_⟩;rcases tf (Bg q.Atoms y.Mask x.Order)with e|e
    .simp[k1,k2,k0,n1',w1,z1,z2,z5,t2,t3,t4,q1,q2,e]
    .have e2:y.Order=x.Order:=Decidable.byContradiction λhc=>c1 ⟨e,hc⟩
     simp[k1,k2,k0,n1',w1,z1,z2,z5,t2,t3,t4,q1,q2,e,e2]
 rw[Yb k2];by_cases n2:st.length<2
 .have:W3 st info 2=none:=by unfold W3;rw[Ap]
  rw[this];have DG:(st.length:Int)<2:=by omega
  exact⟨⟨0,-1,-1,-1⟩,XE.2.1.2.2 _ _ _ _ _ (by simp[k1,k2,k0,DG])⟩
 have DG:¬(st.length:Int)<2:=by omega
 obtain⟨s,y,t1,t2,t3,t4⟩:=Lj hs (Z:1<=2) (Z:2<=st.length);obtain⟨t,z,u1,u2,u3,u4⟩:=Lj hs (Z:1<=1) (Z:1<=st.length);have z1:(0:Int)<=(st.length:Int)-1:=by omega
 have z2:((st.length:Int)-1).toNat=st.length-1:=by omega
 have z3:(0:Int)<=(st.length:Int)-2:=by omega
 have z4:((st.length:Int)-2).toNat=st.length-2:=by omega
 have hn:=K0 h;have q1:=Zzk q y.Mask hq h;have q2:=Zzk q z.Mask hq h;have l1:=aW y.Mask q.Atoms q.Zg.toNat;have l2:=aW z.Mask q.Atoms q.Zg.toNat;have q3:=ME (XC y.Mask q.Atoms q.Zg.toNat) (XC z.Mask q.Atoms q.Zg.toNat) Z Z
 have q4:=Sv ((XC y.Mask q.Atoms q.Zg.toNat).filter (has (XC z.Mask q.Atoms q.Zg.toNat))) x.Order (by
  have:=TA (has (XC z.Mask q.Atoms q.Zg.toNat)) (XC y.Mask q.Atoms q.Zg.toNat);omega)
 rw[ZDd h]at q4;have q5:=ZDc h y.Mask z.Mask;generalize hS:(XC y.Mask q.Atoms q.Zg.toNat).filter (has (XC z.Mask q.Atoms q.Zg.toNat))=S at q3 q4 q5;rw[t1,u1];simp only
 have base:∀(r:XS),(if Aj y.Mask z.Mask=0 then
    if((S.length:Int)=0)then some (.tup [.agg [I (Au y.Mask z.Mask),I (-1),I s,I t],Bo false],[])=some r
    else if x.Kind=3 then some (.tup [.agg [I (Au y.Mask z.Mask),I (-1),I s,I t],Bo (decide (x.Order=0))],[])=some r
    else if x.Kind=5 then some (.tup [.agg [I (Au y.Mask z.Mask),I y.Order,I s,I t],Bo (decide (x.Order=0))],[])=some r
    else if x.Kind=4 then
     if(Bg q.Atoms y.Mask x.Order && Bg q.Atoms z.Mask x.Order)=true then
      if y.Order=x.Order then some (.tup [.agg [I (Au y.Mask z.Mask),I x.Order,I s,I t],Bo (decide (z.Order=x.Order))],[])=some r
      else some (.tup [.agg [I (Au y.Mask z.Mask),I x.Order,I s,I t],Bo false],[])=some r
     else some (.tup [.agg [I (Au y.Mask z.Mask),I x.Order,I s,I t],Bo false],[])=some r
    else some (.tup [.agg [I (Au y.Mask z.Mask),I (-1),I s,I t],Bo false],[])=some r
   else some (.tup [.agg [I (Au y.Mask z.Mask),I (-1),I s,I t],Bo false],[])=some r)->Sl q x info st=some r:=by
  intro r hr;apply XE.2.1.2.2;simp only[k1,k0,k2,if_false,if_true,DG,w1,w2,z1,z2,z3,z4,t2,t3,t4,u2,u3,u4,q1,q2,true_and,Y7,exists_eq_left'];refine⟨_,rfl,_,rfl,S,?_,?_⟩
  .simpa using q3
  .simp only[q4,Y7,CW,AV.t.injEq,T.bool.injEq,and_true,exists_eq_left'];simpa using hr
 by_cases c1:Aj y.Mask z.Mask=0/\shr q.Atoms y.Mask z.Mask=true
 rotate_left
 .rw[Yb c1];refine⟨⟨Au y.Mask z.Mask,-1,s,t⟩,base _ ?_⟩;by_cases c2:Aj y.Mask z.Mask=0
  .have c3:S.length=0:=q5.2 (by rcases tf (shr q.Atoms y.Mask z.Mask)with e|e;exact e;exact absurd ⟨c2,e⟩ c1);have c4:(S.length:Int)=0:=by omega
   rw[Ya c2,Ya c4];simp
  .rw[Yb c2];simp
 rw[Ya c1];have c4:¬(S.length:Int)=0:=λhc=>by
  have:=q5.1 Z;rw[c1.2]at this;cases this
 have c5:¬S=[]:=λhc=>c4 (by simp[hc])
 unfold Vu;by_cases j1:x.Kind=3/\x.Order=0
 .rw[Ya j1];exact base _ (by simp[c1.1,c4,c5,j1])
 rw[Yb j1];by_cases j2:x.Kind=5/\x.Order=0
 .rw[Ya j2];exact base _ (by simp[c1.1,c4,c5,j2])
 rw[Yb j2];by_cases j3:x.Kind=4/\Bg q.Atoms y.Mask x.Order=true/\Bg q.Atoms z.Mask x.Order=true/\y.Order=x.Order/\z.Order=x.Order
 .rw[Ya j3];exact base _ (by simp[c1.1,c4,c5,j3])
 rw[Yb j3];simp only[Option.map_none];by_cases k3:x.Kind=3
 .have e:¬x.Order=0:=λhc=>j1 ⟨k3,hc⟩
  exact⟨⟨Au y.Mask z.Mask,-1,s,t⟩,base _ (by simp[c1.1,c4,c5,k3,e])⟩
 by_cases k5:x.Kind=5
 .have e:¬x.Order=0:=λhc=>j2 ⟨k5,hc⟩
  exact⟨⟨Au y.Mask z.Mask,y.Order,s,t⟩,base _ (by simp[c1.1,c4,c5,k5,e])⟩
 by_cases k4:x.Kind=4
 .refine⟨⟨Au y.Mask z.Mask,x.Order,s,t⟩,base _ ?_⟩;rcases tf (Bg q.Atoms y.Mask x.Order)with e1|e1<;>rcases tf (Bg q.Atoms z.Mask x.Order)with e2|e2<;>by_cases e3:y.Order=x.Order<;>simp[c1.1,c4,c5,k4,e1,e2,e3];exact λe4=>j3 ⟨k4,e1,e2,e3,e4⟩
 .exact⟨⟨Au y.Mask z.Mask,-1,s,t⟩,base _ (by simp[c1.1,c4,c5,k3,k4,k5])⟩
@[simp] def Zpn(b v:Int):R4 b v=some (Bo (Ak v 0 3 && decide (Aj (At b v) 1=1)),[]):=by
 apply X5.1.1.2.1;rcases tf (Ak v 0 3)with e|e
 .simp[e]
 .have e0:=e;simp[Ak]at e0
  simp_all
def XF(x:Zn):Option Zp->XS
 |some y=>(.tup [.agg (y.c.map .t),I (Lk x)],[])
 |none=>(.tup [.agg [I 0,I 0,I 0,I 0],I (-1)],[])
def ZIQ(q:Zc)(hq:AS q)(h:Z3 q.Zg q.Atoms=true)(x:Zn)(info:List Zp)(st:WL)(hs:UN info st)(cc:info.length<=100)(cd:st.length<=100) :
  L8 q x info st=some (XF x (Ub q.Atoms x info st)):=by
 have hl:=WZ h;have wl:w ((q.Atoms.length:Int)-1)=(q.Atoms.length:Int)-1:=ZF Z Z;unfold Ub;by_cases k1:x.Kind=1
 .rw[Ya k1];by_cases c1:Ak x.Zd 0 (q.Atoms.length-1)=true/\x.Order=0
  .rw[Ya c1];have c2:=c1.1;simp[Ak]at c2;have hlt:x.Zd.toNat<q.Atoms.length:=by omega
   have hv:=Ps h _ (Ye hlt);have h0:¬x.Zd<0:=by omega
   apply X5.1.2.1.2;have e:q.Atoms[x.Zd.toNat].Vars.headD 0=q.Atoms[x.Zd.toNat].Vars[0]' Z:=by
    grind [hd0]
   rw[Yde]at e;simp[k1,wl,c1,h0,hlt,c2,e,XF,Lk,show 0<q.Atoms[x.Zd.toNat].Vars.length by omega]
  .rw[Yb c1];apply X5.1.2.1.2;rcases tf (Ak x.Zd 0 (q.Atoms.length-1))with e|e
   .simp[k1,wl,e,XF]
   .have e2:¬x.Order=0:=λhc=>c1 ⟨e,hc⟩
    simp[k1,wl,e,e2,XF]
 rw[Yb k1];have w1:w ((st.length:Int)-1)=(st.length:Int)-1:=ZF Z Z;have w2:w ((st.length:Int)-2)=(st.length:Int)-2:=ZF Z Z;by_cases k0:x.Zd=0
 rotate_left
 .rw[Ya k0];apply X5.1.2.1.2;have j:∀b,R5 q x ⟨0,0,0,0⟩ info st st.length x.Kind b=some (XF x none):=by
   intro b;apply jX;cases b<;>simp[k0,XF]
  by_cases k2:x.Kind=2
  .simp[k1,k2,k0,XF]
  .by_cases k3:x.Kind=3<;>by_cases k4:x.Kind=4<;>simp[k1,k2,k0,k3,k4,j]<;>first|(simp only[k3]at j;simp[j,XF])|(simp only[k4]at j;simp[j,XF])|simp[XF]
 rw[Yb (by simpa using k0)];by_cases k2:x.Kind=2
 .rw[Ya k2];apply X5.1.2.1.2;by_cases n1:st.length<1
  .have:W3 st info 1=none:=by unfold W3;rw[Ap]
   rw[this];have n1':(st.length:Int)<1:=by omega
   simp[k1,k2,k0,n1',XF]
  .have n1':¬(st.length:Int)<1:=by omega
   obtain⟨s,y,t1,t2,t3,t4⟩:=Lj hs (Z:1<=1) (Z:1<=st.length);have z1:(0:Int)<=(st.length:Int)-1:=by omega
   have z5:(1:Int)<=(st.length:Int):=by omega
   have z2:((st.length:Int)-1).toNat=st.length-1:=by omega
   have q1:=MF q y.Mask hq (Li h);have q2:(Ak x.Order 0 3 && decide (Aj (At (Xt (pV y.Mask q.Atoms)) x.Order) 1=1))=Bg q.Atoms y.Mask x.Order:=by
    unfold Bg;rcases tf (Ak x.Order 0 3)with e|e
    .simp[e]
    .rw[e,Yl,Yl,Fg,decide_eq_true_eq];exact Zrc _ e
   rw[t1];simp only;by_cases e2:y.Order=x.Order
   .simp[k1,k2,k0,n1',w1,z1,z2,z5,t2,t3,t4,e2,XF]
   .rcases tf (Bg q.Atoms y.Mask x.Order)with e|e
    .simp only[k1,k2,k0,n1',w1,z1,z2,t2,t3,t4,q1,Zpn,q2,e,e2,if_false,if_true,true_and,Y7,exists_eq_left',CW,AV.t.injEq,T.int.injEq,T.bool.injEq,and_true];simp[XF]
    .simp only[k1,k2,k0,n1',w1,z1,z2,t2,t3,t4,q1,Zpn,q2,e,e2,if_false,if_true,true_and,Y7,exists_eq_left',CW,AV.t.injEq,T.int.injEq,T.bool.injEq,and_true];simp[XF,Lk,k1,k2,e2]
 rw[Yb k2]
 -- a join
 have q0:∀(b:Zp) (c:Zp) (y:Zp) (f:Bool),x.Kind=4->∀m1 m2,L9 q x ⟨0,0,0,0⟩ b c y (Aj (Xt (pV m1 q.Atoms)) (Xt (pV m2 q.Atoms))) f =
   if Bg q.Atoms m1 x.Order=true/\Bg q.Atoms m2 x.Order=true/\b.Order=x.Order/\c.Order=x.Order then some (.tup [.agg [I y.Mask,I x.Order,I y.Left,I y.Right],I 2],[])else some (XF x none):=by
  intro b c y f k4 m1 m2;have e:(Ak x.Order 0 3 && decide (Aj (At (Aj (Xt (pV m1 q.Atoms)) (Xt (pV m2 q.Atoms))) x.Order) 1=1))=(Bg q.Atoms m1 x.Order && Bg q.Atoms m2 x.Order):=by
   unfold Bg;rcases tf (Ak x.Order 0 3)with e|e
   .simp[e]
   .rw[e,Yl,Yl,Yl,Fg,decide_eq_true_eq,Z2v]
    simp_all [Zrc]
  split
  .simp_all [X5.1.2.1.1,Zpn,k4]
  .rename_i hc;apply X5.1.2.1.1;simp only[Zpn,e];rcases tf (Bg q.Atoms m1 x.Order)with e1|e1<;>rcases tf (Bg q.Atoms m2 x.Order)with e2|e2<;>by_cases e3:b.Order=x.Order<;>by_cases e4:c.Order=x.Order<;>simp[k4,e1,e2,e3,e4,XF]
   simp_all
 have q3:∀(b:Zp) (c:Zp) (y:Zp) (v:Int) (f:Bool),x.Kind≠4->L9 q x ⟨0,0,0,0⟩ b c y v f=some (.tup [.agg (y.c.map .t),I 2],[]):=by
  intro b c y v f k4;simp[X5.1.2.1.1,k4]
 have q5:∀(b:Zp) (c:Zp) (y:Zp) (v:Int),x.Kind≠4->R6 q x ⟨0,0,0,0⟩ b c y v=some (.tup [.agg (y.c.map .t),I 2],[]):=by
  intro b c y v k4;simp[X5.1.1.2.2,k4]
 by_cases kk:x.Kind=3\/x.Kind=4\/x.Kind=5
 rotate_left
 .have k3:¬x.Kind=3:=λhc=>kk (.inl hc)
  have k4:¬x.Kind=4:=λhc=>kk (.inr (.inl hc))
  have k5:¬x.Kind=5:=λhc=>kk (.inr (.inr hc))
  have hj:∀y z,Vu q.Atoms x y z=none:=by intro y z;simp[Vu,k3,k4,k5]
  refine Yg (b:=some (XF x none)) (X5.1.2.1.2 _ _ _ _ _ (by simp[k1,k2,k3,k4,k5,XF])) ?_
  grind
 have k5':x.Kind≠3->x.Kind≠4->x.Kind=5:=λa b=>by rcases kk with h|h|h;exact absurd h a;exact absurd h b;exact h
 have red:∀r,R5 q x ⟨0,0,0,0⟩ info st st.length x.Kind true=some r->(x.Kind=5->L8 q x info st=some r)->L8 q x info st=some r:=by
  intro r hr h5;by_cases k5:x.Kind=5
  .exact h5 k5
  .grind [X5.1.2.1.2]
 by_cases n2:st.length<2
 .have:W3 st info 2=none:=by unfold W3;rw[Ap]
  rw[this];have DG:(st.length:Int)<2:=by omega
  refine red _ ?_ ?_
  .exact jX _ _ _ _ _ _ _ _ _ (by simp[k0,DG,XF])
  .intro k5;exact X5.1.2.1.2 _ _ _ _ _ (by simp[k5,k0,DG,XF])
 have DG:¬(st.length:Int)<2:=by omega
 obtain⟨s,y,t1,t2,t3,t4⟩:=Lj hs (Z:1<=2) (Z:2<=st.length);obtain⟨t,z,u1,u2,u3,u4⟩:=Lj hs (Z:1<=1) (Z:1<=st.length);have z1:(0:Int)<=(st.length:Int)-1:=by omega
 have z2:((st.length:Int)-1).toNat=st.length-1:=by omega
 have z3:(0:Int)<=(st.length:Int)-2:=by omega
 have z4:((st.length:Int)-2).toNat=st.length-2:=by omega
 have b1:=MF q y.Mask hq (Li h);have b2:=MF q z.Mask hq (Li h);have b3:=Zri q.Atoms y.Mask z.Mask;rw[t1,u1];simp only;by_cases c1:Aj y.Mask z.Mask=0
 rotate_left
 .rw[Yb (λhc=>c1 hc.1)];refine red _ ?_ ?_
  .apply jX;simp only[k0,DG,w1,w2,z1,z2,z3,z4,t2,t3,t4,u2,u3,u4,b1,b2,c1,if_true,if_false,true_and,Y7,exists_eq_left',CW,AV.t.injEq,T.int.injEq,and_true];simp[XF]
  .intro k5;apply X5.1.2.1.2;simp only[k5,k0,DG,w1,w2,z1,z2,z3,z4,t2,t3,t4,u2,u3,u4,b1,b2,c1,if_true,if_false,true_and,Y7,exists_eq_left',CW,AV.t.injEq,T.int.injEq,and_true];simp[XF]
 rcases tf (shr q.Atoms y.Mask z.Mask)with c2|c2
 .rw[Yb (λhc=>by rw[hc.2]at c2;cases c2)];have c3:=b3.2 c2;refine red _ ?_ ?_
  .apply jX;simp only[k0,DG,w1,w2,z1,z2,z3,z4,t2,t3,t4,u2,u3,u4,b1,b2,c1,c3,if_true,if_false,true_and,Y7,exists_eq_left',CW,AV.t.injEq,T.int.injEq,and_true];simp[XF]
  .intro k5;apply X5.1.2.1.2;simp only[k5,k0,DG,w1,w2,z1,z2,z3,z4,t2,t3,t4,u2,u3,u4,b1,b2,c1,c3,if_true,if_false,true_and,Y7,exists_eq_left',CW,AV.t.injEq,T.int.injEq,and_true];simp[XF]
 rw[Ya ⟨c1,c2⟩];have c3:¬Aj (Xt (pV y.Mask q.Atoms)) (Xt (pV z.Mask q.Atoms))=0:=λhc=>by rw[b3.1 hc]at c2;cases c2
 have p2:Lk x=2:=by unfold Lk;rw[Yb k1,Yb k2]
 refine red _ ?_ ?_
 .apply jX;simp only[k0,DG,w1,w2,z1,z2,z3,z4,t2,t3,t4,u2,u3,u4,b1,b2,c1,c3,if_true,if_false,true_and,Y7,exists_eq_left',CW,AV.t.injEq,T.int.injEq,and_true];by_cases k4:x.Kind=4
  .have k3:¬x.Kind=3:=by omega
   have k5:¬x.Kind=5:=by omega
   rw[Ya k4,q0 _ _ _ _ k4];simp only[Vu,k3,k4,k5,false_and,true_and,if_false];split
   .rename_i hc;simp[XF,p2]
   .rfl
  .by_cases e:x.Order=0
   .by_cases k5:x.Kind=5
    .rw[Yb k4,Ya e,Ya k5,q5 _ _ _ _ k4];simp[Vu,k5,e,XF,p2]
    .have k3:x.Kind=3:=by omega
     rw[Yb k4,Ya e,Yb k5,q3 _ _ _ _ _ k4];simp[Vu,k3,e,XF,p2]
   .rw[Yb k4,Yb e];simp[Vu,k4,e,XF]
 .intro k5;apply X5.1.2.1.2;have k4:x.Kind≠4:=by omega
  simp only[k5,k0,DG,w1,w2,z1,z2,z3,z4,t2,t3,t4,u2,u3,u4,b1,b2,c1,c3,if_true,if_false,true_and,Y7,exists_eq_left',CW,AV.t.injEq,T.int.injEq,and_true];by_cases e:x.Order=0
  .simp[e,q5 _ _ _ _ k4,Vu,k5,XF,p2]
  .simp[e,Vu,k5,XF]
def ZIR(q:Zc)(hq:AS q)(h:Z3 q.Zg q.Atoms=true)(p:Zj)(hl:p.Steps.length<=14):∀i,i<=p.Steps.length->∀info st,UN info st->info.length=i->st.length<=i->
  g7 q p info st i=some (match WG q.Atoms (p.Steps.drop i) i info st with
   |some (Bh,st')=>if st'.length=1 then(.tup [.own 0,Bo true],[.arr Lp 4 true (Bh.map Zp.c)])else(.tup [.own 0,Bo false],[.arr Lp 4 true []])
   |none=>(.tup [.own 0,Bo false],[.arr Lp 4 true []])):=by
 refine down _ ?_ ?_
 .intro info st _ _ _;rw[Ym,WG]
  grind [X5.1.2.2.1]
 .intro i hi ih info st hs hil hst;have h5:=ZK (i:=i) Z;have s1:=ZIQ q hq h p.Steps[i] info st hs Z Z;rw[Z2z q.Atoms hi];apply X5.1.2.2.1
  cases he:Ub q.Atoms p.Steps[i] info st with
  |none =>
   rw[he,XF]at s1;have e0:L8 q p.Steps[i] info st=some (.tup [.agg ((⟨0,0,0,0⟩:Zp).c.map .t),I (-1)],[]):=s1;rw[Ao];refine⟨Z,_,Yf hi,_,_,e0,?_⟩
   simp
  |some y =>
   rw[he,XF]at s1;obtain⟨f1,f2,f3⟩:=Zrj hs he;rw[f1]at s1;have hn:=aY hs y (st.length-XX y);rw[hil]at hn;have ih:=ih (info++[y]) (st.take (st.length-XX y)++[(i:Int)]) hn (by simp[hil]) (Z20 hst _);have w2:w ((st.length:Int)-(XX y:Int))=(st.length:Int)-(XX y:Int):=ZF Z Z;have z2:((st.length:Int)-(XX y:Int)).toNat=st.length-XX y:=by omega
   rw[Ao];refine⟨Z,_,Yf hi,_,_,s1,?_⟩
   grind
@[simp] def Z8k(q:Zc)(p:Zj)(hq:AS q):R7 q p=some (match XL q.Zg q.Atoms p.Steps with
  |some info=>(.tup [.own 0,Bo true],[.arr Lp 4 true (info.map Zp.c)])
  |none=>(.tup [.own 0,Bo false],[.arr Lp 4 true []])):=by
 apply X5.1.2.2.2;have q1:=MC q hq;unfold XL;rcases tf (Z3 q.Zg q.Atoms)with e|e
 .simp[q1,e]
 rcases tf (Ak p.Steps.length 1 14)with e2|e2
 .simp[q1,e,e2]
 .have e3:=e2;simp[Ak]at e3;have b:=ZIR q hq e p Z 0 (Yc _) [] [] (λs hs=>by cases hs) rfl (Yk _)
  grind [ZH,Option.some.injEq]
def ZIS(q:Zc)(hq:AS q)(h:Z3 q.Zg q.Atoms=true)(steps:List Zn)(hl:steps.length<=14):∀i,i<=steps.length->∀info st,UN info st->info.length=i->st.length<=i->
  i4 q info st steps steps.length i=some (match WG q.Atoms (steps.drop i) i info st with
   |some (Bh,st')=>if st'.length=1 then(.tup [.own 0,Bo true],[.arr Lp 4 true (Bh.map Zp.c)])else(.tup [.t .nil,Bo false],[])
   |none=>(.tup [.t .nil,Bo false],[])):=by
 refine down _ ?_ ?_
 .intro info st _ _ _;rw[Ym,WG]
  grind [XE.2.2.1.1]
 .intro i hi ih info st hs hil hst;have h5:=ZK (i:=i) Z;have s1:=ZIP q hq h steps[i] info st hs Z Z;rw[Z2z q.Atoms hi];apply XE.2.2.1.1
  cases he:Ub q.Atoms steps[i] info st with
  |none =>
   rw[he]at s1;obtain⟨y,s1⟩:=s1;rw[Ao];refine⟨Z,_,Yf hi,_,_,s1,?_⟩
   simp
  |some y =>
   rw[he]at s1;obtain⟨f1,f2,f3⟩:=Zrj hs he;have hn:=aY hs y (st.length-XX y);rw[hil]at hn;have ih:=ih (info++[y]) (st.take (st.length-XX y)++[(i:Int)]) hn (by simp[hil]) (Z20 hst _);rw[Ao];refine⟨Z,_,Yf hi,_,_,s1,?_⟩;rw[Ya rfl];refine⟨Z,?_⟩;simp only;unfold XX at ih f2|-;rw[show w ((i:Int)+1)=(i:Int)+1 from h5];by_cases r:0<=y.Right
   .simp only[Ya r]at ih f2|-
    grind [ZF]
   .simp only[Yb r]at ih f2|-;by_cases l:0<=y.Left
    .simp only[Ya l]at ih f2|-
     grind [ZF]
    .simp only[Yb l]at ih f2|-
     grind
@[simp] def Z8l(q:Zc)(p:Zj)(hq:AS q):HG q p=some (match XL q.Zg q.Atoms p.Steps with
  |some info=>(.tup [.own 0,Bo true],[.arr Lp 4 true (info.map Zp.c)])
  |none=>(.tup [.t .nil,Bo false],[])):=by
 apply XE.2.2.1.2;have q1:=Zpj q hq;unfold XL;rcases tf (Z3 q.Zg q.Atoms)with e|e
 .simp[q1,e]
 rcases tf (Ak p.Steps.length 1 14)with e2|e2
 .simp[q1,e,e2]
 .have e3:=e2;simp[Ak]at e3;have b:=ZIS q hq e p.Steps Z 0 (Yc _) [] [] (λs hs=>by cases hs) rfl (Yk _)
  grind [Vy,Option.some.injEq]
@[simp] def ZIT(q:Zc)(p:Zj)(hq:AS q):i5 q p=some (I (JS q.Zg q.Atoms p.Steps),[]):=by
 apply XE.2.2.2.1;have q1:=Z8l q p hq;unfold JS
 cases he:XL q.Zg q.Atoms p.Steps with
 |none=>rw[he]at q1;exact .inl ⟨q1,rfl⟩
 |some info =>
  obtain⟨l1,l2,l3,l4⟩:=G5 he;rw[he]at q1;have hlt:info.length-1<info.length:=by omega
  have w1:w ((info.length:Int)-1)=(info.length:Int)-1:=ZF Z Z;have z2:((info.length:Int)-1).toNat=info.length-1:=by omega
  grind
@[simp] def ZIU(q:Zc)(p:Zj)(hq:AS q):ZoE q p=some (I (JS q.Zg q.Atoms p.Steps),[]):=by
 apply Xu.1.2.2.2.1;have q1:=Z8k q p hq;unfold JS
 cases he:XL q.Zg q.Atoms p.Steps with
 |none=>rw[he]at q1;exact⟨[],false,q1,Om⟩
 |some info =>
  obtain⟨l1,l2,l3,l4⟩:=G5 he;rw[he]at q1;have hlt:info.length-1<info.length:=by omega
  have w1:w ((info.length:Int)-1)=(info.length:Int)-1:=ZF Z Z;have z2:((info.length:Int)-1).toNat=info.length-1:=by omega
  refine⟨info,true,q1,?_⟩;rw[Ya rfl,w1,z2];refine⟨Z,_,Yf hlt,?_⟩
  grind
def ZIV(l:WL)(n:Nat)(hn:n<=1099511627776)(hl:Le l):∀k,k<=l.length->i7 l n l l.length k=some (Bo (W9 n (l.take k) (l.drop k) && decide (0<l.length)),[]):=by
 have hw:w ((n:Int)-1)=(n:Int)-1:=ZF Z Z;refine down _ ?_ ?_
 .apply XE.2.2.2.2.1;simp[W9]
 .intro k hk ih;apply XE.2.2.2.2.1;have h4:=ZK (i:=k) Z;have c1:=Sv (l.take k) l[k] (by simp;omega);have e7:k<=l.length:=by omega
  rw[vK _ hk];simp at ih;rcases tf (Ak l[k] 0 ((n:Int)-1))with e1|e1
  .simp[hk,h4,hw,e1]
  .rcases tf (has (l.take k) l[k])with e2|e2
   .simp_all
   .simp_all
@[simp] def ZIW(l:WL)(n:Nat)(hn:n<=1099511627776)(hl:Le l):i6 l n=some (Bo (W9 n [] l && decide (0<l.length)),[]):=by
 apply XE.2.2.2.2.2;have:=ZIV l n hn hl 0 (Yc _);simpa using this
@[simp] def ZIX(b s:Int):jB b s=some (I (Us b s),[]):=by
 apply F9.2.2.2;unfold Us;rcases tf (Ak b 0 1000000000000)with e1|e1
 .simp[e1]
 rcases tf (Ak s 0 100)with e2|e2
 .simp[e1,e2]
 .obtain⟨w1,w2,w3⟩:=Z25 e1 e2;simp[e1,e2,w1,w2,w3]
@[simp] def ZIY(b s:Int):L7 b s=some (I (Us b s),[]):=by
 apply ZIg;unfold Us;rcases tf (Ak b 0 1000000000000)with e1|e1
 .simp[e1]
 rcases tf (Ak s 0 100)with e2|e2
 .simp[e1,e2]
 .obtain⟨w1,w2,w3⟩:=Z25 e1 e2;simp[e1,e2,w1,w2,w3]
def ZIZ(b:Z6)(hl:EY b):∀k,k<=b.Contours.length->
  So b b.Contours b.Contours.length k=some (Bo ((b.Contours.drop k).all (UO b.Plans.length) && (decide (0<b.Budgets.length) && decide (b.Contours.length=b.Budgets.length))),[]):=by
 obtain⟨l1,l2,l3,l4,l5,l6⟩:=hl;refine down _ ?_ ?_
 .apply F9.1.2.2
  simp_all [Int.natCast_inj]
 .intro k hk ih;apply F9.1.2.2;have h4:=ZK (i:=k) Z;have c1:=ZIW b.Contours[k] b.Plans.length l4 (l6 _ (Ye hk));rw[JO _ hk];simp only[UO]at ih|-;simp only[Ys,Yt]at ih;generalize hd:(W9 (b.Plans.length) [] b.Contours[k] && decide (0<b.Contours[k].length))=d at c1|-;rw[Ao];refine⟨Z,_,Yf hk,d,c1,?_⟩
  simp_all
def ZJa(b:Z6)(hr:Ak b.Ratio 2 8=true)(hl:EY b)(c:Bool)(hc:So b b.Contours b.Contours.length 0=some (Bo c,[])):∀k,k<=b.Budgets.length->(∀p,VJ b.Budgets k=some p->Ak p 1 500000000000=true)->
  Sn b b.Budgets b.Budgets.length k=some (Bo (Vw b.Ratio (VJ b.Budgets k) (b.Budgets.drop k) && c),[]):=by
 obtain⟨l1,l2,l3,l4,l5,l6⟩:=hl;refine down _ ?_ ?_
 .intro _;apply F9.1.2.1;rw[Ap,hc];simp[Vw]
 .intro k hk ih hp;apply F9.1.2.1;have h4:=ZK (i:=k) Z;rw[Z26 _ _ hk];rcases tf (Ak b.Budgets[k] 1 500000000000)with e1|e1
  .simp[hk,e1]
  have pk:VJ b.Budgets (k+1)=some b.Budgets[k]:=by simp[VJ,Yf hk]
  rw[pk]at ih;have ih:=ih (λp h=>by cases h;exact e1);simp only[Ys,Yt]at ih
  cases k with
  |zero =>
   simp at ih
   simp[hk,e1,VJ,Lo,ih,show w 1=1 by decide]
  |succ j =>
   have hj:j<b.Budgets.length:=by omega
   have j6:VJ b.Budgets (j+1)=some b.Budgets[j]:=by simp[VJ,Yf hj]
   have hb:=hp _ j6;rw[j6];simp only[Lo];simp[Ak]at hb hr;have m1:b.Ratio*b.Budgets[j]<=8*500000000000:=Int.mul_le_mul hr.2 hb.2 Z Z;have m2:0<=b.Ratio*b.Budgets[j]:=Int.mul_nonneg Z Z;have w1:w (b.Ratio*b.Budgets[j])=b.Ratio*b.Budgets[j]:=ZF Z Z;have w2:w (((j+1:Nat):Int)-1)=j:=by rw[show((j+1:Nat):Int)-1=j by omega];exact ZF Z Z
   rw[Ao];refine⟨Z,b.Budgets[j+1],by rw[Yj];exact Yf hk,true,by rw[Vy,e1],?_⟩
   grind
def ZJb(q:Zc)(b:Z6)(hq:AS q)(hl:EY b)(c:Bool)(hc:Sn b b.Budgets b.Budgets.length 0=some (Bo c,[])):∀k,k<=b.Plans.length->
  i9 q b b.Plans b.Plans.length k=some (Bo ((b.Plans.drop k).all (G6 q.Zg q.Atoms) && c),[]):=by
 obtain⟨l1,l2,l3,l4,l5,l6⟩:=hl;refine down _ ?_ ?_
 .simp_all [F9.1.1]
 .intro k hk ih;apply F9.1.1;have h4:=ZK (i:=k) Z;have q1:=ZIT q b.Plans[k] hq;have q2:=Zzg q hq;rw[JO _ hk];simp at ih;by_cases e:JS q.Zg q.Atoms b.Plans[k].Steps=Z7 q.Zg q.Atoms
  .simp[hk,h4,q1,q2,e,ih,G6]
  .simp[hk,h4,q1,q2,e,G6]
@[simp] def ZJc(q:Zc)(b:Z6)(hq:AS q)(hl:EY b):i8 q b=some (Bo (QW q.Zg q.Atoms b),[]):=by
 apply F9.2.1;have q1:=Zpj q hq;have q2:=Zzg q hq;have q3:=ZIJ b.Box ⟨hl.1,hl.2.1⟩;have q4:=vN q.Zg q.Atoms;unfold QW a9;rcases tf (Z3 q.Zg q.Atoms)with e1|e1
 .simp[q1,e1]
 rcases tf (Ak b.Version 1 999)with e2|e2
 .simp[q1,e1,e2]
 rcases tf (Ak b.Ratio 2 8)with e3|e3
 .simp[q1,e1,e2,e3]
 rcases tf (Ak b.Slack 0 100)with e4|e4
 .simp[q1,e1,e2,e3,e4]
 rcases tf (Ak (Xd b.Box.Low b.Box.High) 1 400)with e5|e5
 .simp_all
 by_cases e6:(b.Box.Low.length:Int)=Z7 q.Zg q.Atoms+1
 .have r2:=ZIZ b hl 0 (Yc _);have r1:=ZJa b e3 hl _ r2 0 (Yc _) (λp h=>by simp[VJ]at h);have r0:=ZJb q b hq hl _ r1 0 (Yc _);simp only[Yq,VJ,Int.ofNat_zero]at r0
  simp_all [Vy,Y7,Bool.and_assoc]
 .simp_all
def Kf:Int->List Z9->Bool
 |_,[]=>true
 |p,s::r=>Ak s.From 1 8192 && Ak s.Add (-99) 99 && decide (p<s.From) && Kf s.From r
def Uw(l:List Z9):Nat->Int
 |0=>0
 |i+1=>match l[i]? with|some s=>s.From|none=>0
def Ux(n:Int):Bool:=Ak n (-99) 99
def Wl(o:Zz):Bool:=Ux o.Fixed && Ux o.Vj && Ux o.Vk && Ux o.Vl && Ux o.Vm && decide (o.Steps.length<=4) && Kf 0 o.Steps
def Z8m(p:Int){l:List Z9}{i:Nat}(h:i<l.length):Kf p (l.drop i)=(Ak l[i].From 1 8192 && Ak l[i].Add (-99) 99 && decide (p<l[i].From) && Kf l[i].From (l.drop (i+1))):=by
 rw[Yh h,Kf]
@[simp] def ZJd(n:Int):FV n=some (Bo (Ux n),[]):=by
 apply Ke.2.2.1;simp[Ux]
def ZJe(o:Zz)(hl:Le o.Steps):∀i,i<=o.Steps.length->LY o i=some (Bo (Kf (Uw o.Steps i) (o.Steps.drop i)),[]):=by
 refine down _ ?_ ?_
 .apply Ke.2.2.2.1;simp[Kf]
 .intro i hi ih;apply Ke.2.2.2.1;have h4:=ZK (i:=i) Z;rw[Z8m _ hi];have pn:Uw o.Steps (i+1)=o.Steps[i].From:=by simp[Uw,Yf hi]
  rw[pn]at ih;simp only[Ys,Yt]at ih;rw[Ao];refine⟨Z,o.Steps[i],by rw[Yj];exact Yf hi,_,ZH _ _ _,?_⟩;rcases tf (Ak o.Steps[i].From 1 8192)with e1|e1
  .rw[e1];simp
  rw[e1,Ya rfl];refine⟨_,ZJd _,?_⟩;unfold Ux;rcases tf (Ak o.Steps[i].Add (-99) 99)with e2|e2
  .rw[e2];simp
  rw[e2,Ya rfl,show w ((i:Int)+1)=(i:Int)+1 from h4]
  cases i with
  |zero =>
   rw[Ap,ih]
   have:Uw o.Steps 0<o.Steps[0].From:=by simp[Ak]at e1;simp[Uw];omega
   simp[this]
  |succ j =>
   have hj:j<o.Steps.length:=by omega
   have w2:w (((j+1:Nat):Int)-1)=j:=by rw[show((j+1:Nat):Int)-1=j by omega];exact ZF Z Z
   have pj:Uw o.Steps (j+1)=o.Steps[j].From:=by simp[Uw,Yf hj]
   grind
@[simp] def j7(o:Zz)(hl:Le o.Steps):Hs o=some (Bo (Wl o),[]):=by
 apply Ke.2.2.2.2;have b:=ZJe o hl 0 (Yc _);simp only[Uw,Yq,Int.ofNat_zero]at b;have b:LY o 0=_:=b;unfold Wl;rcases tf (Ux o.Fixed)with e1|e1
 .simp[e1]
 rcases tf (Ux o.Vj)with e2|e2
 .simp[e1,e2]
 rcases tf (Ux o.Vk)with e3|e3
 .simp[e1,e2,e3]
 rcases tf (Ux o.Vl)with e4|e4
 .simp[e1,e2,e3,e4]
 rcases tf (Ux o.Vm)with e5|e5
 .simp[e1,e2,e3,e4,e5]
 by_cases e6:o.Steps.length<=4
 .have e7:¬(4:Int)<o.Steps.length:=by omega
  simp[e1,e2,e3,e4,e5,e6,e7,b]
 .have e7:(4:Int)<o.Steps.length:=by omega
  simp[e1,e2,e3,e4,e5,e6,e7]
def ZJf(o:Zz)(hl:Le o.Steps):∀i,i<=o.Steps.length->Me o o.Steps o.Steps.length i=some (Bo (Kf (Uw o.Steps i) (o.Steps.drop i) && decide (o.Steps.length<=4)),[]):=by
 refine down _ ?_ ?_
 .apply Ws.2.1.1.1;rw[Ap];by_cases e:o.Steps.length<=4
  .simp[Kf,e];omega
  .simp[Kf,e];omega
 .intro i hi ih;apply Ws.2.1.1.1;have h4:=ZK (i:=i) Z;rw[Z8m _ hi];have pn:Uw o.Steps (i+1)=o.Steps[i].From:=by simp[Uw,Yf hi]
  rw[pn]at ih;simp only[Ys,Yt]at ih;rw[Ao];refine⟨Z,o.Steps[i],by rw[Yj];exact Yf hi,_,Vy _ _ _,?_⟩;rcases tf (Ak o.Steps[i].Add (-99) 99)with e2|e2
  .rw[e2];simp
  rw[e2,Ya rfl];refine⟨_,Vy _ _ _,?_⟩;rcases tf (Ak o.Steps[i].From 1 8192)with e1|e1
  .rw[e1];simp
  rw[e1,Ya rfl,show w ((i:Int)+1)=(i:Int)+1 from h4]
  cases i with
  |zero =>
   rw[Ap,ih]
   have:Uw o.Steps 0<o.Steps[0].From:=by simp[Ak]at e1;simp[Uw];omega
   simp[this]
  |succ j =>
   have hj:j<o.Steps.length:=by omega
   have w2:w (((j+1:Nat):Int)-1)=j:=by rw[show((j+1:Nat):Int)-1=j by omega];exact ZF Z Z
   have pj:Uw o.Steps (j+1)=o.Steps[j].From:=by simp[Uw,Yf hj]
   grind
@[simp] def Uy(o:Zz)(hl:Le o.Steps):WT o=some (Bo (Wl o),[]):=by
 apply Ws.2.1.1.2;have hc:ZoH o=some (.bsl 1 5,[.box (o.c.map .t),.box [.ptr 0 0,.ptr 0 1,.ptr 0 2,.ptr 0 3,.ptr 0 4]]):=Ws.1.2.2.2.2 _ _ rfl;refine⟨hc,?_⟩;have b:=ZJf o hl 0 (Yc _);simp only[Uw,Yq]at b;have b:Me o o.Steps o.Steps.length 0=_:=b;have w1:w (0+1)=1:=by decide
 have w2:w (1+1)=2:=by decide
 have w3:w (2+1)=3:=by decide
 have w4:w (3+1)=4:=by decide
 have w5:w (4+1)=5:=by decide
 unfold Wl Ux;apply St;rw[Ao,Ya rfl];refine⟨_,Vy _ _ _,?_⟩;rcases tf (Ak o.Fixed (-99) 99)with e1|e1
 .rw[e1];simp
 rw[e1,Ya rfl,w1];apply St;rw[Ao,Ap,Ya rfl];refine⟨_,Vy _ _ _,?_⟩;rcases tf (Ak o.Vj (-99) 99)with e2|e2
 .rw[e2];simp
 rw[e2,Ya rfl,w2];apply St;rw[Ao,Ap,Ap,Ya rfl];refine⟨_,Vy _ _ _,?_⟩;rcases tf (Ak o.Vk (-99) 99)with e3|e3
 .rw[e3];simp
 rw[e3,Ya rfl,w3];apply St;rw[Ao,Ap,Ap,Ap,Ya rfl];refine⟨_,Vy _ _ _,?_⟩;rcases tf (Ak o.Vl (-99) 99)with e4|e4
 .rw[e4];simp
 rw[e4,Ya rfl,w4];apply St
 simp_all [Vy,tf,St,Bool.and_comm]
def Ga(o:Zz)(l r n:Int):Int:=w (w (w (w (o.Fixed+w (o.Vj*l))+w (o.Vk*r))+w (o.Vl*n))+w (w (o.Vm*l)*r))
def Kg(l r n:Int)(s:Z9):Int:=if s.From<=w (l+r)then w (n+s.Add)else n
def Sw(o:Zz)(l r n:Int):Int:=o.Steps.foldl (Kg l r) (Ga o l r n)
def Xo(o:Zz)(l r n:Int):Int:=if(Wl o && Ak l 0 4096 && Ak r 0 4096 && Ak n 0 4096)=true then Sw o l r n else 0
def ZJg(l r:Int)(st:List Z9)(hl:Le st):∀i,i<=st.length->∀n,Mh l r n st st.length i=some (I ((st.drop i).foldl (Kg l r) n),[]):=by
 refine down _ ?_ ?_
 .simp[Ws.2.2.2.2.2]
 .intro i hi ih n;apply Ws.2.2.2.2.2;have h4:=ZK (i:=i) Z;rw[Yh hi,Y6];simp only[Ys,Yt]at ih;by_cases e:st[i].From<=w (l+r)
  .simp[hi,h4,e,ih,Kg]
  .simp[hi,h4,e,ih,Kg]
@[simp] def ZNG(o:Zz)(hl:Le o.Steps)(l r n:Int):Sf o l r n=some (I (Sw o l r n),[]):=by
 apply Mr.1.1;have b:=ZJg l r o.Steps hl 0 (Yc _) (Ga o l r n);simpa[Sw,Ga]using b
@[simp] def Jr(o:Zz)(hl:Le o.Steps)(l r n:Int):WH o l r n=some (I (Xo o l r n),[]):=by
 apply Ud.2.1.1;unfold Xo
 simp_all
def ZJh(o:Zz)(l r:Int)(hl:Le o.Steps):∀i,i<=o.Steps.length->∀n,LZ o l r n i=some (I ((o.Steps.drop i).foldl (Kg l r) n),[]):=by
 refine down _ ?_ ?_
 .simp[XN.1.1.1.1]
 .intro i hi ih n;apply XN.1.1.1.1;have h4:=ZK (i:=i) Z;rw[Yh hi,Y6];simp only[Ys,Yt]at ih;by_cases e:o.Steps[i].From<=w (l+r)
  .simp[hi,h4,e,ih,Kg]
  .simp[hi,h4,e,ih,Kg]
@[simp] def KD(o:Zz)(hl:Le o.Steps)(l r n:Int):Uu o l r n=some (I (Xo o l r n),[]):=by
 apply XN.1.1.1.2;have b:=ZJh o l r hl 0 (Yc _) (Ga o l r n);simp only[Yq,Ga]at b;have b:LZ o l r _ 0=_:=b;unfold Xo;rcases tf (Wl o)with e1|e1<;>rcases tf (Ak l 0 4096)with e2|e2<;>rcases tf (Ak r 0 4096)with e3|e3<;>rcases tf (Ak n 0 4096)with e4|e4<;>simp[hl,e1,e2,e3,e4,b,Sw,Ga]
@[simp] def ZJi(c:Int):F4 c=some (I (Xi c),[]):=by
 apply Ws.2.2.2.2.1;cases h:Ak c 0 7
 .simp[h,Z2s h]
 .rcases aT h with rfl|rfl|rfl|rfl|rfl|rfl|rfl|rfl<;>simp[Ak,Xi,ZF,Ac]
@[simp] def Gb(c:Int):Ji c=some (I (Xi c),[]):=by
 apply X8.2.1.1.2;have e:∀n i r,(if i<c then RI c (if 1<w (n*4)then w (n*4)else 1) (w (i+1))=some r else some (I n,[])=some r)->RI c n i=some r:=λn i r h=>X8.2.1.1.1 _ _ _ _ h
 cases h:Ak c 0 7
 .simp[h,Z2s h]
 .refine⟨_,ZH _ _ _,?_⟩;rw[h,Ya rfl];rcases aT h with rfl|rfl|rfl|rfl|rfl|rfl|rfl|rfl
  all_goals repeat (refine e _ _ _ ?_;first|(rw[Yb Sm];rfl)|rw[Ya Sm])
def inT(t:WL):Prop:=∃a b c:Int,t=[a,b,c]/\(0<=a/\a<=7)/\(0<=b/\b<=7)/\(0<=c/\c<=7)
def A6(o:Zz):WL->Int
 |[a,b,c]=>Sw o (Xi a) (Xi b) (Xi c)
 |_=>0
def Sx{c:Int}(h0:0<=c)(h7:c<=7):Ak (Xi c) 0 4096=true:=by
 have:c=0\/c=1\/c=2\/c=3\/c=4\/c=5\/c=6\/c=7:=by omega
 rcases this with rfl|rfl|rfl|rfl|rfl|rfl|rfl|rfl<;>decide
def MG(o:Zz)(hl:Le o.Steps){t:WL}(h:inT t):KA o t=some (I (A6 o t),[]):=by
 obtain⟨a,b,c,rfl,_⟩:=h;apply Mr.1.2;simp[hl,A6]
theorem Zpo(o:Zz)(hl:Le o.Steps)(hv:Wl o=true){t:WL}(h:inT t):RJ o t=some (I (A6 o t),[]):=by
 obtain⟨a,b,c,rfl,h1,h2,h3⟩:=h;apply XN.1.1.2.1;have c1:=Sx h1.1 h1.2;have c2:=Sx h2.1 h2.2;have c3:=Sx h3.1 h3.2;simp[hl,A6,Xo,hv,c1,c2,c3]
def Z8n{t:WL}(h:inT t){k:Nat}{e:Int}(hk:t[k]?=some e)(h7:e+1<=7):inT (t.set k (e+1)):=by
 obtain⟨a,b,c,rfl,h1,h2,h3⟩:=h
 match k,hk with
 |0,hk=>simp at hk;subst hk;exact⟨a+1,b,c,rfl,Z,h2,h3⟩
 |1,hk=>simp at hk;subst hk;exact⟨a,b+1,c,rfl,h1,Z,h3⟩
 |2,hk=>simp at hk;subst hk;exact⟨a,b,c+1,rfl,h1,h2,Z⟩
 |k+3,hk=>simp at hk
def Z8o{t:WL}(h:inT t){k:Nat}(hk:k<3):∃e,t[k]?=some e/\0<=e/\e<=7:=by
 obtain⟨a,b,c,rfl,h1,h2,h3⟩:=h
 match k,hk with
 |0,_=>exact⟨a,rfl,h1⟩
 |1,_=>exact⟨b,rfl,h2⟩
 |2,_=>exact⟨c,rfl,h3⟩
def Zzl{t:WL}(h:inT t):t.length=3:=by obtain⟨a,b,c,rfl,_⟩:=h;rfl
def j8(o:Zz)(t:WL)(k:Nat):Prop:=∃e,t[k]?=some e/\e+1<=7/\A6 o (t.set k (e+1))<A6 o t
def Uf(o:Zz)(t:WL)(k:Nat):Prop:=∃j,k<=j/\j<3/\j8 o t j
def Gc(o:Zz):Prop:=∃t,inT t/\Uf o t 0
def Zzm(o:Zz):Prop:=∃t,inT t/\A6 o t<1
abbrev Qo(X:Rs)(p:Prop):Prop:=∃(xs ys:WL) (b:Bool),X=some (.tup [.own 0,.own 1,Bo b],[.arr ZV 1 true (xs.map ic),.arr ZV 1 true (ys.map ic)])/\(b=true↔p)
def Qo.congr{X:Rs}{p q:Prop}(h:Qo X p)(e:p↔q):Qo X q:=by
 simp_all
def j9(o:Zz)(hl:Le o.Steps)(hv:Wl o=true){t:WL}(ht:inT t)(a b e:Int)(p:Prop)(hc:Qo (RM o a b (w (e+1))) p):∀k:Nat,k<=3->
  Qo (Ht o t a b e k) (Uf o t k\/p):=by
 have h3:=Zzl ht;refine down _ ?_ ?_
 .obtain⟨xs,ys,f,h1,h2⟩:=hc;refine⟨xs,ys,f,XN.1.2.2.1 _ _ _ _ _ _ _ (by rw[Ap];exact h1),?_⟩;rw[h2];exact⟨.inr,λh=>h.elim (λ⟨j,a,b,_⟩=>by omega) id⟩
 .intro k hk ih;have h4:=ZK (i:=k) Z;obtain⟨x,hx,x0,x7⟩:=Z8o ht hk;have wx:w (x+1)=x+1:=ZF Z Z;simp only[Ys,Yt]at ih;have step:Uf o t k↔(j8 o t k\/Uf o t (k+1)):=by
   constructor
   .rintro⟨j,j1,j2,j3⟩;by_cases hj:j=k
    .subst hj;exact .inl j3
    .exact .inr ⟨j,Z,j2,j3⟩
   .rintro(h|⟨j,j1,j2,j3⟩)
    .exact⟨k,Yk _,hk,h⟩
    .exact⟨j,Z,j2,j3⟩
  have pre:∀r,(if x+1<=7 then(if A6 o (t.set k (x+1))<A6 o t then some (.tup [.own 0,.own 1,Bo true],[.arr ZV 1 true (t.map ic),.arr ZV 1 true ((t.set k (x+1)).map ic)])=some r
    else Ht o t a b e ((k:Int)+1)=some r)else Ht o t a b e ((k:Int)+1)=some r)->Ht o t a b e k=some r:=by
   intro r hr;apply XN.1.2.2.1;rw[Ao];refine⟨Z,Z,x,by rw[Yj];exact hx,?_⟩;rw[wx,Yj,show w ((k:Int)+1)=(k:Int)+1 from h4];by_cases h7:x+1<=7
   .rw[Ya h7]at hr|-;exact⟨_,Zpo o hl hv (Z8n ht hx h7),_,Zpo o hl hv ht,hr⟩
   .grind
  have dk:j8 o t k↔(x+1<=7/\A6 o (t.set k (x+1))<A6 o t):=by
   constructor
   .rintro⟨y,y1,y2,y3⟩;rw[hx]at y1;cases y1;exact⟨y2,y3⟩
   .rintro⟨y2,y3⟩;exact⟨x,hx,y2,y3⟩
  grind
def Sy{P:Nat->Prop}{i:Nat}{p:Prop}(hi:i<8):((∃z,i<=z/\z<=7/\P z)\/p)↔(P i\/(∃z,i+1<=z/\z<=7/\P z)\/p):=by
 grind
def Sz{P:Nat->Prop}{p:Prop}:((∃z,8<=z/\z<=7/\P z)\/p)↔p:=⟨λh=>h.elim (λ⟨z,a,b,_⟩=>by omega) id,.inr⟩
def kG(o:Zz)(hl:Le o.Steps)(hv:Wl o=true)(a b:Nat)(ha:a<=7)(hb:b<=7)(p:Prop)(hc:Qo (RL o a ((b:Int)+1)) p):∀e:Nat,e<=8->
  Qo (RM o a b e) ((∃z:Nat,e<=z/\z<=7/\Uf o [(a:Int),(b:Int),(z:Int)] 0)\/p):=by
 have wb:w ((b:Int)+1)=(b:Int)+1:=ZF Z Z;refine down _ ?_ ?_
 .refine Qo.congr ?_ Sz.symm
  grind [XN.1.2.1.2]
 .intro e he ih;have we:w ((e:Int)+1)=(e:Int)+1:=ZF Z Z;have hT:inT [(a:Int),(b:Int),(e:Int)]:=⟨a,b,e,rfl,Z,Z,Z⟩;simp only[Ys,Yt]at ih;obtain⟨xs,ys,f,h1,h2⟩:=j9 o hl hv hT a b e _ (by rw[we];exact ih) 0 Z;exact⟨xs,ys,f,XN.1.2.1.2 _ _ _ _ _ (by rw[Ao];exact h1),h2.trans (Sy (P:=λz:Nat=>Uf o [(a:Int),(b:Int),(z:Int)] 0) he).symm⟩
def kH(o:Zz)(hl:Le o.Steps)(hv:Wl o=true)(a:Nat)(ha:a<=7)(p:Prop)(hc:Qo (RK o ((a:Int)+1)) p):∀b:Nat,b<=8->
  Qo (RL o a b) ((∃y:Nat,b<=y/\y<=7/\∃z:Nat,0<=z/\z<=7/\Uf o [(a:Int),(y:Int),(z:Int)] 0)\/p):=by
 have wa:w ((a:Int)+1)=(a:Int)+1:=ZF Z Z;refine down _ ?_ ?_
 .refine Qo.congr ?_ Sz.symm
  grind [XN.1.2.1.1]
 .intro b hb ih;simp only[Ys,Yt]at ih;obtain⟨xs,ys,f,h1,h2⟩:=kG o hl hv a b ha Z _ ih 0 Z;exact⟨xs,ys,f,XN.1.2.1.1 _ _ _ _ (by rw[Ao];exact h1),h2.trans (Sy (P:=λy:Nat=>∃z:Nat,0<=z/\z<=7/\Uf o [(a:Int),(y:Int),(z:Int)] 0) hb).symm⟩
def kI(o:Zz)(hl:Le o.Steps)(hv:Wl o=true):∀a:Nat,a<=8->
  Qo (RK o a) ((∃x:Nat,a<=x/\x<=7/\∃y:Nat,0<=y/\y<=7/\∃z:Nat,0<=z/\z<=7/\Uf o [(x:Int),(y:Int),(z:Int)] 0)\/False):=by
 refine down _ ?_ ?_
 .refine Qo.congr ?_ Sz.symm;exact⟨[],[],false,XN.1.1.2.2 _ _ _ (by rw[Ap]),Om⟩
 .intro a ha ih;simp only[Ys,Yt]at ih;obtain⟨xs,ys,f,h1,h2⟩:=kH o hl hv a Z _ ih 0 Z;exact⟨xs,ys,f,XN.1.1.2.2 _ _ _ (by rw[Ao];exact h1),h2.trans (Sy (P:=λx:Nat=>∃y:Nat,0<=y/\y<=7/\∃z:Nat,0<=z/\z<=7/\Uf o [(x:Int),(y:Int),(z:Int)] 0) ha).symm⟩
def Z8p(o:Zz)(P:WL->Prop):(∃t,inT t/\P t)↔∃x:Nat,0<=x/\x<=7/\∃y:Nat,0<=y/\y<=7/\∃z:Nat,0<=z/\z<=7/\P [(x:Int),(y:Int),(z:Int)]:=by
 constructor
 .rintro⟨t,⟨a,b,c,rfl,h1,h2,h3⟩,h⟩;refine⟨a.toNat,Z,Z,b.toNat,Z,Z,c.toNat,Z,Z,?_⟩
  grind
 .rintro⟨x,_,x2,y,_,y2,z,_,z2,h⟩;exact⟨_,⟨x,y,z,rfl,Z,Z,Z⟩,h⟩
def ZJj(o:Zz)(hl:Le o.Steps)(hv:Wl o=true):Qo (zI o) (Gc o):=by
 obtain⟨xs,ys,f,h1,h2⟩:=kI o hl hv 0 Z;refine⟨xs,ys,f,XN.1.2.2.2.1 _ _ ⟨_,j7 o hl,?_⟩,?_⟩
 .simp_all
 .rw[h2,Gc,Z8p o (λt=>Uf o t 0)];simp
abbrev Q7(X:Rs)(p:Prop):Prop:=∃(xs:WL),X=some (.own 0,[.arr ZV 1 true (xs.map ic)])/\(xs≠[]↔p)
def Q7.congr{X:Rs}{p q:Prop}(h:Q7 X p)(e:p↔q):Q7 X q:=by
 simp_all
def kJ(o:Zz)(hl:Le o.Steps)(hv:Wl o=true)(a b:Nat)(ha:a<=7)(hb:b<=7)(p:Prop)(hc:Q7 (RO o a ((b:Int)+1)) p):∀e:Nat,e<=8->
  Q7 (fW o a b e) ((∃z:Nat,e<=z/\z<=7/\A6 o [(a:Int),(b:Int),(z:Int)]<1)\/p):=by
 have wb:w ((b:Int)+1)=(b:Int)+1:=ZF Z Z;refine down _ ?_ ?_
 .refine Q7.congr ?_ Sz.symm
  grind [XN.2.1.1.2]
 .intro e he ih;have we:w ((e:Int)+1)=(e:Int)+1:=ZF Z Z;have hT:inT [(a:Int),(b:Int),(e:Int)]:=⟨a,b,e,rfl,Z,Z,Z⟩;simp only[Ys,Yt]at ih;refine Q7.congr ?_ (Sy he).symm;by_cases h:A6 o [(a:Int),(b:Int),(e:Int)]<1
  .refine⟨[a,b,e],XN.2.1.1.2 _ _ _ _ _ ?_,by simp[h]⟩
   grind [Zpo]
  .obtain⟨xs,h1,h2⟩:=ih;refine⟨xs,XN.2.1.1.2 _ _ _ _ _ ?_,by rw[h2];simp[h]⟩
   grind [Zpo]
def kK(o:Zz)(hl:Le o.Steps)(hv:Wl o=true)(a:Nat)(ha:a<=7)(p:Prop)(hc:Q7 (RN o ((a:Int)+1)) p):∀b:Nat,b<=8->
  Q7 (RO o a b) ((∃y:Nat,b<=y/\y<=7/\∃z:Nat,0<=z/\z<=7/\A6 o [(a:Int),(y:Int),(z:Int)]<1)\/p):=by
 have wa:w ((a:Int)+1)=(a:Int)+1:=ZF Z Z;refine down _ ?_ ?_
 .refine Q7.congr ?_ Sz.symm
  grind [XN.2.1.1.1]
 .intro b hb ih;simp only[Ys,Yt]at ih;obtain⟨xs,h1,h2⟩:=kJ o hl hv a b ha Z _ ih 0 Z;exact⟨xs,XN.2.1.1.1 _ _ _ _ (by rw[Ao];exact h1),h2.trans (Sy (P:=λy:Nat=>∃z:Nat,0<=z/\z<=7/\A6 o [(a:Int),(y:Int),(z:Int)]<1) hb).symm⟩
def kL(o:Zz)(hl:Le o.Steps)(hv:Wl o=true):∀a:Nat,a<=8->
  Q7 (RN o a) ((∃x:Nat,a<=x/\x<=7/\∃y:Nat,0<=y/\y<=7/\∃z:Nat,0<=z/\z<=7/\A6 o [(x:Int),(y:Int),(z:Int)]<1)\/False):=by
 refine down _ ?_ ?_
 .refine Q7.congr ?_ Sz.symm
  grind [XN.1.2.2.2.2]
 .intro a ha ih;simp only[Ys,Yt]at ih;obtain⟨xs,h1,h2⟩:=kK o hl hv a Z _ ih 0 Z;exact⟨xs,XN.1.2.2.2.2 _ _ _ (by rw[Ao];exact h1),h2.trans (Sy (P:=λx:Nat=>∃y:Nat,0<=y/\y<=7/\∃z:Nat,0<=z/\z<=7/\A6 o [(x:Int),(y:Int),(z:Int)]<1) ha).symm⟩
def ZJk(o:Zz)(hl:Le o.Steps)(hv:Wl o=true):Q7 (zL o) (Zzm o):=by
 obtain⟨xs,h1,h2⟩:=kL o hl hv 0 Z;refine⟨xs,XN.2.1.2.1 _ _ h1,?_⟩;rw[h2,Zzm,Z8p o (λt=>A6 o t<1)];simp
def Js(a b:Int)(c:Nat):XV:=(List.range' c (8-c)).map λz:Nat=>[a,b,(z:Int)]
def HQ(a:Int)(b:Nat):XV:=(List.range' b (8-b)).flatMap λy:Nat=>Js a y 0
def SA(a:Nat):XV:=(List.range' a (8-a)).flatMap λx:Nat=>HQ x 0
def Zzn{i:Nat}(h:i<8):List.range' i (8-i)=i::List.range' (i+1) (8-(i+1)):=by
 rw[show 8-i=(8-(i+1))+1 by omega,Ycp]
def ZJl(a b:Int)(c:Nat):(Js a b c).length=8-c:=by simp[Js]
def ZJm(a:Int):(HQ a 0).length=64:=rfl
def kM(a b:Nat)(hb:b<=7)(r:XS):∀c:Nat,c<=8->∀out:XV,out.length<=1000000->Mg (out++Js a b c) a ((b:Int)+1)=some r->Se out a b c=some r:=by
 have wb:w ((b:Int)+1)=(b:Int)+1:=ZF Z Z;have key:∀c:Nat,c<=8->∀out:XV,out.length<=1000000+c->Mg (out++Js a b c) a ((b:Int)+1)=some r->Se out a b c=some r:=by
  refine down _ ?_ ?_
  .intro out ho h;apply Ws.2.2.1.1;rw[Ap,wb];simpa[Js]using h
  .intro c hc ih out ho h;have wc:w ((c:Int)+1)=(c:Int)+1:=ZF Z Z;apply Ws.2.2.1.1;rw[Ao,wc];refine⟨Z,?_⟩
   have ih:=ih (out++[[(a:Int),(b:Int),(c:Int)]]) (by simp;omega) (by
    rw[Js,Zzn hc]at h
    simpa[Js]using h)
   simpa using ih
 grind
def kN(a:Nat)(ha:a<=7)(r:XS):∀b:Nat,b<=8->∀out:XV,out.length<=100000+8*b->Sd (out++HQ a b) ((a:Int)+1)=some r->Mg out a b=some r:=by
 have wa:w ((a:Int)+1)=(a:Int)+1:=ZF Z Z;refine down _ ?_ ?_
 .intro out ho h;apply Ws.2.1.2.2;rw[Ap,wa];simpa[HQ]using h
 .intro b hb ih out ho h;apply Ws.2.1.2.2;rw[Ao];refine kM a b Z r 0 Z out Z ?_
  have ih:=ih (out++Js a b 0) (by rw[Yu,ZJl];omega) (by
   rw[HQ,Zzn hb]at h
   simpa[HQ]using h)
  simpa using ih
def kO:∀a:Nat,a<=8->∀out:XV,out.length<=64*a->Sd out a=some (.own 0,[.arr Z27 1 true ((out++SA a).map AA)]):=by
 refine down _ ?_ ?_
 .intro out ho;apply Ws.2.1.2.1;rw[Ap];simp[SA]
 .intro a ha ih out ho;apply Ws.2.1.2.1;rw[Ao];refine kN a Z _ 0 Z out Z ?_;have ih:=ih (out++HQ a 0) (by rw[Yu,ZJm];omega);rw[SA,Zzn ha];simpa[SA]using ih
def Q8:XV:=SA 0
def SB:UR=some (.own 0,[.arr Z27 1 true (Q8.map AA)]):=Ws.2.2.1.2 _ (kO 0 Z [] Om)
def Kh(t:WL):t∈Q8↔inT t:=by
 simp only[Q8,SA,HQ,Js,List.mem_flatMap,Yp,List.mem_range'_1,inT];constructor
 .grind
 .rintro⟨a,b,c,rfl,h1,h2,h3⟩;refine⟨a.toNat,Z,b.toNat,Z,c.toNat,Z,?_⟩
  grind
set_option maxRecDepth 100000 in
def SC:Q8.length=512:=rfl
@[simp] def ZJn(xs:WL)(h:xs.length<=68719476736):iN xs=some (.own 0,[.arr ZV 1 true (xs.map ic)]):=Ws.2.2.2.1 _ _ ⟨h,rfl⟩
abbrev Zpp(X:Rs)(p:Prop):Prop:=(p/\∃xs ys:WL,X=some (.tup [L 1 (xs.map ic),.own 0,Bo true],[.arr ZV 1 true (ys.map ic)]))\/(¬p/\X=some (.tup [.t .nil,.t .nil,Bo false],[]))
def kP(o:Zz)(hl:Le o.Steps)(ts:XV){t:WL}(ht:inT t)(n i:Int)(p:Prop)(hc:Zpp (Hy o ts n (w (i+1))) p):∀k:Nat,k<=3->
  Zpp (F5 o ts t n i 3 k) (Uf o t k\/p):=by
 have h3:=Zzl ht;refine down _ ?_ ?_
 .have e:(Uf o t 3\/p)↔p:=⟨λh=>h.elim (λ⟨j,a,b,_⟩=>by omega) id,.inr⟩
  grind [Mr.2.2.1]
 .intro k hk ih;have h4:=ZK (i:=k) Z;obtain⟨x,hx,x0,x7⟩:=Z8o ht hk;have wx:w (x+1)=x+1:=ZF Z Z;simp only[Ys,Yt]at ih;have step:Uf o t k↔(j8 o t k\/Uf o t (k+1)):=by
   constructor
   .rintro⟨j,j1,j2,j3⟩;by_cases hj:j=k
    .subst hj;exact .inl j3
    .exact .inr ⟨j,Z,j2,j3⟩
   .rintro(h|⟨j,j1,j2,j3⟩)
    .exact⟨k,Yk _,hk,h⟩
    .exact⟨j,Z,j2,j3⟩
  have dk:j8 o t k↔(x+1<=7/\A6 o (t.set k (x+1))<A6 o t):=by
   constructor
   .rintro⟨y,y1,y2,y3⟩;rw[hx]at y1;cases y1;exact⟨y2,y3⟩
   .rintro⟨y2,y3⟩;exact⟨x,hx,y2,y3⟩
  have pre:∀r,(if x+1<=7 then(if A6 o (t.set k (x+1))<A6 o t then some (.tup [L 1 (t.map ic),.own 0,Bo true],[.arr ZV 1 true ((t.set k (x+1)).map ic)])=some r
    else F5 o ts t n i 3 ((k:Int)+1)=some r)else F5 o ts t n i 3 ((k:Int)+1)=some r)->F5 o ts t n i 3 k=some r:=by
   intro r hr;apply Mr.2.2.1;rw[Ao];refine⟨Z,x,by rw[Yj];exact hx,?_⟩;rw[show w ((k:Int)+1)=(k:Int)+1 from h4];by_cases h7:x=7
   .simp_all
   .rw[Yb h7];have h8:x+1<=7:=by omega
    rw[Ya h8]at hr;refine⟨t,ZJn t Z,x,by rw[Yj];exact hx,?_⟩;rw[wx,Yj];exact⟨_,MG o hl (Z8n ht hx h8),_,MG o hl ht,hr⟩
  grind
def kQ(o:Zz)(hl:Le o.Steps)(ts:XV)(c:∀t∈ts,inT t)(hn:ts.length<=1000):∀i,i<=ts.length->Zpp (Hy o ts ts.length i) (∃t∈ts.drop i,Uf o t 0):=by
 refine down _ ?_ ?_
 .grind [Mr.2.1]
 .intro i hi ih;have h4:=ZK (i:=i) Z;have ht:=c _ (Ye hi);simp only[Ys,Yt]at ih;have b:=kP o hl ts ht ts.length i _ (by rw[show w ((i:Int)+1)=(i:Int)+1 from h4];exact ih) 0 Z;have go:∀r,F5 o ts ts[i] ts.length i 3 0=some r->Hy o ts ts.length i=some r:=by
   intro r hr;apply Mr.2.1
   simp_all [Yj,Yf,Zzl]
  grind [List.drop_eq_getElem_cons]
def kR(o:Zz)(hl:Le o.Steps)(hv:Wl o=true):Zpp (WC o) (Gc o):=by
 have b:=kQ o hl Q8 (λt h=>(Kh t).1 h) (by rw[SC];omega) 0 (Yc _);have go:∀r,Hy o Q8 Q8.length 0=some r->WC o=some r:=by
  simp_all [Mr.2.2.2,Uy,SB]
 have e:(∃t∈Q8.drop 0,Uf o t 0)↔Gc o:=by
  simp only[Yq,Kh,Gc]
 grind
def XG(o:Zz):Prop:=Wl o=true/\¬Gc o/\¬Zzm o
def BC(m:Zf)(k:Int):Zz:=if k=1 then m.Scan else if k=2 then m.Sort_ else if k=3 then m.Hash else if k=4 then m.Merge else m.Nested
abbrev Be(m:Zf):Prop:=Le m.Scan.Steps/\Le m.Sort_.Steps/\Le m.Hash.Steps/\Le m.Merge.Steps/\Le m.Nested.Steps
def Be.op{m:Zf}(h:Be m)(k:Int):Le (BC m k).Steps:=by
 unfold BC
 grind
@[simp] def SD(m:Zf)(k:Int):Kb m k=some (.agg ((BC m k).c.map .t),[]):=by
 apply Ke.2.1.2;unfold BC
 simp_all
def WD(m:Zf):Prop:=XG m.Scan/\XG m.Sort_/\XG m.Hash/\XG m.Merge/\XG m.Nested
def ZJo(m:Zf)(hm:Be m):∀k:Nat,k<=6->1<=k->
  ∃(xs ys:WL) (n:Int),RP m k=some (.tup [I n,.own 0,.own 1],[.arr ZV 1 true (xs.map ic),.arr ZV 1 true (ys.map ic)])/\(n=0↔∀j:Nat,k<=j->j<=5->XG (BC m j)):=by
 refine down _ ?_ ?_
 .intro _;exact⟨[],[],0,XN.2.1.2.2 _ _ _ (by rw[Ap]),⟨λ_ j h1 h2=>by omega,λ_=>rfl⟩⟩
 .intro k hk ih h1;have DH:w ((k:Int)+1)=(k:Int)+1:=ZF Z Z;have hl:=hm.op k;have step:(∀j:Nat,k<=j->j<=5->XG (BC m j))↔(XG (BC m k)/\∀j:Nat,k+1<=j->j<=5->XG (BC m j)):=by
   grind
  have kne:(k:Int)≠0:=by omega
  have pre:∀r,(∃v,Hs (BC m k)=some (Bo v,[])/\_)->RP m k=some r:=λr h=>XN.2.1.2.2 _ _ _ (by rw[Ao];exact⟨BC m k,SD m k,h⟩)
  rcases tf (Wl (BC m k))with hv|hv
  .refine⟨[],[],k,pre _ ⟨false,by rw[j7 _ hl,hv],by rw[Yb Om]⟩,?_⟩;rw[step];exact⟨λh=>absurd h kne,λh=>by have:=h.1.1;rw[hv]at this;cases this⟩
  .obtain⟨xs,ys,f,d1,d2⟩:=ZJj (BC m k) hl hv
   cases f with
   |true =>
    refine⟨xs,ys,k,pre _ ⟨true,by rw[j7 _ hl,hv],?_⟩,?_⟩
    .simp_all
    .rw[step]
     exact⟨λh=>absurd h kne,λh=>absurd (d2.1 rfl) h.1.2.1⟩
   |false =>
    obtain⟨cs,c1,c2⟩:=ZJk (BC m k) hl hv;by_cases hc:cs=[]
    .obtain⟨xs',ys',n,i1,i2⟩:=ih Z;simp only[Ys,Yt]at i1;refine⟨xs',ys',n,pre _ ⟨true,by rw[j7 _ hl,hv],?_⟩,?_⟩
     .simp_all
     .rw[step,i2];refine⟨λh=>⟨⟨hv,λhd=>(by have:=d2.2 hd;cases this),λhch=>(c2.2 hch) hc⟩,h⟩,λh=>h.2⟩
    .refine⟨cs,[],k,pre _ ⟨true,by rw[j7 _ hl,hv],?_⟩,?_⟩
     .simp_all
     .rw[step];exact⟨λh=>absurd h kne,λh=>absurd (c2.1 hc) h.1.2.2⟩
theorem ZJp(m:Zf):(∀j:Nat,1<=j->j<=5->XG (BC m j))↔WD m:=by
 constructor
 .intro h;exact⟨h 1 Z Z,h 2 Z Z,h 3 Z Z,h 4 Z Z,h 5 Z Z⟩
 .rintro⟨h1,h2,h3,h4,h5⟩ j a b
  have:j=1\/j=2\/j=3\/j=4\/j=5:=by omega
  rcases this with rfl|rfl|rfl|rfl|rfl
  .exact h1
  .exact h2
  .exact h3
  .exact h4
  .exact h5
open Classical in
def Zzo(m:Zf)(hm:Be m):FY m=some (Bo (decide (WD m)),[]):=by
 obtain⟨xs,ys,n,h1,h2⟩:=ZJo m hm 1 Z Z
 grind [XN.2.2.1.2,XN.2.2.1.1,ZJp]
abbrev X9(X:Rs)(p:Prop):Prop:=(p/\X=some (.tup [I 0,.t .nil,.t .nil],[]))\/(¬p/\∃n:Int,n≠0/\((∃xs ys:WL,X=some (.tup [I n,L 1 (xs.map ic),.own 0],[.arr ZV 1 true (ys.map ic)]))\/X=some (.tup [I n,.t .nil,.t .nil],[])\/∃xs:WL,X=some (.tup [I n,L 1 (xs.map ic),.t .nil],[])))
def X9.of{X Y:Rs}{p:Prop}(h:X9 X p)(e:∀r,X=some r->Y=some r):X9 Y p:=by
 grind
def X9.congr{X:Rs}{p q:Prop}(h:X9 X p)(e:p↔q):X9 X q:=by
 rw[<-e];exact h
def kS{ts:XV}{j:Nat}(hj:j<ts.length){P:WL->Prop}{p:Prop}:((∀t∈ts.drop j,P t)/\p)↔(P ts[j]/\(∀t∈ts.drop (j+1),P t)/\p):=by
 rw[Yh hj]
 grind
def kT(m:Zf)(hl:Le m.Scan.Steps)(ts:XV)(c:∀t∈ts,inT t)(hn:ts.length<=1000)(kind:Int)(hk:kind≠0)(x1 x2:Int)(p:Prop)(hc:X9 (XM m x1 (w (x2+1))) p):∀j,j<=ts.length->
  X9 (Hz m ts kind x1 x2 ts.length j) ((∀t∈ts.drop j,¬A6 m.Scan t<1)/\p):=by
 refine down _ ?_ ?_
 .grind [Wk.1.1.1.1]
 .intro j hj ih;have h4:=ZK (i:=j) Z;have ht:=c _ (Ye hj);simp only[Ys,Yt]at ih;have pre:∀r,(if A6 m.Scan ts[j]<1 then some (.tup [I kind,L 1 (ts[j].map ic),.t .nil],[])=some r else Hz m ts kind x1 x2 ts.length ((j:Int)+1)=some r)->Hz m ts kind x1 x2 ts.length j=some r:=by
   intro r hr;apply Wk.1.1.1.1
   simp_all [Yj,Yf,MG]
  refine X9.congr ?_ (kS (P:=λt=>¬A6 m.Scan t<1) hj).symm;by_cases h:A6 m.Scan ts[j]<1
  .grind
  .grind
def kU(m:Zf)(hm:Be m)(p:Prop)(hc:X9 (XM m 5 1) p):X9 (XM m 5 0) (XG m.Scan/\p):=by
 have hl:Le m.Scan.Steps:=by obtain⟨h1,h2,h3,h4,h5⟩:=hm;assumption
 have w1:w (1+0)=1:=by decide
 have w2:w (0+1)=1:=by decide
 have pre:∀r,(∃v,WT m.Scan=some (Bo v,[])/\_)->XM m 5 0=some r:=λr h=>Su _ _ _ _ (by rw[Ao,Ya rfl];exact h)
 rcases tf (Wl m.Scan)with hv|hv
 .refine .inr ⟨λh=>(by have:=h.1.1;rw[hv]at this;cases this),1,Sm,.inr (.inl (pre _ ⟨false,by rw[Uy _ hl,hv],?_⟩))⟩
  simp_all
 rcases kR m.Scan hl hv with⟨hd,xs,ys,d1⟩|⟨hd,d1⟩
 .refine .inr ⟨λh=>h.1.2.1 hd,1,Sm,.inl ⟨xs,ys,pre _ ⟨true,by rw[Uy _ hl,hv],?_⟩⟩⟩
  grind
 .have b:=kT m hl Q8 (λt h=>(Kh t).1 h) (by rw[SC];omega) 1 Sm 5 0 p (by rw[w2];exact hc) 0 (Yc _);refine(b.of λr hr=>pre r ⟨true,by rw[Uy _ hl,hv],?_⟩).congr ?_
  .simp_all [SB]
  .simp only[Yq,Kh];constructor
   .rintro⟨h,hp⟩;exact⟨⟨hv,hd,λ⟨t,ht,hc⟩=>h t ht hc⟩,hp⟩
   .rintro⟨h,hp⟩;exact⟨λt ht hc=>h.2.2 ⟨t,ht,hc⟩,hp⟩
def MH(m:Zf)(hl:Le m.Sort_.Steps)(ts:XV)(c:∀t∈ts,inT t)(hn:ts.length<=1000)(kind:Int)(hk:kind≠0)(x1 x2:Int)(p:Prop)(hc:X9 (XM m x1 (w (x2+1))) p):∀j,j<=ts.length->
  X9 (HA m ts kind x1 x2 ts.length j) ((∀t∈ts.drop j,¬A6 m.Sort_ t<1)/\p):=by
 refine down _ ?_ ?_
 .grind [Wk.1.1.1.2]
 .intro j hj ih;have h4:=ZK (i:=j) Z;have ht:=c _ (Ye hj);simp only[Ys,Yt]at ih;have pre:∀r,(if A6 m.Sort_ ts[j]<1 then some (.tup [I kind,L 1 (ts[j].map ic),.t .nil],[])=some r else HA m ts kind x1 x2 ts.length ((j:Int)+1)=some r)->HA m ts kind x1 x2 ts.length j=some r:=by
   intro r hr;apply Wk.1.1.1.2
   simp_all [Yj,Yf,MG]
  refine X9.congr ?_ (kS (P:=λt=>¬A6 m.Sort_ t<1) hj).symm;by_cases h:A6 m.Sort_ ts[j]<1
  .grind
  .grind
def MI(m:Zf)(hm:Be m)(p:Prop)(hc:X9 (XM m 5 2) p):X9 (XM m 5 1) (XG m.Sort_/\p):=by
 have hl:Le m.Sort_.Steps:=by obtain⟨h1,h2,h3,h4,h5⟩:=hm;assumption
 have w1:w (1+1)=2:=by decide
 have w2:w (1+1)=2:=by decide
 have pre:∀r,(∃v,WT m.Sort_=some (Bo v,[])/\_)->XM m 5 1=some r:=λr h=>Su _ _ _ _ (by rw[Ao,Ap,Ya rfl];exact h)
 rcases tf (Wl m.Sort_)with hv|hv
 .refine .inr ⟨λh=>(by have:=h.1.1;rw[hv]at this;cases this),2,Sm,.inr (.inl (pre _ ⟨false,by rw[Uy _ hl,hv],?_⟩))⟩
  simp_all
 rcases kR m.Sort_ hl hv with⟨hd,xs,ys,d1⟩|⟨hd,d1⟩
 .refine .inr ⟨λh=>h.1.2.1 hd,2,Sm,.inl ⟨xs,ys,pre _ ⟨true,by rw[Uy _ hl,hv],?_⟩⟩⟩
  grind
 .have b:=MH m hl Q8 (λt h=>(Kh t).1 h) (by rw[SC];omega) 2 Sm 5 1 p (by rw[w2];exact hc) 0 (Yc _);refine(b.of λr hr=>pre r ⟨true,by rw[Uy _ hl,hv],?_⟩).congr ?_
  .simp_all [SB]
  .simp only[Yq,Kh];constructor
   .rintro⟨h,hp⟩;exact⟨⟨hv,hd,λ⟨t,ht,hc⟩=>h t ht hc⟩,hp⟩
   .rintro⟨h,hp⟩;exact⟨λt ht hc=>h.2.2 ⟨t,ht,hc⟩,hp⟩
def MJ(m:Zf)(hl:Le m.Hash.Steps)(ts:XV)(c:∀t∈ts,inT t)(hn:ts.length<=1000)(kind:Int)(hk:kind≠0)(x1 x2:Int)(p:Prop)(hc:X9 (XM m x1 (w (x2+1))) p):∀j,j<=ts.length->
  X9 (HB m ts kind x1 x2 ts.length j) ((∀t∈ts.drop j,¬A6 m.Hash t<1)/\p):=by
 refine down _ ?_ ?_
 .grind [Wk.1.1.2.1]
 .intro j hj ih;have h4:=ZK (i:=j) Z;have ht:=c _ (Ye hj);simp only[Ys,Yt]at ih;have pre:∀r,(if A6 m.Hash ts[j]<1 then some (.tup [I kind,L 1 (ts[j].map ic),.t .nil],[])=some r else HB m ts kind x1 x2 ts.length ((j:Int)+1)=some r)->HB m ts kind x1 x2 ts.length j=some r:=by
   intro r hr;apply Wk.1.1.2.1
   simp_all [Yj,Yf,MG]
  refine X9.congr ?_ (kS (P:=λt=>¬A6 m.Hash t<1) hj).symm;by_cases h:A6 m.Hash ts[j]<1
  .grind
  .grind
def MK(m:Zf)(hm:Be m)(p:Prop)(hc:X9 (XM m 5 3) p):X9 (XM m 5 2) (XG m.Hash/\p):=by
 have hl:Le m.Hash.Steps:=by obtain⟨h1,h2,h3,h4,h5⟩:=hm;assumption
 have w1:w (1+2)=3:=by decide
 have w2:w (2+1)=3:=by decide
 have pre:∀r,(∃v,WT m.Hash=some (Bo v,[])/\_)->XM m 5 2=some r:=λr h=>Su _ _ _ _ (by rw[Ao,Ap,Ap,Ya rfl];exact h)
 rcases tf (Wl m.Hash)with hv|hv
 .refine .inr ⟨λh=>(by have:=h.1.1;rw[hv]at this;cases this),3,Sm,.inr (.inl (pre _ ⟨false,by rw[Uy _ hl,hv],?_⟩))⟩
  simp_all
 rcases kR m.Hash hl hv with⟨hd,xs,ys,d1⟩|⟨hd,d1⟩
 .refine .inr ⟨λh=>h.1.2.1 hd,3,Sm,.inl ⟨xs,ys,pre _ ⟨true,by rw[Uy _ hl,hv],?_⟩⟩⟩
  grind
 .have b:=MJ m hl Q8 (λt h=>(Kh t).1 h) (by rw[SC];omega) 3 Sm 5 2 p (by rw[w2];exact hc) 0 (Yc _);refine(b.of λr hr=>pre r ⟨true,by rw[Uy _ hl,hv],?_⟩).congr ?_
  .simp_all [SB]
  .simp only[Yq,Kh];constructor
   .rintro⟨h,hp⟩;exact⟨⟨hv,hd,λ⟨t,ht,hc⟩=>h t ht hc⟩,hp⟩
   .rintro⟨h,hp⟩;exact⟨λt ht hc=>h.2.2 ⟨t,ht,hc⟩,hp⟩
def ML(m:Zf)(hl:Le m.Merge.Steps)(ts:XV)(c:∀t∈ts,inT t)(hn:ts.length<=1000)(kind:Int)(hk:kind≠0)(x1 x2:Int)(p:Prop)(hc:X9 (XM m x1 (w (x2+1))) p):∀j,j<=ts.length->
  X9 (HC m ts kind x1 x2 ts.length j) ((∀t∈ts.drop j,¬A6 m.Merge t<1)/\p):=by
 refine down _ ?_ ?_
 .grind [Wk.1.1.2.2]
 .intro j hj ih;have h4:=ZK (i:=j) Z;have ht:=c _ (Ye hj);simp only[Ys,Yt]at ih;have pre:∀r,(if A6 m.Merge ts[j]<1 then some (.tup [I kind,L 1 (ts[j].map ic),.t .nil],[])=some r else HC m ts kind x1 x2 ts.length ((j:Int)+1)=some r)->HC m ts kind x1 x2 ts.length j=some r:=by
   intro r hr;apply Wk.1.1.2.2
   simp_all [Yj,Yf,MG]
  refine X9.congr ?_ (kS (P:=λt=>¬A6 m.Merge t<1) hj).symm;by_cases h:A6 m.Merge ts[j]<1
  .grind
  .grind
def MM(m:Zf)(hm:Be m)(p:Prop)(hc:X9 (XM m 5 4) p):X9 (XM m 5 3) (XG m.Merge/\p):=by
 have hl:Le m.Merge.Steps:=by obtain⟨h1,h2,h3,h4,h5⟩:=hm;assumption
 have w1:w (1+3)=4:=by decide
 have w2:w (3+1)=4:=by decide
 have pre:∀r,(∃v,WT m.Merge=some (Bo v,[])/\_)->XM m 5 3=some r:=λr h=>Su _ _ _ _ (by rw[Ao,Ap,Ap,Ap,Ya rfl];exact h)
 rcases tf (Wl m.Merge)with hv|hv
 .refine .inr ⟨λh=>(by have:=h.1.1;rw[hv]at this;cases this),4,Sm,.inr (.inl (pre _ ⟨false,by rw[Uy _ hl,hv],?_⟩))⟩
  simp_all
 rcases kR m.Merge hl hv with⟨hd,xs,ys,d1⟩|⟨hd,d1⟩
 .refine .inr ⟨λh=>h.1.2.1 hd,4,Sm,.inl ⟨xs,ys,pre _ ⟨true,by rw[Uy _ hl,hv],?_⟩⟩⟩
  grind
 .have b:=ML m hl Q8 (λt h=>(Kh t).1 h) (by rw[SC];omega) 4 Sm 5 3 p (by rw[w2];exact hc) 0 (Yc _);refine(b.of λr hr=>pre r ⟨true,by rw[Uy _ hl,hv],?_⟩).congr ?_
  .simp_all [SB]
  .simp only[Yq,Kh];constructor
   .rintro⟨h,hp⟩;exact⟨⟨hv,hd,λ⟨t,ht,hc⟩=>h t ht hc⟩,hp⟩
   .rintro⟨h,hp⟩;exact⟨λt ht hc=>h.2.2 ⟨t,ht,hc⟩,hp⟩
def MN(m:Zf)(hl:Le m.Nested.Steps)(ts:XV)(c:∀t∈ts,inT t)(hn:ts.length<=1000)(kind:Int)(hk:kind≠0)(x1 x2:Int)(p:Prop)(hc:X9 (XM m x1 (w (x2+1))) p):∀j,j<=ts.length->
  X9 (HD m ts kind x1 x2 ts.length j) ((∀t∈ts.drop j,¬A6 m.Nested t<1)/\p):=by
 refine down _ ?_ ?_
 .grind [Wk.1.2.1.1]
 .intro j hj ih;have h4:=ZK (i:=j) Z;have ht:=c _ (Ye hj);simp only[Ys,Yt]at ih;have pre:∀r,(if A6 m.Nested ts[j]<1 then some (.tup [I kind,L 1 (ts[j].map ic),.t .nil],[])=some r else HD m ts kind x1 x2 ts.length ((j:Int)+1)=some r)->HD m ts kind x1 x2 ts.length j=some r:=by
   intro r hr;apply Wk.1.2.1.1
   simp_all [Yj,Yf,MG]
  refine X9.congr ?_ (kS (P:=λt=>¬A6 m.Nested t<1) hj).symm;by_cases h:A6 m.Nested ts[j]<1
  .grind
  .grind
def MP(m:Zf)(hm:Be m)(p:Prop)(hc:X9 (XM m 5 5) p):X9 (XM m 5 4) (XG m.Nested/\p):=by
 have hl:Le m.Nested.Steps:=by obtain⟨h1,h2,h3,h4,h5⟩:=hm;assumption
 have w1:w (1+4)=5:=by decide
 have w2:w (4+1)=5:=by decide
 have pre:∀r,(∃v,WT m.Nested=some (Bo v,[])/\_)->XM m 5 4=some r:=λr h=>Su _ _ _ _ (by rw[Ao,Ap,Ap,Ap,Ap,Ya rfl];exact h)
 rcases tf (Wl m.Nested)with hv|hv
 .refine .inr ⟨λh=>(by have:=h.1.1;rw[hv]at this;cases this),5,Sm,.inr (.inl (pre _ ⟨false,by rw[Uy _ hl,hv],?_⟩))⟩
  simp_all
 rcases kR m.Nested hl hv with⟨hd,xs,ys,d1⟩|⟨hd,d1⟩
 .refine .inr ⟨λh=>h.1.2.1 hd,5,Sm,.inl ⟨xs,ys,pre _ ⟨true,by rw[Uy _ hl,hv],?_⟩⟩⟩
  grind
 .have b:=MN m hl Q8 (λt h=>(Kh t).1 h) (by rw[SC];omega) 5 Sm 5 4 p (by rw[w2];exact hc) 0 (Yc _);refine(b.of λr hr=>pre r ⟨true,by rw[Uy _ hl,hv],?_⟩).congr ?_
  .simp_all [SB]
  .simp only[Yq,Kh];constructor
   .rintro⟨h,hp⟩;exact⟨⟨hv,hd,λ⟨t,ht,hc⟩=>h t ht hc⟩,hp⟩
   .rintro⟨h,hp⟩;exact⟨λt ht hc=>h.2.2 ⟨t,ht,hc⟩,hp⟩
open Classical in
def ZJq(m:Zf)(hm:Be m):iP m=some (Bo (decide (WD m)),[]):=by
 have h5:X9 (XM m 5 5) True:=.inl ⟨trivial,Su _ _ _ _ (by rw[Ap])⟩;have h0:=kU m hm _ (MI m hm _ (MK m hm _ (MM m hm _ (MP m hm _ h5))));have hop:Jm m=some (.bsl 1 5,[.box (m.c.map .t),.box [.ptr 0 0,.ptr 0 6,.ptr 0 12,.ptr 0 18,.ptr 0 24]]):=Ws.1.2.2.2.1 _ _ rfl;have hR:X9 (Sh m) (WD m):=(h0.of λr hr=>Wk.1.2.1.2 _ _ ⟨hop,hr⟩).congr (by simp[WD])
 grind [Wk.1.2.2.1]
def Xe(x:Int):Nat:=(if Aj (At x 0) 1=1 then 1 else 0)+(if Aj (At x 1) 1=1 then 1 else 0)+(if Aj (At x 2) 1=1 then 1 else 0)+(if Aj (At x 3) 1=1 then 1 else 0)
abbrev AX(x:Int):Prop:=0<=x/\x<16
theorem m16{x:Int}(h:AX x):∃a:Fin 16,x=(a.1:Int):=⟨⟨x.toNat,Z⟩,by simp;omega⟩
set_option maxRecDepth 100000 in
def Abb:∀a b:Fin 16,AX (Au a.1 b.1)/\Aj a.1 (Au a.1 b.1)=a.1/\(Au a.1 b.1=a.1\/Xe a.1+1<=Xe (Au a.1 b.1)):=by decide
set_option maxRecDepth 100000 in
def kV:∀a b:Fin 16,AX (Aj a.1 b.1)/\Aj (Aj a.1 b.1) b.1=Aj a.1 b.1/\(Aj (a.1:Int) b.1=a.1->Xe a.1<=Xe b.1/\(Xe b.1<=Xe a.1->a.1=b.1)):=by decide
set_option maxRecDepth 1000000 in
theorem kW:∀a b c:Fin 16,Aj (a.1:Int) c.1=a.1->Aj (b.1:Int) c.1=b.1->Aj (Au a.1 b.1) c.1=Au a.1 b.1:=by decide
set_option maxRecDepth 100000 in
def kX:∀(a:Fin 16) (i:Fin 4),(Aj (At a.1 i.1) 1=0↔¬Aj (At a.1 i.1) 1=1):=by decide
set_option maxRecDepth 100000 in
def kY:∀(i j:Fin 4),(Aj (At (Ac 1 i.1) j.1) 1=1↔i=j)/\AX (Ac 1 i.1):=by decide
set_option maxRecDepth 100000 in
def f_low:∀a:Fin 16,AX (Aj a.1 (w (0-a.1)))/\Aj (Aj a.1 (w (0-a.1))) a.1=Aj a.1 (w (0-(a.1:Int))):=by decide
set_option maxRecDepth 100000 in
theorem Zzp:∀(a:Fin 16),(a.1<2->Xe a.1<=1)/\(a.1<4->Xe a.1<=2)/\(a.1<8->Xe a.1<=3)/\Xe a.1<=4:=by decide
def MR:∀a b c d:Bool,AX (Xy a b c d):=by decide
def US(qa:List Zd)(m:Int):Nat->Bool:=λi=>decide (i<qa.length) && (!Z1 m i && shr qa (Ac 1 i) m)
def SE(qa:List Zd)(m:Int):Int:=Xt (US qa m)
def ZJr(qa:List Zd)(m:Int):AX (SE qa m):=MR _ _ _ _
theorem ZJs{i j:Nat}(hi:i<4)(hj:j<4):Z1 (Ac 1 i) j=decide (i=j):=by
 have:=(kY ⟨i,hi⟩ ⟨j,hj⟩).1;simp only[Z1,Fin.mk.injEq]at this|-
 simp_all
theorem Gd{m:Int}(hm:AX m){i:Nat}(hi:i<4):Aj (At m i) 1=0↔Z1 m i=false:=by
 obtain⟨a,rfl⟩:=m16 hm;have:=kX a ⟨i,hi⟩;simp only at this;rw[this,Z1,decide_eq_false_iff_not]
def ZJt(qa:List Zd)(h4:qa.length<=4){i:Nat}(hi:i<qa.length)(u:Int):∀k,k<=qa.length->WF (Ac 1 i) (qa.drop k) k u=(decide (k<=i) && has qa[i].Vars u):=by
 refine down _ ?_ ?_
 .rw[Ym,WF,decide_eq_false Z];rfl
 .grind [Zre,ZJs]
def MS(qa:List Zd)(h4:qa.length<=4){i:Nat}(hi:i<qa.length)(u:Nat):pV (Ac 1 i) qa u=has qa[i].Vars u:=by
 have:=ZJt qa h4 hi u 0 (Yc _);simpa[pV]using this
def ZJu{qa:List Zd}{m:Int}{i:Nat}(hi:i<4)(h:US qa m i=true):W8 (λu=>decide (u<i) && US qa m u) [(i:Int)]=λu=>decide (u<i+1) && US qa m u:=by
 funext u;simp only[W8,has]
 grind
theorem Z8q{qa:List Zd}{m:Int}{i:Nat}(h:US qa m i=false):(λu=>decide (u<i) && US qa m u)=λu=>decide (u<i+1) && US qa m u:=by
 grind
def ZJv(qa:List Zd)(m:Int):(λu=>decide (u<qa.length) && US qa m u)=US qa m:=by
 funext u;unfold US;simp
def MT(q:Zc)(hq:AS q)(hv:Z3 q.Zg q.Atoms=true)(m:Int)(hm:AX m):∀i,i<=q.Atoms.length->
  PY q m (Xt λu=>decide (u<i) && US q.Atoms m u) (Xt (pV m q.Atoms)) i=some (I (SE q.Atoms m),[]):=by
 have h4:=(WZ hv).2;refine down _ ?_ ?_
 .apply Wz.1.2.2.2;rw[Ap,ZJv];rfl
 .intro i hi ih;have hi4:i<4:=by omega
  have MU:=ZK (i:=i) Z;simp only[Ys,Yt]at ih;apply Wz.1.2.2.2;rw[Ao];refine⟨Z,?_⟩;rw[show w ((i:Int)+1)=(i:Int)+1 from MU];have hn:US q.Atoms m i=(!Z1 m i && shr q.Atoms (Ac 1 i) m):=by
   unfold US;rw[decide_eq_true hi];simp
  rcases tf (Z1 m i)with e1|e1
  .rw[Ya ((Gd hm hi4).2 e1)];refine⟨_,MF q (Ac 1 i) hq (Li hv),?_⟩;rcases tf (shr q.Atoms (Ac 1 i) m)with e2|e2
   .simp_all [Zri,Z8q]
   .rw[Yb (λhc=>by rw[(Zri q.Atoms (Ac 1 i) m).1 hc]at e2;cases e2),Zrb _ (by simp[Ak];omega),ZJu hi4 (by rw[hn,e1,e2];rfl)];exact ih
  .grind [Gd,Z8q]
def MV(q:Zc)(hq:AS q)(hv:Z3 q.Zg q.Atoms=true)(m:Int)(hm:AX m):wW q m=some (I (SE q.Atoms m),[]):=by
 have b:=MT q hq hv m hm 0 (Yc _);refine Wz.2.1.1.1 _ _ _ ⟨_,MF q m hq (Li hv),?_⟩;simpa[Xt,Xy]using b
def HR(qa:List Zd)(mask x:Int):Int:=Au x (Aj (SE qa x) mask)
def SF(qa:List Zd)(mask:Int):Nat->Int->Int
 |0,x=>x
 |n+1,x=>SF qa mask n (HR qa mask x)
def Wt(qa:List Zd)(mask:Int):Bool:=decide (SF qa mask qa.length (Aj mask (w (0-mask)))=mask)
abbrev MW(x mask:Int):Prop:=Aj x mask=x
def ZJw{qa:List Zd}{mask x:Int}(hm:AX mask)(hx:AX x)(hs:MW x mask):AX (HR qa mask x)/\MW (HR qa mask x) mask/\(HR qa mask x=x\/Xe x+1<=Xe (HR qa mask x)):=by
 obtain⟨a,rfl⟩:=m16 hx;obtain⟨b,rfl⟩:=m16 hm;obtain⟨c,hc⟩:=m16 (ZJr qa (a.1:Int));unfold HR;rw[hc];obtain⟨d1,d2,_⟩:=kV c b;obtain⟨d,hd⟩:=m16 d1;rw[hd]at d2|-;obtain⟨e1,_,e3⟩:=Abb a d
 grind [kW]
def ZJx(q:Zc)(hq:AS q)(hv:Z3 q.Zg q.Atoms=true)(mask:Int)(hm:AX mask):∀i,i<=q.Atoms.length->∀x,AX x->MW x mask->
  c7 q mask x i=some (Bo (decide (SF q.Atoms mask (q.Atoms.length-i) x=mask)),[]):=by
 have h4:=(WZ hv).2;refine down _ ?_ ?_
 .intro x _ _;apply Wz.2.1.1.2;rw[Ap,DY];rfl
 .intro i hi ih x hx hs;obtain⟨s1,s2,s3⟩:=ZJw (qa:=q.Atoms) hm hx hs;have MU:=ZK (i:=i) Z;apply Wz.2.1.1.2;rw[Ao];refine⟨_,MV q hq hv x hx,?_⟩;have ih:=ih _ s1 s2;simp only[Ys,Yt]at ih;rw[show w ((i:Int)+1)=(i:Int)+1 from MU,show q.Atoms.length-i=(q.Atoms.length-(i+1))+1 by omega,SF];exact ih
abbrev MQ(qa:List Zd)(m:Int):Prop:=0<=m/\m<2 ^ qa.length
def MQ.m16{n:Int}{qa:List Zd}{m:Int}(hv:Z3 n qa=true)(h:MQ qa m):AX m/\Xe m<=qa.length:=by
 have hl:=WZ hv;obtain⟨h1,h2⟩:=h;have e:qa.length=1\/qa.length=2\/qa.length=3\/qa.length=4:=by omega
 have k16:AX m:=by rcases e with e|e|e|e<;>rw[e]at h2<;>exact⟨h1,Z⟩
 refine⟨k16,?_⟩;obtain⟨a,rfl⟩:=Go.Proofs.YtggcnlojfngdeaaGreat.m16 k16
 grind [Zzp]
theorem Zpq(q:Zc)(hq:AS q)(hv:Z3 q.Zg q.Atoms=true)(m:Int)(hm:MQ q.Atoms m):JZ q m=some (Bo (Wt q.Atoms m),[]):=by
 obtain⟨k1,k2⟩:=hm.m16 hv;apply Wz.2.1.2.1;obtain⟨a,rfl⟩:=m16 k1;obtain⟨l1,l2⟩:=f_low a;exact ZJx q hq hv _ k1 0 (Yc _) _ l1 l2
def Jt{n:Int}{qa:List Zd}(hv:Z3 n qa=true):Z7 n qa=2 ^ qa.length-1:=by
 unfold Z7;rw[Ya hv,(Jc hv).2.1]
def Z8r(q:Zc)(hq:AS q)(m:Int):PW q m=some (Bo (Z3 q.Zg q.Atoms && Ak m 0 (Z7 q.Zg q.Atoms)),[]):=by
 refine Wz.1.1.2.2 _ _ _ ⟨_,MC q hq,?_⟩;rcases tf (Z3 q.Zg q.Atoms)with e|e
 .rw[e];simp
 .rw[e,Ya rfl];refine⟨Z,_,ZH _ _ _,?_⟩;rw[show w (Ac 1 (q.Atoms.length:Int)-1)=Ac 1 (q.Atoms.length:Int)-1 from(Jc e).2.2.1];unfold Z7;rw[Ya e];simp
def Zzq{n:Int}{qa:List Zd}(hv:Z3 n qa=true){m:Int}(h:Ak m 0 (Z7 n qa)=true):MQ qa m:=by
 rw[Jt hv]at h;simp[Ak]at h;exact⟨h.1,Z⟩
def Wm(n:Int)(qa:List Zd)(m:Int):Bool:=Z3 n qa && Ak m 0 (Z7 n qa) && decide (m≠0) && Wt qa m
def HS(q:Zc)(hq:AS q)(m:Int):Q4 q m=some (Bo (Wm q.Zg q.Atoms m),[]):=by
 refine Wz.2.1.2.2 _ _ _ ⟨_,Z8r q hq m,?_⟩;unfold Wm;rcases tf (Z3 q.Zg q.Atoms)with e|e
 .rw[e];simp
 rcases tf (Ak m 0 (Z7 q.Zg q.Atoms))with e1|e1
 .rw[e,e1];simp
 rw[e,e1,Ya (by rfl)];have hm:=Zzq e e1;by_cases h0:m=0
 .simp_all
 .grind [Zpq]
def Ju(qa:List Zd)(k n:Nat):WL:=((List.range' k n).filter (λm:Nat=>Wt qa (m:Int))).map (λm:Nat=>(m:Int))
def ZJy{qa:List Zd}{k n:Nat}:Ju qa k (n+1)=(if Wt qa (k:Int)=true then[(k:Int)]else[])++Ju qa (k+1) n:=by
 unfold Ju
 grind [List.range'_succ]
def ZJz{qa:List Zd}{k n:Nat}:(Ju qa k n).length<=n:=by
 unfold Ju;rw[Dy];exact Y8 (TA _ _) Om
def HT(k:Nat):((2 ^ k:Nat):Int)=2 ^ k:=by simp
def ZI(qa:List Zd):WL:=Ju qa 1 (2 ^ qa.length-1)
def ZJ0(q:Zc)(hq:AS q)(hv:Z3 q.Zg q.Atoms=true):∀k:Nat,k<=2 ^ q.Atoms.length->1<=k->∀out:WL,out.length<=k->
  RQ q out (Z7 q.Zg q.Atoms) k=some (.own 0,[.arr ZV 1 true ((out++Ju q.Atoms k (2 ^ q.Atoms.length-k)).map ic)]):=by
 have hf:=Jt hv;have hp:=HT q.Atoms.length;have h16:2 ^ q.Atoms.length<=16:=Nat.pow_le_pow_right (Z:0<2) (WZ hv).2;refine down _ ?_ ?_
 .intro _ out _;apply XN.2.2.2.2.1;rw[Yb (by rw[hf];omega),DY];simp[Ju]
 .intro k hk ih h1 out ho;have DH:w ((k:Int)+1)=(k:Int)+1:=ZF Z Z;apply XN.2.2.2.2.1;rw[Ya (by rw[hf];omega)];refine⟨_,Zpq q hq hv k ⟨Z,Z⟩,?_⟩;rw[show 2 ^ q.Atoms.length-k=(2 ^ q.Atoms.length-(k+1))+1 by omega,ZJy,DH];rcases tf (Wt q.Atoms k)with e|e
  .have ih:=ih Z out Z;rw[e,Yb Om];simpa using ih
  .have ih:=ih Z (out++[(k:Int)]) (by simp;omega);rw[e,Ya rfl];refine⟨Z,?_⟩;simpa using ih
def ZJ1(q:Zc)(hq:AS q)(hv:Z3 q.Zg q.Atoms=true):fX q=some (.own 0,[.arr ZV 1 true ((ZI q.Atoms).map ic)]):=by
 have hpos:1<=2 ^ q.Atoms.length:=Nat.one_le_two_pow;have b:=ZJ0 q hq hv 1 hpos (Yk _) [] Om;exact XN.2.2.2.2.2 _ _ ⟨_,Ue q hq,by simpa[ZI]using b⟩
def Ki(qa:List Zd)(mask x:Int):Bool:=decide (Aj x mask=x) && (Wt qa x && Wt qa (mask-x))
def Jv(qa:List Zd)(mask:Int)(k n:Nat):WL:=((List.range' k n).filter (λm:Nat=>Ki qa mask (m:Int))).map (λm:Nat=>(m:Int))
def ZJ2{qa:List Zd}{mask:Int}{k n:Nat}:Jv qa mask k (n+1)=(if Ki qa mask (k:Int)=true then[(k:Int)]else[])++Jv qa mask (k+1) n:=by
 unfold Jv
 grind [List.range'_succ]
def ZQ(qa:List Zd)(mask:Int):WL:=Jv qa mask 1 (mask.toNat-1)
def ZJ3(q:Zc)(hq:AS q)(hv:Z3 q.Zg q.Atoms=true)(mask:Nat)(hm:MQ q.Atoms mask):∀k:Nat,k<=mask->1<=k->∀out:WL,out.length<=k->
  L1 q out mask k=some (.own 0,[.arr ZV 1 true ((out++Jv q.Atoms mask k (mask-k)).map ic)]):=by
 have Acr:=(hm.m16 hv).1;refine down _ ?_ ?_
 .intro _ out _;apply WU.1.1.1;rw[Ap,DY];simp[Jv]
 .intro k hk ih h1 out ho;have DH:w ((k:Int)+1)=(k:Int)+1:=ZF Z Z;have wd:w ((mask:Int)-k)=(mask:Int)-k:=ZF Z Z;apply WU.1.1.1;rw[Ao,show mask-k=(mask-(k+1))+1 by omega,ZJ2,DH,wd];have skip:Ki q.Atoms mask k=false->L1 q out mask ((k:Int)+1)=some (.own 0,[.arr ZV 1 true ((out++((if Ki q.Atoms mask (k:Int)=true then[(k:Int)]else[])++Jv q.Atoms mask (k+1) (mask-(k+1)))).map ic)]):=by
   grind
  by_cases e1:Aj (k:Int) mask=k
  .rw[Ya e1];refine⟨_,Zpq q hq hv k ⟨Z,by have:=hm.2;omega⟩,?_⟩;rcases tf (Wt q.Atoms k)with e2|e2
   .rw[e2,Yb Om];exact skip (by simp[Ki,e2])
   .rw[e2,Ya rfl];refine⟨_,Zpq q hq hv ((mask:Int)-k) ⟨Z,by have:=hm.2;omega⟩,?_⟩;rcases tf (Wt q.Atoms ((mask:Int)-k))with e3|e3
    .rw[e3,Yb Om];exact skip (by simp[Ki,e3])
    .rw[e3,Ya rfl];have es:Ki q.Atoms mask k=true:=by simp[Ki,e1,e2,e3]
     grind
  .rw[Yb e1];exact skip (by simp[Ki,e1])
def ZJ4(q:Zc)(hq:AS q)(m:Int)(hc:Wm q.Zg q.Atoms m=true):zP q m=some (.own 0,[.arr ZV 1 true ((ZQ q.Atoms m).map ic)]):=by
 have hc':=hc;simp only[Wm,Yd,decide_eq_true_eq]at hc';obtain⟨⟨⟨hv,hr⟩,h0⟩,_⟩:=hc';have hm:=Zzq hv hr;obtain⟨k,rfl⟩:∃k:Nat,m=k:=⟨m.toNat,by have:=hm.1;omega⟩;refine WU.1.1.2.1 _ _ _ ⟨_,HS q hq k,?_⟩;rw[hc,Ya rfl];have b:=ZJ3 q hq hv k hm 1 Z (Yk _) [] Om;simpa[ZQ]using b
def MX(m:Int)(k n:Nat):WL:=((List.range' k n).filter (λi:Nat=>Z1 m i)).map (λi:Nat=>(i:Int))
def Z8s{m:Int}{k n:Nat}:MX m k (n+1)=(if Z1 m k=true then[(k:Int)]else[])++MX m (k+1) n:=by
 unfold MX
 grind [List.range'_succ]
def UT(m:Int):WL:=MX m 0 4
def ZJ5(m:Int)(hm:AX m):∀k:Nat,k<=4->∀out:WL,out.length<=k->Rl out m k=some (.own 0,[.arr ZV 1 true ((out++MX m k (4-k)).map ic)]):=by
 refine down _ ?_ ?_
 .intro out _;apply Wq.2.2.2.2.1;rw[Ap];simp[MX]
 .intro k hk ih out ho;have DH:w ((k:Int)+1)=(k:Int)+1:=ZF Z Z;apply Wq.2.2.2.2.1;rw[Ao,show 4-k=(4-(k+1))+1 by omega,Z8s,DH];refine⟨_,ZH _ _ _,?_⟩;rw[Ya (by simp[Ak];omega)];refine⟨Z,?_⟩;by_cases e:Aj (At m k) 1=1
  .have ih:=ih (out++[(k:Int)]) (by simp;omega);rw[Ya e,Ya (by simp[Z1,e])]
   grind
  .have ih:=ih out Z;rw[Yb e,Yb (by simp[Z1,e])];simpa using ih
def Z8t{m:Int}(hm:AX m):Hh m=some (.own 0,[.arr ZV 1 true ((UT m).map ic)]):=by
 have b:=ZJ5 m hm 0 Z [] Om;exact Wq.2.2.2.2.2 _ _ (by simpa[UT]using b)
