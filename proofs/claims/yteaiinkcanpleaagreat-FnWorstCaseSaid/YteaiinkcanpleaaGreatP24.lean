/-
  Parts of the proofs for this seat: G34 G35 G36 G37 LZ.
-/
import Derived.Test.YteaiinkcanpleaaGreatP13
import Derived.Test.YteaiinkcanpleaaGreatP14
import Derived.Test.YteaiinkcanpleaaGreatP15
import Derived.Test.YteaiinkcanpleaaGreatP16
import Derived.Test.YteaiinkcanpleaaGreatP17
import Derived.Test.YteaiinkcanpleaaGreatP18
import Derived.Test.YteaiinkcanpleaaGreatP19
import Derived.Test.YteaiinkcanpleaaGreatP20
import Derived.Test.YteaiinkcanpleaaGreatP21
import Derived.Test.YteaiinkcanpleaaGreatP22
import Derived.Test.YteaiinkcanpleaaGreatP23
set_option linter.all false
set_option maxRecDepth 100000
set_option maxHeartbeats 4000000
namespace Go.Proofs.YteaiinkcanpleaaGreat
open Go.AM
def ZLo:((((iM J9 λa a1 a2 r=>(AO (HN a2) (λu1=>qI (jD a a1 u1) (λu2=>qi u2 r)))\/(HN a2=some (.t .nil,[])/\qI (Z9H a a1) (λu1=>qi u1 r)))/\
 (iM jF λb out index i r=>if 0<=i then qH b.High i (λu1=>qH b.Low i (λu2=>qH out i (λu3=>qL ((w (u1-u2))+1) λk1=>¬(w k1)=0/\r (jF b (out.set i.toNat (w (u3+(Int.tmod index (w k1))))) (w (Int.tdiv index (w k1))) (w (i-1))))))else aI out r))/\
 ((iM jE λa a1 r=>qB (R3 a) (qI (L3 a) (λu2=>qB (Xj a1 0 (w (u2-1))) (AO (Mc a.Low) (λu4=>r (jF a u4 a1 (w ((u4.length:Int)-1))))) (FH r))) (FH r))/\
 (iM Sq λb out n i r=>if i<n then((jE b i=some (.tup [.t .nil,Bo false],[])/\qN out (r (Sq b (out++[[]]) n (w (i+1)))))\/(∃(u1:WL),jE b i=some (.tup [.own 0,Bo true],[.arr 3 1 true (u1.map ic)])/\qN out (r (Sq b (out++[u1]) n (w (i+1))))))else Kb out r)))/\
 (((iM HP λa r=>qI (L4 a) (λu1=>if 400<u1 then KC r else r (Sq a ([]:WA) u1 0)))/\
 (iM Z0h λa a1 r=>qb (decide (a1<=a)) r))/\
 ((iM jG λs f x x1 r=>if x1<x then qG s x1 (λu1=>qB (Z0h u1 f) (qi x1 r) (r (jG s f x (w (x1+1)))))else qi (-1) r)/\
 ((iM Z0l λa a1 r=>r (jG a a1 (a.length:Int) 0))/\
 (iM ZpC λa a1 r=>qI (Z0l a a1) (λu1=>qi u1 r))))))/\
 ((((iM jH λa a1 r=>qB (Xj a 0 1000000000000) (qB (Xj a1 0 100) (qi (w (Int.tdiv (w (a*(w (100+a1)))) 100)) r) (qi (-1) r)) (qi (-1) r))/\
 (iM Sr λa a1 a2 a3 r=>(AO (HN a3) (λu1=>qI (F6 a a1 a2 u1) (λu2=>qi u2 r)))\/(HN a3=some (.t .nil,[])/\qI (Z9G a a1 a2) (λu1=>qi u1 r))))/\
 ((iM ZpD λa a1 a2 a3 a4 a5 r=>qG a3.Plans a (λu1=>qI (Sr a1 a2 u1 a4) (λu2=>qb (decide (u2<=a5)) r)))/\
 (iM jI λs f f1 f2 f3 f4 x x1 r=>if x1<x then qG s x1 (λu1=>qB (ZpD u1 f f1 f2 f3 f4) (qi x1 r) (r (jI s f f1 f2 f3 f4 x (w (x1+1)))))else qi (-1) r)))/\
 (((iM Z0n λa a1 a2 a3 a4 a5 r=>r (jI a a1 a2 a3 a4 a5 (a.length:Int) 0))/\
 (iM ZpE λa a1 a2 a3 a4 a5 r=>qI (Z0n a a1 a2 a3 a4 a5) (λu1=>qb (decide (0<=u1)) r)))/\
 ((iM jK λm q b x x1 x2 r=>if x2<x1 then qG x x2 (λu1=>qI (J9 m q u1) (λu2=>qI (ZpC b.Budgets u2) (λu3=>if u3<0 then qb false r else qG b.Budgets u3 (λu4=>qI (jH u4 b.Slack) (λu5=>qH b.Contours u3 (λu6=>qB (ZpE u6 m q b u1 u5) (r (jK m q b x x1 (w (x2+1)))) (qb false r)))))))else qb true r)/\
 ((iM jJ λa a1 a2 r=>qB (iN a a1 a2) (qI (J9 a a1 a2.Box.Low) (λu2=>∃u3,a2.Budgets[0]?=some u3/\if u2<u3 then qb false r else(HP a2.Box=some (.t .nil,[])/\r (Z9T a a1 a2 0 0))\/(Uc (HP a2.Box) (λu4=>r (jK a a1 a2 u4 (u4.length:Int) 0))))) (qb false r))/\
 (iM Ml λm q b location total x x1 x2 r=>if x2<x1 then qG x x2 (λu1=>qH b.Budgets x2 (λu2=>qI (jH u2 b.Slack) (λu3=>r (Ss m q b location total u3 x x1 x2 u1 (u1.length:Int) 0))))else Lb r))))):=by
 refine qu ?_
 and_intros
 all_goals(intros;unfold Im;(try simp only[J9,jF,jE,Sq,HP,Z0h,jG,Z0l,ZpC,jH,Sr,ZpD,jI,Z0n,ZpE,jK,jJ,Ml,HN,jD,Z9H,Zf.c_def,Zz.c_def,Zc.c_def,R3,L3,Xj,Mc,Box.c_def,tI,L4,F6,Z9G,Ze.c_def,Zu.c_def,iN,Z9T,Ss,Aq,Z0m,Z0r,ZpG,Bc,A8]);(try simp only[Bd]);(try simp only[Be,gS,kk]))
 all_goals(repeat' first|refine Bp λ_=>?_|refine Bn λ_ _=>?_|refine Bm λ_=>?_|refine AH ?_ ?_|exact False.elim)
 all_goals(intro h;first|refine run ZJA rfl ?_|rw[Zl Z0c.eq_1]|refine run ZJB rfl ?_|rw[Zl Z0f.eq_1]|refine run ZJC rfl ?_|refine run ZJD rfl ?_|rw[Zl Z0j.eq_1]|refine run ZJE rfl ?_|refine run ZJF rfl ?_|refine run ZJG rfl ?_|refine run ZJH rfl ?_|refine run ZJI rfl ?_|refine run ZJJ rfl ?_|rw[Zl Z0p.eq_1]|refine run ZJK rfl ?_|rw[Zl ZpF.eq_1])
 all_goals (refine Ye ?_ h;clear h;simp +decide[*,kk,tI,Av,Z9I,Z0d,Z9J,Z0g,Z9K,Z9L,Z0k,Z9M,Z9N,Z9O,Z9P,Z9Q,Z9R,Z0q,Z9S,Z0u])
abbrev W8:=uq ZLo
def ZLp:((iM Ss λm q b location total BM x x1 x2 x3 x4 x5 r=>if x5<x4 then qG x3 x5 (λu1=>qG b.Plans u1 (λu2=>qI (Sr m q u2 location) (λu3=>if u3<=BM then r (some (.tup [I (w (total+u3)),Bo true],[]))else r (Ss m q b location (w (total+BM)) BM x x1 x2 x3 x4 (w (x5+1))))))else r (Ml m q b location total x x1 (w (x2+1))))/\
 (iM HQ λa a1 a2 a3 r=>r (Ml a a1 a2 a3 0 a2.Contours (a2.Contours.length:Int) 0)))/\
 ((iM jN λa b c d r=>¬b=0/\¬d=0/\if(w (Int.tdiv a b))=(w (Int.tdiv c d))then qL (Int.tmod a b) λk2=>qL (Int.tmod c d) λk3=>qL (if 0<k2 then qb (decide (k3=0)) r else qb false r) λk1=>if k3=0 then k1 else if k2=0 then k1 else r (jN d k3 b k2)else qb (decide ((w (Int.tdiv c d))<(w (Int.tdiv a b)))) r)/\
 (iM jM λa a1 a2 a3 r=>r (jN a a1 a2 a3))):=by
 refine qu ?_
 and_intros
 all_goals(intros;unfold Im;(try simp only[Ss,HQ,jN,jM,Sr,Zf.c_def,Zz.c_def,Ze.c_def,Zc.c_def,Ml,Aq,ZpG,Bc,A8]);(try simp only[Bd]);(try simp only[Be,gS,kk]))
 all_goals(repeat' first|refine Bp λ_=>?_|refine Bn λ_ _=>?_|refine Bm λ_=>?_|refine AH ?_ ?_|exact False.elim)
 all_goals(intro h;first|rw[Zl Z0s.eq_1]|refine run ZJL rfl ?_|rw[Zl Z0v.eq_1]|refine run ZJM rfl ?_)
 all_goals (refine Ye ?_ h;clear h;simp +decide[*,kk,tI,Av,Z0t,Z9U,Z9W])
abbrev kL:=uq ZLp
def ZLq:(((iM Z0w λm q b x total B0 x1 x2 r=>if x2<x1 then qG x x2 (λu1=>∃u2 u3,HQ m q b u1=some (.tup [I u2,Bo u3],[])/\qI (J9 m q u1) (λu4=>r (Ga m q b x u1 u2 u4 x1 (w (x2+1)))))else r (some (.tup [.t .nil,Bo true],[])))/\
 ((iM Mm λa a1 a2 r=>qB (jJ a a1 a2) ((HP a2.Box=some (.t .nil,[])/\r (Z9Y a a1 a2 0 1 0 0))\/(Uc (HP a2.Box) (λu2=>r (Z0w a a1 a2 u2 0 1 (u2.length:Int) 0)))) (FH r))/\
 (iM ZpL λx a a1 r=>qL (Li x ([]:List Zd) r) λk1=>qB (Kj a) (qB (RW a1 x) (aP (Hw a1) (λu3=>∃u4,∃(u5:List Zd),J2 u3 x a a1=some (.own 2,[.arr 108 3 true (u3.map ZX.c),.arr 3 1 true (x.map ic),.arr 77 4 u4 (u5.map Zd.c)])/\r (some (.own 1,[.arr 3 1 true (x.map ic),.arr 77 4 u4 (u5.map Zd.c)])))) k1) k1)))/\
 ((iM ZpM λx a a1 r=>(∃(u1:WL),∃u2,∃(u3:List Zd),ZpL x a a1=some (.own 1,[.arr 3 1 true (u1.map ic),.arr 77 4 u2 (u3.map Zd.c)])/\qI (Wn a1) (λu4=>(Jv (Us u3 u4) (λu5 u6 u7=>vI u5 u6 u7 u1 r))\/(Jw (Us u3 u4) (λu5 u6 u7 u8=>vJ u6 u7 u8 u1 u5 r))))\/(∃(u1:WL) (u2:List Zd),ZpL x a a1=some (.own 1,[.arr 3 1 true (u1.map ic),.arr 77 4 true (u2.map Zd.c)])/\qI (Wn a1) (λu3=>(Jv (Us u2 u3) (λu4 u5 u6=>vI u4 u5 u6 u1 r))\/(Jw (Us u2 u3) (λu4 u5 u6 u7=>vJ u5 u6 u7 u1 u4 r)))))/\
 ((iM Z0x λx a a1 r=>(∃(u1:WL),∃u2,∃u3,∃u4,ZpM x a a1=some (.tup [.agg [I u2,I u3,I u4,.t .nil],Bo false],[.arr 3 1 true (u1.map ic)])/\r (some (I (-1),[.arr 3 1 true (u1.map ic)])))\/(∃(u1:WL),∃(u2:List Zk),∃u3,∃u4,∃u5,ZpM x a a1=some (.tup [.agg [I u3,I u4,I u5,.own 1],Bo true],[.arr 3 1 true (u1.map ic),.arr 149 3 true (u2.map Zk.c)])/\r (some (I u5,[.arr 3 1 true (u1.map ic)]))))/\
 (iM Gb λa a1 a2 r=>AO (Kk a2) (λu1=>∃(u2:WL),∃u3,Z0x u1 a a1=some (I u3,[.arr 3 1 true (u2.map ic)])/\qi u3 r)))))/\
 (((iM jP λl cost i r=>if i<(l.length:Int)then qG l i (λu1=>if cost<=u1 then qi i r else r (jP l cost (w (i+1))))else qi (-1) r)/\
 ((iM jO λa a1 r=>r (jP a a1 0))/\
 (iM jR λm q b k l i r=>qG b.Contours k (λu1=>if i<(u1.length:Int)then qG u1 i (λu2=>qG b.Plans u2 (λu3=>qI (HA m q u3 l) (λu4=>qH b.Budgets k (λu5=>qI (KK u5 b.Slack) (λu6=>if u4<=u6 then qb true r else r (jR m q b k l (w (i+1))))))))else qb false r))))/\
 ((iM jQ λa a1 a2 a3 a4 r=>r (jR a a1 a2 a3 a4 0))/\
 ((iM jS λm q b shapes full i r=>qI (Kh b.Box) (λu1=>if i<u1 then Kc (Qn b.Box i) (λu2 u3=>AO (Kk u2) (λu4=>∃u5,∃(u6:List Zd),J2 shapes u4 m q=some (.own 2,[.arr 108 3 true (shapes.map ZX.c),.arr 3 1 true (u4.map ic),.arr 77 4 u5 (u6.map Zd.c)])/\(qL (r (jS m q b shapes full (w (i+1)))) λk1=>qL (qb false r) λk2=>(Jv (Us u6 full) (λu7 u8 u9=>qI (jO b.Budgets u9) (λu10=>if u10<0 then k2 else qB (jQ m q b u10 u2) k1 k2)))\/(Jw (Us u6 full) (λu7 u8 u9 u10=>qI (jO b.Budgets u10) (λu11=>if u11<0 then k2 else qB (jQ m q b u11 u2) k1 k2))))))else qb true r))/\
 (iM Mo λa a1 a2 r=>qL (qb false r) λk1=>qB (Kj a) (qB (HC a1 a2) (qI (Wn a1) (λu3=>qB (UN a1 u3) (qI (Gb a a1 a2.Box.Low) (λu5=>∃u6,a2.Budgets[0]?=some u6/\if u5<u6 then k1 else aP (Hw a1) (λu7=>r (jS a a1 a2 u7 u3 0)))) k1)) k1) k1)))):=by
 refine qu ?_
 and_intros
 all_goals(intros;unfold Im;(try simp only[Z0w,Mm,ZpL,ZpM,Z0x,Gb,jP,jO,jR,jQ,jS,Mo,HQ,J9,Zu.c_def,Box.c_def,Zf.c_def,Zz.c_def,Zc.c_def,jJ,HP,Kj,RW,Hw,J2,ZX.c_def,Wn,Us,Ze.c_def,Zd.c_def,Kk,HA,KK,Kh,Qn,HC,UN,Ga,Z9Y,Mn,Aq,Bc,A8]);(try simp only[Bd]);(try simp only[Be,gS,kk]))
 all_goals(repeat' first|refine Bp λ_=>?_|refine Bn λ_ _=>?_|refine Bm λ_=>?_|refine AH ?_ ?_|exact False.elim)
 all_goals(intro h;first|rw[Zl ZpJ.eq_1]|refine run ZJN rfl ?_|refine XH ZJO rfl ?_|refine XH ZJP rfl ?_|refine XH ZJQ rfl ?_|refine run ZJR rfl ?_|rw[Zl Z0z.eq_1]|refine run ZJS rfl ?_|rw[Zl Z02.eq_1]|refine run ZJT rfl ?_|rw[Zl Z05.eq_1]|refine run ZJU rfl ?_)
 all_goals (refine Ye ?_ h;clear h;simp +decide[*,kk,tI,Av,ZpI,ZpK,Z9X,Z9Z,ZAa,ZAb,ZAc,Z00,ZAd,Z03,ZAe,Z06,ZAf])
abbrev Uu:=uq ZLq
def ZLr:iM Ga λm q b x KQ total B0 x1 x2 r=>if x2<x1 then qG x x2 (λu1=>∃u2 u3,HQ m q b u1=some (.tup [I u2,Bo u3],[])/\qI (J9 m q u1) (λu4=>KQ≠[]/\qB (jM u2 u4 total B0) (r (Ga m q b x u1 u2 u4 x1 (w (x2+1)))) (r (Ga m q b x KQ total B0 x1 (w (x2+1))))))else r (some (.tup [L 1 (KQ.map ic),Bo true],[])):=by
 refine qu ?_;intro m q b x KQ total B0 x1 x2 r;unfold Im;intro h;unfold Ga
 try simp only[Mn,Aq]
 rw[Zl ZpJ.eq_1];by_cases q1:x2<x1
 .rw[Ya q1]at h;obtain⟨q2,h⟩:=h;obtain⟨e1,q3,h⟩:=h;have gq3:=We q3;have kq3:=Wm q3;obtain⟨v,v1,q4,h⟩:=h;unfold HQ at q4
  try simp[Aq]at q4
  obtain⟨v2,q5,h⟩:=h;unfold J9 at q5
  try simp[Aq]at q5
  obtain⟨q6,h⟩:=h;obtain⟨yq6,Acg,eq6⟩:=List.exists_cons_of_ne_nil q6
  first|subst eq6|skip
  obtain⟨v3,q7,h⟩:=h;unfold jM at q7
  try simp[Aq]at q7
  by_cases q8:v3=true
  .rw[Ya q8]at h;refine Ye ?_ h;clear h;simp +decide[*,tI,Av,Ga,ZpI,Mn,Aq]
  .rw[Yb q8]at h;refine Ye ?_ h;clear h;simp +decide[*,tI,Av,Ga,ZpI,Mn,Aq]
 .rw[Yb q1]at h;refine Ye ?_ h;clear h;simp +decide[*,tI,Av,ZpK,Aq]
abbrev ZAt:=uq ZLr
def ZLs:((iM St λm q b l n k r=>if k<(b.Budgets.length:Int)then qG b.Budgets k (λu1=>qI (KK u1 b.Slack) (λu2=>r (jU m q b l n k u2 0)))else qi (-1) r)/\
 ((iM jU λm q b l n k budget i r=>qG b.Contours k (λu1=>if i<(u1.length:Int)then qG u1 i (λu2=>qG b.Plans u2 (λu3=>qI (HA m q u3 l) (λu4=>if u4<=budget then qi (w (n+u4)) r else r (jU m q b l (w (n+budget)) k budget (w (i+1))))))else r (St m q b l n (w (k+1)))))/\
 (iM ZpO λa a1 a2 a3 r=>r (St a a1 a2 a3 0 0))))/\
 ((iM Su λa a1 a2 a3 r=>qB (Kj a) (qB (HC a1 a2) (qB (LU a2.Box a3) (qI (ZpO a a1 a2 a3) (λu4=>if u4<0 then Lb r else r (some (.tup [I u4,Bo true],[])))) (Lb r)) (Lb r)) (Lb r))/\
 ((iM ZpP λa a1 r=>if a1<(a.length:Int)then qG a a1 (λu1=>qi (w u1) r)else qi (Int.tmod (w ((w (a1*37))+(w ((a.length:Int)*11)))) 256) r)/\
 (iM Sv λm q b code w1 t ends best k r=>if k<8 then qI (ZpP code k) (λu1=>qI (Kh b.Box) (λu2=>¬u2=0/\Kc (Qn b.Box (Int.tmod u1 u2)) (λu3 u4=>∃u5 u6,Su m q b u3=some (.tup [I u5,Bo u6],[])/\qI (Gb m q u3) (λu7=>¬best=0/\¬u7=0/\if(w (Int.tdiv t best))<(w (Int.tdiv u5 u7))then qb false r else r (Sv m q b code w1 t ends best (w (k+1)))))))else if ends=true then qV (LU b.Box w1) (λu1=>qb u1 r)else qb false r))):=by
 refine qu ?_
 and_intros
 all_goals(intros;unfold Im;(try simp only[St,jU,ZpO,Su,ZpP,Sv,KK,HA,Zf.c_def,Zz.c_def,Ze.c_def,Zc.c_def,Kj,HC,LU,Zu.c_def,Box.c_def,Kh,Qn,Gb,Aq,Z0A,Bc,A8]);(try simp only[Bd]);(try simp only[Be,gS,kk]))
 all_goals(repeat' first|refine Bp λ_=>?_|refine Bn λ_ _=>?_|refine Bm λ_=>?_|refine AH ?_ ?_|exact False.elim)
 all_goals(intro h;first|rw[Zl ZpN.eq_1]|rw[Zl Z07.eq_1]|refine run ZJV rfl ?_|refine run ZJW rfl ?_|refine run ZJX rfl ?_|rw[Zl Z0B.eq_1])
 all_goals (refine Ye ?_ h;clear h;simp +decide[*,kk,tI,Av,Z09,Z08,ZAg,ZAh,ZAi,ZAk])
abbrev JB:=uq ZLs
def ZLt(a:WL)(h0:FK a=some (Bo true,[])):Mp a=some (Bo true,[]):=by
 unfold Mp;refine run Z0D rfl ?_;simp only[FK]at h0;simp +decide[*,kk,tI,Av,ZpQ]
def law_no(a:WL){m:Zf}{q:Zc}{b:Zu}(h0:FK a=some (Bo false,[]))(h1:L1 a=some (.tup [.agg (m.c.map .t),.agg (q.c.map .t),.agg (b.c.map .t)],[]))
  (h2:Mm m q b=some (.tup [.t .nil,Bo false],[])) (h3:Mo m q b=some (Bo false,[])):Mp a=some (Bo true,[]):=by
 unfold Mp;refine run Z0D rfl ?_;simp only[FK,L1,Mm,Mo,Zf.c_def,Zz.c_def,Zc.c_def,Zu.c_def,Box.c_def,Bc,A8]at *
 simp +decide[*,kk,tI,Av,ZpQ]
def ZLu(a:WL){m:Zf}{q:Zc}{b:Zu}{l:WL}{t n:Int}{e:Bool}{r:XS}(h0:FK a=some (Bo false,[]))(h1:L1 a=some (.tup [.agg (m.c.map .t),.agg (q.c.map .t),.agg (b.c.map .t)],[]))
  (h2:Mm m q b=some (.tup [L 1 (l.map ic),Bo true],[])) (h3:Mo m q b=some (Bo true,[])) (h4:Su m q b l=some (.tup [I t,Bo e],[])) (h5:Gb m q l=some (I n,[]))
  (h6:Sv m q b a l t e n 0=some r):Mp a=some r:=by
 unfold Mp;refine run Z0D rfl ?_;refine Ye ?_ h6;clear h6;simp only[FK,L1,Mm,Mo,Su,Gb,Zf.c_def,Zz.c_def,Zc.c_def,Zu.c_def,Box.c_def,Bc,A8]at *
 simp +decide[*,kk,tI,Av,ZpQ,Sv,ZAk]
