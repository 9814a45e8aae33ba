/-
  Parts of the proofs for this seat: G13 G14 G15.
-/
import Derived.Test.YtggcnlojfngdeaaGreatP13
set_option linter.all false
set_option maxRecDepth 100000
set_option maxHeartbeats 4000000
namespace Go.Proofs.YtggcnlojfngdeaaGreat
open Go.AM
def ZHQ:((((iM eF λp n k r=>if k<n then qG p.Objective k (λu1=>qB (Z0 u1 (-9) 9) (r (eF p n (w (k+1)))) (qb false r))else r (Rw p n 0))/\
 (iM Rw λp n i r=>if i<(p.Rows.length:Int)then qG p.Rows i (λu1=>if(u1.length:Int)=n then qH p.Limits i (λu2=>qB (Z0 u2 0 99) (r (eG p n i 0)) (qb false r))else qb false r)else qb true r))/\
 ((iM eG λp n i k r=>if k<n then qG p.Rows i (λu1=>qG u1 k (λu2=>qB (Z0 u2 (-9) 9) (r (eG p n i (w (k+1)))) (qb false r)))else r (Rw p n (w (i+1))))/\
 (iM eE λa r=>qL (a.Objective.length:Int) λk1=>qB (Z0 k1 1 15) (if 64<(a.Rows.length:Int)then qb false r else if(a.Rows.length:Int)=(a.Limits.length:Int)then r (eF a k1 0)else qb false r) (qb false r))))/\
 (((iM Rx λx x1 x2 l n full i r=>qL (aH ([]:WL) ([]:XV) r) λk1=>if i<(l.length:Int)then qG l i (λu1=>qB (Z0 u1.To 1 full) (qB (Z0 u1.From 0 full) (if(Aj u1.From u1.To)=u1.From then if u1.From=u1.To then k1 else if 64<=i then k1 else A4 (Jg n ([u1.To]) ([u1.From])) (λu4=>qN x1 (qN x2 (r (Rx x (x1++[u4]) (x2++[u1.Bits]) l n full (w (i+1))))))else k1) k1) k1)else qB (eE (⟨x,x1,x2⟩:Program)) (r (some (.tup [.agg [.own 0,.own 1,.own 2],Bo true],[.arr 3 1 true (x.map ic),.arr 44 1 true (x1.map AA),.arr 3 1 true (x2.map ic)]))) k1)/\
 (iM yH λa a1 a2 r=>aP (d6 a a1 a2) (λu1=>if(u1.length:Int)=0 then aH ([]:WL) ([]:XV) r else A4 (LG a1 a2) (λu2=>aP (d8 u1 u2) (λu3=>uY (LP u3 (u2.length:Int)) (λu4 u5 u6 u7=>r (some (.tup [.agg [.own 0,.own 1,.own 2],Bo u7],[.arr 3 1 true (u4.map ic),.arr 44 1 true (u5.map AA),.arr 3 1 true (u6.map ic)]))))))))/\
 ((iM WB λa r=>r (some (.agg [I a,I 1],[])))/\
 (iM ZuJ λp Value Ai n k r=>if k<n then qG p.Objective k (λu1=>Cm (WB u1) (λu2=>r (eI p Value Ai ([k]) ([u2]) n (w (k+1)))))else r (Z4Z p Value Ai n 0)))))/\
 ((((iM eI λp Value Ai x x1 n k r=>if k<n then qN x (qG p.Objective k (λu1=>Cm (WB u1) (λu2=>qN x1 (r (eI p Value Ai (x++[k]) (x1++[u2]) n (w (k+1)))))))else r (ZuL p Value Ai x x1 n 0))/\
 (iM ZuL λp Value Ai x x1 n i r=>if i<(p.Rows.length:Int)then r (eJ p Value Ai x x1 ([]:List Zb) n i 0)else r (some (.tup [.agg [.own 0,.own 1,.own 2,.own 3,.own 4,I Ai.Num,I Ai.Den],Bo true],[.arr 3 1 true (([]:WL).map ic),.arr 3 1 true (x.map ic),.arr 264 1 true (([]:List (List Zb)).map (lc 2 Zb.c)),.arr 54 2 true (([]:List Zb).map Zb.c),.arr 54 2 true (x1.map Zb.c)]))))/\
 ((iM eJ λp Value Ai x x1 row n i k r=>if k<n then qG p.Rows i (λu1=>qG u1 k (λu2=>Cm (WB u2) (λu3=>qN row (r (eJ p Value Ai x x1 (row++[u3]) n i (w (k+1)))))))else qG p.Limits i (λu1=>Cm (WB u1) (λu2=>r (LQ p Value Ai ([(w (n+i))]) x ([row]) ([u2]) x1 n (w (i+1))))))/\
 (iM LQ λp Value Ai x x1 x2 x3 x4 n i r=>if i<(p.Rows.length:Int)then r (eK p Value Ai x x1 x2 x3 x4 ([]:List Zb) n i 0)else r (some (.tup [.agg [.own 0,.own 1,.own 2,.own 3,.own 4,I Ai.Num,I Ai.Den],Bo true],[.arr 3 1 true (x.map ic),.arr 3 1 true (x1.map ic),.arr 264 1 true (x2.map (lc 2 Zb.c)),.arr 54 2 true (x3.map Zb.c),.arr 54 2 true (x4.map Zb.c)])))))/\
 (((iM eK λp Value Ai x x1 x2 x3 x4 row n i k r=>if k<n then qG p.Rows i (λu1=>qG u1 k (λu2=>Cm (WB u2) (λu3=>qN row (r (eK p Value Ai x x1 x2 x3 x4 (row++[u3]) n i (w (k+1)))))))else qN x (qN x2 (qG p.Limits i (λu1=>Cm (WB u1) (λu2=>qN x3 (r (LQ p Value Ai (x++[(w (n+i))]) x1 (x2++[row]) (x3++[u2]) x4 n (w (i+1)))))))))/\
 (iM eH λa r=>qB (eE a) (Cm (WB 0) (λu2=>r (ZuJ a (⟨0,0⟩:Zb) u2 (a.Objective.length:Int) 0))) (G1 ([]:WL) ([]:List Zb) r)))/\
 ((iM Hj λa r=>if a<0 then qi (w (0-a)) r else qi a r)/\
 ((iM eN λa b r=>if b=0 then qi a r else ¬b=0/\r (eN b (Int.tmod a b)))/\
 (iM Hk λa a1 r=>r (eN a a1)))))):=by
 refine qu ?_
 and_intros
 all_goals(intros;unfold Im;(try simp only[eF,Rw,eG,eE,Rx,yH,WB,ZuJ,eI,ZuL,eJ,LQ,eK,eH,Hj,eN,Hk,Z0,Jg,Program.c_def,d6,LG,d8,LP,Z2.c_def,Zq.c_def,Zc.c_def,ZG.c_def,Zr.c_def,Zb.c_def,Z4Z,Ar,Zu7,ZuI,yJ,ZuK,ZuM,Bf,A7]);(try simp only[Bc]);(try simp only[Bd,gS,kk]))
 all_goals(repeat' first|refine Br λ_=>?_|refine Bq λ_ _=>?_|refine Bp λ_=>?_|refine AL ?_ ?_|exact False.elim)
 all_goals(intro h;first|rw[Zk Zu2.eq_1]|rw[Zk yG.eq_1]|rw[Zk Zu3.eq_1]|refine run ZFa rfl ?_|rw[Zk Zu9.eq_1]|refine run ZFc rfl ?_|refine run ZFd rfl ?_|rw[Zk ZuC.eq_1]|rw[Zk yI.eq_1]|rw[Zk ZuD.eq_1]|refine run ZFe rfl ?_|refine run ZFf rfl ?_|rw[Zk ZuO.eq_1]|refine run ZFg rfl ?_)
 all_goals (refine Yg ?_ h;clear h;simp +decide[*,kk,tI,Az,Zu6,Zu5,Zu4,Z4V,ZuA,Z4W,Z4X,ZuH,ZuG,ZuF,ZuE,Z4Y,Z5a,ZuP,Z5b])
abbrev Wj:=uq ZHQ
def ZHR:iM LP λa a1 r=>qB (Z0 a1 1 4) (¬a1<0/\A4 (Jg a1 ([(w ((Ac 1 a1)-1))]) ([]:WL)) (λu2=>UM (eC a1) (λu3=>qL (u3.length:Int) λk1=>0<=k1/\k1<=k1/\k1.toNat*8<=room/\k1<=140737488355328/\r (Rx u2 u3 (List.replicate k1.toNat 0) a a1 (w ((Ac 1 a1)-1)) 0)))) (aH ([]:WL) ([]:XV) r):=by
 refine qu ?_;intro a a1 r;unfold Im;intro h;unfold LP
 try simp only[Ar]
 refine run ZFb rfl ?_;obtain⟨v,q1,h⟩:=h;unfold Z0 at q1
 try simp[Ar]at q1
 by_cases q2:v=true
 .rw[Ya q2]at h;obtain⟨q3,h⟩:=h;obtain⟨v1,q4,h⟩:=h;unfold Jg at q4
  try simp[Ar]at q4
  obtain⟨v2,q5,h⟩:=h;unfold eC at q5
  try simp[Ar]at q5
  obtain⟨q6,h⟩:=h;have zq6:=q6;try simp[Ar]at zq6
  obtain⟨q7,h⟩:=h;have zq7:=q7;try simp[Ar]at zq7
  obtain⟨q8,h⟩:=h;have zq8:=q8;try simp[Ar]at zq8
  obtain⟨q9,h⟩:=h;have zq9:=q9;try simp[Ar]at zq9
  refine Yg ?_ h;clear h;simp +decide[*,ZuB,tI,Az,Rx,Ar]
 .rw[Yb q2]at h;refine Yg ?_ h;clear h;simp +decide[*,ZuB,tI,Az,Ar]
abbrev Z8h:=uq ZHR
def ZHS:((((iM Va λa r=>qB (Z0 a.Den 1 2147483647) (qB (Z0 a.Num (-2147483647) 2147483647) (qI (Hj a.Num) (λu3=>qI (Hk u3 a.Den) (λu4=>qb (decide (u4=1)) r))) (qb false r)) (qb false r))/\
 (iM eO λl i r=>if i<(l.length:Int)then qG l i (λu1=>qB (Va u1) (r (eO l (w (i+1)))) (qb false r))else qb true r))/\
 ((iM Ry λa r=>r (eO a 0))/\
 (iM eR λd all m n i r=>if i<(w (m+n))then qB (Vn all i) (r (eR d all m n (w (i+1)))) (qb false r)else r (eS d m n 0))))/\
 (((iM eS λd m n i r=>qL (qb false r) λk1=>if i<m then qG d.Cells i (λu1=>if(u1.length:Int)=n then qB (Ry u1) (r (eS d m n (w (i+1)))) k1 else k1)else qB (Ry d.Limits) (qB (Ry d.Costs) (qV (Va d.Value) (λu3=>qb u3 r)) k1) k1)/\
 (iM LR λa r=>qL (a.Basic.length:Int) λk1=>qL (qb false r) λk3=>if 64<k1 then k3 else qL (a.Free.length:Int) λk2=>qB (Z0 k2 1 15) (if(a.Cells.length:Int)=k1 then if(a.Limits.length:Int)=k1 then if(a.Costs.length:Int)=k2 then qM a.Basic (a.Basic.length+a.Free.length<=68719476736/\r (eR a (a.Basic++a.Free) k1 k2 0))else k3 else k3 else k3) k3))/\
 ((iM Hl λd best j r=>if j<(d.Free.length:Int)then qG d.Costs j (λu1=>qL (w (j+1)) λk1=>if 0<u1.Num then if best<0 then r (Hl d j k1)else qH d.Free j (λu2=>qG d.Free best (λu3=>if u2<u3 then r (Hl d j k1)else r (Hl d best k1)))else r (Hl d best k1))else qi best r)/\
 (iM eT λa r=>qB (LR a) (r (Hl a (-1) 0)) (qi (-1) r)))))/\
 ((((iM Hn λa a1 r=>qB (Va a) (qB (Va a1) (if a1.Num=0 then W7 r else Bs (Hm (w (a.Num*a1.Den)) (w (a.Den*a1.Num))) (λu3 u4=>JL u3 u4 r)) (W7 r)) (W7 r))/\
 (iM yL λa a1 r=>qB (Va a) (qB (Va a1) (if(w (a.Num*a1.Den))<(w (a1.Num*a.Den))then qi (-1) r else if(w (a1.Num*a.Den))<(w (a.Num*a1.Den))then qi 1 r else qi 0 r) (qi 0 r)) (qi 0 r)))/\
 ((iM Rz λd least j best i r=>if i<(d.Basic.length:Int)then qG d.Cells i (λu1=>qG u1 j (λu2=>qL (r (Rz d least j best (w (i+1)))) λk1=>if u2.Num<=0 then k1 else qH d.Limits i (λu3=>Bs (Hn u3 u2) (λu4 u5=>if u5=true then qI (yL u4 least) (λu6=>qL (r (Rz d u4 j i (w (i+1)))) λk2=>if best<0 then k2 else if u6<0 then k2 else if u6=0 then qH d.Basic i (λu7=>qG d.Basic best (λu8=>if u7<u8 then k2 else k1))else k1)else qi (-1) r))))else qi best r)/\
 (iM eU λa a1 r=>qB (LR a) (qB (Z0 a1 0 (w ((a.Free.length:Int)-1))) (r (Rz a (⟨0,0⟩:Zb) a1 (-1) 0)) (qi (-1) r)) (qi (-1) r))))/\
 (((iM FT λa a1 r=>qB (Va a) (qB (Va a1) (Bs (Hm (w (a.Num*a1.Num)) (w (a.Den*a1.Den))) (λu3 u4=>JL u3 u4 r)) (W7 r)) (W7 r))/\
 (iM yN λa a1 r=>qB (Va a) (qB (Va a1) (Bs (Hm (w ((w (a.Num*a1.Den))-(w (a1.Num*a.Den)))) (w (a.Den*a1.Den))) (λu3 u4=>JL u3 u4 r)) (W7 r)) (W7 r)))/\
 ((iM Vb λa a1 a2 r=>qL (r (some (.tup [.agg (a.c.map .t),Bo true],[]))) λk1=>if a1.Num=0 then k1 else if a2.Num=0 then k1 else Bs (FT a1 a2) (λu1 u2=>Bs (yN a u1) (λu3 u4=>if u2=true then JL u3 u4 r else r (some (.tup [.agg (u3.c.map .t),Bo false],[])))))/\
 (iM Ho λa a1 r=>qB (Va a) (qB (Va a1) (Bs (Hm (w ((w (a.Num*a1.Den))+(w (a1.Num*a.Den)))) (w (a.Den*a1.Den))) (λu3 u4=>JL u3 u4 r)) (W7 r)) (W7 r))))):=by
 refine qu ?_
 and_intros
 all_goals(intros;unfold Im;(try simp only[Va,eO,Ry,eR,eS,LR,Hl,eT,Hn,yL,Rz,eU,FT,yN,Vb,Ho,Z0,Hj,Hk,Zb.c_def,Vn,Zv.c_def,Hm,Ar,Bf,A7]);(try simp only[Bc]);(try simp only[Bd,gS,kk]))
 all_goals(repeat' first|refine Br λ_=>?_|refine Bq λ_ _=>?_|refine Bp λ_=>?_|refine AL ?_ ?_|exact False.elim)
 all_goals(intro h;first|refine run ZFh rfl ?_|rw[Zk ZuR.eq_1]|refine run ZFi rfl ?_|rw[Zk ZuT.eq_1]|rw[Zk ZuU.eq_1]|refine run ZFj rfl ?_|rw[Zk ZuX.eq_1]|refine run ZFk rfl ?_|refine run ZFm rfl ?_|refine run ZFn rfl ?_|rw[Zk ZuZ.eq_1]|refine run ZFo rfl ?_|refine run ZFp rfl ?_|refine run ZFq rfl ?_|refine run ZFr rfl ?_|refine run ZFs rfl ?_)
 all_goals (refine Yg ?_ h;clear h;simp +decide[*,kk,tI,Az,Z5c,ZuS,Z5d,ZuW,ZuV,Z5e,Z5f,ZuY,Z5g,Z5k,Z5l,Z5m,Zva,Z5n,Z5o,Z5p,Z5q,Z5r])
abbrev Vc:=uq ZHS
def ZHT:iM Hm λa a1 r=>if a1=0 then W7 r else if a<(-9223372036854775807)then W7 r else if a1<(-9223372036854775807)then W7 r else if a1<0 then qI (Hj (w (0-a))) (λu1=>qI (Hk u1 (w (0-a1))) (λu2=>¬u2=0/\qL (w (Int.tdiv (w (0-a1)) u2)) λk1=>qL (w (Int.tdiv (w (0-a)) u2)) λk2=>qB (Va (⟨k2,k1⟩:Zb)) (r (some (.tup [.agg [I k2,I k1],Bo true],[]))) (W7 r)))else qI (Hj a) (λu1=>qI (Hk u1 a1) (λu2=>¬u2=0/\qB (Va (⟨(w (Int.tdiv a u2)),(w (Int.tdiv a1 u2))⟩:Zb)) (r (some (.tup [.agg [I (w (Int.tdiv a u2)),I (w (Int.tdiv a1 u2))],Bo true],[]))) (W7 r))):=by
 refine qu ?_;intro a a1 r;unfold Im;intro h;unfold Hm
 try simp only[Ar]
 refine run ZFl rfl ?_;simp only[Hj,Hk,Va,Zb.c_def,Bf,A7,Ar]at h
 try simp only[Bc]at h
 try simp only[Bd,gS,kk]at h
 rcases h with⟨q1,h⟩|⟨q1,(⟨q2,h⟩|⟨q2,(⟨q3,h⟩|⟨q3,(⟨q4,v,q5,v1,q6,q7,v2,q8,(⟨q9,h⟩|⟨q9,h⟩)⟩|⟨q4,v3,q10,v4,q11,q12,v5,q13,(⟨BB,h⟩|⟨BB,h⟩)⟩)⟩)⟩)⟩
 all_goals (try simp only[Int.zero_sub]at *)
 all_goals (refine Yg ?_ h;clear h;simp +decide[*,kk,tI,Az,Z5j,Z5i,Ar])
abbrev ZHU:=uq ZHT
def ZHV:((((iM eW λd Value a pivot i j fine k r=>if k<(d.Free.length:Int)then qG d.Cells i (λu1=>qG u1 k (λu2=>Bs (Hn u2 a) (λu3 u4=>qL (eW d Value a) λk2=>qL (w (k+1)) λk3=>if k=j then Cm (WB 1) (λu5=>Bs (Hn u5 a) (λu6 u7=>if fine=true then qN pivot (r (k2 (pivot++[u6]) i j u7 k3))else qN pivot (r (k2 (pivot++[u6]) i j false k3))))else if fine=true then qN pivot (r (k2 (pivot++[u3]) i j u4 k3))else qN pivot (r (k2 (pivot++[u3]) i j false k3)))))else qG d.Limits i (λu1=>Bs (Hn u1 a) (λu2 u3=>qL (yQ d Value pivot u2 (⟨0,0⟩:Zb)) λk1=>if fine=true then qM d.Basic (qM d.Free (qG d.Free j (λu4=>qH d.Basic i (λu5=>r (k1 (d.Basic.set i.toNat u4) (d.Free.set j.toNat u5) i j u3 0)))))else qM d.Basic (qM d.Free (qG d.Free j (λu4=>qH d.Basic i (λu5=>r (k1 (d.Basic.set i.toNat u4) (d.Free.set j.toNat u5) i j false 0))))))))/\
 (iM yQ λd Value pivot limit Ai x x1 i j fine A8 r=>qL (yS d Value pivot limit Ai x x1 j) λk1=>if A8<(d.Basic.length:Int)then if fine=true then if A8=i then r (Hp d Value limit Ai x x1 false ([pivot]) ([limit]) i j true pivot (w (A8+1)))else r (eX d Value pivot limit Ai x x1 ([]:List Zb) i j true A8 0)else r (k1 false 0)else r (k1 fine 0)))/\
 ((iM Hp λd Value limit Ai x x1 fr x2 x3 i j fine pivot A8 r=>qL (eZ d Value limit Ai x x1 fr x2 x3 j) λk1=>if A8<(d.Basic.length:Int)then if fine=true then if A8=i then qN x2 (qN x3 (r (Hp d Value limit Ai x x1 false (x2++[pivot]) (x3++[limit]) i j true pivot (w (A8+1)))))else r (eY d Value limit Ai x x1 fr x2 x3 ([]:List Zb) i j true pivot A8 0)else r (k1 false pivot 0)else r (k1 fine pivot 0))/\
 (iM eX λd Value pivot limit Ai x x1 row i j fine A8 k r=>if k<(d.Free.length:Int)then qG d.Cells A8 (λu1=>qG u1 k (λu2=>qL (eX d Value pivot limit Ai x x1) λk1=>qL (w (k+1)) λk3=>if k=j then Cm (WB 0) (λu3=>qG u1 j (λu4=>qH pivot k (λu5=>Bs (Vb u3 u4 u5) (λu6 u7=>if fine=true then qN row (r (k1 (row++[u6]) i j u7 A8 k3))else qN row (r (k1 (row++[u6]) i j false A8 k3))))))else qG u1 j (λu3=>qH pivot k (λu4=>Bs (Vb u2 u3 u4) (λu5 u6=>if fine=true then qN row (r (k1 (row++[u5]) i j u6 A8 k3))else qN row (r (k1 (row++[u5]) i j false A8 k3)))))))else qG d.Limits A8 (λu1=>qH d.Cells A8 (λu2=>qG u2 j (λu3=>Bs (Vb u1 u3 limit) (λu4 u5=>qL (LU d Value pivot limit Ai x x1 false ([row]) ([u4]) i j) λk2=>if fine=true then r (k2 u5 (w (A8+1)))else r (k2 false (w (A8+1))))))))))/\
 (((iM yS λd Value pivot limit Ai x x1 j fine k r=>qL (Zvj d Value pivot limit Ai x x1 j) λk1=>if k<(d.Free.length:Int)then if fine=true then qG d.Costs k (λu1=>qL (Z5w d Value pivot limit Ai x x1) λk2=>if k=j then Cm (WB 0) (λu2=>qG d.Costs j (λu3=>qH pivot k (λu4=>Bs (Vb u2 u3 u4) (λu5 u6=>r (k2 ([u5]) j u6 (w (k+1)))))))else qG d.Costs j (λu2=>qH pivot k (λu3=>Bs (Vb u1 u2 u3) (λu4 u5=>r (k2 ([u4]) j u5 (w (k+1)))))))else r (k1 false k false)else r (k1 fine k false))/\
 (iM eY λd Value limit Ai x x1 fr x2 x3 row i j fine pivot A8 k r=>if k<(d.Free.length:Int)then qG d.Cells A8 (λu1=>qG u1 k (λu2=>qL (eY d Value limit Ai x x1 fr x2 x3) λk1=>qL (w (k+1)) λk3=>if k=j then Cm (WB 0) (λu3=>qG u1 j (λu4=>qH pivot k (λu5=>Bs (Vb u3 u4 u5) (λu6 u7=>if fine=true then qN row (r (k1 (row++[u6]) i j u7 pivot A8 k3))else qN row (r (k1 (row++[u6]) i j false pivot A8 k3))))))else qG u1 j (λu3=>qH pivot k (λu4=>Bs (Vb u2 u3 u4) (λu5 u6=>if fine=true then qN row (r (k1 (row++[u5]) i j u6 pivot A8 k3))else qN row (r (k1 (row++[u5]) i j false pivot A8 k3)))))))else qG d.Limits A8 (λu1=>qH d.Cells A8 (λu2=>qG u2 j (λu3=>Bs (Vb u1 u3 limit) (λu4 u5=>qL (Hp d Value limit Ai x x1 false (x2++[row]) (x3++[u4]) i j) λk2=>if fine=true then qN x2 (qN x3 (r (k2 u5 pivot (w (A8+1)))))else qN x2 (qN x3 (r (k2 false pivot (w (A8+1)))))))))))/\
 ((iM eZ λd Value limit Ai x x1 fr x2 x3 j fine pivot k r=>qL (Zvk d Value limit Ai x x1 fr x2 x3 j) λk1=>if k<(d.Free.length:Int)then if fine=true then qG d.Costs k (λu1=>qL (fA d Value limit Ai x x1 fr x2 x3) λk2=>if k=j then Cm (WB 0) (λu2=>qG d.Costs j (λu3=>qH pivot k (λu4=>Bs (Vb u2 u3 u4) (λu5 u6=>r (k2 ([u5]) j u6 pivot (w (k+1)))))))else qG d.Costs j (λu2=>qH pivot k (λu3=>Bs (Vb u1 u2 u3) (λu4 u5=>r (k2 ([u4]) j u5 pivot (w (k+1)))))))else r (k1 false pivot k false)else r (k1 fine pivot k false))/\
 (iM LU λd Value pivot limit Ai x x1 fr x2 x3 i j fine A8 r=>qL (yT d Value pivot limit Ai x x1 fr x2 x3 j) λk1=>if A8<(d.Basic.length:Int)then if fine=true then if A8=i then qN x2 (qN x3 (r (Hp d Value limit Ai x x1 false (x2++[pivot]) (x3++[limit]) i j true pivot (w (A8+1)))))else r (fB d Value pivot limit Ai x x1 fr x2 x3 ([]:List Zb) i j true A8 0)else r (k1 false 0)else r (k1 fine 0)))))/\
 ((((iM Zvj λd Value pivot limit Ai x x1 j fine k x2 r=>qL ([]:List Zb) λk2=>qL (G1 ([]:WL) k2 r) λk1=>if fine=true then qG d.Costs j (λu1=>Bs (FT u1 limit) (λu2 u3=>Bs (Ho d.Value u2) (λu4 u5=>if u3=true then if u5=true then r (some (.tup [.agg [.own 0,.own 1,.own 2,.own 3,.own 4,I u4.Num,I u4.Den],Bo true],[.arr 3 1 true (x.map ic),.arr 3 1 true (x1.map ic),.arr 264 1 true (([]:List (List Zb)).map (lc 2 Zb.c)),.arr 54 2 true (k2.map Zb.c),.arr 54 2 true (k2.map Zb.c)]))else k1 else k1)))else k1)/\
 (iM fA λd Value limit Ai x x1 fr x2 x3 x4 j fine pivot k r=>qL (fC d Value limit Ai x x1 fr x2 x3 x4 j) λk1=>if k<(d.Free.length:Int)then if fine=true then qG d.Costs k (λu1=>qL (fA d Value limit Ai x x1 fr x2 x3) λk2=>if k=j then Cm (WB 0) (λu2=>qG d.Costs j (λu3=>qH pivot k (λu4=>Bs (Vb u2 u3 u4) (λu5 u6=>qN x4 (r (k2 (x4++[u5]) j u6 pivot (w (k+1))))))))else qG d.Costs j (λu2=>qH pivot k (λu3=>Bs (Vb u1 u2 u3) (λu4 u5=>qN x4 (r (k2 (x4++[u4]) j u5 pivot (w (k+1))))))))else r (k1 false pivot k false)else r (k1 fine pivot k false)))/\
 ((iM Zvk λd Value limit Ai x x1 fr x2 x3 j fine pivot k x4 r=>qL (G1 ([]:WL) ([]:List Zb) r) λk1=>if fine=true then qG d.Costs j (λu1=>Bs (FT u1 limit) (λu2 u3=>Bs (Ho d.Value u2) (λu4 u5=>if u3=true then if u5=true then r (some (.tup [.agg [.own 0,.own 1,.own 2,.own 3,.own 4,I u4.Num,I u4.Den],Bo true],[.arr 3 1 true (x.map ic),.arr 3 1 true (x1.map ic),.arr 264 1 fr (x2.map (lc 2 Zb.c)),.arr 54 2 true (x3.map Zb.c),.arr 54 2 true (([]:List Zb).map Zb.c)]))else k1 else k1)))else k1)/\
 (iM fB λd Value pivot limit Ai x x1 fr x2 x3 row i j fine A8 k r=>if k<(d.Free.length:Int)then qG d.Cells A8 (λu1=>qG u1 k (λu2=>qL (fB d Value pivot limit Ai x x1 fr x2 x3) λk1=>qL (w (k+1)) λk3=>if k=j then Cm (WB 0) (λu3=>qG u1 j (λu4=>qH pivot k (λu5=>Bs (Vb u3 u4 u5) (λu6 u7=>if fine=true then qN row (r (k1 (row++[u6]) i j u7 A8 k3))else qN row (r (k1 (row++[u6]) i j false A8 k3))))))else qG u1 j (λu3=>qH pivot k (λu4=>Bs (Vb u2 u3 u4) (λu5 u6=>if fine=true then qN row (r (k1 (row++[u5]) i j u6 A8 k3))else qN row (r (k1 (row++[u5]) i j false A8 k3)))))))else qG d.Limits A8 (λu1=>qH d.Cells A8 (λu2=>qG u2 j (λu3=>Bs (Vb u1 u3 limit) (λu4 u5=>qL (LU d Value pivot limit Ai x x1 false (x2++[row]) (x3++[u4]) i j) λk2=>if fine=true then qN x2 (qN x3 (r (k2 u5 (w (A8+1)))))else qN x2 (qN x3 (r (k2 false (w (A8+1))))))))))))/\
 (((iM yT λd Value pivot limit Ai x x1 fr x2 x3 j fine k r=>qL (Zvl d Value pivot limit Ai x x1 fr x2 x3 j) λk1=>if k<(d.Free.length:Int)then if fine=true then qG d.Costs k (λu1=>qL (Z5x d Value pivot limit Ai x x1 fr x2 x3) λk2=>if k=j then Cm (WB 0) (λu2=>qG d.Costs j (λu3=>qH pivot k (λu4=>Bs (Vb u2 u3 u4) (λu5 u6=>r (k2 ([u5]) j u6 (w (k+1)))))))else qG d.Costs j (λu2=>qH pivot k (λu3=>Bs (Vb u1 u2 u3) (λu4 u5=>r (k2 ([u4]) j u5 (w (k+1)))))))else r (k1 false k false)else r (k1 fine k false))/\
 (iM fC λd Value limit Ai x x1 fr x2 x3 x4 j fine pivot k x5 r=>qL (G1 ([]:WL) ([]:List Zb) r) λk1=>if fine=true then qG d.Costs j (λu1=>Bs (FT u1 limit) (λu2 u3=>Bs (Ho d.Value u2) (λu4 u5=>if u3=true then if u5=true then r (some (.tup [.agg [.own 0,.own 1,.own 2,.own 3,.own 4,I u4.Num,I u4.Den],Bo true],[.arr 3 1 true (x.map ic),.arr 3 1 true (x1.map ic),.arr 264 1 fr (x2.map (lc 2 Zb.c)),.arr 54 2 true (x3.map Zb.c),.arr 54 2 true (x4.map Zb.c)]))else k1 else k1)))else k1))/\
 ((iM Zvl λd Value pivot limit Ai x x1 fr x2 x3 j fine k x4 r=>qL (G1 ([]:WL) ([]:List Zb) r) λk1=>if fine=true then qG d.Costs j (λu1=>Bs (FT u1 limit) (λu2 u3=>Bs (Ho d.Value u2) (λu4 u5=>if u3=true then if u5=true then r (some (.tup [.agg [.own 0,.own 1,.own 2,.own 3,.own 4,I u4.Num,I u4.Den],Bo true],[.arr 3 1 true (x.map ic),.arr 3 1 true (x1.map ic),.arr 264 1 fr (x2.map (lc 2 Zb.c)),.arr 54 2 true (x3.map Zb.c),.arr 54 2 true (([]:List Zb).map Zb.c)]))else k1 else k1)))else k1)/\
 (iM RA λa a1 a2 r=>qL (G1 ([]:WL) ([]:List Zb) r) λk1=>qB (LR a) (qB (Z0 a1 0 (w ((a.Basic.length:Int)-1))) (qB (Z0 a2 0 (w ((a.Free.length:Int)-1))) (qG a.Cells a1 (λu4=>qG u4 a2 (λu5=>if u5.Num=0 then k1 else r (eW a (⟨0,0⟩:Zb) u5 ([]:List Zb) a1 a2 true 0)))) k1) k1) k1)))):=by
 refine qu ?_
 and_intros
 all_goals(intros;unfold Im;(try simp only[eW,yQ,Hp,eX,yS,eY,eZ,LU,fA,fB,yT,RA,Hn,WB,Zb.c_def,Vb,FT,Ho,LR,Z0,Zv.c_def,Z5w,Zvj,Zvk,fC,Z5x,Zvl,Ar,yP,Zvi,yR,LT,Bf,A7]);(try simp only[Bc]);(try simp only[Bd,gS,kk]))
 all_goals(repeat' first|refine Br λ_=>?_|refine Bq λ_ _=>?_|refine Bp λ_=>?_|refine AL ?_ ?_|exact False.elim)
 all_goals(intro h;first|rw[Zk Zvb.eq_1]|rw[Zk yO.eq_1]|rw[Zk Zvc.eq_1]|rw[Zk Zvf.eq_1]|rw[B8 LS.eq_1]|refine run ZFt rfl ?_)
 all_goals (refine Yg ?_ h;clear h;simp +decide[*,kk,tI,Az,Z5s,Zvh,Zve,Zvg,Z5t,Zvd,Z5u,Z5v])
abbrev W0:=uq ZHV
