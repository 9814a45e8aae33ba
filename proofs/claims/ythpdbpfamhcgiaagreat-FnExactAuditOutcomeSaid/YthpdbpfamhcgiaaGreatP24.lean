/-
  Parts of the proofs for this seat: G28 G29 G30.
-/
import Derived.Test.YthpdbpfamhcgiaaGreatP13
import Derived.Test.YthpdbpfamhcgiaaGreatP14
set_option linter.all false
set_option maxRecDepth 100000
set_option maxHeartbeats 4000000
namespace Go.Proofs.YthpdbpfamhcgiaaGreat
open Go.AM
def ZLH:((((iM Zgs λl fr atoms vars row i r=>if i<(l.length:Int)then qG l i (λu1=>qH atoms i (λu2=>qB (ZkC u1 u2 vars row) (r (Zgs l fr atoms vars row (w (i+1)))) (r (some (.own 4,[.arr 209 3 true (l.map Zt.c),.arr 212 2 fr (atoms.map Ze.c),.arr 3 1 true (vars.map ic),.arr 3 1 true (row.map ic),.arr 40 1 true (([]:V4).map isc)])))))else if(row.length:Int)=(vars.length:Int)then qM row (r (some (.own 4,[.arr 209 3 true (l.map Zt.c),.arr 212 2 fr (atoms.map Ze.c),.arr 3 1 true (vars.map ic),.arr 3 1 true (row.map ic),.arr 40 1 true (([row]).map isc)])))else r (Zgt l fr atoms vars row true ([]:V4) 0))/\
 (iM Zgt λl fr atoms vars row fr1 out v r=>if v<=9 then qM row (qN row (qL (ZkF l fr atoms vars (row++[v])) λk1=>(∃(u1:List Zt),∃u2,∃(u3:List Ze),∃(u4:V6),∃(u5:V6),∃(u6:V4),k1=some (.own 4,[.arr 209 3 true (u1.map Zt.c),.arr 212 2 u2 (u3.map Ze.c),.arr 3 1 true (u4.map ic),.arr 3 1 true (u5.map ic),.arr 40 1 true (u6.map isc)])/\out.length+u6.length<=68719476736/\r (Zgt u1 u2 u3 u4 row (fr1 && flat (u6.map isc)) (out++u6) (w (v+1))))\/(∃(u1:List Zt),∃u2,∃(u3:List Ze),∃(u4:V6),∃(u5:V6),∃u6,∃(u7:V4),k1=some (.own 4,[.arr 209 3 true (u1.map Zt.c),.arr 212 2 u2 (u3.map Ze.c),.arr 3 1 true (u4.map ic),.arr 3 1 true (u5.map ic),.arr 40 1 u6 (u7.map isc)])/\out.length+u7.length<=68719476736/\r (Zgt u1 u2 u3 u4 row (fr1 && flat (u7.map isc)) (out++u7) (w (v+1))))))else r (some (.own 4,[.arr 209 3 true (l.map Zt.c),.arr 212 2 fr (atoms.map Ze.c),.arr 3 1 true (vars.map ic),.arr 3 1 true (row.map ic),.arr 40 1 fr1 (out.map isc)]))))/\
 ((iM ZkF λx fr x1 x2 x3 r=>r (Zgs x fr x1 x2 x3 0))/\
 (iM ZdF λd q l fr atoms mask i r=>if i<(q.Zb.length:Int)then ¬i<0/\if(andI (shrI mask i) 1)=1 then qG q.Zb i (λu1=>(∃u2 u3 u4,WX d u1.Zq=some (.tup [.agg [.t (.str u2),I u3,.t .nil],Bo u4],[])/\qN l (qN atoms (r (ZdF d q (l++[(⟨u2,u3,[]⟩:Zt)]) false (atoms++[u1]) mask (w (i+1))))))\/(∃(u2:V4),∃u3,∃u4,WX d u1.Zq=some (.tup [.agg [.t (.str u3),I u4,.own 0],Bo true],[.arr 40 1 true (u2.map isc)])/\qN l (qN atoms (r (ZdF d q (l++[(⟨u3,u4,u2⟩:Zt)]) false (atoms++[u1]) mask (w (i+1)))))))else r (ZdF d q l fr atoms mask (w (i+1)))else qs2 (Kl q mask) (λu1=>qL (ZkF l fr atoms u1 ([]:V6)) λk1=>(∃(u2:List Zt),∃u3,∃(u4:List Ze),∃(u5:V6),∃(u6:V6),∃(u7:V4),k1=some (.own 4,[.arr 209 3 true (u2.map Zt.c),.arr 212 2 u3 (u4.map Ze.c),.arr 3 1 true (u5.map ic),.arr 3 1 true (u6.map ic),.arr 40 1 true (u7.map isc)])/\VV u5 u7 r)\/(∃(u2:List Zt),∃u3,∃(u4:List Ze),∃(u5:V6),∃(u6:V6),∃u7,∃(u8:V4),k1=some (.own 4,[.arr 209 3 true (u2.map Zt.c),.arr 212 2 u3 (u4.map Ze.c),.arr 3 1 true (u5.map ic),.arr 3 1 true (u6.map ic),.arr 40 1 u7 (u8.map isc)])/\r (some (.tup [.agg [.own 0,.own 1],Bo true],[.arr 3 1 true (u5.map ic),.arr 40 1 u7 (u8.map isc)])))))))/\
 (((iM JF λa a1 a2 r=>qB (QN a a1) (qI (Ub a1) (λu2=>qB (Xb a2 1 u2) (r (ZdF a a1 ([]:List Zt) true ([]:List Ze) a2 0)) (qs4 r))) (qs4 r))/\
 (iM ZkG λa a1 r=>qI (Ub a1) (λu1=>(JF a a1 u1=some (.tup [.agg [.t .nil,.t .nil],Bo false],[])/\Zm7 ([]:V6) ([]:V4) r)\/(VW (JF a a1 u1) (λu2 u3=>Zid u2 u3 r))\/(∃(u2:V6),∃u3,∃(u4:V4),JF a a1 u1=some (.tup [.agg [.own 0,.own 1],Bo true],[.arr 3 1 true (u2.map ic),.arr 40 1 u3 (u4.map isc)])/\Zid u2 u4 r))))/\
 ((iM ZkI λa b i r=>if i<(a.Rows.length:Int)then qG a.Rows i (λu1=>qH b.Rows i (λu2=>qI (U6 u1 u2) (λu3=>if u3=0 then r (ZkI a b (w (i+1)))else qb false r)))else qb true r)/\
 (iM ZkH λa a1 r=>qI (U6 a.Za a1.Za) (λu1=>if u1=0 then if(a.Rows.length:Int)=(a1.Rows.length:Int)then r (ZkI a a1 0)else qb false r else qb false r)))))/\
 ((((iM ZkJ λl n i r=>if i<(l.length:Int)then qG l i (λu1=>qB (Xb u1.Zv 0 1000000000000) (if 10000<=i then qi (-1) r else r (ZkJ l (w (n+u1.Zv)) (w (i+1)))) (qi (-1) r))else qi n r)/\
 (iM Zgu λa r=>r (ZkJ a 0 0)))/\
 ((iM ZoA λa a1 r=>qB (Xb a 0 1000000000000) (qB (Xb a1 0 100) (qi (w (Int.tdiv (w (a*(w (100+a1)))) 100)) r) (qi (-1) r)) (qi (-1) r))/\
 (iM ZkK λl v i r=>if i<(l.length:Int)then qG l i (λu1=>if u1=v then qi i r else r (ZkK l v (w (i+1))))else qi (-1) r)))/\
 (((iM U7 λa a1 r=>r (ZkK a a1 0))/\
 (iM ZkL λb l last x i r=>qL (l.length:Int) λk3=>if i<k3 then qG l i (λu1=>qL (qb false r) λk2=>qB (Xb u1.Xw last (w ((b.ZQ.length:Int)-1))) (qG b.ZQ u1.Xw (λu3=>qI (ZoA u3 b.XL) (λu4=>if u1.Vs=u4 then if u1.Vi=(decide (i=(w (k3-1))))then qH b.ZO u1.Xw (λu5=>qI (U7 u5 u1.Zg) (λu6=>if u6<0 then k2 else qL (r (ZkL b l u1.Xw u6 (w (i+1)))) λk1=>if u1.Xw=last then if u6<=x then k2 else k1 else k1))else k2 else k2))) k2)else qb (decide (0<k3)) r))/\
 ((iM Zgv λa a1 a2 r=>qB (ZdB a a1) (r (ZkL a1 a2 0 (-1) 0)) (qb false r))/\
 ((iM ZkM λa v k r=>if k<(a.Za.length:Int)then qG a.Za k (λu1=>if u1=v then qi k r else r (ZkM a v (w (k+1))))else qi (-1) r)/\
 (iM Zgw λa a1 r=>r (ZkM a a1 0)))))):=by
 refine qu ?_
 and_intros
 all_goals(intros;unfold Im;(try simp only[Zgs,Zgt,ZkF,ZdF,JF,ZkG,ZkI,ZkH,ZkJ,Zgu,ZoA,ZkK,U7,ZkL,Zgv,ZkM,Zgw,ZkC,Ze.c_def,Zt.c_def,WX,Kl,Zp.c_def,Zf.c_def,QN,Ub,Xb,U6,ZdB,ZM.c_def,Box.c_def,lpz,mpl,dfs]);(try simp only[itb]);(try simp only[itf,gS,kk]))
 all_goals(repeat' first|refine exI λ_=>?_|refine anJ λ_ _=>?_|refine anI λ_=>?_|refine orE2 ?_ ?_|exact False.elim)
 all_goals(intro h;first|rw[Zr ZxU.eq_1]|rw[Zr ZxV.eq_1]|refine W8 ZJZ rfl ?_|rw[Zr ZxY.eq_1]|refine run ZKa rfl ?_|refine run ZKb rfl ?_|rw[Zr Zyb.eq_1]|refine run ZKc rfl ?_|rw[Zr Zye.eq_1]|refine run ZKd rfl ?_|refine run ZKe rfl ?_|rw[Zr Zyh.eq_1]|refine run ZKf rfl ?_|rw[Zr Zyk.eq_1]|refine run ZKg rfl ?_|rw[Zr Zyn.eq_1]|refine run ZKh rfl ?_)
 all_goals (refine Yd ?_ h;clear h;simp +decide[*,kk,tI,tII,ZxX,ZxW,Z7y,Z7z,ZxZ,Z70,Z71,Zyc,Z72,Zyf,Z73,Z74,Zyi,Z75,Zyl,Z76,Zyo,Z77])
abbrev Wd:=uq ZLH
def ZLI:((((iM Zyu λq Zq Zu x i k r=>if k<0 then r (Z79 q Zq Zu x ([]:V6) i k 0)else Qn x r)/\
 (iM Zyv λq Zq Zu x x1 i k r=>if k<(x.length:Int)then r (ZkO q Zq Zu x x1 ([]:V6) i k 0)else Qn x1 r))/\
 ((iM ZkO λq Zq Zu x x1 row i k j r=>if j<(x1.length:Int)then qG x k (λu1=>qG q.Zb i (λu2=>qG x1 j (λu3=>qI (Zgw u2 u3) (λu4=>qG u1 u4 (λu5=>qN row (r (ZkO q Zq Zu x x1 (row++[u5]) i k (w (j+1)))))))))else r (ZdG q Zq Zu x x1 ([row]) i (w (k+1))))/\
 (iM ZdG λq Zq Zu x x1 x2 i k r=>if k<(x.length:Int)then r (ZkP q Zq Zu x x1 x2 ([]:V6) i k 0)else VV x1 x2 r)))/\
 (((iM ZkP λq Zq Zu x x1 x2 row i k j r=>if j<(x1.length:Int)then qG x k (λu1=>qG q.Zb i (λu2=>qG x1 j (λu3=>qI (Zgw u2 u3) (λu4=>qG u1 u4 (λu5=>qN row (r (ZkP q Zq Zu x x1 x2 (row++[u5]) i k (w (j+1)))))))))else qN x2 (r (ZdG q Zq Zu x x1 (x2++[row]) i (w (k+1)))))/\
 (iM ZkN λa a1 a2 r=>qB (QN a a1) (qB (Xb a2 0 (w ((a1.Zb.length:Int)-1))) (qG a1.Zb a2 (λu3=>(∃u4 u5 u6,WX a u3.Zq=some (.tup [.agg [.t (.str u4),I u5,.t .nil],Bo u6],[])/\¬a2<0/\qs2 (Kl a1 (shlI 1 a2)) (λu7=>r (Zyu a1 u4 u5 u7 a2 0)))\/(∃(u4:V4),∃u5,∃u6,WX a u3.Zq=some (.tup [.agg [.t (.str u5),I u6,.own 0],Bo true],[.arr 40 1 true (u4.map isc)])/\¬a2<0/\qs2 (Kl a1 (shlI 1 a2)) (λu7=>r (Zyv a1 u5 u6 u4 u7 a2 0))))) (qs4 r)) (qs4 r)))/\
 ((iM Zgy λs i r=>if i<(s.Za.length:Int)then qG s.Za i (λu1=>qB (Xb u1 0 3) (if 0<i then 0<=(w (i-1))/\∃u3,s.Za[(w (i-1)).toNat]?=some u3/\if u1<=u3 then qb false r else r (Zgy s (w (i+1)))else r (Zgy s (w (i+1)))) (qb false r))else r (ZkR s 0))/\
 ((iM ZkR λs i r=>if i<(s.Rows.length:Int)then qG s.Rows i (λu1=>qB (ZfN u1 (s.Za.length:Int)) (r (ZkR s (w (i+1)))) (qb false r))else qb (decide ((s.Rows.length:Int)<=4096)) r)/\
 (iM Km λa r=>r (Zgy a 0))))))/\
 ((((iM ZkT λs x x1 val r=>if val<=9 then r (ZkU s x x1 val 0)else Qn x r)/\
 (iM ZkU λs x x1 val i r=>if i<(s.Rows.length:Int)then qG s.Rows i (λu1=>qG u1 x1 (λu2=>if u2=val then qM u1 (r (ZbG s x ([u1]) x1 val (w (i+1))))else r (ZkU s x x1 val (w (i+1)))))else r (ZkT s x x1 (w (val+1)))))/\
 ((iM ZbG λs x x1 x2 val i r=>if i<(s.Rows.length:Int)then qG s.Rows i (λu1=>qG u1 x2 (λu2=>if u2=val then qM u1 (qN x1 (r (ZbG s x (x1++[u1]) x2 val (w (i+1)))))else r (ZbG s x x1 x2 val (w (i+1)))))else r (ZoF s x x1 x2 (w (val+1))))/\
 (iM ZoF λs x x1 x2 val r=>if val<=9 then r (ZbG s x x1 x2 val 0)else VV x x1 r)))/\
 (((iM ZkS λa a1 r=>qI (U7 a.Za a1) (λu1=>qB (Km a) (if u1<0 then qs4 r else qM a.Za (r (ZkT a a.Za u1 0))) (qs4 r)))/\
 (iM Zg0 λout a b v r=>if v<4 then qL (qN out (r (Zg0 (out++[v]) a b (w (v+1))))) λk1=>qB (QM a v) k1 (qB (QM b v) k1 (r (Zg0 out a b (w (v+1)))))else qs3 out r))/\
 ((iM ZbH λa a1 r=>r (Zg0 ([]:V6) a a1 0))/\
 ((iM ZkV λa x b y i r=>if i<(a.length:Int)then qG a i (λu1=>qI (U7 b u1) (λu2=>qL (r (ZkV a x b y (w (i+1)))) λk1=>if 0<=u2 then qH x i (λu3=>qH y u2 (λu4=>if u3=u4 then k1 else qb false r))else k1))else qb true r)/\
 (iM VG λa a1 a2 a3 r=>r (ZkV a a1 a2 a3 0)))))):=by
 refine qu ?_
 and_intros
 all_goals(intros;unfold Im;(try simp only[Zyu,Zyv,ZkO,ZdG,ZkP,ZkN,Zgy,ZkR,Km,ZkT,ZkU,ZbG,ZoF,ZkS,Zg0,ZbH,ZkV,VG,Zgw,Ze.c_def,QN,Xb,WX,Kl,Zp.c_def,Zf.c_def,ZfN,U7,Zm.c_def,QM,Z79,ZoC,lpz,Zyt,ZoD,Zy4,Zy3,Zy5,mpl,dfs]);(try simp only[itb]);(try simp only[itf,gS,kk]))
 all_goals(repeat' first|refine exI λ_=>?_|refine anJ λ_ _=>?_|refine anI λ_=>?_|refine orE2 ?_ ?_|exact False.elim)
 all_goals(intro h;first|rw[Zr ZoB.eq_1]|rw[Zr Zyp.eq_1]|refine run ZKi rfl ?_|rw[Zr Zyw.eq_1]|rw[Zr Zyx.eq_1]|refine run ZKj rfl ?_|rw[Zr ZoE.eq_1]|rw[Zr Zy0.eq_1]|refine run ZKk rfl ?_|rw[Zr Zy6.eq_1]|refine run ZKl rfl ?_|rw[Zr Zy9.eq_1]|refine run ZKm rfl ?_)
 all_goals (refine Yd ?_ h;clear h;simp +decide[*,kk,tI,tII,Zys,Zyr,Zyq,Z78,Zyz,Zyy,Z7A,Zy2,Z7B,Zy1,Z7C,Z7D,Zy7,Z7E,ZyA,Z7F])
abbrev Wm:=uq ZLI
def ZLJ:(iM Zg1 λrow vars a x b y i r=>if i<(vars.length:Int)then qG vars i (λu1=>qI (U7 a u1) (λu2=>if 0<=u2 then qH x u2 (λu3=>qN row (r (Zg1 (row++[u3]) vars a x b y (w (i+1)))))else qI (U7 b u1) (λu3=>qG y u3 (λu4=>qN row (r (Zg1 (row++[u4]) vars a x b y (w (i+1))))))))else qs3 row r)/\
 (iM UW λa a1 a2 a3 a4 r=>r (Zg1 ([]:V6) a a1 a2 a3 a4 0)):=by
 refine qu ?_
 and_intros
 all_goals(intros;unfold Im;(try simp only[Zg1,UW,U7,lpz,mpl,dfs]);(try simp only[itb]);(try simp only[itf,gS,kk]))
 all_goals(repeat' first|refine exI λ_=>?_|refine anJ λ_ _=>?_|refine anI λ_=>?_|refine orE2 ?_ ?_|exact False.elim)
 all_goals(intro h;first|rw[Zr ZyB.eq_1]|refine run ZKn rfl ?_)
 all_goals (refine Yd ?_ h;clear h;simp +decide[*,kk,tI,tII,Z7G,ZyC,Z7H])
abbrev ZzQ:=uq ZLJ
def ZLK:(((iM Zg2 λa b x flip only x1 outer inner i r=>if i<outer then r (ZdK a b x flip only x1 outer inner i 0)else r (some (.agg [.own 0,.t .nil],[.arr 3 1 true (x.map ic)])))/\
 (iM ZdK λa b x flip only x1 outer inner i k r=>if k<inner then qL (w ((a.Rows.length:Int)-1)) λk3=>0<=(if k3<i then k3 else i)/\∃u1,a.Rows[(if k3<i then k3 else i).toNat]?=some u1/\qL (w ((b.Rows.length:Int)-1)) λk4=>0<=(if k4<k then k4 else k)/\∃u2,b.Rows[(if k4<k then k4 else k).toNat]?=some u2/\qL (w (k+1)) λk5=>qL (UW x a.Za) λk6=>if flip=true then qG a.Rows k (λu3=>qG b.Rows i (λu4=>qL (r (ZdK a b x true only x1 outer inner i k5)) λk2=>qL (VG a.Za u3 b.Za u4) λk7=>if only<0 then qB k7 (qs2 (k6 u3 b.Za u4) (λu6=>r (Kn a b x ([u6]) true only x1 outer inner i k5))) k2 else qG u3 x1 (λu5=>if u5=only then qB k7 (qs2 (k6 u3 b.Za u4) (λu7=>r (Kn a b x ([u7]) true only x1 outer inner i k5))) k2 else k2)))else qL (r (ZdK a b x false only x1 outer inner i k5)) λk1=>qL (VG a.Za u1 b.Za u2) λk8=>if only<0 then qB k8 (qs2 (k6 u1 b.Za u2) (λu4=>r (Kn a b x ([u4]) false only x1 outer inner i k5))) k1 else qG u1 x1 (λu3=>if u3=only then qB k8 (qs2 (k6 u1 b.Za u2) (λu5=>r (Kn a b x ([u5]) false only x1 outer inner i k5))) k1 else k1)else r (Zg2 a b x flip only x1 outer inner (w (i+1)))))/\
 ((iM Kn λa b x x1 flip only x2 outer inner i k r=>qL (r (ZkW a b x x1 flip only x2 outer inner (w (i+1)))) λk5=>if k<inner then if(x1.length:Int)<=4096 then qL (w ((a.Rows.length:Int)-1)) λk3=>0<=(if k3<i then k3 else i)/\∃u1,a.Rows[(if k3<i then k3 else i).toNat]?=some u1/\qL (w ((b.Rows.length:Int)-1)) λk4=>0<=(if k4<k then k4 else k)/\∃u2,b.Rows[(if k4<k then k4 else k).toNat]?=some u2/\qL (w (k+1)) λk6=>qL (Kn a b x) λk7=>qL (UW x a.Za) λk8=>if flip=true then qG a.Rows k (λu3=>qG b.Rows i (λu4=>qL (r (k7 x1 true only x2 outer inner i k6)) λk2=>qL (VG a.Za u3 b.Za u4) λk9=>if only<0 then qB k9 (qs2 (k8 u3 b.Za u4) (λu6=>qN x1 (r (k7 (x1++[u6]) true only x2 outer inner i k6)))) k2 else qG u3 x2 (λu5=>if u5=only then qB k9 (qs2 (k8 u3 b.Za u4) (λu7=>qN x1 (r (k7 (x1++[u7]) true only x2 outer inner i k6)))) k2 else k2)))else qL (r (k7 x1 false only x2 outer inner i k6)) λk1=>qL (VG a.Za u1 b.Za u2) λk10=>if only<0 then qB k10 (qs2 (k8 u1 b.Za u2) (λu4=>qN x1 (r (k7 (x1++[u4]) false only x2 outer inner i k6)))) k1 else qG u1 x2 (λu3=>if u3=only then qB k10 (qs2 (k8 u1 b.Za u2) (λu5=>qN x1 (r (k7 (x1++[u5]) false only x2 outer inner i k6)))) k1 else k1)else k5 else k5)/\
 ((iM ZkW λa b x x1 flip only x2 outer inner i r=>if i<outer then r (Kn a b x x1 flip only x2 outer inner i 0)else ZeJ x x1 r)/\
 (iM JG λx a a1 a2 a3 a4 r=>qI (U7 a.Za a3) (λu1=>if a2=true then r (Zg2 a a1 x true a4 u1 (a1.Rows.length:Int) (a.Rows.length:Int) 0)else r (Zg2 a a1 x false a4 u1 (a.Rows.length:Int) (a1.Rows.length:Int) 0))))))/\
 (((iM Zg3 λx r=>Qn x r)/\
 ((iM JH λx x1 r=>if 4096<(x1.length:Int)then r (some (.tup [.agg [.t .nil,.t .nil],Bo false],[.arr 3 1 true (x.map ic),.arr 40 1 true (x1.map isc)]))else VV x x1 r)/\
 (iM ZdL λa a1 r=>qB (Km a) (qB (Km a1) (qs2 (ZbH a.Za a1.Za) (λu3=>qL (JG u3 a a1 true 0 (-1)) λk1=>(Zie k1 (λu4=>US (Zg3 u4) (λu5=>Qn u5 r)))\/(Zbj k1 (λu4 u5=>(Zif (JH u4 u5) (λu6 u7=>qs4 r))\/(VW (JH u4 u5) (λu6 u7=>VV u6 u7 r)))))) (qs4 r)) (qs4 r))))/\
 ((iM ZdM λa a1 r=>qB (Km a) (qB (Km a1) (qs2 (ZbH a.Za a1.Za) (λu3=>qL (JG u3 a a1 false 0 (-1)) λk1=>(Zie k1 (λu4=>US (Zg3 u4) (λu5=>Qn u5 r)))\/(Zbj k1 (λu4 u5=>(Zif (JH u4 u5) (λu6 u7=>qs4 r))\/(VW (JH u4 u5) (λu6 u7=>VV u6 u7 r)))))) (qs4 r)) (qs4 r))/\
 ((iM ZkX λs x i r=>if i<(s.Rows.length:Int)then 0<=(w (i-1))/\∃u1,s.Rows[(w (i-1)).toNat]?=some u1/\qG u1 x (λu2=>qG s.Rows i (λu3=>qH u3 x (λu4=>if u4<u2 then qb false r else r (ZkX s x (w (i+1))))))else qb true r)/\
 (iM Zg4 λa a1 r=>qI (U7 a.Za a1) (λu1=>qB (Km a) (if u1<0 then qb false r else r (ZkX a u1 1)) (qb false r)))))):=by
 refine qu ?_
 and_intros
 all_goals(intros;unfold Im;(try simp only[Zg2,ZdK,Kn,ZkW,JG,Zg3,JH,ZdL,ZdM,ZkX,Zg4,VG,UW,U7,Km,ZbH,Zm.c_def,lpz,mpl,dfs]);(try simp only[itb]);(try simp only[itf,gS,kk]))
 all_goals(repeat' first|refine exI λ_=>?_|refine anJ λ_ _=>?_|refine anI λ_=>?_|refine orE2 ?_ ?_|exact False.elim)
 all_goals(intro h;first|rw[Zr KX.eq_1]|rw[Zr ZdI.eq_1]|refine W8 Z8L rfl ?_|refine W8 ZKo rfl ?_|refine run ZKp rfl ?_|refine run ZKq rfl ?_|rw[Zr ZyH.eq_1]|refine run ZKr rfl ?_)
 all_goals (refine Yd ?_ h;clear h;simp +decide[*,kk,tI,tII,KY,ZyD,ZdJ,ZyF,ZyE,Z7I,Z7J,Z7K,ZyI,Z7L])
abbrev Vw:=uq ZLK
