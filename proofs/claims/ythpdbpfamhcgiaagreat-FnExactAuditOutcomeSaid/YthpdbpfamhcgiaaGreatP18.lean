/-
  Parts of the proofs for this seat: G10 G11 G12.
-/
import Derived.Test.YthpdbpfamhcgiaaGreatP13
import Derived.Test.YthpdbpfamhcgiaaGreatP14
set_option linter.all false
set_option maxRecDepth 100000
set_option maxHeartbeats 4000000
namespace Go.Proofs.YthpdbpfamhcgiaaGreat
open Go.AM
def ZLr:((((iM Zdh λa b x x1 row x2 y x3 x4 r=>if x4<x3 then qG x x4 (λu1=>qI (VZ a.Za u1) (λu2=>qI (VZ b.Za u1) (λu3=>if u2<0 then qG y u3 (λu4=>qN row (r (Zdh a b x x1 (row++[u4]) x2 y x3 (w (x4+1)))))else if 0<=u3 then qG x2 u2 (λu4=>qH y u3 (λu5=>if u4=u5 then qN row (r (Zdh a b x x1 (row++[u4]) x2 y x3 (w (x4+1))))else Zm8 a.Za a.Rows b.Za b.Rows x x1 r))else qG x2 u2 (λu4=>qN row (r (Zdh a b x x1 (row++[u4]) x2 y x3 (w (x4+1))))))))else qN x1 (r (some (.tup [],[.box [L 1 (a.Za.map ic),L 1 (a.Rows.map isc),L 1 (b.Za.map ic),L 1 (b.Rows.map isc),.own 1,.own 3],.arr 3 1 true (x.map ic),.dead,.arr 40 1 true ((x1++[row]).map isc)]))))/\
 (iM Zdg λa b x x1 a1 a2 r=>r (Zdh a b x x1 ([]:V6) a1 a2 (x.length:Int) 0)))/\
 ((iM JA λa b x x1 r=>if 4096<(x1.length:Int)then r (some (.tup [.agg [.t .nil,.t .nil],Bo false],[.box [L 1 (a.Za.map ic),L 1 (a.Rows.map isc),L 1 (b.Za.map ic),L 1 (b.Rows.map isc),.own 1,.own 2],.arr 3 1 true (x.map ic),.arr 40 1 true (x1.map isc)]))else r (some (.tup [.agg [.own 1,.own 2],Bo true],[.box [L 1 (a.Za.map ic),L 1 (a.Rows.map isc),L 1 (b.Za.map ic),L 1 (b.Rows.map isc),.own 1,.own 2],.arr 3 1 true (x.map ic),.arr 40 1 true (x1.map isc)])))/\
 (iM Zjm λa a1 b x x1 x2 x3 r=>if x3<x2 then qG x1 x3 (λu1=>r (Zjn a a1 b x u1 x1 x2 x3 a.Rows (a.Rows.length:Int) 0))else Zjl a1 b x=some (.tup [.agg [.own 1,.t .nil],Bo true],[.box [L 1 (a1.Za.map ic),L 1 (a1.Rows.map isc),L 1 (b.Za.map ic),L 1 (b.Rows.map isc),.own 1,.t .nil],.arr 3 1 true (x.map ic)])/\Qn x r)))/\
 (((iM Zjn λa a1 b x y x1 x2 x3 x4 x5 x6 r=>if x6<x5 then qG x4 x6 (λu1=>(∃(u2:Zm) (u3:Zm) (u4:V6),Zb4 a1 b x u1 y=some (.tup [],[.box [L 1 (u2.Za.map ic),L 1 (u2.Rows.map isc),L 1 (u3.Za.map ic),L 1 (u3.Rows.map isc),.own 1,.t .nil],.arr 3 1 true (u4.map ic)])/\r (Zjn a u2 u3 u4 y x1 x2 x3 x4 x5 (w (x6+1))))\/(∃(u2:Zm) (u3:Zm) (u4:V6) (u5:V4),Zb4 a1 b x u1 y=some (.tup [],[.box [L 1 (u2.Za.map ic),L 1 (u2.Rows.map isc),L 1 (u3.Za.map ic),L 1 (u3.Rows.map isc),.own 1,.own 2],.arr 3 1 true (u4.map ic),.arr 40 1 true (u5.map isc)])/\r (Zdj a u2 u3 u4 u5 y x1 x2 x3 x4 x5 (w (x6+1)))))else r (Zjm a a1 b x x1 x2 (w (x3+1))))/\
 (iM Zdj λa a1 b x x1 y x2 x3 x4 x5 x6 x7 r=>if x7<x6 then qG x5 x7 (λu1=>(∃(u2:Zm) (u3:Zm) (u4:V6) (u5:V4),Zdg a1 b x x1 u1 y=some (.tup [],[.box [L 1 (u2.Za.map ic),L 1 (u2.Rows.map isc),L 1 (u3.Za.map ic),L 1 (u3.Rows.map isc),.own 1,.own 2],.arr 3 1 true (u4.map ic),.arr 40 1 true (u5.map isc)])/\r (Zdj a u2 u3 u4 u5 y x2 x3 x4 x5 x6 (w (x7+1))))\/(∃(u2:Zm) (u3:Zm) (u4:V6) (u5:V4),Zdg a1 b x x1 u1 y=some (.tup [],[.box [L 1 (u2.Za.map ic),L 1 (u2.Rows.map isc),L 1 (u3.Za.map ic),L 1 (u3.Rows.map isc),.own 1,.own 3],.arr 3 1 true (u4.map ic),.dead,.arr 40 1 true (u5.map isc)])/\r (Zdj a u2 u3 u4 u5 y x2 x3 x4 x5 x6 (w (x7+1)))))else if 4096<(x1.length:Int)then((JA a1 b x x1=some (.tup [.agg [.t .nil,.t .nil],Bo false],[.box [L 1 (a1.Za.map ic),L 1 (a1.Rows.map isc),L 1 (b.Za.map ic),L 1 (b.Rows.map isc),.own 1,.own 2],.arr 3 1 true (x.map ic),.arr 40 1 true (x1.map isc)])/\qs4 r)\/(JA a1 b x x1=some (.tup [.agg [.own 1,.own 2],Bo true],[.box [L 1 (a1.Za.map ic),L 1 (a1.Rows.map isc),L 1 (b.Za.map ic),L 1 (b.Rows.map isc),.own 1,.own 2],.arr 3 1 true (x.map ic),.arr 40 1 true (x1.map isc)])/\VV x x1 r))else r (Zjo a a1 b x x1 x2 x3 (w (x4+1)))))/\
 ((iM Zjo λa a1 b x x1 x2 x3 x4 r=>if x4<x3 then qG x2 x4 (λu1=>r (Zdj a a1 b x x1 u1 x2 x3 x4 a.Rows (a.Rows.length:Int) 0))else(JA a1 b x x1=some (.tup [.agg [.t .nil,.t .nil],Bo false],[.box [L 1 (a1.Za.map ic),L 1 (a1.Rows.map isc),L 1 (b.Za.map ic),L 1 (b.Rows.map isc),.own 1,.own 2],.arr 3 1 true (x.map ic),.arr 40 1 true (x1.map isc)])/\qs4 r)\/(JA a1 b x x1=some (.tup [.agg [.own 1,.own 2],Bo true],[.box [L 1 (a1.Za.map ic),L 1 (a1.Rows.map isc),L 1 (b.Za.map ic),L 1 (b.Rows.map isc),.own 1,.own 2],.arr 3 1 true (x.map ic),.arr 40 1 true (x1.map isc)])/\VV x x1 r))/\
 ((iM Zdi λa a1 r=>qB (QI a) (qB (QI a1) (∃(u3:Zm) (u4:Zm) (u5:V6),Zfx a a1=some (.ptr 0 0,[.box [L 1 (u3.Za.map ic),L 1 (u3.Rows.map isc),L 1 (u4.Za.map ic),L 1 (u4.Rows.map isc),.own 1,.t .nil],.arr 3 1 true (u5.map ic)])/\r (Zjm a u3 u4 u5 a1.Rows (a1.Rows.length:Int) 0)) (qs4 r)) (qs4 r))/\
 (iM Zu9 λa a1 a2 r=>qG a a2 (λu1=>qH a1 a2 (λu2=>qi (w (u1-u2)) r)))))))/\
 ((((iM Zjp λx cmp i r=>if 0<i then qG x i (λu1=>0<=(w (i-1))/\∃u2,x[(w (i-1)).toNat]?=some u2/\qI (Zu9 u1 u2 cmp) (λu3=>if u3<0 then qb false r else r (Zjp x cmp (w (i-1)))))else qb true r)/\
 (iM ZuD λa a1 r=>r (Zjp a a1 (w ((a.length:Int)-1)))))/\
 ((iM Zjq λa a1 r=>qI (VZ a.Za a1) (λu1=>if u1<0 then qb false r else qB (QI a) (qV (ZuD a.Rows u1) (λu3=>qb u3 r)) (qb false r)))/\
 (iM Zjr λb a b1 x x1 x2 x3 r=>if x3<x2 then qG x1 x3 (λu1=>r (Zjs b a b1 x u1 x1 x2 x3 b.Rows (b.Rows.length:Int) 0))else Zjl a b1 x=some (.tup [.agg [.own 1,.t .nil],Bo true],[.box [L 1 (a.Za.map ic),L 1 (a.Rows.map isc),L 1 (b1.Za.map ic),L 1 (b1.Rows.map isc),.own 1,.t .nil],.arr 3 1 true (x.map ic)])/\Qn x r)))/\
 (((iM Zjs λb a b1 x x1 x2 x3 x4 x5 x6 x7 r=>if x7<x6 then qG x5 x7 (λu1=>(∃(u2:Zm) (u3:Zm) (u4:V6),Zb4 a b1 x x1 u1=some (.tup [],[.box [L 1 (u2.Za.map ic),L 1 (u2.Rows.map isc),L 1 (u3.Za.map ic),L 1 (u3.Rows.map isc),.own 1,.t .nil],.arr 3 1 true (u4.map ic)])/\r (Zjs b u2 u3 u4 x1 x2 x3 x4 x5 x6 (w (x7+1))))\/(∃(u2:Zm) (u3:Zm) (u4:V6) (u5:V4),Zb4 a b1 x x1 u1=some (.tup [],[.box [L 1 (u2.Za.map ic),L 1 (u2.Rows.map isc),L 1 (u3.Za.map ic),L 1 (u3.Rows.map isc),.own 1,.own 2],.arr 3 1 true (u4.map ic),.arr 40 1 true (u5.map isc)])/\r (Zdk b u2 u3 u4 u5 x1 x2 x3 x4 x5 x6 (w (x7+1)))))else r (Zjr b a b1 x x2 x3 (w (x4+1))))/\
 (iM Zdk λb a b1 x x1 x2 x3 x4 x5 x6 x7 x8 r=>if x8<x7 then qG x6 x8 (λu1=>(∃(u2:Zm) (u3:Zm) (u4:V6) (u5:V4),Zdg a b1 x x1 x2 u1=some (.tup [],[.box [L 1 (u2.Za.map ic),L 1 (u2.Rows.map isc),L 1 (u3.Za.map ic),L 1 (u3.Rows.map isc),.own 1,.own 2],.arr 3 1 true (u4.map ic),.arr 40 1 true (u5.map isc)])/\r (Zdk b u2 u3 u4 u5 x2 x3 x4 x5 x6 x7 (w (x8+1))))\/(∃(u2:Zm) (u3:Zm) (u4:V6) (u5:V4),Zdg a b1 x x1 x2 u1=some (.tup [],[.box [L 1 (u2.Za.map ic),L 1 (u2.Rows.map isc),L 1 (u3.Za.map ic),L 1 (u3.Rows.map isc),.own 1,.own 3],.arr 3 1 true (u4.map ic),.dead,.arr 40 1 true (u5.map isc)])/\r (Zdk b u2 u3 u4 u5 x2 x3 x4 x5 x6 x7 (w (x8+1)))))else if 4096<(x1.length:Int)then((JA a b1 x x1=some (.tup [.agg [.t .nil,.t .nil],Bo false],[.box [L 1 (a.Za.map ic),L 1 (a.Rows.map isc),L 1 (b1.Za.map ic),L 1 (b1.Rows.map isc),.own 1,.own 2],.arr 3 1 true (x.map ic),.arr 40 1 true (x1.map isc)])/\qs4 r)\/(JA a b1 x x1=some (.tup [.agg [.own 1,.own 2],Bo true],[.box [L 1 (a.Za.map ic),L 1 (a.Rows.map isc),L 1 (b1.Za.map ic),L 1 (b1.Rows.map isc),.own 1,.own 2],.arr 3 1 true (x.map ic),.arr 40 1 true (x1.map isc)])/\VV x x1 r))else r (Zjt b a b1 x x1 x3 x4 (w (x5+1)))))/\
 ((iM Zjt λb a b1 x x1 x2 x3 x4 r=>if x4<x3 then qG x2 x4 (λu1=>r (Zdk b a b1 x x1 u1 x2 x3 x4 b.Rows (b.Rows.length:Int) 0))else(JA a b1 x x1=some (.tup [.agg [.t .nil,.t .nil],Bo false],[.box [L 1 (a.Za.map ic),L 1 (a.Rows.map isc),L 1 (b1.Za.map ic),L 1 (b1.Rows.map isc),.own 1,.own 2],.arr 3 1 true (x.map ic),.arr 40 1 true (x1.map isc)])/\qs4 r)\/(JA a b1 x x1=some (.tup [.agg [.own 1,.own 2],Bo true],[.box [L 1 (a.Za.map ic),L 1 (a.Rows.map isc),L 1 (b1.Za.map ic),L 1 (b1.Rows.map isc),.own 1,.own 2],.arr 3 1 true (x.map ic),.arr 40 1 true (x1.map isc)])/\VV x x1 r))/\
 ((iM JB λa a1 r=>qB (QI a) (qB (QI a1) (∃(u3:Zm) (u4:Zm) (u5:V6),Zfx a a1=some (.ptr 0 0,[.box [L 1 (u3.Za.map ic),L 1 (u3.Rows.map isc),L 1 (u4.Za.map ic),L 1 (u4.Rows.map isc),.own 1,.t .nil],.arr 3 1 true (u5.map ic)])/\r (Zjr a1 u3 u4 u5 a.Rows (a.Rows.length:Int) 0)) (qs4 r)) (qs4 r))/\
 (iM Zju λa a1 a2 r=>qB (Zjq a a2) (qB (Zjq a1 a2) ((JB a a1=some (.tup [.agg [.t .nil,.t .nil],Bo false],[])/\qs4 r)\/(US (JB a a1) (λu3=>Qn u3 r))\/(VW (JB a a1) (λu3 u4=>VV u3 u4 r))) (qs4 r)) (qs4 r)))))):=by
 refine qu ?_
 and_intros
 all_goals(intros;unfold Im;(try simp only[Zdh,Zdg,JA,Zjm,Zjn,Zdj,Zjo,Zdi,Zu9,Zjp,ZuD,Zjq,Zjr,Zjs,Zdk,Zjt,JB,Zju,VZ,Zjl,Zm.c_def,Zb4,QI,Zfx,Zu7,lpz,Zu6,Zu8,ZuJ,ZuI,ZuK,mpl,dfs]);(try simp only[itb]);(try simp only[itf,gS,kk]))
 all_goals(repeat' first|refine exI λ_=>?_|refine anJ λ_ _=>?_|refine anI λ_=>?_|refine orE2 ?_ ?_|exact False.elim)
 all_goals(intro h;first|rw[Zr Zjj.eq_1]|refine W8 Z8F rfl ?_|refine W8 Z8G rfl ?_|rw[Zr ZnG.eq_1]|rw[Zr Zu2.eq_1]|refine run ZIx rfl ?_|refine run ZIy rfl ?_|rw[Zr ZuB.eq_1]|refine run ZIz rfl ?_|refine run ZI0 rfl ?_|rw[Zr ZnH.eq_1]|rw[Zr ZuE.eq_1]|refine run ZI1 rfl ?_|refine run ZI2 rfl ?_)
 all_goals (refine Yd ?_ h;clear h;simp +decide[*,kk,tI,tII,Zuz,Zjk,Zu0,Zu1,Zu5,Zu4,Zu3,Z53,Z54,ZuC,Z55,Z56,ZuH,ZuG,ZuF,Z57,Z58])
abbrev Wy:=uq ZLr
def ZLs:(((iM Zdm λdb q info fr out x x1 x2 r=>if x2<x1 then qG x x2 (λu1=>qL (Zdm db q info fr) λk1=>qL (w (x2+1)) λk2=>if u1.Zs=1 then(qL (Zjd db q u1.Ze) λk4=>(k4=some (.tup [.agg [.t .nil,.t .nil],Bo false],[])/\KF r)\/(US k4 (λu2=>qN out (r (k1 (out++[(⟨u2,[]⟩:Zm)]) x x1 k2))))\/(VW k4 (λu2 u3=>qN out (r (k1 (out++[(⟨u2,u3⟩:Zm)]) x x1 k2)))))else if u1.Zs=2 then qH info x2 (λu2=>qG out u2.Left (λu3=>(Zfw u3 u1.Zl=some (.tup [.agg [.t .nil,.t .nil],Bo false],[])/\KF r)\/(∃(u4:V6),∃u5,∃(u6:V4),Zfw u3 u1.Zl=some (.tup [.agg [.own 0,.own 1],Bo true],[.arr 3 1 true (u4.map ic),.arr 40 1 u5 (u6.map isc)])/\qN out (r (Zdm db q info (fr && u5) (out++[(⟨u4,u6⟩:Zm)]) x x1 k2)))))else if u1.Zs=3 then qH info x2 (λu2=>qG out u2.Left (λu3=>qG out u2.Right (λu4=>(Zdi u3 u4=some (.tup [.agg [.t .nil,.t .nil],Bo false],[])/\KF r)\/(US (Zdi u3 u4) (λu5=>qN out (r (k1 (out++[(⟨u5,[]⟩:Zm)]) x x1 k2))))\/(VW (Zdi u3 u4) (λu5 u6=>qN out (r (k1 (out++[(⟨u5,u6⟩:Zm)]) x x1 k2)))))))else if u1.Zs=4 then qH info x2 (λu2=>qG out u2.Left (λu3=>qG out u2.Right (λu4=>qL (Zju u3 u4 u1.Zl) λk3=>(k3=some (.tup [.agg [.t .nil,.t .nil],Bo false],[])/\KF r)\/(US k3 (λu5=>qN out (r (k1 (out++[(⟨u5,[]⟩:Zm)]) x x1 k2))))\/(VW k3 (λu5 u6=>qN out (r (k1 (out++[(⟨u5,u6⟩:Zm)]) x x1 k2)))))))else qH info x2 (λu2=>qG out u2.Left (λu3=>qG out u2.Right (λu4=>(JB u3 u4=some (.tup [.agg [.t .nil,.t .nil],Bo false],[])/\KF r)\/(US (JB u3 u4) (λu5=>qN out (r (k1 (out++[(⟨u5,[]⟩:Zm)]) x x1 k2))))\/(VW (JB u3 u4) (λu5 u6=>qN out (r (k1 (out++[(⟨u5,u6⟩:Zm)]) x x1 k2))))))))else r (some (.tup [.own 0,.own 1,Bo true],[.arr 255 4 true (info.map Zo.c),.arr 251 2 fr (out.map Zm.c)])))/\
 (iM Zdl λa a1 a2 r=>(KK a1 a2=some (.tup [.t .nil,Bo false],[])/\KF r)\/(Zib (KK a1 a2) (λu1=>qB (Qr a a1) (r (Zdm a a1 u1 true ([]:List Zm) a2.Steps (a2.Steps.length:Int) 0)) (KF r)))))/\
 ((iM Zjv λn c r=>qI (QG c) (λu1=>if n<=u1 then qi c r else r (Zjv n (w (c+1)))))/\
 ((iM JC λa r=>qB (ZT a 0 4096) (r (Zjv a 0)) (qi (-1) r))/\
 (iM Zdn λa r=>qI (JC a) (λu1=>qI (QG u1) (λu2=>qi u2 r))))))/\
 (((iM Zaw λa a1 a2 r=>qG a1 a2 (λu1=>qI (Zdn (u1.Rows.length:Int)) (λu2=>qH a a2 (λu3=>if 0<=u3.Left then qH a1 u3.Left (λu4=>qI (Zdn (u4.Rows.length:Int)) (λu5=>if 0<=u3.Right then qH a1 u3.Right (λu6=>qI (Zdn (u6.Rows.length:Int)) (λu7=>r (some (.tup [I u5,I u7,I u2],[]))))else r (some (.tup [I u5,I 0,I u2],[]))))else if 0<=u3.Right then qH a1 u3.Right (λu4=>qI (Zdn (u4.Rows.length:Int)) (λu5=>r (some (.tup [I u2,I u5,I u2],[]))))else r (some (.tup [I u2,I 0,I u2],[]))))))/\
 (iM Wb λa a1 a2 a3 r=>qB (Vl a) (qB (ZT a1 0 4096) (qB (ZT a2 0 4096) (qB (ZT a3 0 4096) (qI (ZcN a a1 a2 a3) (λu5=>qi u5 r)) (qi 0 r)) (qi 0 r)) (qi 0 r)) (qi 0 r)))/\
 ((iM Zjw λo left right budget k r=>if k<=7 then qI (QG k) (λu1=>qI (ZcN o left right u1) (λu2=>if u2<=budget then r (Zjw o left right budget (w (k+1)))else qi k r))else qi k r)/\
 ((iM WN λa a1 a2 a3 r=>r (Zjw a a1 a2 a3 0))/\
 (iM KQ λa r=>qB (QI a) (qs2 (Uo a.Za) (λu2=>UR (J8 a.Rows) (λu3=>VV u2 u3 r))) (qs4 r))))):=by
 refine qu ?_
 and_intros
 all_goals(intros;unfold Im;(try simp only[Zdm,Zdl,Zjv,JC,Zdn,Zaw,Wb,Zjw,WN,KQ,Zjd,Zfw,Zdi,Zju,JB,Zp.c_def,Zf.c_def,Zm.c_def,KK,Qr,Zg.c_def,QG,ZT,Vl,ZcN,Z8.c_def,QI,Uo,J8,lpz,mpl,dfs]);(try simp only[itb]);(try simp only[itf,gS,kk]))
 all_goals(repeat' first|refine exI λ_=>?_|refine anJ λ_ _=>?_|refine anI λ_=>?_|refine orE2 ?_ ?_|exact False.elim)
 all_goals(intro h;first|rw[Zr ZuL.eq_1]|refine run ZI3 rfl ?_|rw[Zr ZuN.eq_1]|refine run ZI4 rfl ?_|refine run ZI5 rfl ?_|refine run ZI6 rfl ?_|refine run ZI7 rfl ?_|rw[Zr ZuQ.eq_1]|refine run ZI9 rfl ?_|refine run ZIA rfl ?_)
 all_goals (refine Yd ?_ h;clear h;simp +decide[*,kk,tI,tII,Z59,ZuM,Z5A,Z5C,Z5D,Z5G,Z5E,Z5F,Z5H,ZuR,Z5I,Z5J])
abbrev Vn:=uq ZLs
def ZLt{a:Zn}{a1:Zg}{a2:List Zo}{a3:List Zm}{a4:Int}{r:V3}(h:(∃(v:Int) (v1:Int) (v2:Int),Zaw a2 a3 a4=some (.tup [I v,I v1,I v2],[])/\(Un a=some (.bsl 1 5,[.box (a.c.map .t),.box [.ptr 0 0,.ptr 0 6,.ptr 0 12,.ptr 0 18,.ptr 0 24]])/\(0<=a4/\(∃(e3:Zj),a1.Steps[a4.toNat]?=some e3/\(if(w (e3.Zs-1))=0 then(∃(v3:Int),Wb a.Z1 v v1 v2=some (I v3,[])/\(some (I v3,[])=some r))else(if(w (e3.Zs-1))=1 then(∃(v4:Int),Wb a.Zz v v1 v2=some (I v4,[])/\(some (I v4,[])=some r))else(if(w (e3.Zs-1))=2 then(∃(v5:Int),Wb a.Z2 v v1 v2=some (I v5,[])/\(some (I v5,[])=some r))else(if(w (e3.Zs-1))=3 then(∃(v6:Int),Wb a.Z3 v v1 v2=some (I v6,[])/\(some (I v6,[])=some r))else(if(w (e3.Zs-1))=4 then(∃(v7:Int),Wb a.Z4 v v1 v2=some (I v7,[])/\(some (I v7,[])=some r))else False)))))))))):Zdo a a1 a2 a3 a4=some r:=by
 unfold Zdo
 try simp only[lpz]
 refine run ZI8 rfl ?_;obtain⟨v,v1,v2,q1,h⟩:=h;unfold Zaw at q1
 try simp[lpz]at q1
 obtain⟨q2,h⟩:=h;unfold Un at q2
 try simp[lpz]at q2
 obtain⟨q3,h⟩:=h;obtain⟨e3,q4,h⟩:=h;have gq4:=X3 q4;have kq4:=X4 q4;by_cases q5:(w (e3.Zs-1))=0
 .rw[Ya q5]at h;obtain⟨v3,q6,h⟩:=h;unfold Wb at q6
  try simp[lpz]at q6
  refine Yd ?_ h;clear h;simp +decide[*,Zf0,tI,tII,lpz]
 .rw[Yb q5]at h;replace q5:=eq_false q5;by_cases q7:(w (e3.Zs-1))=1
  .rw[Ya q7]at h;obtain⟨v4,q8,h⟩:=h;unfold Wb at q8
   try simp[lpz]at q8
   refine Yd ?_ h;clear h;simp +decide[*,Zf0,tI,tII,lpz]
  .rw[Yb q7]at h;replace q7:=eq_false q7;by_cases q9:(w (e3.Zs-1))=2
   .rw[Ya q9]at h;obtain⟨v5,q10,h⟩:=h;unfold Wb at q10
    try simp[lpz]at q10
    refine Yd ?_ h;clear h;simp +decide[*,Zf0,tI,tII,lpz]
   .rw[Yb q9]at h;replace q9:=eq_false q9;by_cases q11:(w (e3.Zs-1))=3
    .rw[Ya q11]at h;obtain⟨v6,q12,h⟩:=h;unfold Wb at q12
     try simp[lpz]at q12
     refine Yd ?_ h;clear h;simp +decide[*,Zf0,tI,tII,lpz]
    .rw[Yb q11]at h;replace q11:=eq_false q11;by_cases q13:(w (e3.Zs-1))=4
     .rw[Ya q13]at h;obtain⟨v7,q14,h⟩:=h;unfold Wb at q14
      try simp[lpz]at q14
      refine Yd ?_ h;clear h;simp +decide[*,Zf0,tI,tII,lpz]
     .rw[Yb q13]at h;replace q13:=eq_false q13;cases h
def Z8X{m:Zn}{p:Zg}{cv:Bool}{cu cp:Int}{co:List Zo}{fr:Bool}{l:List Zm}{cn:Bool}{cl cd cc:Int}{x:List Zj}{x1 x2:Int}{r:V3}(h:(if x2<x1 then(0<=x2/\(∃(e1:Zj),x[x2.toNat]?=some e1/\(∃(v:Int) (v1:Int) (v2:Int),Zaw co l x2=some (.tup [I v,I v1,I v2],[])/\(∃(v3:Int),Zdo m p co l x2=some (I v3,[])/\(if(w (cc-cl))<v3 then(if 3<=e1.Zs then(Un m=some (.bsl 1 5,[.box (m.c.map .t),.box [.ptr 0 0,.ptr 0 6,.ptr 0 12,.ptr 0 18,.ptr 0 24]])/\(if(w (e1.Zs-1))=0 then(∃(v4:Int),WN m.Z1 v v1 (w (cc-cl))=some (I v4,[])/\(∃(e6:Zo),co[x2.toNat]?=some e6/\(some (.tup [.agg [Bo cn,I cc,I cd,L 3 (([(⟨e6.Mask,v4,false⟩:ZB)]).map ZB.c),L 1 (([]:V6).map ic),L 1 (([]:V4).map isc)],Bo true],[])=some r)))else(if(w (e1.Zs-1))=1 then(∃(v5:Int),WN m.Zz v v1 (w (cc-cl))=some (I v5,[])/\(∃(e8:Zo),co[x2.toNat]?=some e8/\(some (.tup [.agg [Bo cn,I cc,I cd,L 3 (([(⟨e8.Mask,v5,false⟩:ZB)]).map ZB.c),L 1 (([]:V6).map ic),L 1 (([]:V4).map isc)],Bo true],[])=some r)))else(if(w (e1.Zs-1))=2 then(∃(v6:Int),WN m.Z2 v v1 (w (cc-cl))=some (I v6,[])/\(∃(e10:Zo),co[x2.toNat]?=some e10/\(some (.tup [.agg [Bo cn,I cc,I cd,L 3 (([(⟨e10.Mask,v6,false⟩:ZB)]).map ZB.c),L 1 (([]:V6).map ic),L 1 (([]:V4).map isc)],Bo true],[])=some r)))else(if(w (e1.Zs-1))=3 then(∃(v7:Int),WN m.Z3 v v1 (w (cc-cl))=some (I v7,[])/\(∃(e12:Zo),co[x2.toNat]?=some e12/\(some (.tup [.agg [Bo cn,I cc,I cd,L 3 (([(⟨e12.Mask,v7,false⟩:ZB)]).map ZB.c),L 1 (([]:V6).map ic),L 1 (([]:V4).map isc)],Bo true],[])=some r)))else(if(w (e1.Zs-1))=4 then(∃(v8:Int),WN m.Z4 v v1 (w (cc-cl))=some (I v8,[])/\(∃(e14:Zo),co[x2.toNat]?=some e14/\(some (.tup [.agg [Bo cn,I cc,I cd,L 3 (([(⟨e14.Mask,v8,false⟩:ZB)]).map ZB.c),L 1 (([]:V6).map ic),L 1 (([]:V4).map isc)],Bo true],[])=some r)))else False))))))else(some (.tup [.agg [Bo cn,I cc,I cd,L 3 (([]:List ZB).map ZB.c),L 1 (([]:V6).map ic),L 1 (([]:V4).map isc)],Bo true],[])=some r))else(if 3<=e1.Zs then(∃(e15:Zo),co[x2.toNat]?=some e15/\(∃(e16:Zm),l[x2.toNat]?=some e16/\(∃(v9:Int),JC (e16.Rows.length:Int)=some (I v9,[])/\(Zay m p cv cu cp co fr l cn (w (cl+v3)) (w (cd+1)) ([(⟨e15.Mask,v9,true⟩:ZB)]) cc x x1 (w (x2+1))=some r))))else(Zdp m p cv cu cp co fr l cn (w (cl+v3)) (w (cd+1)) cc x x1 (w (x2+1))=some r)))))))else(0<=(w ((l.length:Int)-1))/\(∃(e18:Zm),l[(w ((l.length:Int)-1)).toNat]?=some e18/\((∃(v10:V6) (v11:V4),KQ e18=some (.tup [.agg [.own 0,.own 1],Bo true],[.arr 3 1 true (v10.map ic),.arr 40 1 true (v11.map isc)])/\(some (.tup [.agg [Bo true,I cl,I cd,L 3 (([]:List ZB).map ZB.c),L 1 (v10.map ic),L 1 (v11.map isc)],Bo true],[])=some r))\/(KQ e18=some (.tup [.agg [.t .nil,.t .nil],Bo false],[])/\(some (.tup [.agg [Bo true,I cl,I cd,L 3 (([]:List ZB).map ZB.c),L 1 (([]:V6).map ic),L 1 (([]:V4).map isc)],Bo true],[])=some r))))))):Zdp m p cv cu cp co fr l cn cl cd cc x x1 x2=some r:=by
 unfold Zdp
 try simp only[Zax,lpz]
 rw[Zr ZnJ.eq_1];by_cases q1:x2<x1
 .rw[Ya q1]at h;obtain⟨q2,h⟩:=h;obtain⟨e1,q3,h⟩:=h;have gq3:=X3 q3;have kq3:=X4 q3;obtain⟨v,v1,v2,q4,h⟩:=h;unfold Zaw at q4
  try simp[lpz]at q4
  obtain⟨v3,q5,h⟩:=h;unfold Zdo at q5
  try simp[lpz]at q5
  by_cases q6:(w (cc-cl))<v3
  .rw[Ya q6]at h;by_cases q7:3<=e1.Zs
   .rw[Ya q7]at h;obtain⟨q8,h⟩:=h;unfold Un at q8
    try simp[lpz]at q8
    by_cases q9:(w (e1.Zs-1))=0
    .rw[Ya q9]at h;obtain⟨v4,q10,h⟩:=h;unfold WN at q10
     try simp[lpz]at q10
     obtain⟨e6,q11,h⟩:=h;have gq11:=X3 q11;have kq11:=X4 q11;refine Yd ?_ h;clear h;simp +decide[*,tI,tII,QJ,lpz]
    .rw[Yb q9]at h;replace q9:=eq_false q9;by_cases q12:(w (e1.Zs-1))=1
     .rw[Ya q12]at h;obtain⟨v5,q13,h⟩:=h;unfold WN at q13
      try simp[lpz]at q13
      obtain⟨e8,q14,h⟩:=h;have gq14:=X3 q14;have kq14:=X4 q14;refine Yd ?_ h;clear h;simp +decide[*,tI,tII,QJ,lpz]
     .rw[Yb q12]at h;replace q12:=eq_false q12;by_cases q15:(w (e1.Zs-1))=2
      .rw[Ya q15]at h;obtain⟨v6,q16,h⟩:=h;unfold WN at q16
       try simp[lpz]at q16
       obtain⟨e10,q17,h⟩:=h;have gq17:=X3 q17;have kq17:=X4 q17;refine Yd ?_ h;clear h;simp +decide[*,tI,tII,QJ,lpz]
      .rw[Yb q15]at h;replace q15:=eq_false q15;by_cases q18:(w (e1.Zs-1))=3
       .rw[Ya q18]at h;obtain⟨v7,q19,h⟩:=h;unfold WN at q19
        try simp[lpz]at q19
        obtain⟨e12,q20,h⟩:=h;have gq20:=X3 q20;have kq20:=X4 q20;refine Yd ?_ h;clear h;simp +decide[*,tI,tII,QJ,lpz]
       .rw[Yb q18]at h;replace q18:=eq_false q18;by_cases q21:(w (e1.Zs-1))=4
        .rw[Ya q21]at h;obtain⟨v8,q22,h⟩:=h;unfold WN at q22
         try simp[lpz]at q22
         obtain⟨e14,q23,h⟩:=h;have gq23:=X3 q23;have kq23:=X4 q23;refine Yd ?_ h;clear h;simp +decide[*,tI,tII,QJ,lpz]
        .rw[Yb q21]at h;replace q21:=eq_false q21;cases h
   .rw[Yb q7]at h;refine Yd ?_ h;clear h;simp +decide[*,tI,tII,QJ,lpz]
  .rw[Yb q6]at h;by_cases q24:3<=e1.Zs
   .rw[Ya q24]at h;obtain⟨e15,q25,h⟩:=h;have gq25:=X3 q25;have kq25:=X4 q25;obtain⟨e16,q26,h⟩:=h;have gq26:=X3 q26;have kq26:=X4 q26;obtain⟨v9,q27,h⟩:=h;unfold JC at q27
    try simp[lpz]at q27
    refine Yd ?_ h;clear h;simp +decide[*,tI,tII,Zay,Zjy,Zax,lpz]
   .rw[Yb q24]at h;refine Yd ?_ h;clear h;simp +decide[*,tI,tII,Zdp,Zjy,Zax,lpz]
 .rw[Yb q1]at h;obtain⟨q28,h⟩:=h;have zq28:=q28;try simp[lpz]at zq28
  obtain⟨e18,q29,h⟩:=h;have gq29:=X3 q29;have kq29:=X4 q29;rcases h with h|h
  .obtain⟨v10,v11,q30,h⟩:=h;unfold KQ at q30
   try simp[lpz]at q30
   refine Yd ?_ h;clear h;simp +decide[*,tI,tII,Zf1,lpz]
  .obtain⟨q31,h⟩:=h;unfold KQ at q31
   try simp[lpz]at q31
   refine Yd ?_ h;clear h;simp +decide[*,tI,tII,Zf1,lpz]
def Z8Y{m:Zn}{p:Zg}{cv:Bool}{cu cp:Int}{co:List Zo}{fr:Bool}{l:List Zm}{cn:Bool}{cl cd:Int}{x:List ZB}{cc:Int}{x1:List Zj}{x2 x3:Int}{r:V3}(h:(if x3<x2 then(0<=x3/\(∃(e1:Zj),x1[x3.toNat]?=some e1/\(∃(v:Int) (v1:Int) (v2:Int),Zaw co l x3=some (.tup [I v,I v1,I v2],[])/\(∃(v3:Int),Zdo m p co l x3=some (I v3,[])/\(if(w (cc-cl))<v3 then(if 3<=e1.Zs then(Un m=some (.bsl 1 5,[.box (m.c.map .t),.box [.ptr 0 0,.ptr 0 6,.ptr 0 12,.ptr 0 18,.ptr 0 24]])/\(if(w (e1.Zs-1))=0 then(∃(v4:Int),WN m.Z1 v v1 (w (cc-cl))=some (I v4,[])/\(∃(e6:Zo),co[x3.toNat]?=some e6/\(x.length+1<=68719476736/\(some (.tup [.agg [Bo cn,I cc,I cd,L 3 ((x++[(⟨e6.Mask,v4,false⟩:ZB)]).map ZB.c),L 1 (([]:V6).map ic),L 1 (([]:V4).map isc)],Bo true],[])=some r))))else(if(w (e1.Zs-1))=1 then(∃(v5:Int),WN m.Zz v v1 (w (cc-cl))=some (I v5,[])/\(∃(e8:Zo),co[x3.toNat]?=some e8/\(x.length+1<=68719476736/\(some (.tup [.agg [Bo cn,I cc,I cd,L 3 ((x++[(⟨e8.Mask,v5,false⟩:ZB)]).map ZB.c),L 1 (([]:V6).map ic),L 1 (([]:V4).map isc)],Bo true],[])=some r))))else(if(w (e1.Zs-1))=2 then(∃(v6:Int),WN m.Z2 v v1 (w (cc-cl))=some (I v6,[])/\(∃(e10:Zo),co[x3.toNat]?=some e10/\(x.length+1<=68719476736/\(some (.tup [.agg [Bo cn,I cc,I cd,L 3 ((x++[(⟨e10.Mask,v6,false⟩:ZB)]).map ZB.c),L 1 (([]:V6).map ic),L 1 (([]:V4).map isc)],Bo true],[])=some r))))else(if(w (e1.Zs-1))=3 then(∃(v7:Int),WN m.Z3 v v1 (w (cc-cl))=some (I v7,[])/\(∃(e12:Zo),co[x3.toNat]?=some e12/\(x.length+1<=68719476736/\(some (.tup [.agg [Bo cn,I cc,I cd,L 3 ((x++[(⟨e12.Mask,v7,false⟩:ZB)]).map ZB.c),L 1 (([]:V6).map ic),L 1 (([]:V4).map isc)],Bo true],[])=some r))))else(if(w (e1.Zs-1))=4 then(∃(v8:Int),WN m.Z4 v v1 (w (cc-cl))=some (I v8,[])/\(∃(e14:Zo),co[x3.toNat]?=some e14/\(x.length+1<=68719476736/\(some (.tup [.agg [Bo cn,I cc,I cd,L 3 ((x++[(⟨e14.Mask,v8,false⟩:ZB)]).map ZB.c),L 1 (([]:V6).map ic),L 1 (([]:V4).map isc)],Bo true],[])=some r))))else False))))))else(some (.tup [.agg [Bo cn,I cc,I cd,L 3 (x.map ZB.c),L 1 (([]:V6).map ic),L 1 (([]:V4).map isc)],Bo true],[])=some r))else(if 3<=e1.Zs then(∃(e15:Zo),co[x3.toNat]?=some e15/\(∃(e16:Zm),l[x3.toNat]?=some e16/\(∃(v9:Int),JC (e16.Rows.length:Int)=some (I v9,[])/\(x.length+1<=68719476736/\(Zay m p cv cu cp co fr l cn (w (cl+v3)) (w (cd+1)) (x++[(⟨e15.Mask,v9,true⟩:ZB)]) cc x1 x2 (w (x3+1))=some r)))))else(Zay m p cv cu cp co fr l cn (w (cl+v3)) (w (cd+1)) x cc x1 x2 (w (x3+1))=some r)))))))else(0<=(w ((l.length:Int)-1))/\(∃(e18:Zm),l[(w ((l.length:Int)-1)).toNat]?=some e18/\((∃(v10:V6) (v11:V4),KQ e18=some (.tup [.agg [.own 0,.own 1],Bo true],[.arr 3 1 true (v10.map ic),.arr 40 1 true (v11.map isc)])/\(some (.tup [.agg [Bo true,I cl,I cd,L 3 (x.map ZB.c),L 1 (v10.map ic),L 1 (v11.map isc)],Bo true],[])=some r))\/(KQ e18=some (.tup [.agg [.t .nil,.t .nil],Bo false],[])/\(some (.tup [.agg [Bo true,I cl,I cd,L 3 (x.map ZB.c),L 1 (([]:V6).map ic),L 1 (([]:V4).map isc)],Bo true],[])=some r))))))):Zay m p cv cu cp co fr l cn cl cd x cc x1 x2 x3=some r:=by
 unfold Zay
 try simp only[Zax,lpz]
 rw[Zr ZnJ.eq_1];by_cases q1:x3<x2
 .rw[Ya q1]at h;obtain⟨q2,h⟩:=h;obtain⟨e1,q3,h⟩:=h;have gq3:=X3 q3;have kq3:=X4 q3;obtain⟨v,v1,v2,q4,h⟩:=h;unfold Zaw at q4
  try simp[lpz]at q4
  obtain⟨v3,q5,h⟩:=h;unfold Zdo at q5
  try simp[lpz]at q5
  by_cases q6:(w (cc-cl))<v3
  .rw[Ya q6]at h;by_cases q7:3<=e1.Zs
   .rw[Ya q7]at h;obtain⟨q8,h⟩:=h;unfold Un at q8
    try simp[lpz]at q8
    by_cases q9:(w (e1.Zs-1))=0
    .rw[Ya q9]at h;obtain⟨v4,q10,h⟩:=h;unfold WN at q10
     try simp[lpz]at q10
     obtain⟨e6,q11,h⟩:=h;have gq11:=X3 q11;have kq11:=X4 q11;obtain⟨q12,h⟩:=h;have rq12:=Vb (b:=24) q12 (by omega);have sq12:=Vc q12
     try simp[*]at rq12
     try simp[*]at sq12
     refine Yd ?_ h;clear h;simp +decide[*,tI,tII,QJ,lpz]
    .rw[Yb q9]at h;replace q9:=eq_false q9;by_cases q13:(w (e1.Zs-1))=1
     .rw[Ya q13]at h;obtain⟨v5,q14,h⟩:=h;unfold WN at q14
      try simp[lpz]at q14
      obtain⟨e8,q15,h⟩:=h;have gq15:=X3 q15;have kq15:=X4 q15;obtain⟨q16,h⟩:=h;have rq16:=Vb (b:=24) q16 (by omega);have sq16:=Vc q16
      try simp[*]at rq16
      try simp[*]at sq16
      refine Yd ?_ h;clear h;simp +decide[*,tI,tII,QJ,lpz]
     .rw[Yb q13]at h;replace q13:=eq_false q13;by_cases q17:(w (e1.Zs-1))=2
      .rw[Ya q17]at h;obtain⟨v6,q18,h⟩:=h;unfold WN at q18
       try simp[lpz]at q18
       obtain⟨e10,q19,h⟩:=h;have gq19:=X3 q19;have kq19:=X4 q19;obtain⟨q20,h⟩:=h;have rq20:=Vb (b:=24) q20 (by omega);have sq20:=Vc q20
       try simp[*]at rq20
       try simp[*]at sq20
       refine Yd ?_ h;clear h;simp +decide[*,tI,tII,QJ,lpz]
      .rw[Yb q17]at h;replace q17:=eq_false q17;by_cases q21:(w (e1.Zs-1))=3
       .rw[Ya q21]at h;obtain⟨v7,q22,h⟩:=h;unfold WN at q22
        try simp[lpz]at q22
        obtain⟨e12,q23,h⟩:=h;have gq23:=X3 q23;have kq23:=X4 q23;obtain⟨q24,h⟩:=h;have rq24:=Vb (b:=24) q24 (by omega);have sq24:=Vc q24
        try simp[*]at rq24
        try simp[*]at sq24
        refine Yd ?_ h;clear h;simp +decide[*,tI,tII,QJ,lpz]
       .rw[Yb q21]at h;replace q21:=eq_false q21;by_cases q25:(w (e1.Zs-1))=4
        .rw[Ya q25]at h;obtain⟨v8,q26,h⟩:=h;unfold WN at q26
         try simp[lpz]at q26
         obtain⟨e14,q27,h⟩:=h;have gq27:=X3 q27;have kq27:=X4 q27;obtain⟨q28,h⟩:=h;have rq28:=Vb (b:=24) q28 (by omega);have sq28:=Vc q28
         try simp[*]at rq28
         try simp[*]at sq28
         refine Yd ?_ h;clear h;simp +decide[*,tI,tII,QJ,lpz]
        .rw[Yb q25]at h;replace q25:=eq_false q25;cases h
   .rw[Yb q7]at h;refine Yd ?_ h;clear h;simp +decide[*,tI,tII,QJ,lpz]
  .rw[Yb q6]at h;by_cases q29:3<=e1.Zs
   .rw[Ya q29]at h;obtain⟨e15,q30,h⟩:=h;have gq30:=X3 q30;have kq30:=X4 q30;obtain⟨e16,q31,h⟩:=h;have gq31:=X3 q31;have kq31:=X4 q31;obtain⟨v9,q32,h⟩:=h;unfold JC at q32
    try simp[lpz]at q32
    obtain⟨q33,h⟩:=h;have rq33:=Vb (b:=24) q33 (by omega);have sq33:=Vc q33
    try simp[*]at rq33
    try simp[*]at sq33
    refine Yd ?_ h;clear h;simp +decide[*,tI,tII,Zay,Zjy,Zax,lpz]
   .rw[Yb q29]at h;refine Yd ?_ h;clear h;simp +decide[*,tI,tII,Zay,Zjy,Zax,lpz]
 .rw[Yb q1]at h;obtain⟨q34,h⟩:=h;have zq34:=q34;try simp[lpz]at zq34
  obtain⟨e18,q35,h⟩:=h;have gq35:=X3 q35;have kq35:=X4 q35;rcases h with h|h
  .obtain⟨v10,v11,q36,h⟩:=h;unfold KQ at q36
   try simp[lpz]at q36
   refine Yd ?_ h;clear h;simp +decide[*,tI,tII,Zf1,lpz]
  .obtain⟨q37,h⟩:=h;unfold KQ at q37
   try simp[lpz]at q37
   refine Yd ?_ h;clear h;simp +decide[*,tI,tII,Zf1,lpz]
def ZLu:((iM ZnK λa a1 a2 a3 a4 r=>qL (Zm0 ([]:List ZB) ([]:V6) ([]:V4) r) λk1=>(Zdl a1 a2 a3=some (.tup [.t .nil,.t .nil,Bo false],[])/\k1)\/(∃(u1:List Zo),∃u2,∃(u3:List Zm),Zdl a1 a2 a3=some (.tup [.own 0,.own 1,Bo true],[.arr 255 4 true (u1.map Zo.c),.arr 251 2 u2 (u3.map Zm.c)])/\qB (Zao a) (qB (ZT a4 0 1000000000000) (r (Zdp a a3 false 0 0 u1 u2 u3 false 0 0 a4 a3.Steps (a3.Steps.length:Int) 0)) k1) k1))/\
 (iM Zf3 λm db q b x x1 x2 r=>if x2<x1 then qG x x2 (λu1=>qB (ZT u1.Zg 0 (w ((b.Xl.length:Int)-1))) (qG b.Xl u1.Zg (λu3=>∃(u4:Run),∃u5,ZnK m db q u3 u1.Vs=some (.tup [.agg (u4.c.map .t),Bo u5],[])/\if u5=true then if u4.Zv=u1.Zv then if u4.Vi=u1.Vi then r (Zf3 m db q b x x1 (w (x2+1)))else qi x2 r else qi x2 r else qi x2 r)) (qi x2 r))else qi (-1) r))/\
 ((iM Zf2 λa a1 a2 a3 a4 r=>r (Zf3 a a1 a2 a3 a4 (a4.length:Int) 0))/\
 (iM Zjz λa a1 a2 r=>qB (Qr a1 a2) (qI (Vd a2) (λu2=>qB (Zal a2 u2) (qV (Zao a) (λu4=>qb u4 r)) (qb false r))) (qb false r))):=by
 refine qu ?_
 and_intros
 all_goals(intros;unfold Im;(try simp only[ZnK,Zf3,Zf2,Zjz,Zdl,Zao,ZT,Zp.c_def,Zn.c_def,Z8.c_def,Zg.c_def,Zf.c_def,ZW.c_def,Run.c_def,Qr,Vd,Zal,Zdp,lpz,Zax,mpl,dfs]);(try simp only[itb]);(try simp only[itf,gS,kk]))
 all_goals(repeat' first|refine exI λ_=>?_|refine anJ λ_ _=>?_|refine anI λ_=>?_|refine orE2 ?_ ?_|exact False.elim)
 all_goals(intro h;first|refine run ZIB rfl ?_|rw[Zr ZuT.eq_1]|refine run ZIC rfl ?_|refine run ZID rfl ?_)
 all_goals (refine Yd ?_ h;clear h;simp +decide[*,kk,tI,tII,Z5K,ZuU,Z5L,Z5M])
abbrev ZdZ:=uq ZLu
