/-
  Parts of the proofs for this seat: G31 G32 G33 G34 G35 V1 V2 V3 V4 V5 V6 V7 V8 OP AD.
-/
import Derived.Test.YthpdbpfamhcgiaaGreatP15
import Derived.Test.YthpdbpfamhcgiaaGreatP16
import Derived.Test.YthpdbpfamhcgiaaGreatP17
import Derived.Test.YthpdbpfamhcgiaaGreatP18
import Derived.Test.YthpdbpfamhcgiaaGreatP19
import Derived.Test.YthpdbpfamhcgiaaGreatP20
import Derived.Test.YthpdbpfamhcgiaaGreatP21
import Derived.Test.YthpdbpfamhcgiaaGreatP22
import Derived.Test.YthpdbpfamhcgiaaGreatP23
import Derived.Test.YthpdbpfamhcgiaaGreatP24
set_option linter.all false
set_option maxRecDepth 100000
set_option maxHeartbeats 4000000
namespace Go.Proofs.YthpdbpfamhcgiaaGreat
open Go.AM
def ZLL:(((iM Zg5 λa b x x1 flip only x2 outer inner i r=>if i<outer then r (ZdN a b x x1 flip only x2 outer inner i 0)else ZeJ x x1 r)/\
 ((iM ZdN λa b x x1 flip only x2 outer inner i k r=>qL (r (Zg5 a b x x1 flip only x2 outer inner (w (i+1)))) λk5=>if k<inner then if(x1.length:Int)<=4096 then qL (w ((a.Rows.length:Int)-1)) λk3=>0<=(if k3<i then k3 else i)/\∃u1,a.Rows[(if k3<i then k3 else i).toNat]?=some u1/\qL (w ((b.Rows.length:Int)-1)) λk4=>0<=(if k4<k then k4 else k)/\∃u2,b.Rows[(if k4<k then k4 else k).toNat]?=some u2/\qL (w (k+1)) λk6=>qL (UW x a.Za) λk7=>if flip=true then qG a.Rows k (λu3=>qG b.Rows i (λu4=>qL (r (ZdN a b x x1 true only x2 outer inner i k6)) λk2=>qL (VG a.Za u3 b.Za u4) λk8=>if only<0 then qB k8 (qs2 (k7 u3 b.Za u4) (λu6=>qN x1 (r (Ko a b x (x1++[u6]) true only x2 outer inner i k6)))) k2 else qG u3 x2 (λu5=>if u5=only then qB k8 (qs2 (k7 u3 b.Za u4) (λu7=>qN x1 (r (Ko a b x (x1++[u7]) true only x2 outer inner i k6)))) k2 else k2)))else qL (r (ZdN a b x x1 false only x2 outer inner i k6)) λk1=>qL (VG a.Za u1 b.Za u2) λk9=>if only<0 then qB k9 (qs2 (k7 u1 b.Za u2) (λu4=>qN x1 (r (Ko a b x (x1++[u4]) false only x2 outer inner i k6)))) k1 else qG u1 x2 (λu3=>if u3=only then qB k9 (qs2 (k7 u1 b.Za u2) (λu5=>qN x1 (r (Ko a b x (x1++[u5]) false only x2 outer inner i k6)))) k1 else k1)else k5 else k5)/\
 (iM Ko λa b x x1 flip only x2 outer inner i k r=>qL (r (ZkY a b x x1 flip only x2 outer inner (w (i+1)))) λk5=>if k<inner then if(x1.length:Int)<=4096 then qL (w ((a.Rows.length:Int)-1)) λk3=>0<=(if k3<i then k3 else i)/\∃u1,a.Rows[(if k3<i then k3 else i).toNat]?=some u1/\qL (w ((b.Rows.length:Int)-1)) λk4=>0<=(if k4<k then k4 else k)/\∃u2,b.Rows[(if k4<k then k4 else k).toNat]?=some u2/\qL (w (k+1)) λk6=>qL (Ko a b x) λk7=>qL (UW x a.Za) λk8=>if flip=true then qG a.Rows k (λu3=>qG b.Rows i (λu4=>qL (r (k7 x1 true only x2 outer inner i k6)) λk2=>qL (VG a.Za u3 b.Za u4) λk9=>if only<0 then qB k9 (qs2 (k8 u3 b.Za u4) (λu6=>qN x1 (r (k7 (x1++[u6]) true only x2 outer inner i k6)))) k2 else qG u3 x2 (λu5=>if u5=only then qB k9 (qs2 (k8 u3 b.Za u4) (λu7=>qN x1 (r (k7 (x1++[u7]) true only x2 outer inner i k6)))) k2 else k2)))else qL (r (k7 x1 false only x2 outer inner i k6)) λk1=>qL (VG a.Za u1 b.Za u2) λk10=>if only<0 then qB k10 (qs2 (k8 u1 b.Za u2) (λu4=>qN x1 (r (k7 (x1++[u4]) false only x2 outer inner i k6)))) k1 else qG u1 x2 (λu3=>if u3=only then qB k10 (qs2 (k8 u1 b.Za u2) (λu5=>qN x1 (r (k7 (x1++[u5]) false only x2 outer inner i k6)))) k1 else k1)else k5 else k5)))/\
 ((iM ZkY λa b x x1 flip only x2 outer inner i r=>if i<outer then r (Ko a b x x1 flip only x2 outer inner i 0)else r (some (.agg [.own 0,.own 2],[.arr 3 1 true (x.map ic),.dead,.arr 40 1 true (x1.map isc)])))/\
 ((iM ZoI λx x1 a a1 a2 a3 a4 r=>qI (U7 a.Za a3) (λu1=>if a2=true then r (Zg5 a a1 x x1 true a4 u1 (a1.Rows.length:Int) (a.Rows.length:Int) 0)else r (Zg5 a a1 x x1 false a4 u1 (a.Rows.length:Int) (a1.Rows.length:Int) 0)))/\
 (iM ZkZ λa b x v val r=>if val<=9 then((Zie (JG x a b false v val) (λu1=>r (ZkZ a b u1 v (w (val+1)))))\/(Zbj (JG x a b false v val) (λu1 u2=>r (Zg6 a b u1 u2 v (w (val+1))))))else US (Zg3 x) (λu1=>Qn u1 r)))))/\
 (((iM Zg6 λa b x x1 v val r=>if val<=9 then(qL (ZoI x x1 a b false v val) λk1=>(Zbj k1 (λu1 u2=>r (Zg6 a b u1 u2 v (w (val+1)))))\/(∃(u1:V6) (u2:V4),k1=some (.agg [.own 0,.own 2],[.arr 3 1 true (u1.map ic),.dead,.arr 40 1 true (u2.map isc)])/\r (Zg6 a b u1 u2 v (w (val+1)))))else(Zif (JH x x1) (λu1 u2=>qs4 r))\/(VW (JH x x1) (λu1 u2=>VV u1 u2 r)))/\
 ((iM ZoJ λa a1 a2 r=>qB (Zg4 a a2) (qB (Zg4 a1 a2) (qs2 (ZbH a.Za a1.Za) (λu3=>r (ZkZ a a1 u3 a2 0))) (qs4 r)) (qs4 r))/\
 (iM Zg8 λd q p info out i r=>if i<(info.length:Int)then qG p.Steps i (λu1=>qL (Zg8 d q p info) λk2=>qL (w (i+1)) λk3=>qL (qN out (r (k2 (out++[(⟨[],[]⟩:Zm)]) k3))) λk1=>if u1.Zs=1 then(qL (ZkN d q u1.Ze) λk5=>(k5=some (.tup [.agg [.t .nil,.t .nil],Bo false],[])/\k1)\/(US k5 (λu2=>qN out (r (k2 (out++[(⟨u2,[]⟩:Zm)]) k3))))\/(VW k5 (λu2 u3=>qN out (r (k2 (out++[(⟨u2,u3⟩:Zm)]) k3)))))else if u1.Zs=2 then qH info i (λu2=>qG out u2.Left (λu3=>qL (ZkS u3 u1.Zl) λk6=>(k6=some (.tup [.agg [.t .nil,.t .nil],Bo false],[])/\k1)\/(US k6 (λu4=>qN out (r (k2 (out++[(⟨u4,[]⟩:Zm)]) k3))))\/(VW k6 (λu4 u5=>qN out (r (k2 (out++[(⟨u4,u5⟩:Zm)]) k3))))))else if u1.Zs=3 then qH info i (λu2=>qG out u2.Left (λu3=>qG out u2.Right (λu4=>(US (ZdL u3 u4) (λu5=>qN out (r (k2 (out++[(⟨u5,[]⟩:Zm)]) k3))))\/(ZdL u3 u4=some (.tup [.agg [.t .nil,.t .nil],Bo false],[])/\k1)\/(VW (ZdL u3 u4) (λu5 u6=>qN out (r (k2 (out++[(⟨u5,u6⟩:Zm)]) k3)))))))else if u1.Zs=5 then qH info i (λu2=>qG out u2.Left (λu3=>qG out u2.Right (λu4=>(US (ZdM u3 u4) (λu5=>qN out (r (k2 (out++[(⟨u5,[]⟩:Zm)]) k3))))\/(ZdM u3 u4=some (.tup [.agg [.t .nil,.t .nil],Bo false],[])/\k1)\/(VW (ZdM u3 u4) (λu5 u6=>qN out (r (k2 (out++[(⟨u5,u6⟩:Zm)]) k3)))))))else qH info i (λu2=>qG out u2.Left (λu3=>qG out u2.Right (λu4=>qL (ZoJ u3 u4 u1.Zl) λk4=>(k4=some (.tup [.agg [.t .nil,.t .nil],Bo false],[])/\k1)\/(US k4 (λu5=>qN out (r (k2 (out++[(⟨u5,[]⟩:Zm)]) k3))))\/(VW k4 (λu5 u6=>qN out (r (k2 (out++[(⟨u5,u6⟩:Zm)]) k3))))))))else r (some (.tup [.own 0,.own 1,Bo true],[.arr 251 2 true (out.map Zm.c),.arr 255 4 true (info.map Zo.c)])))))/\
 (((iM Zg7 λa a1 a2 r=>∃(u1:List Zo),∃u2,Zgo a1 a2=some (.tup [.own 0,Bo u2],[.arr 255 4 true (u1.map Zo.c)])/\qL ([]:List Zm) λk1=>if u2=true then qB (QN a a1) (r (Zg8 a a1 a2 u1 k1 0)) (ZmC k1 u1 r)else ZmC k1 u1 r)/\
 (iM Zla λn k r=>if k<=7 then qI (QL k) (λu1=>if n<=u1 then qi k r else r (Zla n (w (k+1))))else qi (-1) r))/\
 ((iM KZ λa r=>if a<0 then qi (-1) r else r (Zla a 0))/\
 (iM VH λa r=>qI (KZ a) (λu1=>qI (QL u1) (λu2=>qi u2 r)))))):=by
 refine qu ?_
 and_intros
 all_goals(intros;unfold Im;(try simp only[Zg5,ZdN,Ko,ZkY,ZoI,ZkZ,Zg6,ZoJ,Zg8,Zg7,Zla,KZ,VH,VG,UW,U7,JG,Zg3,Zm.c_def,JH,Zg4,ZbH,ZkN,ZkS,ZdL,ZdM,Zp.c_def,Zf.c_def,Zgo,QN,Zg.c_def,QL,ZyM,lpz,mpl,dfs]);(try simp only[itb]);(try simp only[itf,gS,kk]))
 all_goals(repeat' first|refine exI λ_=>?_|refine anJ λ_ _=>?_|refine anI λ_=>?_|refine orE2 ?_ ?_|exact False.elim)
 all_goals(intro h;first|rw[Zr KX.eq_1]|rw[Zr ZdI.eq_1]|refine W8 Z8L rfl ?_|rw[Zr ZyK.eq_1]|refine run ZKs rfl ?_|rw[Zr ZyN.eq_1]|refine run ZKt rfl ?_|rw[Zr ZyQ.eq_1]|refine run ZKu rfl ?_|refine run ZKv rfl ?_)
 all_goals (refine Yd ?_ h;clear h;simp +decide[*,kk,tI,tII,KY,ZyD,ZdJ,ZyF,ZyE,ZyL,Z7M,Z7N,ZyO,Z7O,ZyR,Z7P,Z7Q])
abbrev XI:=uq ZLL
def ZLM:((((iM ZdO λa a1 a2 a3 a4 r=>qG a1.Steps a4 (λu1=>Zaf (Qs a u1.Zs) (λu2=>qH a2 a4 (λu3=>if u3.Left<0 then qH a3 a4 (λu4=>qI (VH u4) (λu5=>qI (Ua u2 u5 0 u5) (λu6=>qi u6 r)))else if u3.Right<0 then qG a3 u3.Left (λu4=>qI (VH u4) (λu5=>qH a3 a4 (λu6=>qI (VH u6) (λu7=>qI (Ua u2 u5 0 u7) (λu8=>qi u8 r)))))else qG a3 u3.Left (λu4=>qI (VH u4) (λu5=>qG a3 u3.Right (λu6=>qI (VH u6) (λu7=>qH a3 a4 (λu8=>qI (VH u8) (λu9=>qI (Ua u2 u5 u7 u9) (λu10=>qi u10 r)))))))))))/\
 (iM Zlb λm kind l r_1 budget n r=>if n<=7 then Zaf (Qs m kind) (λu1=>qI (QL n) (λu2=>qI (Ua u1 l r_1 u2) (λu3=>if u3<=budget then r (Zlb m kind l r_1 budget (w (n+1)))else qi n r)))else qi n r))/\
 ((iM ZdP λa a1 a2 a3 a4 r=>qB (Za5 a) (qB (Xb a1 1 5) (qB (Xb a2 0 4096) (qB (Xb a3 0 4096) (r (Zlb a a1 a2 a3 a4 0)) (qi 0 r)) (qi 0 r)) (qi 0 r)) (qi 0 r))/\
 (iM ZyV λout row put i r=>if i<0 then False else if put=true then Qm out r else qM row (qN out (Qm (out++[row]) r)))))/\
 (((iM ZoL λa r=>r (ZyV ([]:V4) a false 0))/\
 (iM Zza λs x i r=>if i<(s.Rows.length:Int)then qG s.Rows i (λu1=>UR (ZoL u1) (λu2=>r (Zlc s x u2 (w (i+1)))))else Qn x r))/\
 ((iM Zlc λs x x1 i r=>if i<(s.Rows.length:Int)then qG s.Rows i (λu1=>UR (ZfV x1 u1) (λu2=>r (Zlc s x u2 (w (i+1)))))else VV x x1 r)/\
 (iM Ja λa r=>qB (Km a) (qM a.Za (r (Zza a a.Za 0))) (qs4 r)))))/\
 ((((iM ZoO λa a1 a2 a3 a4 r=>∃(u1:List Zm),∃(u2:List Zo),∃u3,Zg7 a1 a2 a3=some (.tup [.own 0,.own 1,Bo u3],[.arr 251 2 true (u1.map Zm.c),.arr 255 4 true (u2.map Zo.c)])/\qL (Zm0 ([]:List ZB) ([]:V6) ([]:V4) r) λk1=>if u3=true then qB (Za5 a) (qB (Xb a4 0 1000000000000) (r (ZdR a a3 false 0 0 u1 u2 ([]:V6) false 0 0 a4 0)) k1) k1 else k1)/\
 (iM ZgA λm d q b l i r=>if i<(l.length:Int)then qG l i (λu1=>qB (Xb u1.Zg 0 (w ((b.Xl.length:Int)-1))) (qG b.Xl u1.Zg (λu3=>∃(u4:Run),∃u5,ZoO m d q u3 u1.Vs=some (.tup [.agg (u4.c.map .t),Bo u5],[])/\if u5=true then if u4.Zv=u1.Zv then if u4.Vi=u1.Vi then r (ZgA m d q b l (w (i+1)))else qi i r else qi i r else qi i r)) (qi i r))else qi (-1) r))/\
 ((iM Zg9 λa a1 a2 a3 a4 r=>r (ZgA a a1 a2 a3 a4 0))/\
 (iM Zle λb n i r=>if i<(b.ZO.length:Int)then qG b.ZO i (λu1=>r (Zle b (if n<(u1.length:Int)then(u1.length:Int)else n) (w (i+1))))else qi n r)))/\
 (((iM ZoP λa r=>r (Zle a 0 0))/\
 (iM ZdS λa r=>if a<0 then qi (w (0-a)) r else qi a r))/\
 ((iM ZgB λa b r=>if b=0 then qi a r else ¬b=0/\r (ZgB b (Int.tmod a b)))/\
 ((iM ZdT λa a1 r=>r (ZgB a a1))/\
 (iM ZbJ λa r=>qB (Xb a.Den 1 2147483647) (qB (Xb a.Num (-2147483647) 2147483647) (qI (ZdS a.Num) (λu3=>qI (ZdT u3 a.Den) (λu4=>qb (decide (u4=1)) r))) (qb false r)) (qb false r)))))):=by
 refine qu ?_
 and_intros
 all_goals(intros;unfold Im;(try simp only[ZdO,Zlb,ZdP,ZyV,ZoL,Zza,Zlc,Ja,ZoO,ZgA,Zg9,Zle,ZoP,ZdS,ZgB,ZdT,ZbJ,Qs,VH,Ua,Zn.c_def,Z8.c_def,QL,Za5,Xb,ZfV,Km,Zm.c_def,Zg7,Zp.c_def,Zg.c_def,Zf.c_def,ZW.c_def,Run.c_def,ZdR,lpz,Zok,ZyZ,ZdQ,mpl,dfs]);(try simp only[itb]);(try simp only[itf,gS,kk]))
 all_goals(repeat' first|refine exI λ_=>?_|refine anJ λ_ _=>?_|refine anI λ_=>?_|refine orE2 ?_ ?_|exact False.elim)
 all_goals(intro h;first|refine run ZKw rfl ?_|rw[Zr ZyT.eq_1]|refine run ZKx rfl ?_|rw[Zr Zoi.eq_1]|refine run Z8K rfl ?_|rw[Zr ZyX.eq_1]|refine run ZKy rfl ?_|refine run ZKz rfl ?_|rw[Zr Zze.eq_1]|refine run ZK0 rfl ?_|rw[Zr Zzh.eq_1]|refine run ZK1 rfl ?_|refine run ZK2 rfl ?_|rw[Zr Zzk.eq_1]|refine run ZK3 rfl ?_|refine run ZK4 rfl ?_)
 all_goals (refine Yd ?_ h;clear h;simp +decide[*,kk,tI,tII,Z7R,ZyU,Z7S,Zwv,Zoj,Zww,ZyY,Z7T,Z7U,Zzf,Z7V,Zzi,Z7W,Z7X,Zzl,Z7Y,Z7Z])
abbrev WJ:=uq ZLM
def Z9a{m:Zn}{p:Zg}{cv:Bool}{cu cp:Int}{l:List Zm}{co:List Zo}{n:V6}{cn:Bool}{cl cc cd i:Int}{r:V3}(h:(if i<(l.length:Int)then(0<=i/\(∃(e1:Zm),l[i.toNat]?=some e1/\(n.length+1<=68719476736/\(∃(v:Int),ZdO m p co (n++[(e1.Rows.length:Int)]) i=some (I v,[])/\(if(w (cd-cl))<v then(∃(e3:Zo),co[i.toNat]?=some e3/\(if 0<=e3.Right then(∃(e4:Zj),p.Steps[i.toNat]?=some e4/\(0<=e3.Left/\(∃(e5:Int),(n++[(e1.Rows.length:Int)])[e3.Left.toNat]?=some e5/\(∃(v1:Int),VH e5=some (I v1,[])/\(∃(e7:Int),(n++[(e1.Rows.length:Int)])[e3.Right.toNat]?=some e7/\(∃(v2:Int),VH e7=some (I v2,[])/\(∃(v3:Int),ZdP m e4.Zs v1 v2 (w (cd-cl))=some (I v3,[])/\(some (.tup [.agg [Bo cn,I cd,I cc,L 3 (([(⟨e3.Mask,v3,false⟩:ZB)]).map ZB.c),L 1 (([]:V6).map ic),L 1 (([]:V4).map isc)],Bo true],[])=some r))))))))else(some (.tup [.agg [Bo cn,I cd,I cc,L 3 (([]:List ZB).map ZB.c),L 1 (([]:V6).map ic),L 1 (([]:V4).map isc)],Bo true],[])=some r)))else(∃(e10:Zo),co[i.toNat]?=some e10/\(if 0<=e10.Right then(∃(e11:Int),(n++[(e1.Rows.length:Int)])[i.toNat]?=some e11/\(∃(v4:Int),KZ e11=some (I v4,[])/\(ZbI m p cv cu cp l co (n++[(e1.Rows.length:Int)]) cn (w (cl+v)) (w (cc+1)) ([(⟨e10.Mask,v4,true⟩:ZB)]) cd (w (i+1))=some r)))else(ZdR m p cv cu cp l co (n++[(e1.Rows.length:Int)]) cn (w (cl+v)) (w (cc+1)) cd (w (i+1))=some r))))))))else(0<=(w ((l.length:Int)-1))/\(∃(e13:Zm),l[(w ((l.length:Int)-1)).toNat]?=some e13/\((Ja e13=some (.tup [.agg [.t .nil,.t .nil],Bo false],[])/\(some (.tup [.agg [Bo true,I cl,I cc,L 3 (([]:List ZB).map ZB.c),L 1 (([]:V6).map ic),L 1 (([]:V4).map isc)],Bo true],[])=some r))\/(∃(v5:V6),Ja e13=some (.tup [.agg [.own 0,.t .nil],Bo true],[.arr 3 1 true (v5.map ic)])/\(some (.tup [.agg [Bo true,I cl,I cc,L 3 (([]:List ZB).map ZB.c),L 1 (v5.map ic),L 1 (([]:V4).map isc)],Bo true],[])=some r))\/(∃(v6:V6) (v7:V4),Ja e13=some (.tup [.agg [.own 0,.own 1],Bo true],[.arr 3 1 true (v6.map ic),.arr 40 1 true (v7.map isc)])/\(some (.tup [.agg [Bo true,I cl,I cc,L 3 (([]:List ZB).map ZB.c),L 1 (v6.map ic),L 1 (v7.map isc)],Bo true],[])=some r))))))):ZdR m p cv cu cp l co n cn cl cc cd i=some r:=by
 unfold ZdR
 try simp only[ZdQ,lpz]
 rw[Zr ZoM.eq_1];simp only[ZdO,VH,ZdP,KZ,Ja,Zn.c_def,Z8.c_def,Zg.c_def,Zo.c_def,Zm.c_def,mpl,dfs,lpz]at h
 try simp only[itb]at h
 try simp only[itf,gS,kk]at h
 rcases h with⟨q1,q2,e1,⟨g3,q3⟩,q4,v,q5,(⟨q6,e3,⟨g7,q7⟩,(⟨q8,e4,⟨g9,q9⟩,q10,e5,⟨g11,q11⟩,v1,q12,e7,⟨g13,q13⟩,v2,q14,v3,q15,h⟩|⟨q8,h⟩)⟩|⟨q6,e10,⟨g16,q16⟩,(⟨q17,e11,⟨g18,q18⟩,v4,q19,h⟩|⟨q17,h⟩)⟩)⟩|⟨q1,q20,e13,⟨g21,q21⟩,(⟨q23,h⟩|⟨v5,q24,h⟩|⟨v6,v7,q25,h⟩)⟩
 all_goals ((try simp only[Zpl]at *);refine Yd ?_ h;clear h;simp +decide[*,-List.map_append,-List.length_append,Zpl,appO,kk,tI,tII,Zzb,ZbI,Zzc,ZdR,ZoN,ZdQ,lpz])
def Z9b{m:Zn}{p:Zg}{cv:Bool}{cu cp:Int}{l:List Zm}{co:List Zo}{n:V6}{cn:Bool}{cl cc:Int}{x:List ZB}{cd i:Int}{r:V3}(h:(if i<(l.length:Int)then(0<=i/\(∃(e1:Zm),l[i.toNat]?=some e1/\(n.length+1<=68719476736/\(∃(v:Int),ZdO m p co (n++[(e1.Rows.length:Int)]) i=some (I v,[])/\(if(w (cd-cl))<v then(∃(e3:Zo),co[i.toNat]?=some e3/\(if 0<=e3.Right then(∃(e4:Zj),p.Steps[i.toNat]?=some e4/\(0<=e3.Left/\(∃(e5:Int),(n++[(e1.Rows.length:Int)])[e3.Left.toNat]?=some e5/\(∃(v1:Int),VH e5=some (I v1,[])/\(∃(e7:Int),(n++[(e1.Rows.length:Int)])[e3.Right.toNat]?=some e7/\(∃(v2:Int),VH e7=some (I v2,[])/\(∃(v3:Int),ZdP m e4.Zs v1 v2 (w (cd-cl))=some (I v3,[])/\(x.length+1<=68719476736/\(some (.tup [.agg [Bo cn,I cd,I cc,L 3 ((x++[(⟨e3.Mask,v3,false⟩:ZB)]).map ZB.c),L 1 (([]:V6).map ic),L 1 (([]:V4).map isc)],Bo true],[])=some r)))))))))else(some (.tup [.agg [Bo cn,I cd,I cc,L 3 (x.map ZB.c),L 1 (([]:V6).map ic),L 1 (([]:V4).map isc)],Bo true],[])=some r)))else(∃(e10:Zo),co[i.toNat]?=some e10/\(if 0<=e10.Right then(∃(e11:Int),(n++[(e1.Rows.length:Int)])[i.toNat]?=some e11/\(∃(v4:Int),KZ e11=some (I v4,[])/\(x.length+1<=68719476736/\(ZbI m p cv cu cp l co (n++[(e1.Rows.length:Int)]) cn (w (cl+v)) (w (cc+1)) (x++[(⟨e10.Mask,v4,true⟩:ZB)]) cd (w (i+1))=some r))))else(ZbI m p cv cu cp l co (n++[(e1.Rows.length:Int)]) cn (w (cl+v)) (w (cc+1)) x cd (w (i+1))=some r))))))))else(0<=(w ((l.length:Int)-1))/\(∃(e13:Zm),l[(w ((l.length:Int)-1)).toNat]?=some e13/\((Ja e13=some (.tup [.agg [.t .nil,.t .nil],Bo false],[])/\(some (.tup [.agg [Bo true,I cl,I cc,L 3 (x.map ZB.c),L 1 (([]:V6).map ic),L 1 (([]:V4).map isc)],Bo true],[])=some r))\/(∃(v5:V6),Ja e13=some (.tup [.agg [.own 0,.t .nil],Bo true],[.arr 3 1 true (v5.map ic)])/\(some (.tup [.agg [Bo true,I cl,I cc,L 3 (x.map ZB.c),L 1 (v5.map ic),L 1 (([]:V4).map isc)],Bo true],[])=some r))\/(∃(v6:V6) (v7:V4),Ja e13=some (.tup [.agg [.own 0,.own 1],Bo true],[.arr 3 1 true (v6.map ic),.arr 40 1 true (v7.map isc)])/\(some (.tup [.agg [Bo true,I cl,I cc,L 3 (x.map ZB.c),L 1 (v6.map ic),L 1 (v7.map isc)],Bo true],[])=some r))))))):ZbI m p cv cu cp l co n cn cl cc x cd i=some r:=by
 unfold ZbI
 try simp only[ZdQ,lpz]
 rw[Zr ZoM.eq_1];simp only[ZdO,VH,ZdP,KZ,Ja,Zn.c_def,Z8.c_def,Zg.c_def,Zo.c_def,Zm.c_def,mpl,dfs,lpz]at h
 try simp only[itb]at h
 try simp only[itf,gS,kk]at h
 rcases h with⟨q1,q2,e1,⟨g3,q3⟩,q4,v,q5,(⟨q6,e3,⟨g7,q7⟩,(⟨q8,e4,⟨g9,q9⟩,q10,e5,⟨g11,q11⟩,v1,q12,e7,⟨g13,q13⟩,v2,q14,v3,q15,q16,h⟩|⟨q8,h⟩)⟩|⟨q6,e10,⟨g17,q17⟩,(⟨q18,e11,⟨g19,q19⟩,v4,q20,q21,h⟩|⟨q18,h⟩)⟩)⟩|⟨q1,q22,e13,⟨g23,q23⟩,(⟨q25,h⟩|⟨v5,q26,h⟩|⟨v6,v7,q27,h⟩)⟩
 all_goals ((try simp only[Zpl]at *);refine Yd ?_ h;clear h;simp +decide[*,-List.map_append,-List.length_append,Zpl,appO,kk,tI,tII,Zzb,ZbI,Zzc,ZoN,ZdQ,lpz])
def ZLN{a a1:Int}{r:V3}(h:(if a1=0 then(some (.tup [.agg [I 0,I 0],Bo false],[])=some r)else(if a<(-9223372036854775807)then(some (.tup [.agg [I 0,I 0],Bo false],[])=some r)else(if a1<(-9223372036854775807)then(some (.tup [.agg [I 0,I 0],Bo false],[])=some r)else(if a1<0 then(∃(v:Int),ZdS (w (0-a))=some (I v,[])/\(∃(v1:Int),ZdT v (w (0-a1))=some (I v1,[])/\(¬v1=0/\(∃(v2:Bool),ZbJ (⟨(w (Int.tdiv (w (0-a)) v1)),(w (Int.tdiv (w (0-a1)) v1))⟩:XO)=some (Bo v2,[])/\(if v2=true then(some (.tup [.agg [I (w (Int.tdiv (w (0-a)) v1)),I (w (Int.tdiv (w (0-a1)) v1))],Bo true],[])=some r)else(some (.tup [.agg [I 0,I 0],Bo false],[])=some r))))))else(∃(v3:Int),ZdS a=some (I v3,[])/\(∃(v4:Int),ZdT v3 a1=some (I v4,[])/\(¬v4=0/\(∃(v5:Bool),ZbJ (⟨(w (Int.tdiv a v4)),(w (Int.tdiv a1 v4))⟩:XO)=some (Bo v5,[])/\(if v5=true then(some (.tup [.agg [I (w (Int.tdiv a v4)),I (w (Int.tdiv a1 v4))],Bo true],[])=some r)else(some (.tup [.agg [I 0,I 0],Bo false],[])=some r))))))))))):ZgC a a1=some r:=by
 unfold ZgC
 try simp only[lpz]
 refine run ZK5 rfl ?_;simp only[ZdS,ZdT,ZbJ,XO.c_def,mpl,dfs,lpz]at h
 try simp only[itb]at h
 try simp only[itf,gS,kk]at h
 rcases h with⟨q1,h⟩|⟨q1,(⟨q2,h⟩|⟨q2,(⟨q3,h⟩|⟨q3,(⟨q4,v,q5,v1,q6,q7,v2,q8,(⟨q9,h⟩|⟨q9,h⟩)⟩|⟨q4,v3,q10,v4,q11,q12,v5,q13,(⟨q14,h⟩|⟨q14,h⟩)⟩)⟩)⟩)⟩
 all_goals (try simp only[Int.zero_sub]at *)
 all_goals (refine Yd ?_ h;clear h;simp +decide[*,kk,tI,tII,Z8c,Z8b,lpz])
def ZLO:((((iM ZgD λa r=>qI (ZoP a) (λu1=>qB (Xb u1 1 10000) (qB (Xb a.Xk 2 8) (qB (Xb a.XL 0 100) (ZeK (ZgC (w ((w ((w (u1*(w (100+a.XL))))*a.Xk))*a.Xk)) (w (100*(w (a.Xk-1))))) (λu5 u6=>r (some (.tup [.agg (u5.c.map .t),Bo u6],[])))) (Zbk r)) (Zbk r)) (Zbk r)))/\
 (iM ZoQ λa a1 a2 r=>(JF a a1 a2=some (.tup [.agg [.t .nil,.t .nil],Bo false],[])/\qi (-1) r)\/(VW (JF a a1 a2) (λu1 u2=>qi (u2.length:Int) r))\/(∃(u1:V6),∃u2,∃(u3:V4),JF a a1 a2=some (.tup [.agg [.own 0,.own 1],Bo true],[.arr 3 1 true (u1.map ic),.arr 40 1 u2 (u3.map isc)])/\qi (u3.length:Int) r)))/\
 ((iM ZgE λd q out m r=>qI (Ub q) (λu1=>if m<=u1 then qB (QN d q) (qB (Za7 q m) (qI (ZoQ d q m) (λu4=>qN out (r (ZgE d q (out++[u4]) (w (m+1)))))) (qN out (r (ZgE d q (out++[0]) (w (m+1)))))) (qs3 out r)else qs3 out r))/\
 (iM Zlf λa a1 r=>r (ZgE a a1 ([]:V6) 0))))/\
 (((iM Zlh λout l i r=>if i<(l.length:Int)then qG l i (λu1=>qI (KZ u1) (λu2=>qN out (r (Zlh (out++[u2]) l (w (i+1))))))else qs3 out r)/\
 (iM Zlg λa a1 r=>qs2 (Zlf a a1) (λu1=>r (Zlh ([]:V6) u1 0))))/\
 ((iM Zlj λout l i r=>if i<(l.length:Int)then qB (ZbD l) (qG l i (λu2=>qI (QL u2) (λu3=>qN out (r (Zlj (out++[u3]) l (w (i+1))))))) (qs3 out r)else qs3 out r)/\
 ((iM Zli λa r=>r (Zlj ([]:V6) a 0))/\
 (iM Zll λsizes i r=>if i<(sizes.length:Int)then qG sizes i (λu1=>qB (Xb u1 0 4096) (r (Zll sizes (w (i+1)))) (qb false r))else qb true r)))))/\
 ((((iM Zlk λa a1 r=>qB (JE a) (qI (Ub a) (λu2=>if(a1.length:Int)=(w (u2+1))then r (Zll a1 0)else qb false r)) (qb false r))/\
 (iM ZgF λq out full m r=>if m<=full then qB (ZbC q m) (qN out (r (ZgF q (out++[m]) full (w (m+1))))) (r (ZgF q out full (w (m+1))))else qs3 out r))/\
 ((iM Zlm λa r=>qI (Ub a) (λu1=>r (ZgF a ([]:V6) u1 1)))/\
 (iM ZdU λq out mask m r=>if m<mask then qL (r (ZdU q out mask (w (m+1)))) λk1=>if(andI m mask)=m then qB (ZbC q m) (qB (ZbC q (w (mask-m))) (qN out (r (ZdU q (out++[m]) mask (w (m+1))))) k1) k1 else k1 else qs3 out r)))/\
 (((iM ZoU λa a1 r=>qB (Za7 a a1) (r (ZdU a ([]:V6) a1 1)) (qs3 ([]:V6) r))/\
 (iM ZgG λout x y i r=>if i<(x.length:Int)then qG x i (λu1=>qB (QM y u1) (qN out (r (ZgG (out++[u1]) x y (w (i+1))))) (r (ZgG out x y (w (i+1)))))else qs3 out r))/\
 ((iM ZdV λa a1 a2 r=>qs2 (Kl a a1) (λu1=>qs2 (Kl a a2) (λu2=>r (ZgG ([]:V6) u1 u2 0))))/\
 ((iM Za8 λq out masks i r=>if i<(masks.length:Int)then qG masks i (λu1=>qs2 (ZoU q u1) (λu2=>r (Zpc q out masks u1 u2 i 0)))else r (some (.own 0,[.arr 442 3 true (out.map X5.c)])))/\
 (iM Zpc λq out masks mask x i k r=>if k<(x.length:Int)then qG x k (λu1=>qG masks i (λu2=>qs2 (ZdV q u1 (w (u2-u1))) (λu3=>r (ZgI q out masks mask x ([u3]) i (w (k+1))))))else qN out (r (Za8 q (out++[(⟨mask,x,[]⟩:X5)]) masks (w (i+1))))))))):=by
 refine qu ?_
 and_intros
 all_goals(intros;unfold Im;(try simp only[ZgD,ZoQ,ZgE,Zlf,Zlh,Zlg,Zlj,Zli,Zll,Zlk,ZgF,Zlm,ZdU,ZoU,ZgG,ZdV,Za8,Zpc,ZoP,Xb,ZgC,ZM.c_def,Box.c_def,XO.c_def,JF,Zp.c_def,Zf.c_def,Ub,QN,Za7,KZ,ZbD,QL,JE,ZbC,QM,Kl,ZgI,lpz,Zpa,Zpb,mpl,dfs]);(try simp only[itb]);(try simp only[itf,gS,kk]))
 all_goals(repeat' first|refine exI λ_=>?_|refine anJ λ_ _=>?_|refine anI λ_=>?_|refine orE2 ?_ ?_|exact False.elim)
 all_goals(intro h;first|refine run ZK6 rfl ?_|refine run ZK7 rfl ?_|rw[Zr Zzm.eq_1]|refine run ZK8 rfl ?_|rw[Zr Zzp.eq_1]|refine run ZK9 rfl ?_|rw[Zr Zzs.eq_1]|refine run ZKA rfl ?_|rw[Zr Zzv.eq_1]|refine run ZKB rfl ?_|rw[Zr Zzx.eq_1]|refine run ZKC rfl ?_|rw[Zr Zzz.eq_1]|refine run ZKD rfl ?_|rw[Zr Zz1.eq_1]|refine run ZKE rfl ?_|rw[Zr ZoZ.eq_1]|rw[Zr ZoW.eq_1])
 all_goals (refine Yd ?_ h;clear h;simp +decide[*,kk,tI,tII,Z8d,Z8e,Z8f,Zzn,Z8g,Zzq,Z8h,Zzt,Z8i,Zzw,Z8j,Z8k,Zzy,Z8l,Z8m,Zz0,Z8n,Z8o,Zz2,Z8p,Zz3,ZoY,ZoX])
abbrev Wn:=uq ZLO
def ZLP:(((iM ZgI λq out masks mask x x1 i k r=>if k<(x.length:Int)then qG x k (λu1=>qG masks i (λu2=>qs2 (ZdV q u1 (w (u2-u1))) (λu3=>qN x1 (r (ZgI q out masks mask x (x1++[u3]) i (w (k+1)))))))else qN out (r (Za8 q (out++[(⟨mask,x,x1⟩:X5)]) masks (w (i+1)))))/\
 ((iM Zln λa r=>qs2 (Zlm a) (λu1=>r (Za8 a ([]:List X5) u1 0)))/\
 (iM ZgJ λout mask i r=>if i<4 then qB (Xb mask 0 15) (¬i<0/\if(andI (shrI mask i) 1)=1 then qN out (r (ZgJ (out++[i]) mask (w (i+1))))else r (ZgJ out mask (w (i+1)))) (qs3 out r)else qs3 out r)))/\
 ((iM Zlo λa r=>r (ZgJ ([]:V6) a 0))/\
 ((iM Zlp λa r=>J5 ([(⟨1,a,0⟩:Zj)]) r)/\
 (iM ZgK λl mask best i r=>if i<(l.length:Int)then qG l i (λu1=>qL (r (ZgK l mask best (w (i+1)))) λk1=>if u1.Mask=mask then qL (r (ZgK l mask i (w (i+1)))) λk2=>if best<0 then k2 else qG l best (λu2=>if u1.Zv<u2.Zv then k2 else k1)else k1)else qi best r))))/\
 (((iM Za9 λa a1 r=>r (ZgK a a1 (-1) 0))/\
 ((iM ZbK λa a1 a2 a3 r=>qM a.Steps (a.Steps.length+a1.Steps.length<=68719476736/\a.Steps.length+a1.Steps.length+1<=68719476736/\J5 ((a.Steps++a1.Steps)++[(⟨a2,0,a3⟩:Zj)]) r))/\
 (iM ZdW λx x1 a a1 a2 a3 a4 a5 r=>Zaf (Qs a a3) (λu1=>qG x a1.Mask (λu2=>qG x a2.Mask (λu3=>qL (orI a1.Mask a2.Mask) λk2=>0<=k2/\∃u4,x[k2.toNat]?=some u4/\qI (Ua u1 u2 u3 u4) (λu5=>0<=(w (a5+1))/\∃u6,x1[(w (a5+1)).toNat]?=some u6/\qL (w ((w (a1.Zv+a2.Zv))+u5)) λk3=>qL (qs7 (ZbK a1.Zg a2.Zg a3 a4) (λu7=>Zm2 x (x1.set ((w (a5+1)).toNat) (⟨k2,a5,k3,(⟨u7⟩:Zg)⟩:Zd)) r)) λk1=>if u6.Mask=0 then k1 else if k3<u6.Zv then k1 else Zm2 x x1 r)))))))/\
 ((iM Zlq λl mask order i r=>if i<(l.length:Int)then qG l i (λu1=>qL (r (Zlq l mask order (w (i+1)))) λk1=>if u1.Mask=mask then if u1.Zl=order then qi i r else k1 else k1)else qi (-1) r)/\
 ((iM ZdX λa a1 a2 r=>r (Zlq a a1 a2 0))/\
 (iM ZgL λa a1 r=>qM a.Steps (qN a.Steps (J5 (a.Steps++[(⟨2,0,a1⟩:Zj)]) r)))))):=by
 refine qu ?_
 and_intros
 all_goals(intros;unfold Im;(try simp only[ZgI,Zln,ZgJ,Zlo,Zlp,ZgK,Za9,ZbK,ZdW,Zlq,ZdX,ZgL,ZdV,Zf.c_def,Zlm,Xb,Qs,Ua,Zn.c_def,Z8.c_def,Zg.c_def,Za8,Zpb,lpz,Zpa,mpl,dfs]);(try simp only[itb]);(try simp only[itf,gS,kk]))
 all_goals(repeat' first|refine exI λ_=>?_|refine anJ λ_ _=>?_|refine anI λ_=>?_|refine orE2 ?_ ?_|exact False.elim)
 all_goals(intro h;first|rw[Zr ZoW.eq_1]|refine run ZKF rfl ?_|rw[Zr Zz4.eq_1]|refine run ZKG rfl ?_|refine run ZKH rfl ?_|rw[Zr Zz6.eq_1]|refine run ZKI rfl ?_|refine run ZKJ rfl ?_|refine W8 Z8M rfl ?_|rw[Zr ZzA.eq_1]|refine run ZKK rfl ?_|refine run ZKL rfl ?_)
 all_goals (refine Yd ?_ h;clear h;simp +decide[*,kk,tI,tII,ZoY,ZoX,Z8q,Z8r,Zz5,Z8s,Z8t,Z8u,Zz7,Z8v,Z8w,Zz8,ZzB,Z8x,Z8y])
abbrev Ue:=uq ZLP
def ZLQ:((iM Zlr λx x1 x2 a a1 Mask Zl Zv a2 a3 a4 r=>Zaf (Qs a a2) (λu1=>qG x a1.Mask (λu2=>qG x Mask (λu3=>qL (orI a1.Mask Mask) λk2=>0<=k2/\∃u4,x[k2.toNat]?=some u4/\qI (Ua u1 u2 u3 u4) (λu5=>0<=(w (a4+1))/\∃u6,x1[(w (a4+1)).toNat]?=some u6/\qL (w ((w (a1.Zv+Zv))+u5)) λk3=>qL (qs7 (ZbK a1.Zg (⟨x2⟩:Zg) a2 a3) (λu7=>ZeE x (x1.set ((w (a4+1)).toNat) (⟨k2,a4,k3,(⟨u7⟩:Zg)⟩:Zd)) x2 r)) λk1=>if u6.Mask=0 then k1 else if k3<u6.Zv then k1 else ZeE x x1 x2 r)))))/\
 (iM Zls λx x1 x2 a Mask Zl Zv a1 a2 a3 a4 r=>Zaf (Qs a a2) (λu1=>qG x Mask (λu2=>qG x a1.Mask (λu3=>qL (orI Mask a1.Mask) λk2=>0<=k2/\∃u4,x[k2.toNat]?=some u4/\qI (Ua u1 u2 u3 u4) (λu5=>0<=(w (a4+1))/\∃u6,x1[(w (a4+1)).toNat]?=some u6/\qL (w ((w (Zv+a1.Zv))+u5)) λk3=>qL (qs7 (ZbK (⟨x2⟩:Zg) a1.Zg a2 a3) (λu7=>ZeE x (x1.set ((w (a4+1)).toNat) (⟨k2,a4,k3,(⟨u7⟩:Zg)⟩:Zd)) x2 r)) λk1=>if u6.Mask=0 then k1 else if k3<u6.Zv then k1 else ZeE x x1 x2 r))))))/\
 ((iM Zlt λx x1 x2 x3 a Mask Zl Zv Mask1 Order1 Cost1 a1 a2 a3 r=>Zaf (Qs a a1) (λu1=>qG x Mask (λu2=>qG x Mask1 (λu3=>qL (orI Mask Mask1) λk2=>0<=k2/\∃u4,x[k2.toNat]?=some u4/\qI (Ua u1 u2 u3 u4) (λu5=>0<=(w (a3+1))/\∃u6,x1[(w (a3+1)).toNat]?=some u6/\qL (w ((w (Zv+Cost1))+u5)) λk3=>qL (qs7 (ZbK (⟨x2⟩:Zg) (⟨x3⟩:Zg) a1 a2) (λu7=>Zm3 x (x1.set ((w (a3+1)).toNat) (⟨k2,a3,k3,(⟨u7⟩:Zg)⟩:Zd)) x2 x3 r)) λk1=>if u6.Mask=0 then k1 else if k3<u6.Zv then k1 else Zm3 x x1 x2 x3 r)))))/\
 (iM ZgM λx fr x1 a a1 a2 r=>qI (Za9 x1 a1) (λu1=>qG x1 u1 (λu2=>qG x a1 (λu3=>qI (Ua a.Zz u3 0 u3) (λu4=>qI (ZdX x1 a1 a2) (λu5=>qL (w (u2.Zv+u4)) λk1=>if 0<=u5 then qH x1 u5 (λu6=>if u6.Zv<=k1 then r (some (.agg (u6.c.map .t),[.arr 3 1 true (x.map ic),.arr 328 4 fr (x1.map Zd.c)]))else qs7 (ZgL u2.Zg a2) (λu7=>r (some (.agg [I a1,I a2,I k1,.own 2],[.arr 3 1 true (x.map ic),.arr 328 4 fr (x1.map Zd.c),.arr 258 3 true (u7.map Zj.c)]))))else qs7 (ZgL u2.Zg a2) (λu6=>r (some (.agg [I a1,I a2,I k1,.own 2],[.arr 3 1 true (x.map ic),.arr 328 4 fr (x1.map Zd.c),.arr 258 3 true (u6.map Zj.c)])))))))))):=by
 refine qu ?_
 and_intros
 all_goals(intros;unfold Im;(try simp only[Zlr,Zls,Zlt,ZgM,Qs,Ua,ZbK,Zn.c_def,Z8.c_def,Zg.c_def,Za9,ZdX,ZgL,Zd.c_def,lpz,mpl,dfs]);(try simp only[itb]);(try simp only[itf,gS,kk]))
 all_goals(repeat' first|refine exI λ_=>?_|refine anJ λ_ _=>?_|refine anI λ_=>?_|refine orE2 ?_ ?_|exact False.elim)
 all_goals(intro h;first|refine W8 Z8M rfl ?_|refine W8 ZKM rfl ?_)
 all_goals (refine Yd ?_ h;clear h;simp +decide[*,kk,tI,tII,Zz8,Z8z])
abbrev ZgW:=uq ZLQ
def ZLR:(((iM ZgN λsizes fr l m x mine k r=>if k<(x.Xf.length:Int)then qG x.Xf k (λu1=>qI (Za9 l u1) (λu2=>qG l u2 (λu3=>qI (Za9 l (w (x.mask-u1))) (λu4=>qG l u4 (λu5=>Zig (ZdW sizes mine m u3 u5 3 0 (-1)) (λu6 u7=>r (ZgO u6 fr l m x u7 u5 k u1 (w (x.mask-u1)) (-1))))))))else r (ZdY mine true ([]:List Zd) sizes fr l 0))/\
 ((iM ZgO λsizes fr l m x mine b k left right o r=>if o<4 then qI (ZdX l left o) (λu1=>if 0<=u1 then qH l u1 (λu2=>Zig (ZdW sizes mine m u2 b 5 0 o) (λu3 u4=>r (ZgO u3 fr l m x u4 b k left right (w (o+1)))))else r (ZgO sizes fr l m x mine b k left right (w (o+1))))else r (ZaA sizes fr l m x mine k left right 0))/\
 (iM ZdY λmine fr out x fr1 x1 o r=>if o<=4 then qG mine o (λu1=>if 0<u1.Mask then qN out (r (ZdY mine false (out++[u1]) x fr1 x1 (w (o+1))))else r (ZdY mine fr out x fr1 x1 (w (o+1))))else r (some (.own 2,[.arr 3 1 true (x.map ic),.arr 328 4 fr1 (x1.map Zd.c),.arr 328 4 fr (out.map Zd.c)])))))/\
 (((iM ZaA λsizes fr l m x mine k left right e r=>qG x.shared k (λu1=>if e<(u1.length:Int)then qG u1 e (λu2=>qL (ZgM sizes fr l m) λk2=>qL (k2 right u2) λk1=>qL (w (e+1)) λk3=>(∃(u3:Zd),k2 left u2=some (.agg (u3.c.map .t),[.arr 3 1 true (sizes.map ic),.arr 328 4 fr (l.map Zd.c)])/\((∃(u4:Zd),k1=some (.agg (u4.c.map .t),[.arr 3 1 true (sizes.map ic),.arr 328 4 fr (l.map Zd.c)])/\Zig (ZdW sizes mine m u3 u4 4 u2 u2) (λu5 u6=>r (ZaA u5 fr l m x u6 k left right k3)))\/(∃(u4:List Zj),∃u5,∃u6,∃u7,k1=some (.agg [I u5,I u6,I u7,.own 2],[.arr 3 1 true (sizes.map ic),.arr 328 4 fr (l.map Zd.c),.arr 258 3 true (u4.map Zj.c)])/\ZmD (Zlr sizes mine u4 m u3 u5 u6 u7 4 u2 u2) (λu8 u9 u10=>r (ZaA u8 fr l m x u9 k left right k3)))))\/(∃(u3:List Zj),∃u4,∃u5,∃u6,k2 left u2=some (.agg [I u4,I u5,I u6,.own 2],[.arr 3 1 true (sizes.map ic),.arr 328 4 fr (l.map Zd.c),.arr 258 3 true (u3.map Zj.c)])/\((∃(u7:Zd),k1=some (.agg (u7.c.map .t),[.arr 3 1 true (sizes.map ic),.arr 328 4 fr (l.map Zd.c)])/\ZmD (Zls sizes mine u3 m u4 u5 u6 u7 4 u2 u2) (λu8 u9 u10=>r (ZaA u8 fr l m x u9 k left right k3)))\/(∃(u7:List Zj),∃u8,∃u9,∃u10,k1=some (.agg [I u8,I u9,I u10,.own 2],[.arr 3 1 true (sizes.map ic),.arr 328 4 fr (l.map Zd.c),.arr 258 3 true (u7.map Zj.c)])/\∃(cl:V6) (cc:List Zd) (cd:List Zj) (cn:List Zj),Zlt sizes mine u3 u7 m u4 u5 u6 u8 u9 u10 4 u2 u2=some (.tup [],[.arr 3 1 true (cl.map ic),.arr 328 4 true (cc.map Zd.c),.arr 258 3 true (cd.map Zj.c),.arr 258 3 true (cn.map Zj.c)])/\r (ZaA cl fr l m x cc k left right k3)))))else r (ZgN sizes fr l m x mine (w (k+1)))))/\
 (iM Zpg λx fr x1 a a1 r=>r (ZgN x fr x1 a a1 (List.replicate 5 (⟨0,0,0,(⟨[]⟩:Zg)⟩:Zd)) 0)))/\
 ((iM ZgP λshapes sizes m q fr out i r=>if i<(shapes.length:Int)then qG shapes i (λu1=>if(andI u1.mask (w (u1.mask-1)))=0 then qs2 (Zlo u1.mask) (λu2=>∃u3,u2[0]?=some u3/\qG q.Zb u3 (λu4=>∃u5,u4.Za[0]?=some u5/\qG sizes u1.mask (λu6=>qI (Ua m.Z1 u6 0 u6) (λu7=>qs7 (Zlp u3) (λu8=>qN out (r (ZgP shapes sizes m q fr (out++[(⟨u1.mask,u5,u7,(⟨u8⟩:Zg)⟩:Zd)]) (w (i+1)))))))))else ∃u2,∃(u3:List Zd),Zpg sizes fr out m u1=some (.own 2,[.arr 3 1 true (sizes.map ic),.arr 328 4 fr (out.map Zd.c),.arr 328 4 u2 (u3.map Zd.c)])/\out.length+u3.length<=68719476736/\r (ZgP shapes sizes m q (fr && flat (u3.map Zd.c)) (out++u3) (w (i+1))))else r (some (.own 2,[.arr 442 3 true (shapes.map X5.c),.arr 3 1 true (sizes.map ic),.arr 328 4 fr (out.map Zd.c)])))/\
 (iM Zpi λx x1 a a1 r=>r (ZgP x x1 a a1 true ([]:List Zd) 0)))))/\
 ((((iM Zpj λx a a1 r=>qL (qs62 x ([]:List Zd) r) λk1=>qB (Za5 a) (qB (Zlk a1 x) (∃(u3:List X5),Zln a1=some (.own 0,[.arr 442 3 true (u3.map X5.c)])/\∃u4,∃(u5:List Zd),Zpi u3 x a a1=some (.own 2,[.arr 442 3 true (u3.map X5.c),.arr 3 1 true (x.map ic),.arr 328 4 u4 (u5.map Zd.c)])/\r (some (.own 1,[.arr 3 1 true (x.map ic),.arr 328 4 u4 (u5.map Zd.c)]))) k1) k1)/\
 (iM ZbL λa a1 r=>qI (Za9 a a1) (λu1=>if u1<0 then Zm9 r else qG a u1 (λu2=>qM u2.Zg.Steps (ZeL u2.Mask u2.Zl u2.Zv u2.Zg.Steps r)))))/\
 ((iM Zpk λx a a1 r=>(∃(u1:V6),∃u2,∃(u3:List Zd),Zpj x a a1=some (.own 1,[.arr 3 1 true (u1.map ic),.arr 328 4 u2 (u3.map Zd.c)])/\qI (Ub a1) (λu4=>(Zc0 (ZbL u3 u4) (λu5 u6 u7=>ZmE u5 u6 u7 u1 r))\/(Zc1 (ZbL u3 u4) (λu5 u6 u7 u8=>ZmF u6 u7 u8 u1 u5 r))))\/(∃(u1:V6) (u2:List Zd),Zpj x a a1=some (.own 1,[.arr 3 1 true (u1.map ic),.arr 328 4 true (u2.map Zd.c)])/\qI (Ub a1) (λu3=>(Zc0 (ZbL u2 u3) (λu4 u5 u6=>ZmE u4 u5 u6 u1 r))\/(Zc1 (ZbL u2 u3) (λu4 u5 u6 u7=>ZmF u5 u6 u7 u1 u4 r)))))/\
 (iM ZzJ λx a a1 r=>(∃(u1:V6),∃u2,∃u3,∃u4,Zpk x a a1=some (.tup [.agg [I u2,I u3,I u4,.t .nil],Bo false],[.arr 3 1 true (u1.map ic)])/\r (some (I (-1),[.arr 3 1 true (u1.map ic)])))\/(∃(u1:V6),∃(u2:List Zj),∃u3,∃u4,∃u5,Zpk x a a1=some (.tup [.agg [I u3,I u4,I u5,.own 1],Bo true],[.arr 3 1 true (u1.map ic),.arr 258 3 true (u2.map Zj.c)])/\r (some (I u5,[.arr 3 1 true (u1.map ic)]))))))/\
 (((iM Zlw λa a1 a2 r=>qs2 (Zli a2) (λu1=>∃(u2:V6),∃u3,ZzJ u1 a a1=some (I u3,[.arr 3 1 true (u2.map ic)])/\qi u3 r))/\
 (iM Zlx λa a1 a2 r=>qs2 (Zlg a1 a2) (λu1=>if(u1.length:Int)=0 then qi (-1) r else qI (Ub a2) (λu2=>qB (Za7 a2 u2) (qI (Zlw a a2 u1) (λu4=>qi u4 r)) (qi (-1) r)))))/\
 ((iM Zly λa a1 a2 r=>qL (qb false r) λk1=>qB (ZbJ a1) (if a1.Num<0 then k1 else qB (Xb a 0 100000000000000) (qB (Xb a2 0 1000000000000) (if 1000000<a1.Num then k1 else if 10000<a1.Den then k1 else qb (decide ((w (a*a1.Den))<=(w (a1.Num*a2)))) r) k1) k1) k1)/\
 (iM ZgQ λa a1 a2 a3 a4 r=>qB (Za5 a) (qB (Zk2 a1 a3.Xh) (qB (QN a1.Zp a2) (qI (Ub a2) (λu4=>qB (Za7 a2 u4) (qB (ZdB a2 a3) (∃(u7:ZW),∃u8,ZkG a1.Zp a2=some (.tup [.agg (u7.c.map .t),Bo u8],[])/\qB (ZkH u7 a4.ZW) (qI (Zgu a4.Ws) (λu10=>if u10=a4.U0 then qB (Zgv a2 a3 a4.Ws) (qI (Zg9 a a1.Zp a2 a3 a4.Ws) (λcc=>if 0<=cc then qi 5 r else ZeK (ZgD a3) (λcd cn=>qI (Zlx a a1.Zp a2) (λu15=>qB (Zly a4.U0 cd u15) (qi 0 r) (qi 6 r))))) (qi 4 r)else qi 3 r)) (qi 2 r)) (qi 1 r)) (qi 1 r))) (qi 1 r)) (qi 1 r)) (qi 1 r))))):=by
 refine qu ?_
 and_intros
 all_goals(intros;unfold Im;(try simp only[ZgN,ZgO,ZdY,ZaA,Zpg,ZgP,Zpi,Zpj,ZbL,Zpk,ZzJ,Zlw,Zlx,Zly,ZgQ,Za9,ZdW,Zn.c_def,Z8.c_def,Zg.c_def,Zd.c_def,ZdX,ZgM,Zlr,Zls,Zlt,Zj.c_def,Zlo,Ua,Zlp,X5.c_def,Za5,Zlk,Zln,Zf.c_def,Ub,Zli,Zlg,Za7,Zp.c_def,ZbJ,Xb,XO.c_def,Zk2,QN,ZdB,ZkG,ZkH,Zgu,Zgv,Zg9,ZgD,ZW.c_def,ZM.c_def,Box.c_def,ZN.c_def,ZR.c_def,Xr.c_def,lpz,mpl,dfs]);(try simp only[itb]);(try simp only[itf,gS,kk]))
 all_goals(repeat' first|refine exI λ_=>?_|refine anJ λ_ _=>?_|refine anI λ_=>?_|refine orE2 ?_ ?_|exact False.elim)
 all_goals(intro h;first|rw[Zr Zlu.eq_1]|rw[Zr ZzC.eq_1]|rw[Zr ZzF.eq_1]|rw[Zr ZzD.eq_1]|refine W8 ZKN rfl ?_|rw[Zr ZzH.eq_1]|refine W8 ZKO rfl ?_|refine W8 ZKP rfl ?_|refine run ZKQ rfl ?_|refine W8 ZKR rfl ?_|refine W8 ZKS rfl ?_|refine run ZKT rfl ?_|refine run ZKU rfl ?_|refine run ZKV rfl ?_|refine run ZKW rfl ?_)
 all_goals (refine Yd ?_ h;clear h;simp +decide[*,kk,tI,tII,Zlv,Z80,ZzE,Z81,ZzG,Zpf,Z82,Z83,ZzI,Z84,Z85,Z86,Z87,Z88,Z89,Z8A,Z8B,Z8C])
abbrev WB:=uq ZLR
@[simp] theorem X0(a b c:Int):ZT a b c=some (Bo (inR a b c),[]):=by
 apply WO.1.1.1.1;by_cases h:b<=a<;>simp[inR,h]
@[simp] theorem Xx(a b c:Int):Xb a b c=some (Bo (inR a b c),[]):=by
 apply WY.1.2.1.2;by_cases h:b<=a<;>simp[inR,h]
def ZLS(xs:V6)(v:Int)(hx:Le xs):∀i,i<=xs.length->
  Zij xs v xs.length i=some (I (XZ (λx=>decide (v=x)) (xs.drop i) i),[]):=by
 refine down _ ?_ ?_
 .apply WO.1.1.2.1;simp[XZ]
 .intro i hi ih;apply WO.1.1.2.1;have h4:=Xd (i:=i) (by omega)
  simp_all [Zii]
@[simp] def Z9c(xs:V6)(v:Int)(hx:Le xs):VZ xs v=some (I (XZ (λx=>decide (v=x)) xs 0),[]):=by
 apply WO.1.1.2.2;have:=ZLS xs v hx 0 (Yc _);simpa using this
@[simp] def ZbP(xs:V6)(v:Int)(hx:Le xs):UU xs v=some (Bo (has xs v),[]):=by
 apply WO.1.2.1.1;unfold has;rcases tf (xs.any (λx=>decide (v=x)))with e|e
 .simp_all [Zrd]
 .simp_all [Z3j]
def ZLT(xs:List Bool)(v:Bool)(hx:Le xs):∀i,i<=xs.length->
  Zik xs v xs.length i=some (I (XZ (λx=>v == x) (xs.drop i) i),[]):=by
 refine down _ ?_ ?_
 .apply WO.1.2.1.2;simp[XZ]
 .intro i hi ih;apply WO.1.2.1.2;have h4:=Xd (i:=i) (by omega)
  simp_all [Zii]
@[simp] def ZLU(xs:List Bool)(v:Bool)(hx:Le xs):ZmO xs v=some (Bo (xs.any (λx=>v == x)),[]):=by
 apply WO.1.2.2.2.1;have q:ZmN xs v=some (I (XZ (λx=>v == x) xs 0),[]):=by
  apply WO.1.2.2.1;have:=ZLT xs v hx 0 (Yc _);simpa using this
 rcases tf (xs.any (λx=>v == x))with e|e
 .simp_all [Zrd]
 .simp_all [Z3j]
def ZLV(xs:V6)(v:Int)(hx:Le xs):∀i,i<=xs.length->ZfZ xs v i=some (Bo (has (xs.drop i) v),[]):=by
 unfold has;refine down _ ?_ ?_
 .simp[WI.2.2.2.2.2]
 .intro i hi ih;apply WI.2.2.2.2.2;have h4:=Xd (i:=i) (by omega);rw[ZFf _ hi];simp at ih;by_cases e:v=xs[i]
  .simp[hi,h4,<-e]
  .have e':¬xs[i]=v:=λhc=>e hc.symm
   simp[hi,h4,e,e',ih]
@[simp] theorem Zea(xs:V6)(v:Int)(hx:Le xs):QM xs v=some (Bo (has xs v),[]):=by
 apply JK.1.1;have:=ZLV xs v hx 0 (Yc _);simpa using this
def Z9d(s:YA)(P:Prop):(if(s.size:Int)=1 then(∃(b1:UInt8),s[0]?=some b1/\(if 97<=(b1.toNat:Int)then(some (Bo (decide ((b1.toNat:Int)<=122)),[])=some (Bo (UT s),([]:V7)))else(some (Bo false,[])=some (Bo (UT s),([]:V7)))))else(some (Bo false,[])=some (Bo (UT s),([]:V7)))):=by
 by_cases h:s.size=1
 .obtain⟨b,hb⟩:=get0 h;rw[Ypx];refine⟨b,hb,?_⟩;have e:UT s=(decide (97<=(b.toNat:Int)) && decide ((b.toNat:Int)<=122)):=by
   unfold UT;rw[hb];simp only[h,decide_true,Yn]
  simp_all
 .have h':¬(s.size:Int)=1:=by omega
  have:UT s=false:=by unfold UT;split<;>simp[h]
  simp[h',this]
@[simp] def ZLW(s:YA):ZeR s=some (Bo (UT s),[]):=WO.1.1.1.2 _ _ (Z9d s True)
@[simp] def Z9e(s:YA):Zb7 s=some (Bo (UT s),[]):=Wl.1.1.2.2 _ _ (Z9d s True)
def LeQ(q:Zf):Prop:=Le q.Zb/\∀a∈q.Zb,Le a.Za
def blB(p:Nat->Bool)(n:Nat):List Bool:=(List.range n).map p
def ZLX(p:Nat->Bool)(n:Nat){v:Int}(h:inR v 0 ((n:Int)-1)=true):(blB p n).set v.toNat true=blB (WU p [v]) n:=by
 simp[inR]at h;apply Ybz
 .simp[blB]
 .intro i h1 h2;simp only[blB,Ybm,Y1,List.length_range]at h1;rw[List.getElem_set];simp only[blB,List.getElem_map,List.getElem_range];by_cases e:v.toNat=i
  .have:(i:Int)=v:=by omega
   simp[e,WU,has,this]
  .have:¬(i:Int)=v:=by omega
   simp[e,WU,has,this]
def ZLY(q:Zf)(n:Nat)(hn:n<=4)(hq:q.Zk=n)(a:Ze)(qa:List Ze)(l j:Int)(hv:Le a.Za)(r:V3):∀k,k<=a.Za.length->∀p,
  (if Vk n (a.Za.take k) (a.Za.drop k)=true then ZcE q (blB (WU p (a.Za.drop k)) n) qa l (w (j+1))=some r else some (Bo false,[])=some r)->
  Zim q (blB p n) a qa l j a.Za a.Za.length k=some r:=by
 refine down _ ?_ ?_
 .intro p h;apply WO.2.1.1.1;simpa[Vk,Zrb]using h
 .intro k hk ih p h;have h4:=Xd (i:=k) (by omega);have hw:w (q.Zk-1)=(n:Int)-1:=by rw[hq];exact ZL (by omega) (by omega)
  have hl:=ZbP (a.Za.take k) a.Za[k] (by simp;omega);apply WO.2.1.1.1;rw[ZmI _ hk]at h;rcases tf (inR a.Za[k] 0 ((n:Int)-1))with e1|e1
  .simp_all
  .rcases tf (has (a.Za.take k) a.Za[k])with e2|e2
   .rw[Zrc p hk]at h;simp only[e1,e2,Yn,Bool.not_false]at h;have ih:=ih _ h;have e0:=e1;simp[inR]at e0;have e5:(a.Za[k]).toNat<(blB p n).length:=by simp[blB];omega
    have e6:=ZLX p n e1;have e7:k<=a.Za.length:=by omega
    simp_all
   .simp[e1,e2]at h;have e7:k<=a.Za.length:=by omega
    simp_all
def ZLZ(q:Zf)(n:Nat)(hn:n<=4)(hq:q.Zk=n)(qa:List Ze)(hl:Le qa)(hv:∀a∈qa,Le a.Za):∀k,k<=qa.length->∀p,
  ZcE q (blB p n) qa qa.length k=some (Bo ((qa.drop k).all (Vu n) && (List.range n).all (U1 p (qa.drop k))),[]):=by
 refine down _ ?_ ?_
 .intro p;apply WO.1.2.2.2.2;have e:U1 p []=p:=by funext u;simp[U1]
  have q1:=ZLU (blB p n) false (by simp[blB];omega);have q2:(blB p n).any (λx=>false == x)=!(List.range n).all p:=bl_any p n
  simp_all
 .intro k hk ih p;apply WO.1.2.2.2.2;have h4:=Xd (i:=k) (by omega);rw[Zag _ hk];rcases tf (UT qa[k].Zq)with e1|e1
  .simp[hk,e1,Vu]
  rcases tf (inR qa[k].Za.length 1 3)with e2|e2
  .simp[hk,e1,e2,Vu]
  have b:=ZLY q n hn hq qa[k] qa qa.length k (hv _ (Ye hk)) (Bo (Vu n qa[k] && (qa.drop (k+1)).all (Vu n) && (List.range n).all (U1 p (qa.drop k))),[]) 0 (Yc _) p ?_
  .simp_all
  .simp only[Yc3,Ym,Vu,e1,e2,Yn]
   simp_all [tf,Yn,Z3k]
@[simp] def ZgX(q:Zf)(h:LeQ q):QF q=some (Bo (Z9 q.Zk q.Zb),[]):=by
 refine ZKZ ?_;unfold Z9;rcases tf (inR q.Zk 1 4)with e1|e1
 .simp[e1]
 rcases tf (inR q.Zb.length 1 4)with e2|e2
 .simp[e1,e2]
 have e0:=e1;simp[inR]at e0;have hn:q.Zk=(q.Zk.toNat:Int):=by omega
 have b:=ZLZ q q.Zk.toNat (by omega) hn q.Zb h.1 h.2 0 (Yc _) (λ_=>false);have r1:q.Zk.toNat<=room:=room2 (by omega);have r2:q.Zk<=room:=by
  omega
 have r3:q.Zk<=140737488355328:=by omega
 have ez:blB (λ_=>false) q.Zk.toNat=List.replicate q.Zk.toNat false:=by
  apply Ybz<;>simp[blB]
 rw[ez,<-hn]at b;simp at b;simp[e1,e2,e0,r1,r2,r3,b];omega
def ZMa(q:Zf)(n:Nat)(c:1<=n)(hn:n<=4)(hq:q.Zk=n)(a:Ze)(j:Int)(hv:Le a.Za)(r:V3):∀k,k<=a.Za.length->∀p,
  (if Vk n (a.Za.take k) (a.Za.drop k)=true then Zgg q (XD (WU p (a.Za.drop k))) (w (j+1))=some r else some (Bo false,[])=some r)->
  Zk4 q a (XD p) j k=some r:=by
 refine down _ ?_ ?_
 .intro p h;apply W6.1.1.1.2;simpa[Vk,Zrb]using h
 .intro k hk ih p h;have h4:=Xd (i:=k) (by omega);have hw:w (q.Zk-1)=(n:Int)-1:=by rw[hq];exact ZL (by omega) (by omega)
  have hl:=Zea (a.Za.take k) a.Za[k] (by simp;omega);have e7:k<=a.Za.length:=by omega
  apply W6.1.1.1.2;rw[ZmI _ hk]at h;rcases tf (inR a.Za[k] 0 ((n:Int)-1))with e1|e1
  .simp_all
  .rcases tf (has (a.Za.take k) a.Za[k])with e2|e2
   .rw[Zrc p hk]at h;simp only[e1,e2,Yn,Bool.not_false]at h;have ih:=ih _ h;have e0:=e1;simp[inR]at e0;have e6:=ZmG p (v:=a.Za[k]) (by simp[inR];omega)
    simp_all
   .simp_all
def Zl2(n:Int)(p:Nat->Bool):Bool:=decide (XD p=w (shlI 1 n-1))
def ZMb(q:Zf)(n:Nat)(c:1<=n)(hn:n<=4)(hq:q.Zk=n)(hl:Le q.Zb)(hv:∀a∈q.Zb,Le a.Za):∀k,k<=q.Zb.length->∀p,
  Zgg q (XD p) k=some (Bo ((q.Zb.drop k).all (Vu n) && Zl2 n (U1 p (q.Zb.drop k))),[]):=by
 refine down _ ?_ ?_
 .intro p;apply W6.1.1.1.1;have e:U1 p []=p:=by funext u;simp[U1]
  have h0:¬(n:Int)<0:=by omega
  simp[e,hq,h0,Zl2]
 .intro k hk ih p;apply W6.1.1.1.1;have h4:=Xd (i:=k) (by omega);rw[Zag _ hk];rcases tf (UT q.Zb[k].Zq)with e1|e1
  .simp[hk,e1,Vu]
  rcases tf (inR q.Zb[k].Za.length 1 3)with e2|e2
  .simp[hk,e1,e2,Vu]
  have b:=ZMa q n c hn hq q.Zb[k] k (hv _ (Ye hk)) (Bo (Vu n q.Zb[k] && (q.Zb.drop (k+1)).all (Vu n) && Zl2 n (U1 p (q.Zb.drop k))),[]) 0 (Yc _) p ?_
  .simp_all
  .simp only[Yc3,Ym,Vu,e1,e2,Yn]
   simp_all [tf,Yn,Z3k]
@[simp] def ZgY(q:Zf)(h:LeQ q):JE q=some (Bo (Z9 q.Zk q.Zb),[]):=by
 apply W6.1.1.2.1;unfold Z9;rcases tf (inR q.Zk 1 4)with e1|e1
 .simp[e1]
 rcases tf (inR q.Zb.length 1 4)with e2|e2
 .simp[e1,e2]
 have e0:=e1;simp[inR]at e0;obtain⟨k,hk⟩:∃k:Nat,q.Zk=k:=⟨q.Zk.toNat,by omega⟩;have b:=ZMb q k (by omega) (by omega) hk h.1 h.2 0 (Yc _) (λ_=>false);have ez:XD (λ_=>false)=0:=rfl;rw[ez]at b;simp only[Ym,Int.ofNat_zero]at b;have e3:(q.Zb.all (Vu k) && Zl2 k (U1 (λ_=>false) q.Zb))=(q.Zb.all (Vu k) && (List.range k).all (U1 (λ_=>false) q.Zb)):=by
  rcases tf (q.Zb.all (Vu k))with e3|e3
  .simp[e3]
  .have hk':k=1\/k=2\/k=3\/k=4:=by omega
   have hz:=all_in e3;have hz':∀u:Nat,k<=u->U1 (λ_=>false) q.Zb u=false:=λu hu=>by simp only[U1,Yda];exact hz u (by omega)
   rw[e3,Yn,Yn,Ybx,Zl2,decide_eq_true_eq,XD];rcases hk' with rfl|rfl|rfl|rfl
   .simp[shlI,ZL,ZmJ,hz' 1 (by omega),hz' 2 (by omega),hz' 3 (by omega),Yb8]
   .simp[shlI,ZL,ZmJ,hz' 2 (by omega),hz' 3 (by omega),Yb8]
   .simp[shlI,ZL,ZmJ,hz' 3 (by omega),Yb8,and_assoc]
   .simp[shlI,ZL,ZmJ,Yb8,and_assoc]
 simp_all
@[simp] def Je(q:Zf)(h:LeQ q):Vd q=some (I (ZX q.Zk q.Zb),[]):=by
 apply Uq.1.1;have q1:=ZgX q h;unfold ZX;rcases tf (Z9 q.Zk q.Zb)with e|e
 .simp[q1,e]
 .have:=(Zc2 e).2.2.1;have h0:¬((q.Zb.length:Int)<0):=by omega
  simp[q1,e,this,h0]
@[simp] theorem Qu(q:Zf)(h:LeQ q):Ub q=some (I (ZX q.Zk q.Zb),[]):=by
 apply W6.1.2.1.2;have q1:=ZgY q h;unfold ZX;rcases tf (Z9 q.Zk q.Zb)with e|e
 .simp[q1,e]
 .have:=(Zc2 e).2.2.1
  simp_all
def ZMc(xs:V6)(hx:Le xs):∀i,i<=xs.length->Zk8 xs i=some (Bo (J6 (xs.drop i) && decide ((xs.length:Int)<=16)),[]):=by
 refine down _ ?_ ?_
 .apply W6.2.2.2.1;simp[J6]
 .intro i hi ih;apply W6.2.2.2.1;have h4:=Xd (i:=i) (by omega);rw[Z3g hi];simp at ih;rcases tf (inR xs[i] 0 7)with h|h<;>simp[hi,h4,h,ih]
@[simp] def Zpo(xs:V6)(hx:Le xs):ZbD xs=some (Bo (Wt xs),[]):=by
 apply W6.2.2.2.2.1;have:=ZMc xs hx 0 (Yc _);simpa[Wt]using this
def ZMd(xs:V6)(hx:Le xs):∀i,i<=xs.length->Zin xs xs xs.length i=some (Bo (J6 (xs.drop i) && decide ((xs.length:Int)<=16)),[]):=by
 refine down _ ?_ ?_
 .apply WO.2.1.1.2;simp[J6]
 .intro i hi ih;apply WO.2.1.1.2;have h4:=Xd (i:=i) (by omega);rw[Z3g hi];simp at ih;rcases tf (inR xs[i] 0 7)with h|h<;>simp[hi,h4,h,ih]
@[simp] def Zpp(xs:V6)(hx:Le xs):ZcF xs=some (Bo (Wt xs),[]):=by
 apply WO.2.1.2.1;have:=ZMd xs hx 0 (Yc _);simpa[Wt]using this
def ZMe(xs ys:V6)(hx:Le xs)(hl:ys.length=xs.length):∀i,i<=xs.length->Zgl xs ys i=some (Bo (Kg (xs.drop i) (ys.drop i)),[]):=by
 refine down _ ?_ ?_
 .apply W6.2.2.2.2.2;simp[Kg]
 .intro i hi ih;apply W6.2.2.2.2.2;have hi2:i<ys.length:=by omega
  have h4:=Xd (i:=i) (by omega);rw[Z3h hi hi2];simp at ih;by_cases h:xs[i]<ys[i]
  .simp[hi,hi2,h4,h,show ¬ys[i]<=xs[i] by omega]
  .simp[hi,hi2,h4,h,show ys[i]<=xs[i] by omega,ih]
@[simp] def ZMf(xs ys:V6)(hx:Le xs):Zoz xs ys=some (Bo (dom xs ys),[]):=by
 apply ZgV.1.1;by_cases hl:ys.length=xs.length
 .have:=ZMe xs ys hx hl 0 (Yc _);simp at this;simp[hl,this,dom]
 .have h2:¬((xs.length:Int)=ys.length):=by omega
  have h1:¬(xs.length=ys.length):=by omega
  simp[h1,h2,dom]
def ZMg(xs ys:V6)(hx:Le xs)(hl:ys.length=xs.length):∀i,i<=xs.length->Zio xs ys xs.length i=some (Bo (Kg (xs.drop i) (ys.drop i)),[]):=by
 refine down _ ?_ ?_
 .apply WO.2.1.2.2;simp[Kg]
 .intro i hi ih;apply WO.2.1.2.2;have hi2:i<ys.length:=by omega
  have h4:=Xd (i:=i) (by omega);rw[Z3h hi hi2];simp at ih;by_cases h:xs[i]<ys[i]
  .simp[hi,hi2,h4,h,show ¬ys[i]<=xs[i] by omega]
  .simp[hi,hi2,h4,h,show ys[i]<=xs[i] by omega,ih]
@[simp] def ZMh(xs ys:V6)(hx:Le xs):ZmS xs ys=some (Bo (dom xs ys),[]):=by
 apply WO.2.2.1.1;by_cases hl:ys.length=xs.length
 .have:=ZMg xs ys hx hl 0 (Yc _);simp at this;simp[hl,this,dom]
 .have h2:¬((xs.length:Int)=ys.length):=by omega
  have h1:¬(xs.length=ys.length):=by omega
  simp[h1,h2,dom]
def LeX(b:Box):Prop:=Le b.Low/\Le b.ZZ
@[simp] def ZMi(b:Box)(h:LeX b):ZmT b=some (Bo (KH b.Low b.ZZ),[]):=by
 apply WO.2.2.1.2;have q1:=Zpp b.Low h.1;have q2:=Zpp b.ZZ h.2;have q3:=ZMh b.ZZ b.Low h.2;unfold KH;rcases tf (Wt b.Low)with e1|e1<;>rcases tf (Wt b.ZZ)with e2|e2<;>by_cases e3:0<b.Low.length<;>simp[q1,q2,q3,e1,e2,e3]
@[simp] def ZMj(b:Box)(h:LeX b):Zo0 b=some (Bo (KH b.Low b.ZZ),[]):=by
 apply ZgV.1.2;have q1:=Zpo b.Low h.1;have q2:=Zpo b.ZZ h.2;have q3:=ZMf b.ZZ b.Low h.2;unfold KH;rcases tf (Wt b.Low)with e1|e1<;>rcases tf (Wt b.ZZ)with e2|e2<;>by_cases e3:0<b.Low.length<;>simp[q1,q2,q3,e1,e2,e3]
def ZMk(b:Box)(hv:KH b.Low b.ZZ=true):∀i,i<=b.Low.length->∀n:Int,1<=n->n<=8 ^ i->
  Zip b n b.Low.length i=some (I (n*vol (b.Low.drop i) (b.ZZ.drop i)),[]):=by
 obtain⟨b1,b2,b3,b4⟩:=Z3t hv;refine down _ ?_ ?_
 .intro n _ _;apply WO.2.2.2.1;rw[Yk,<-b1,Yk,Z3q];simp
 .intro i hi0 ih n hn1 hn2;apply WO.2.2.2.1;have h5:=Xd (i:=i) (by omega);have hi2:i<b.ZZ.length:=by omega
  obtain⟨g1,g2,g3⟩:=b4 i hi0 hi2;have p1:=pow8 (i:=i+1) (by omega);have p2:(8:Int) ^ (i+1)=8 ^ i*8:=Int.pow_succ 8 i;have hd:(b.ZZ[i]-b.Low[i]+1)<=8:=by omega
  have hd1:1<=(b.ZZ[i]-b.Low[i]+1):=by omega
  have m1:n*(b.ZZ[i]-b.Low[i]+1)<=8 ^ i*8:=Int.mul_le_mul hn2 hd (by omega) (by omega);have m2:1<=n*(b.ZZ[i]-b.Low[i]+1):=by
   have:=Int.mul_le_mul hn1 hd1 (by omega) (by omega);omega
  have w1:IntKind.wrap .i64 (b.ZZ[i]-b.Low[i])=b.ZZ[i]-b.Low[i]:=ZL (by omega) (by omega);have w2:IntKind.wrap .i64 (b.ZZ[i]-b.Low[i]+1)=b.ZZ[i]-b.Low[i]+1:=ZL (by omega) (by omega);have w3:IntKind.wrap .i64 (n*(b.ZZ[i]-b.Low[i]+1))=n*(b.ZZ[i]-b.Low[i]+1):=ZL (by omega) (by omega);have ih:=ih (n*(b.ZZ[i]-b.Low[i]+1)) m2 (by omega);rw[Z3r hi0 hi2,<-Int.mul_assoc];simp at ih;simp[hi0,hi2,h5,w1,w2,w3,ih]
@[simp] def ZMl(b:Box)(h:LeX b):Ziq b=some (I (Zc9 b.Low b.ZZ),[]):=by
 apply WO.2.2.2.2.2;have q1:=ZMi b h;unfold Zc9;rcases tf (KH b.Low b.ZZ)with e|e
 .simp[q1,e]
 .have q2:=ZMk b e 0 (Yc _) 1 (by omega) (by decide);have q3:ZmU b=some (I (vol b.Low b.ZZ),[]):=WO.2.2.2.2.1 _ _ (by simpa using q2);simp[q1,q3,e,VX]
def ZMm(b:Box)(hv:KH b.Low b.ZZ=true):∀i,i<=b.Low.length->∀n:Int,1<=n->
  ZkA b (VX n) i=some (I (VX (n*vol (b.Low.drop i) (b.ZZ.drop i))),[]):=by
 obtain⟨b1,b2,b3,b4⟩:=Z3t hv;refine down _ ?_ ?_
 .intro n _;apply ZgV.2.1;rw[Yk,<-b1,Yk,Z3q];simp[b1]
 .intro i hi0 ih n hn1;apply ZgV.2.1;have h5:=Xd (i:=i) (by omega);have hi2:i<b.ZZ.length:=by omega
  obtain⟨g1,g2,g3⟩:=b4 i hi0 hi2;have hd:(b.ZZ[i]-b.Low[i]+1)<=8:=by omega
  have hd1:1<=(b.ZZ[i]-b.Low[i]+1):=by omega
  obtain⟨c1,c2⟩:=cap_le hn1;have m1:VX n*(b.ZZ[i]-b.Low[i]+1)<=401*8:=Int.mul_le_mul c2 hd (by omega) (by omega);have m2:1*1<=VX n*(b.ZZ[i]-b.Low[i]+1):=Int.mul_le_mul c1 hd1 (by omega) (by omega);have m3:1*1<=n*(b.ZZ[i]-b.Low[i]+1):=Int.mul_le_mul hn1 hd1 (by omega) (by omega);have w1:IntKind.wrap .i64 (b.ZZ[i]-b.Low[i])=b.ZZ[i]-b.Low[i]:=ZL (by omega) (by omega);have w2:IntKind.wrap .i64 (b.ZZ[i]-b.Low[i]+1)=b.ZZ[i]-b.Low[i]+1:=ZL (by omega) (by omega);have w3:IntKind.wrap .i64 (VX n*(b.ZZ[i]-b.Low[i]+1))=VX n*(b.ZZ[i]-b.Low[i]+1):=ZL (by omega) (by omega);have ih:=ih (n*(b.ZZ[i]-b.Low[i]+1)) (by omega);rw[<-ZFo hn1 hd1]at ih;rw[Z3r hi0 hi2,<-Int.mul_assoc];simp at ih;simp[hi0,hi2,h5,w1,w2,w3,ZFp,ih]
@[simp] def ZMn(b:Box)(h:LeX b):Zk9 b=some (I (Zc9 b.Low b.ZZ),[]):=by
 apply ZgV.2.2.1;have q1:=ZMj b h;unfold Zc9;rcases tf (KH b.Low b.ZZ)with e|e
 .simp[q1,e]
 .have q2:=ZMm b e 0 (Yc _) 1 (by omega);have e1:VX 1=1:=by decide
  rw[e1]at q2;simp at q2;simp[q1,e,q2]
def ZMo(q:Zf)(m:Int)(hl:Le q.Zb)(hv:∀a∈q.Zb,Le a.Za)(v:Nat)(c:v<8)(out:V6)(ho:out.length<=8)(r:V3):∀i,i<=q.Zb.length->
  ZcG q (out++if Wa m (q.Zb.drop i) i v=true then[(v:Int)]else[]) m (w ((v:Int)+1))=some r->
  Zis q out m v q.Zb q.Zb.length i=some r:=by
 refine down _ ?_ ?_
 .intro h;apply Uq.1.2.2;simpa[Wa]using h
 .intro i hi ih h;apply Uq.1.2.2;have h4:=Xd (i:=i) (by omega);have c1:=ZbP q.Zb[i].Za v (hv _ (Ye hi));have h0:¬(i:Int)<0:=by omega
  rw[Zrf _ hi]at h;by_cases e1:andI (shrI m i) 1=1
  .have e2:Xc m i=true:=by simp[Xc,e1]
   rcases tf (has q.Zb[i].Za v)with e3|e3
   .simp_all
   .simp[e2,e3]at h;have e4:out.length+1<=68719476736:=by omega
    simp_all
  .have e2:Xc m i=false:=by simp[Xc,e1]
   simp_all
def ZMp(q:Zf)(m:Int)(hl:Le q.Zb)(hv:∀a∈q.Zb,Le a.Za)(n:Nat)(hq:q.Zk=n)(hn:n<=4):∀k,k<=n->
  ZcG q (Xo m q.Zb k) m k=some (.own 0,[.arr Xm 1 true ((Xo m q.Zb n).map ic)]):=by
 refine down _ ?_ ?_
 .simp_all [Uq.1.2.1]
 .intro k hk ih;apply Uq.1.2.1;have h4:=Xd (i:=k) (by omega)
  have b:=ZMo q m hl hv k (by omega) (Xo m q.Zb k) (by have:=Zbl m q.Zb k;omega) _ 0 (Yc _) (by
   rw[Ym,<-ZFj,show w ((k:Int)+1)=(k:Int)+1 from h4];simpa using ih)
  simp_all
@[simp] def ZgZ(q:Zf)(m:Int)(h:LeQ q)(hv:Z9 q.Zk q.Zb=true):Ki q m=some (.own 0,[.arr Xm 1 true ((Xo m q.Zb q.Zk.toNat).map ic)]):=by
 apply Uq.2.1.1;have hn:=U2 hv;have b:=ZMp q m h.1 h.2 q.Zk.toNat (by omega) (by omega) 0 (Yc _);simpa[Xo]using b
def l_both(b xs:V6)(hb:Le b)(hx:xs.length<=1000000):∀i,i<=xs.length->
  ZeS ((xs.take i).filter (has b)) b xs xs.length i=some (.own 0,[.arr Xm 1 true ((xs.filter (has b)).map ic)]):=by
 refine down _ ?_ ?_
 .simp[Uq.2.1.2]
 .intro i hi ih;apply Uq.2.1.2;have h4:=Xd (i:=i) (by omega);have c1:=ZbP b xs[i] hb;have e4:((xs.take i).filter (has b)).length+1<=68719476736:=by
   grind
  rw[Zrg _ hi]at ih;rcases tf (has b xs[i])with e|e
  .simp_all
  .simp_all
@[simp] def ZzR(xs b:V6)(hb:Le b)(hx:xs.length<=1000000):Zbo xs b=some (.own 0,[.arr Xm 1 true ((xs.filter (has b)).map ic)]):=by
 apply Uq.2.2.1;have:=l_both b xs hb hx 0 (Yc _);simpa using this
def ZMq(q:Zf)(m:Int)(hv:∀a∈q.Zb,Le a.Za)(c:ZmL q.Zb)(i:Nat)(hi:i<q.Zb.length)(hm:Xc m i=true)(r:V3):∀k,k<=q.Zb[i].Za.length->∀p,
  Zgj q m (XD (WU p (q.Zb[i].Za.drop k))) (w ((i:Int)+1))=some r->Zk6 q m (XD p) i k=some r:=by
 have e1:andI (shrI m i) 1=1:=by simpa[Xc]using hm
 have h0:¬(i:Int)<0:=by omega
 have ha:=Ye hi;refine down _ ?_ ?_
 .simp_all [W6.1.2.2.2.2,Yk,Zrb]
 .intro k hk ih p h;apply W6.1.2.2.2.2;have h4:=Xd (i:=k) (by have:=hv _ ha;omega);have e6:=ZmG p (v:=q.Zb[i].Za[k]) (c _ ha _ (Ye hk));have e7:=c _ ha _ (Ye hk);simp[inR]at e7
  simp_all [Zrc]
def ZMr(q:Zf)(m:Int)(hl:Le q.Zb)(hv:∀a∈q.Zb,Le a.Za)(c:ZmL q.Zb):∀i,i<=q.Zb.length->∀p,
  Zgj q m (XD p) i=some (I (XD (Zaj m p q.Zb i)),[]):=by
 refine down _ ?_ ?_
 .intro p;apply W6.1.2.2.2.1;have e:Zaj m p q.Zb q.Zb.length=p:=by funext u;simp[Zaj,Wa]
  simp[e]
 .intro i hi ih p;apply W6.1.2.2.2.1;have h4:=Xd (i:=i) (by omega);have h0:¬(i:Int)<0:=by omega
  rw[ZFi m p hi];rcases tf (Xc m i)with e|e
  .have e1:¬andI (shrI m i) 1=1:=by simpa[Xc]using e
   simp_all [W6.1.2.2.2.2]
  .have ih:=ih (WU p q.Zb[i].Za);have b:=ZMq q m hv c i hi e _ 0 (Yc _) p (by rw[Ym,show w ((i:Int)+1)=(i:Int)+1 from h4];simpa using ih);simp at b;simp[hi,e,b]
@[simp] def Zeb(q:Zf)(m:Int)(h:LeQ q)(c:ZmL q.Zb):Qt q m=some (I (XD (pV m q.Zb)),[]):=by
 apply W6.2.1.1.1;have b:=ZMr q m h.1 h.2 c 0 (Yc _) (λ_=>false);have ez:XD (λ_=>false)=0:=rfl;have e:Zaj m (λ_=>false) q.Zb 0=pV m q.Zb:=by funext u;simp[Zaj,pV]
 simp_all
def ZMs(q:Zf)(hq:LeQ q)(h:Z9 q.Zk q.Zb=true)(x:Zj)(info:List Zo)(st:V6)(hs:Um info st)(cc:info.length<=100)(cd:st.length<=100) :
  match VE q.Zb x info st with
  |some y=>ZcH q x info st=some (.tup [.agg (y.c.map .t),Bo true],[])
  |none=>∃y:Zo,ZcH q x info st=some (.tup [.agg (y.c.map .t),Bo false],[]):=by
 have hl:=Wg h;have wl:w ((q.Zb.length:Int)-1)=(q.Zb.length:Int)-1:=ZL (by omega) (by omega);unfold VE;by_cases k1:x.Zs=1
 .rw[Ya k1];by_cases c1:inR x.Ze 0 (q.Zb.length-1)=true/\x.Zl=0
  .rw[Ya c1];have c2:=c1.1;simp[inR]at c2;have hlt:x.Ze.toNat<q.Zb.length:=by omega
   have hv:=Zah h _ (Ye hlt);have h0:¬x.Ze<0:=by omega
   simp only;apply Uq.2.2.2;have e:q.Zb[x.Ze.toNat].Za.headD 0=q.Zb[x.Ze.toNat].Za[0]'(by omega):=by
    rw[Ydu,hd0 (by omega)]
   rw[Ydu]at e;simp[k1,wl,c1,h0,hlt,c2,e,show 0<q.Zb[x.Ze.toNat].Za.length by omega]
  .rw[Yb c1];refine⟨⟨0,-1,-1,-1⟩,Uq.2.2.2 _ _ _ _ _ ?_⟩;rcases tf (inR x.Ze 0 (q.Zb.length-1))with e|e
   .simp[k1,wl,e]
   .have e2:¬x.Zl=0:=λhc=>c1 ⟨e,hc⟩
    simp[k1,wl,e,e2]
 rw[Yb k1];by_cases k0:x.Ze=0
 rotate_left
 .rw[Ya k0];exact⟨⟨0,-1,-1,-1⟩,Uq.2.2.2 _ _ _ _ _ (by simp[k1,k0])⟩
 rw[Yb (by simpa using k0)];have w1:w ((st.length:Int)-1)=(st.length:Int)-1:=ZL (by omega) (by omega);have w2:w ((st.length:Int)-2)=(st.length:Int)-2:=ZL (by omega) (by omega);by_cases k2:x.Zs=2
 .rw[Ya k2];by_cases n1:st.length<1
  .have:WL st info 1=none:=by unfold WL;rw[Ynx]
   rw[this];have n1':(st.length:Int)<1:=by omega
   exact⟨⟨0,-1,-1,-1⟩,Uq.2.2.2 _ _ _ _ _ (by simp[k1,k2,k0,n1'])⟩
  .have n1':¬(st.length:Int)<1:=by omega
   obtain⟨s,y,t1,t2,t3,t4⟩:=Zc4 hs (by omega:1<=1) (by omega:1<=st.length);have z1:(0:Int)<=(st.length:Int)-1:=by omega
   have z5:(1:Int)<=(st.length:Int):=by omega
   have z2:((st.length:Int)-1).toNat=st.length-1:=by omega
   have q1:=ZgZ q y.Mask hq h;have q2:=ZbP (Xo y.Mask q.Zb q.Zk.toNat) x.Zl (by have:=Zbl y.Mask q.Zb q.Zk.toNat;have:=U2 h;omega);rw[Zc5 h]at q2;rw[t1];simp only;by_cases c1:vin q.Zb y.Mask x.Zl=true/\y.Zl≠x.Zl
   .rw[Ya c1];apply Uq.2.2.2;simp[k1,k2,k0,n1',w1,z1,z2,z5,t2,t3,t4,q1,q2,c1]
   .rw[Yb c1];refine⟨⟨0,-1,-1,-1⟩,Uq.2.2.2 _ _ _ _ _ ?_⟩;rcases tf (vin q.Zb y.Mask x.Zl)with e|e
    .simp[k1,k2,k0,n1',w1,z1,z2,z5,t2,t3,t4,q1,q2,e]
    .have e2:y.Zl=x.Zl:=Decidable.byContradiction λhc=>c1 ⟨e,hc⟩
     simp[k1,k2,k0,n1',w1,z1,z2,z5,t2,t3,t4,q1,q2,e,e2]
 rw[Yb k2];by_cases n2:st.length<2
 .have:WL st info 2=none:=by unfold WL;rw[Ynx]
  rw[this];have n2':(st.length:Int)<2:=by omega
  exact⟨⟨0,-1,-1,-1⟩,Uq.2.2.2 _ _ _ _ _ (by simp[k1,k2,k0,n2'])⟩
 have n2':¬(st.length:Int)<2:=by omega
 obtain⟨s,y,t1,t2,t3,t4⟩:=Zc4 hs (by omega:1<=2) (by omega:2<=st.length);obtain⟨t,z,u1,u2,u3,u4⟩:=Zc4 hs (by omega:1<=1) (by omega:1<=st.length);have z1:(0:Int)<=(st.length:Int)-1:=by omega
 have z2:((st.length:Int)-1).toNat=st.length-1:=by omega
 have z3:(0:Int)<=(st.length:Int)-2:=by omega
 have z4:((st.length:Int)-2).toNat=st.length-2:=by omega
 have hn:=U2 h;have q1:=ZgZ q y.Mask hq h;have q2:=ZgZ q z.Mask hq h;have l1:=Zbl y.Mask q.Zb q.Zk.toNat;have l2:=Zbl z.Mask q.Zb q.Zk.toNat;have q3:=ZzR (Xo y.Mask q.Zb q.Zk.toNat) (Xo z.Mask q.Zb q.Zk.toNat) (by omega) (by omega)
 have q4:=ZbP ((Xo y.Mask q.Zb q.Zk.toNat).filter (has (Xo z.Mask q.Zb q.Zk.toNat))) x.Zl (by
  have:=Ycn (has (Xo z.Mask q.Zb q.Zk.toNat)) (Xo y.Mask q.Zb q.Zk.toNat);omega)
 rw[ZFl h]at q4;have q5:=ZFk h y.Mask z.Mask;generalize hS:(Xo y.Mask q.Zb q.Zk.toNat).filter (has (Xo z.Mask q.Zb q.Zk.toNat))=S at q3 q4 q5;rw[t1,u1];simp only
 have base:∀(r:V3),(if andI y.Mask z.Mask=0 then
    if((S.length:Int)=0)then some (.tup [.agg [I (orI y.Mask z.Mask),I (-1),I s,I t],Bo false],[])=some r
    else if x.Zs=3 then some (.tup [.agg [I (orI y.Mask z.Mask),I (-1),I s,I t],Bo (decide (x.Zl=0))],[])=some r
    else if x.Zs=5 then some (.tup [.agg [I (orI y.Mask z.Mask),I y.Zl,I s,I t],Bo (decide (x.Zl=0))],[])=some r
    else if x.Zs=4 then
     if(vin q.Zb y.Mask x.Zl && vin q.Zb z.Mask x.Zl)=true then
      if y.Zl=x.Zl then some (.tup [.agg [I (orI y.Mask z.Mask),I x.Zl,I s,I t],Bo (decide (z.Zl=x.Zl))],[])=some r
      else some (.tup [.agg [I (orI y.Mask z.Mask),I x.Zl,I s,I t],Bo false],[])=some r
     else some (.tup [.agg [I (orI y.Mask z.Mask),I x.Zl,I s,I t],Bo false],[])=some r
    else some (.tup [.agg [I (orI y.Mask z.Mask),I (-1),I s,I t],Bo false],[])=some r
   else some (.tup [.agg [I (orI y.Mask z.Mask),I (-1),I s,I t],Bo false],[])=some r)->ZcH q x info st=some r:=by
  intro r hr;apply Uq.2.2.2;simp only[k1,k0,k2,if_false,if_true,n2',w1,w2,z1,z2,z3,z4,t2,t3,t4,u2,u3,u4,q1,q2,true_and,Ybe,exists_eq_left'];refine⟨_,rfl,_,rfl,S,?_,?_⟩
  .simpa using q3
  .simp only[q4,Ybe,Ybr,AV.t.injEq,T.bool.injEq,and_true,exists_eq_left'];simpa using hr
 by_cases c1:andI y.Mask z.Mask=0/\shr q.Zb y.Mask z.Mask=true
 rotate_left
 .rw[Yb c1];refine⟨⟨orI y.Mask z.Mask,-1,s,t⟩,base _ ?_⟩;by_cases c2:andI y.Mask z.Mask=0
  .have c3:S.length=0:=q5.2 (by rcases tf (shr q.Zb y.Mask z.Mask)with e|e;exact e;exact absurd ⟨c2,e⟩ c1);have c4:(S.length:Int)=0:=by omega
   rw[Ya c2,Ya c4];simp
  .rw[Yb c2];simp
 rw[Ya c1];have c4:¬(S.length:Int)=0:=λhc=>by
  have:=q5.1 (by omega);rw[c1.2]at this;cases this
 have c5:¬S=[]:=λhc=>c4 (by simp[hc])
 unfold V0;by_cases j1:x.Zs=3/\x.Zl=0
 .rw[Ya j1];exact base _ (by simp[c1.1,c4,c5,j1])
 rw[Yb j1];by_cases j2:x.Zs=5/\x.Zl=0
 .rw[Ya j2];exact base _ (by simp[c1.1,c4,c5,j2])
 rw[Yb j2];by_cases j3:x.Zs=4/\vin q.Zb y.Mask x.Zl=true/\vin q.Zb z.Mask x.Zl=true/\y.Zl=x.Zl/\z.Zl=x.Zl
 .rw[Ya j3];exact base _ (by simp[c1.1,c4,c5,j3])
 rw[Yb j3];simp only[Option.map_none];by_cases k3:x.Zs=3
 .have e:¬x.Zl=0:=λhc=>j1 ⟨k3,hc⟩
  exact⟨⟨orI y.Mask z.Mask,-1,s,t⟩,base _ (by simp[c1.1,c4,c5,k3,e])⟩
 by_cases k5:x.Zs=5
 .have e:¬x.Zl=0:=λhc=>j2 ⟨k5,hc⟩
  exact⟨⟨orI y.Mask z.Mask,y.Zl,s,t⟩,base _ (by simp[c1.1,c4,c5,k5,e])⟩
 by_cases k4:x.Zs=4
 .refine⟨⟨orI y.Mask z.Mask,x.Zl,s,t⟩,base _ ?_⟩;rcases tf (vin q.Zb y.Mask x.Zl)with e1|e1<;>rcases tf (vin q.Zb z.Mask x.Zl)with e2|e2<;>by_cases e3:y.Zl=x.Zl<;>simp[c1.1,c4,c5,k4,e1,e2,e3];exact λe4=>j3 ⟨k4,e1,e2,e3,e4⟩
 .exact⟨⟨orI y.Mask z.Mask,-1,s,t⟩,base _ (by simp[c1.1,c4,c5,k3,k4,k5])⟩
@[simp] def Zpq(b v:Int):Zd8 b v=some (Bo (inR v 0 3 && decide (andI (shrI b v) 1=1)),[]):=by
 apply ZgV.2.2.2;rcases tf (inR v 0 3)with e|e
 .simp[e]
 .have e0:=e;simp[inR]at e0
  simp_all
def Wh(x:Zj):Option Zo->V3
 |some y=>(.tup [.agg (y.c.map .t),I (Zc6 x)],[])
 |none=>(.tup [.agg [I 0,I 0,I 0,I 0],I (-1)],[])
def ZMt(q:Zf)(hq:LeQ q)(h:Z9 q.Zk q.Zb=true)(x:Zj)(info:List Zo)(st:V6)(hs:Um info st)(cc:info.length<=100)(cd:st.length<=100) :
  Zd9 q x info st=some (Wh x (VE q.Zb x info st)):=by
 have hl:=Wg h;have wl:w ((q.Zb.length:Int)-1)=(q.Zb.length:Int)-1:=ZL (by omega) (by omega);unfold VE;by_cases k1:x.Zs=1
 .rw[Ya k1];by_cases c1:inR x.Ze 0 (q.Zb.length-1)=true/\x.Zl=0
  .rw[Ya c1];have c2:=c1.1;simp[inR]at c2;have hlt:x.Ze.toNat<q.Zb.length:=by omega
   have hv:=Zah h _ (Ye hlt);have h0:¬x.Ze<0:=by omega
   apply XB.1.1.2.1;have e:q.Zb[x.Ze.toNat].Za.headD 0=q.Zb[x.Ze.toNat].Za[0]'(by omega):=by
    grind [hd0]
   rw[Ydu]at e;simp[k1,wl,c1,h0,hlt,c2,e,Wh,Zc6,show 0<q.Zb[x.Ze.toNat].Za.length by omega]
  .rw[Yb c1];apply XB.1.1.2.1;rcases tf (inR x.Ze 0 (q.Zb.length-1))with e|e
   .simp[k1,wl,e,Wh]
   .have e2:¬x.Zl=0:=λhc=>c1 ⟨e,hc⟩
    simp[k1,wl,e,e2,Wh]
 rw[Yb k1];have w1:w ((st.length:Int)-1)=(st.length:Int)-1:=ZL (by omega) (by omega);have w2:w ((st.length:Int)-2)=(st.length:Int)-2:=ZL (by omega) (by omega);by_cases k0:x.Ze=0
 rotate_left
 .rw[Ya k0];apply XB.1.1.2.1;have j:∀b,Zgm q x ⟨0,0,0,0⟩ info st st.length x.Zs b=some (Wh x none):=by
   intro b;refine Zl1 ?_;cases b<;>simp[k0,Wh]
  by_cases k2:x.Zs=2
  .simp[k1,k2,k0,Wh]
  .by_cases k3:x.Zs=3<;>by_cases k4:x.Zs=4<;>simp[k1,k2,k0,k3,k4,j]<;>first|(simp only[k3]at j;simp[j,Wh])|(simp only[k4]at j;simp[j,Wh])|simp[Wh]
 rw[Yb (by simpa using k0)];by_cases k2:x.Zs=2
 .rw[Ya k2];apply XB.1.1.2.1;by_cases n1:st.length<1
  .have:WL st info 1=none:=by unfold WL;rw[Ynx]
   rw[this];have n1':(st.length:Int)<1:=by omega
   simp[k1,k2,k0,n1',Wh]
  .have n1':¬(st.length:Int)<1:=by omega
   obtain⟨s,y,t1,t2,t3,t4⟩:=Zc4 hs (by omega:1<=1) (by omega:1<=st.length);have z1:(0:Int)<=(st.length:Int)-1:=by omega
   have z5:(1:Int)<=(st.length:Int):=by omega
   have z2:((st.length:Int)-1).toNat=st.length-1:=by omega
   have q1:=Zeb q y.Mask hq (Zai h);have q2:(inR x.Zl 0 3 && decide (andI (shrI (XD (pV y.Mask q.Zb)) x.Zl) 1=1))=vin q.Zb y.Mask x.Zl:=by
    unfold vin;rcases tf (inR x.Zl 0 3)with e|e
    .simp[e]
    .rw[e,Yn,Yn,Ybx,decide_eq_true_eq];exact ZmH _ e
   rw[t1];simp only;by_cases e2:y.Zl=x.Zl
   .simp[k1,k2,k0,n1',w1,z1,z2,z5,t2,t3,t4,e2,Wh]
   .rcases tf (vin q.Zb y.Mask x.Zl)with e|e
    .simp only[k1,k2,k0,n1',w1,z1,z2,t2,t3,t4,q1,Zpq,q2,e,e2,if_false,if_true,true_and,Ybe,exists_eq_left',Ybr,AV.t.injEq,T.int.injEq,T.bool.injEq,and_true];simp[Wh]
    .simp only[k1,k2,k0,n1',w1,z1,z2,t2,t3,t4,q1,Zpq,q2,e,e2,if_false,if_true,true_and,Ybe,exists_eq_left',Ybr,AV.t.injEq,T.int.injEq,T.bool.injEq,and_true];simp[Wh,Zc6,k1,k2,e2]
 rw[Yb k2]
 -- a join
 have q0:∀(b:Zo) (c:Zo) (y:Zo) (f:Bool),x.Zs=4->∀m1 m2,ZbE q x ⟨0,0,0,0⟩ b c y (andI (XD (pV m1 q.Zb)) (XD (pV m2 q.Zb))) f =
   if vin q.Zb m1 x.Zl=true/\vin q.Zb m2 x.Zl=true/\b.Zl=x.Zl/\c.Zl=x.Zl then some (.tup [.agg [I y.Mask,I x.Zl,I y.Left,I y.Right],I 2],[])else some (Wh x none):=by
  intro b c y f k4 m1 m2;have e:(inR x.Zl 0 3 && decide (andI (shrI (andI (XD (pV m1 q.Zb)) (XD (pV m2 q.Zb))) x.Zl) 1=1))=(vin q.Zb m1 x.Zl && vin q.Zb m2 x.Zl):=by
   unfold vin;rcases tf (inR x.Zl 0 3)with e|e
   .simp[e]
   .rw[e,Yn,Yn,Yn,Ybx,decide_eq_true_eq,Z3i]
    simp_all [ZmH]
  split
  .simp_all [XB.1.1.1.2,Zpq,k4]
  .rename_i hc;apply XB.1.1.1.2;simp only[Zpq,e];rcases tf (vin q.Zb m1 x.Zl)with e1|e1<;>rcases tf (vin q.Zb m2 x.Zl)with e2|e2<;>by_cases e3:b.Zl=x.Zl<;>by_cases e4:c.Zl=x.Zl<;>simp[k4,e1,e2,e3,e4,Wh]
   simp_all
 have q3:∀(b:Zo) (c:Zo) (y:Zo) (v:Int) (f:Bool),x.Zs≠4->ZbE q x ⟨0,0,0,0⟩ b c y v f=some (.tup [.agg (y.c.map .t),I 2],[]):=by
  intro b c y v f k4;simp[XB.1.1.1.2,k4]
 have q5:∀(b:Zo) (c:Zo) (y:Zo) (v:Int),x.Zs≠4->Zgn q x ⟨0,0,0,0⟩ b c y v=some (.tup [.agg (y.c.map .t),I 2],[]):=by
  intro b c y v k4;simp[XB.1.1.1.1,k4]
 by_cases kk:x.Zs=3\/x.Zs=4\/x.Zs=5
 rotate_left
 .have k3:¬x.Zs=3:=λhc=>kk (.inl hc)
  have k4:¬x.Zs=4:=λhc=>kk (.inr (.inl hc))
  have k5:¬x.Zs=5:=λhc=>kk (.inr (.inr hc))
  have hj:∀y z,V0 q.Zb x y z=none:=by intro y z;simp[V0,k3,k4,k5]
  refine Yd (b:=some (Wh x none)) (XB.1.1.2.1 _ _ _ _ _ (by simp[k1,k2,k3,k4,k5,Wh])) ?_
  grind
 have k5':x.Zs≠3->x.Zs≠4->x.Zs=5:=λa b=>by rcases kk with h|h|h;exact absurd h a;exact absurd h b;exact h
 have red:∀r,Zgm q x ⟨0,0,0,0⟩ info st st.length x.Zs true=some r->(x.Zs=5->Zd9 q x info st=some r)->Zd9 q x info st=some r:=by
  intro r hr h5;by_cases k5:x.Zs=5
  .exact h5 k5
  .grind [XB.1.1.2.1]
 by_cases n2:st.length<2
 .have:WL st info 2=none:=by unfold WL;rw[Ynx]
  rw[this];have n2':(st.length:Int)<2:=by omega
  refine red _ ?_ ?_
  .exact Zl1 (by simp[k0,n2',Wh])
  .intro k5;exact XB.1.1.2.1 _ _ _ _ _ (by simp[k5,k0,n2',Wh])
 have n2':¬(st.length:Int)<2:=by omega
 obtain⟨s,y,t1,t2,t3,t4⟩:=Zc4 hs (by omega:1<=2) (by omega:2<=st.length);obtain⟨t,z,u1,u2,u3,u4⟩:=Zc4 hs (by omega:1<=1) (by omega:1<=st.length);have z1:(0:Int)<=(st.length:Int)-1:=by omega
 have z2:((st.length:Int)-1).toNat=st.length-1:=by omega
 have z3:(0:Int)<=(st.length:Int)-2:=by omega
 have z4:((st.length:Int)-2).toNat=st.length-2:=by omega
 have b1:=Zeb q y.Mask hq (Zai h);have b2:=Zeb q z.Mask hq (Zai h);have b3:=Zri q.Zb y.Mask z.Mask;rw[t1,u1];simp only;by_cases c1:andI y.Mask z.Mask=0
 rotate_left
 .rw[Yb (λhc=>c1 hc.1)];refine red _ ?_ ?_
  .refine Zl1 ?_;simp only[k0,n2',w1,w2,z1,z2,z3,z4,t2,t3,t4,u2,u3,u4,b1,b2,c1,if_true,if_false,true_and,Ybe,exists_eq_left',Ybr,AV.t.injEq,T.int.injEq,and_true];simp[Wh]
  .intro k5;apply XB.1.1.2.1;simp only[k5,k0,n2',w1,w2,z1,z2,z3,z4,t2,t3,t4,u2,u3,u4,b1,b2,c1,if_true,if_false,true_and,Ybe,exists_eq_left',Ybr,AV.t.injEq,T.int.injEq,and_true];simp[Wh]
 rcases tf (shr q.Zb y.Mask z.Mask)with c2|c2
 .rw[Yb (λhc=>by rw[hc.2]at c2;cases c2)];have c3:=b3.2 c2;refine red _ ?_ ?_
  .refine Zl1 ?_;simp only[k0,n2',w1,w2,z1,z2,z3,z4,t2,t3,t4,u2,u3,u4,b1,b2,c1,c3,if_true,if_false,true_and,Ybe,exists_eq_left',Ybr,AV.t.injEq,T.int.injEq,and_true];simp[Wh]
  .intro k5;apply XB.1.1.2.1;simp only[k5,k0,n2',w1,w2,z1,z2,z3,z4,t2,t3,t4,u2,u3,u4,b1,b2,c1,c3,if_true,if_false,true_and,Ybe,exists_eq_left',Ybr,AV.t.injEq,T.int.injEq,and_true];simp[Wh]
 rw[Ya ⟨c1,c2⟩];have c3:¬andI (XD (pV y.Mask q.Zb)) (XD (pV z.Mask q.Zb))=0:=λhc=>by rw[b3.1 hc]at c2;cases c2
 have p2:Zc6 x=2:=by unfold Zc6;rw[Yb k1,Yb k2]
 refine red _ ?_ ?_
 .refine Zl1 ?_;simp only[k0,n2',w1,w2,z1,z2,z3,z4,t2,t3,t4,u2,u3,u4,b1,b2,c1,c3,if_true,if_false,true_and,Ybe,exists_eq_left',Ybr,AV.t.injEq,T.int.injEq,and_true];by_cases k4:x.Zs=4
  .have k3:¬x.Zs=3:=by omega
   have k5:¬x.Zs=5:=by omega
   rw[Ya k4,q0 _ _ _ _ k4];simp only[V0,k3,k4,k5,false_and,true_and,if_false];split
   .rename_i hc;simp[Wh,p2]
   .rfl
  .by_cases e:x.Zl=0
   .by_cases k5:x.Zs=5
    .rw[Yb k4,Ya e,Ya k5,q5 _ _ _ _ k4];simp[V0,k5,e,Wh,p2]
    .have k3:x.Zs=3:=by omega
     rw[Yb k4,Ya e,Yb k5,q3 _ _ _ _ _ k4];simp[V0,k3,e,Wh,p2]
   .rw[Yb k4,Yb e];simp[V0,k4,e,Wh]
 .intro k5;apply XB.1.1.2.1;have k4:x.Zs≠4:=by omega
  simp only[k5,k0,n2',w1,w2,z1,z2,z3,z4,t2,t3,t4,u2,u3,u4,b1,b2,c1,c3,if_true,if_false,true_and,Ybe,exists_eq_left',Ybr,AV.t.injEq,T.int.injEq,and_true];by_cases e:x.Zl=0
  .simp[e,q5 _ _ _ _ k4,V0,k5,Wh,p2]
  .simp[e,V0,k5,Wh]
def ZMu(q:Zf)(hq:LeQ q)(h:Z9 q.Zk q.Zb=true)(p:Zg)(hl:p.Steps.length<=14):∀i,i<=p.Steps.length->∀info st,Um info st->info.length=i->st.length<=i->
  ZkB q p info st i=some (match WM q.Zb (p.Steps.drop i) i info st with
   |some (info',st')=>if st'.length=1 then(.tup [.own 0,Bo true],[.arr ZcC 4 true (info'.map Zo.c)])else(.tup [.own 0,Bo false],[.arr ZcC 4 true []])
   |none=>(.tup [.own 0,Bo false],[.arr ZcC 4 true []])):=by
 refine down _ ?_ ?_
 .intro info st _ _ _;rw[Yk,WM]
  grind [XB.1.1.2.2]
 .intro i hi ih info st hs hil hst;have h5:=Xd (i:=i) (by omega);have s1:=ZMt q hq h p.Steps[i] info st hs (by omega) (by omega);rw[Z3l q.Zb hi];apply XB.1.1.2.2
  cases he:VE q.Zb p.Steps[i] info st with
  |none =>
   rw[he,Wh]at s1;have e0:Zd9 q p.Steps[i] info st=some (.tup [.agg ((⟨0,0,0,0⟩:Zo).c.map .t),I (-1)],[]):=s1;rw[Ypx];refine⟨by omega,_,Yf hi,_,_,e0,?_⟩
   simp
  |some y =>
   rw[he,Wh]at s1;obtain⟨f1,f2,f3⟩:=Zrj hs he;rw[f1]at s1;have hn:=ZeN hs y (st.length-Wu y);rw[hil]at hn;have ih:=ih (info++[y]) (st.take (st.length-Wu y)++[(i:Int)]) hn (by simp[hil]) (Z3m hst _);have w2:w ((st.length:Int)-(Wu y:Int))=(st.length:Int)-(Wu y:Int):=ZL (by omega) (by omega);have z2:((st.length:Int)-(Wu y:Int)).toNat=st.length-Wu y:=by omega
   rw[Ypx];refine⟨by omega,_,Yf hi,_,_,s1,?_⟩
   grind
@[simp] def ZzS(q:Zf)(p:Zg)(hq:LeQ q):Zgo q p=some (match Wv q.Zk q.Zb p.Steps with
  |some info=>(.tup [.own 0,Bo true],[.arr ZcC 4 true (info.map Zo.c)])
  |none=>(.tup [.own 0,Bo false],[.arr ZcC 4 true []])):=by
 apply XB.1.2.1.1;have q1:=ZgY q hq;unfold Wv;rcases tf (Z9 q.Zk q.Zb)with e|e
 .simp[q1,e]
 rcases tf (inR p.Steps.length 1 14)with e2|e2
 .simp[q1,e,e2]
 .have e3:=e2;simp[inR]at e3;have b:=ZMu q hq e p (by omega) 0 (Yc _) [] [] (λs hs=>by cases hs) rfl (Yj _)
  grind [Xx,Option.some.injEq]
def ZMv(q:Zf)(hq:LeQ q)(h:Z9 q.Zk q.Zb=true)(steps:List Zj)(hl:steps.length<=14):∀i,i<=steps.length->∀info st,Um info st->info.length=i->st.length<=i->
  Zit q info st steps steps.length i=some (match WM q.Zb (steps.drop i) i info st with
   |some (info',st')=>if st'.length=1 then(.tup [.own 0,Bo true],[.arr ZcC 4 true (info'.map Zo.c)])else(.tup [.t .nil,Bo false],[])
   |none=>(.tup [.t .nil,Bo false],[])):=by
 refine down _ ?_ ?_
 .intro info st _ _ _;rw[Yk,WM]
  grind [W5.1.1.1.1]
 .intro i hi ih info st hs hil hst;have h5:=Xd (i:=i) (by omega);have s1:=ZMs q hq h steps[i] info st hs (by omega) (by omega);rw[Z3l q.Zb hi];apply W5.1.1.1.1
  cases he:VE q.Zb steps[i] info st with
  |none =>
   rw[he]at s1;obtain⟨y,s1⟩:=s1;rw[Ypx];refine⟨by omega,_,Yf hi,_,_,s1,?_⟩
   simp
  |some y =>
   rw[he]at s1;obtain⟨f1,f2,f3⟩:=Zrj hs he;have hn:=ZeN hs y (st.length-Wu y);rw[hil]at hn;have ih:=ih (info++[y]) (st.take (st.length-Wu y)++[(i:Int)]) hn (by simp[hil]) (Z3m hst _);rw[Ypx];refine⟨by omega,_,Yf hi,_,_,s1,?_⟩;rw[Ya rfl];refine⟨by omega,?_⟩;simp only;unfold Wu at ih f2|-;rw[show w ((i:Int)+1)=(i:Int)+1 from h5];by_cases r:0<=y.Right
   .simp only[Ya r]at ih f2|-
    grind [ZL]
   .simp only[Yb r]at ih f2|-;by_cases l:0<=y.Left
    .simp only[Ya l]at ih f2|-
     grind [ZL]
    .simp only[Yb l]at ih f2|-
     grind
@[simp] theorem Zpr(q:Zf)(p:Zg)(hq:LeQ q):KK q p=some (match Wv q.Zk q.Zb p.Steps with
  |some info=>(.tup [.own 0,Bo true],[.arr ZcC 4 true (info.map Zo.c)])
  |none=>(.tup [.t .nil,Bo false],[])):=by
 apply W5.1.1.1.2;have q1:=ZgX q hq;unfold Wv;rcases tf (Z9 q.Zk q.Zb)with e|e
 .simp[q1,e]
 rcases tf (inR p.Steps.length 1 14)with e2|e2
 .simp[q1,e,e2]
 .have e3:=e2;simp[inR]at e3;have b:=ZMv q hq e p.Steps (by omega) 0 (Yc _) [] [] (λs hs=>by cases hs) rfl (Yj _)
  grind [X0,Option.some.injEq]
@[simp] def ZMw(q:Zf)(p:Zg)(hq:LeQ q):ZmY q p=some (I (Zc8 q.Zk q.Zb p.Steps),[]):=by
 apply W5.1.1.2.1;have q1:=Zpr q p hq;unfold Zc8
 cases he:Wv q.Zk q.Zb p.Steps with
 |none=>rw[he]at q1;exact .inl ⟨q1,rfl⟩
 |some info =>
  obtain⟨l1,l2,l3,l4⟩:=Zc7 he;rw[he]at q1;have hlt:info.length-1<info.length:=by omega
  have w1:w ((info.length:Int)-1)=(info.length:Int)-1:=ZL (by omega) (by omega);have z2:((info.length:Int)-1).toNat=info.length-1:=by omega
  grind
@[simp] def ZMx(q:Zf)(p:Zg)(hq:LeQ q):Zo4 q p=some (I (Zc8 q.Zk q.Zb p.Steps),[]):=by
 apply XB.1.2.1.2;have q1:=ZzS q p hq;unfold Zc8
 cases he:Wv q.Zk q.Zb p.Steps with
 |none=>rw[he]at q1;exact⟨[],false,q1,by simp⟩
 |some info =>
  obtain⟨l1,l2,l3,l4⟩:=Zc7 he;rw[he]at q1;have hlt:info.length-1<info.length:=by omega
  have w1:w ((info.length:Int)-1)=(info.length:Int)-1:=ZL (by omega) (by omega);have z2:((info.length:Int)-1).toNat=info.length-1:=by omega
  refine⟨info,true,q1,?_⟩;rw[Ya rfl,w1,z2];refine⟨by omega,_,Yf hlt,?_⟩
  grind
def ZMy(l:V6)(n:Nat)(hn:n<=1099511627776)(hl:Le l):∀k,k<=l.length->Ziu l n l l.length k=some (Bo (Vk n (l.take k) (l.drop k) && decide (0<l.length)),[]):=by
 have hw:w ((n:Int)-1)=(n:Int)-1:=ZL (by omega) (by omega);refine down _ ?_ ?_
 .apply W5.1.1.2.2;simp[Vk]
 .intro k hk ih;apply W5.1.1.2.2;have h4:=Xd (i:=k) (by omega);have c1:=ZbP (l.take k) l[k] (by simp;omega);have e7:k<=l.length:=by omega
  rw[ZmI _ hk];simp at ih;rcases tf (inR l[k] 0 ((n:Int)-1))with e1|e1
  .simp[hk,h4,hw,e1]
  .rcases tf (has (l.take k) l[k])with e2|e2
   .simp_all
   .simp_all
@[simp] def ZMz(l:V6)(n:Nat)(hn:n<=1099511627776)(hl:Le l):ZmZ l n=some (Bo (Vk n [] l && decide (0<l.length)),[]):=by
 apply W5.1.2.1.1;have:=ZMy l n hn hl 0 (Yc _);simpa using this
@[simp] def ZM0(b s:Int):Zn3 b s=some (I (ZcA b s),[]):=by
 apply WH.1.2.1.1;unfold ZcA;rcases tf (inR b 0 1000000000000)with e1|e1
 .simp[e1]
 rcases tf (inR s 0 100)with e2|e2
 .simp[e1,e2]
 .obtain⟨w1,w2,w3⟩:=Z3u e1 e2;simp[e1,e2,w1,w2,w3]
@[simp] def ZM1(b s:Int):ZoA b s=some (I (ZcA b s),[]):=by
 apply Wd.2.1.2.1;unfold ZcA;rcases tf (inR b 0 1000000000000)with e1|e1
 .simp[e1]
 rcases tf (inR s 0 100)with e2|e2
 .simp[e1,e2]
 .obtain⟨w1,w2,w3⟩:=Z3u e1 e2;simp[e1,e2,w1,w2,w3]
def ZM2(xs:V6)(v:Int)(hx:Le xs):∀i,i<=xs.length->ZkK xs v i=some (I (XZ (λx=>decide (v=x)) (xs.drop i) i),[]):=by
 refine down _ ?_ ?_
 .apply Wd.2.1.2.2;simp[XZ]
 .intro i hi ih;apply Wd.2.1.2.2;have h4:=Xd (i:=i) (by omega);rw[Zii _ hi];simp at ih;by_cases e:v=xs[i]
  .simp[hi,h4,<-e]
  .have e':¬xs[i]=v:=λhc=>e hc.symm
   simp[hi,h4,e,e',ih]
@[simp] def Z9f(xs:V6)(v:Int)(hx:Le xs):U7 xs v=some (I (XZ (λx=>decide (v=x)) xs 0),[]):=by
 apply Wd.2.2.1.1;have:=ZM2 xs v hx 0 (Yc _);simpa using this
def ZM3(b:ZM)(hl:LeB b):∀k,k<=b.ZO.length->
  ZeU b b.ZO b.ZO.length k=some (Bo ((b.ZO.drop k).all (Qo b.Xl.length) && (decide (0<b.ZQ.length) && decide (b.ZO.length=b.ZQ.length))),[]):=by
 obtain⟨l1,l2,l3,l4,l5,l6⟩:=hl;refine down _ ?_ ?_
 .apply W5.1.2.2.2.1
  simp_all [Int.natCast_inj]
 .intro k hk ih;apply W5.1.2.2.2.1;have h4:=Xd (i:=k) (by omega);have c1:=ZMz b.ZO[k] b.Xl.length l4 (l6 _ (Ye hk));rw[Zag _ hk];simp only[Qo]at ih|-;simp only[Yx,Yy]at ih;generalize hd:(Vk (b.Xl.length) [] b.ZO[k] && decide (0<b.ZO[k].length))=d at c1|-;rw[Ypx];refine⟨by omega,_,Yf hk,d,c1,?_⟩
  simp_all
def ZM4(b:ZM)(hr:inR b.Xk 2 8=true)(hl:LeB b)(c:Bool)(hc:ZeU b b.ZO b.ZO.length 0=some (Bo c,[])):∀k,k<=b.ZQ.length->(∀p,VY b.ZQ k=some p->inR p 1 500000000000=true)->
  ZeT b b.ZQ b.ZQ.length k=some (Bo (KJ b.Xk (VY b.ZQ k) (b.ZQ.drop k) && c),[]):=by
 obtain⟨l1,l2,l3,l4,l5,l6⟩:=hl;refine down _ ?_ ?_
 .intro _;apply W5.1.2.2.1;rw[Ynx,hc];simp[KJ]
 .intro k hk ih hp;apply W5.1.2.2.1;have h4:=Xd (i:=k) (by omega);rw[Z3v _ _ hk];rcases tf (inR b.ZQ[k] 1 500000000000)with e1|e1
  .simp[hk,e1]
  have pk:VY b.ZQ (k+1)=some b.ZQ[k]:=by simp[VY,Yf hk]
  rw[pk]at ih;have ih:=ih (λp h=>by cases h;exact e1);simp only[Yx,Yy]at ih
  cases k with
  |zero =>
   simp at ih
   simp[hk,e1,VY,ZeO,ih,show w 1=1 by decide]
  |succ j =>
   have hj:j<b.ZQ.length:=by omega
   have hpj:VY b.ZQ (j+1)=some b.ZQ[j]:=by simp[VY,Yf hj]
   have hb:=hp _ hpj;rw[hpj];simp only[ZeO];simp[inR]at hb hr;have m1:b.Xk*b.ZQ[j]<=8*500000000000:=Int.mul_le_mul hr.2 hb.2 (by omega) (by omega);have m2:0<=b.Xk*b.ZQ[j]:=Int.mul_nonneg (by omega) (by omega);have w1:w (b.Xk*b.ZQ[j])=b.Xk*b.ZQ[j]:=ZL (by omega) (by omega);have w2:w (((j+1:Nat):Int)-1)=j:=by rw[show((j+1:Nat):Int)-1=j by omega];exact ZL (by omega) (by omega)
   rw[Ypx];refine⟨by omega,b.ZQ[j+1],by rw[Yh];exact Yf hk,true,by rw[X0,e1],?_⟩
   grind
def ZM5(q:Zf)(b:ZM)(hq:LeQ q)(hl:LeB b)(c:Bool)(hc:ZeT b b.ZQ b.ZQ.length 0=some (Bo c,[])):∀k,k<=b.Xl.length->
  Ziv q b b.Xl b.Xl.length k=some (Bo ((b.Xl.drop k).all (ZcB q.Zk q.Zb) && c),[]):=by
 obtain⟨l1,l2,l3,l4,l5,l6⟩:=hl;refine down _ ?_ ?_
 .simp_all [W5.1.2.1.2]
 .intro k hk ih;apply W5.1.2.1.2;have h4:=Xd (i:=k) (by omega);have q1:=ZMw q b.Xl[k] hq;have q2:=Je q hq;rw[Zag _ hk];simp at ih;by_cases e:Zc8 q.Zk q.Zb b.Xl[k].Steps=ZX q.Zk q.Zb
  .simp[hk,h4,q1,q2,e,ih,ZcB]
  .simp[hk,h4,q1,q2,e,ZcB]
@[simp] def Z9g(q:Zf)(b:ZM)(hq:LeQ q)(hl:LeB b):ZcJ q b=some (Bo (Qp q.Zk q.Zb b),[]):=by
 apply W5.1.2.2.2.2;have q1:=ZgX q hq;have q2:=Je q hq;have q3:=ZMl b.Box ⟨hl.1,hl.2.1⟩;have q4:=ZmK q.Zk q.Zb;unfold Qp Zrk;rcases tf (Z9 q.Zk q.Zb)with e1|e1
 .simp[q1,e1]
 rcases tf (inR b.Xh 1 999)with e2|e2
 .simp[q1,e1,e2]
 rcases tf (inR b.Xk 2 8)with e3|e3
 .simp[q1,e1,e2,e3]
 rcases tf (inR b.XL 0 100)with e4|e4
 .simp[q1,e1,e2,e3,e4]
 rcases tf (inR (Zc9 b.Box.Low b.Box.ZZ) 1 400)with e5|e5
 .simp_all
 by_cases e6:(b.Box.Low.length:Int)=ZX q.Zk q.Zb+1
 .have r2:=ZM3 b hl 0 (Yc _);have r1:=ZM4 b e3 hl _ r2 0 (Yc _) (λp h=>by simp[VY]at h);have r0:=ZM5 q b hq hl _ r1 0 (Yc _);simp only[Ym,VY,Int.ofNat_zero]at r0
  simp_all [X0,Ybe,Bool.and_assoc]
 .simp_all
def ZM6(b:ZM)(hl:LeB b)(k:Nat)(hk:k<b.ZO.length)(r:V3):∀i,i<=b.ZO[k].length->
  (if Vk b.Xl.length (b.ZO[k].take i) (b.ZO[k].drop i)=true then ZdC b (w ((k:Int)+1))=some r else some (Bo false,[])=some r)->
  ZdD b k i=some r:=by
 obtain⟨l1,l2,l3,l4,l5,l6⟩:=hl;have l7:=l6 _ (Ye hk);have hw:w ((b.Xl.length:Int)-1)=(b.Xl.length:Int)-1:=ZL (by omega) (by omega);refine down _ ?_ ?_
 .intro h;apply XB.2.1.1.1;simp[Vk]at h;simp[hk,h]
 .intro i hi ih h;apply XB.2.1.1.1;have h4:=Xd (i:=i) (by omega);have c1:=Zea (b.ZO[k].take i) b.ZO[k][i] (by simp;omega);have e7:i<=b.ZO[k].length:=by omega
  rw[ZmI _ hi]at h;simp at ih;rcases tf (inR b.ZO[k][i] 0 ((b.Xl.length:Int)-1))with e1|e1
  .simp_all
  .rcases tf (has (b.ZO[k].take i) b.ZO[k][i])with e2|e2
   .simp_all
   .simp_all
def ZM7(b:ZM)(hr:inR b.Xk 2 8=true)(hl:LeB b)(hc:b.ZO.length=b.ZQ.length):∀k,k<=b.ZQ.length->(∀p,VY b.ZQ k=some p->inR p 1 500000000000=true)->
  ZdC b k=some (Bo (KJ b.Xk (VY b.ZQ k) (b.ZQ.drop k) && (b.ZO.drop k).all (Qo b.Xl.length)),[]):=by
 have hl':=hl;obtain⟨l1,l2,l3,l4,l5,l6⟩:=hl;refine down _ ?_ ?_
 .intro _;apply XB.1.2.2.2;rw[Ynx,<-hc,Yk,hc,Yk];simp[KJ]
 .intro k hk ih hp;have hk2:k<b.ZO.length:=by omega
  have h4:=Xd (i:=k) (by omega);rw[Z3v _ _ hk,Zag _ hk2];rcases tf (inR b.ZQ[k] 1 500000000000)with e1|e1
  .apply XB.1.2.2.2;simp[hk,e1]
  have pk:VY b.ZQ (k+1)=some b.ZQ[k]:=by simp[VY,Yf hk]
  rw[pk]at ih;have ih:=ih (λp h=>by cases h;exact e1)
  have tail:∀pr:Bool,pr=true->(∀x,b.ZO[k]?=some x->(if(x.length:Int)=0 then some (Bo false,[])=some (Bo (inR b.ZQ[k] 1 500000000000 && pr && KJ b.Xk (some b.ZQ[k]) (b.ZQ.drop (k+1)) && (Qo b.Xl.length b.ZO[k] && (b.ZO.drop (k+1)).all (Qo b.Xl.length))),([]:V7))
    else ZdD b k 0=some (Bo (inR b.ZQ[k] 1 500000000000 && pr && KJ b.Xk (some b.ZQ[k]) (b.ZQ.drop (k+1)) && (Qo b.Xl.length b.ZO[k] && (b.ZO.drop (k+1)).all (Qo b.Xl.length))),[]))):=by
   intro pr hpr x hx;rw[Yf hk2]at hx;cases hx;rw[hpr,e1];by_cases e3:b.ZO[k].length=0
   .rw[Ypx];simp[Qo,e3]
   .rw[Ynx];refine ZM6 b hl' k hk2 _ 0 (Yc _) ?_;rw[Yc3,Ym,show w ((k:Int)+1)=(k:Int)+1 from h4];rcases tf (Vk b.Xl.length [] b.ZO[k])with e4|e4
    .simp[e4,Qo]
    .rw[Ya e4];simp only[Yx,Yy]at ih;rw[ih];have e5:0<b.ZO[k].length:=by omega
     simp[Qo,e4,e5]
  apply XB.1.2.2.2;rw[Ypx];refine⟨by omega,b.ZQ[k],by rw[Yh];exact Yf hk,true,by rw[Xx,e1],?_⟩;rw[Ya rfl]
  cases k with
  |zero =>
   rw[Ynx];refine⟨b.ZO[0],by simp,?_⟩;have:=tail true rfl b.ZO[0] (by simp);simp only[VY,ZeO]
   exact this
  |succ j =>
   have hj:j<b.ZQ.length:=by omega
   have hpj:VY b.ZQ (j+1)=some b.ZQ[j]:=by simp[VY,Yf hj]
   have hb:=hp _ hpj;rw[hpj];simp only[ZeO];simp[inR]at hb hr;have m1:b.ZQ[j]*b.Xk<=500000000000*8:=Int.mul_le_mul hb.2 hr.2 (by omega) (by omega);have m2:0<=b.ZQ[j]*b.Xk:=Int.mul_nonneg (by omega) (by omega);have w1:w (b.ZQ[j]*b.Xk)=b.ZQ[j]*b.Xk:=ZL (by omega) (by omega);have w2:w (((j+1:Nat):Int)-1)=j:=by rw[show((j+1:Nat):Int)-1=j by omega];exact ZL (by omega) (by omega)
   rw[Ypx,w2];refine⟨by omega,b.ZQ[j],by rw[Yh];exact Yf hj,?_⟩;rw[w1];by_cases e2:b.ZQ[j+1]=b.ZQ[j]*b.Xk
   .simp_all
   .simp_all
def ZM8(q:Zf)(b:ZM)(hq:LeQ q)(hl:LeB b)(c:Bool)(hc:ZdC b 0=some (Bo c,[])):∀k,k<=b.Xl.length->
  Zgp q b k=some (Bo (((b.Xl.drop k).all λp=>ZcB q.Zk q.Zb p && decide (ZX q.Zk q.Zb≠0)) && c),[]):=by
 obtain⟨l1,l2,l3,l4,l5,l6⟩:=hl;refine down _ ?_ ?_
 .simp_all [XB.1.2.2.1]
 .intro k hk ih;apply XB.1.2.2.1;have h4:=Xd (i:=k) (by omega);have q1:=ZMx q b.Xl[k] hq;have q2:=Qu q hq;rw[Zag _ hk];simp at ih;by_cases e:Zc8 q.Zk q.Zb b.Xl[k].Steps=ZX q.Zk q.Zb
  .by_cases e2:ZX q.Zk q.Zb=0
   .simp_all
   .simp[hk,h4,q1,q2,e,e2,ih,ZcB]
  .simp[hk,h4,q1,q2,e,ZcB]
def ZM9:∀c:V6,Qo 0 c=false
 |[]=>by simp[Qo]
 |v::c=>by
  have:inR v 0 (-1)=false:=by simp[inR];omega
  simp[Qo,Vk,this]
@[simp] def Z9h(q:Zf)(b:ZM)(hq:LeQ q)(hl:LeB b):ZdB q b=some (Bo (Qp q.Zk q.Zb b),[]):=by
 apply XB.2.1.1.2;have q2:=Qu q hq;have q3:=ZMn b.Box ⟨hl.1,hl.2.1⟩;have q4:=ZmK q.Zk q.Zb;unfold Qp Zrk;rcases tf (inR b.Xh 1 999)with e2|e2
 .simp[e2]
 rcases tf (inR b.Xk 2 8)with e3|e3
 .simp[e2,e3]
 rcases tf (inR b.XL 0 100)with e4|e4
 .simp[e2,e3,e4]
 by_cases e6:(b.Box.Low.length:Int)=ZX q.Zk q.Zb+1
 rotate_left
 .simp_all
 rcases tf (inR (Zc9 b.Box.Low b.Box.ZZ) 1 400)with e5|e5
 .simp_all
 simp only[q2,q3,e2,e3,e4,e5,Xx,Ybe,Ybr,AV.t.injEq,T.bool.injEq,T.int.injEq,true_and,and_true,exists_eq_left',if_true];rw[show w (ZX q.Zk q.Zb+1)=ZX q.Zk q.Zb+1 from q4,Ya e6,decide_eq_true e6];by_cases e7:b.ZQ.length=0
 .simp_all
 rw[Ynx];by_cases e8:b.ZO.length=b.ZQ.length
 rotate_left
 .grind
 rw[Ypx,decide_eq_true e8];have r2:=ZM7 b e3 hl e8 0 (Yc _) (λp h=>by simp[VY]at h);have r0:=ZM8 q b hq hl _ r2 0 (Yc _);simp only[Ym,VY]at r0;have r0:Zgp q b 0=_:=r0;rw[r0];have e9:decide (0<b.ZQ.length)=true:=decide_eq_true (by omega);rw[e9];rcases tf (Z9 q.Zk q.Zb)with e1|e1
 .have e5':ZX q.Zk q.Zb=0:=by unfold ZX;rw[e1];rfl
  rw[e1,e5'];simp only[ne_eq,not_true_eq_false,decide_false,Bool.and_false,Yc4]
  cases hp:b.Xl with
  |cons p ps=>simp
  |nil =>
   cases hcs:b.ZO with
   |nil=>rw[hcs]at e8;simp at e8;omega
   |cons c cs=>simp[ZM9]
 .have e5':=ZmM e1
  grind
def Zec(xs:List ZR):Nat->Option ZR
 |0=>none
 |k+1=>xs[k]?
def Qv(b:ZM)(x:ZR)(p:Int):Int:=match b.ZO[x.Xw.toNat]? with
 |some c=>XZ (λy=>decide (p=y)) c 0
 |none=>-1
def Zha(b:ZM)(n i:Nat)(x:ZR):Bool :=
 inR x.Xw 0 ((b.ZO.length:Int)-1) &&
 (match b.ZQ[x.Xw.toNat]? with|some e=>decide (x.Vs=ZcA e b.XL)|none=>false) &&
 decide (x.Vi=decide ((i:Int)=(n:Int)-1)) && decide (0<=Qv b x x.Zg)
def ZbQ(b:ZM)(x:ZR):Option ZR->Bool
 |none=>true
 |some y=>decide (y.Xw<x.Xw) || (decide (y.Xw=x.Xw) && decide (Qv b x y.Zg<Qv b x x.Zg))
def ZMA(b:ZM)(hl:LeB b)(hc:b.ZO.length=b.ZQ.length)(xs:List ZR)(hx:Le xs)(i:Nat)(hi:i<xs.length) :
  Zn4 b xs i=some (Bo (Zha b xs.length i xs[i] && ZbQ b xs[i] (Zec xs i)),[]):=by
 obtain⟨l1,l2,l3,l4,l5,l6⟩:=hl;apply WH.1.2.1.2;have w1:w ((b.ZO.length:Int)-1)=(b.ZO.length:Int)-1:=ZL (by omega) (by omega);have w2:w ((xs.length:Int)-1)=(xs.length:Int)-1:=ZL (by omega) (by omega);have hg:xs[((i:Nat):Int).toNat]?=some xs[i]:=by rw[Yh];exact Yf hi
 refine⟨by omega,xs[i],hg,_,X0 _ _ _,?_⟩;rw[w1];unfold Zha;generalize xs[i]=x;rcases tf (inR x.Xw 0 ((b.ZO.length:Int)-1))with e1|e1
 .rw[e1];simp
 rw[e1,Ya rfl];have e0:=e1;simp[inR]at e0;have g1:x.Xw.toNat<b.ZQ.length:=by omega
 have g2:x.Xw.toNat<b.ZO.length:=by omega
 refine⟨by omega,_,Yf g1,_,ZM0 _ _,?_⟩;rw[Yf g1];simp only;by_cases e2:x.Vs=ZcA b.ZQ[x.Xw.toNat] b.XL
 rotate_left
 .simp_all
 rw[Ya e2,decide_eq_true e2,w2];by_cases e3:x.Vi=decide ((i:Int)=(xs.length:Int)-1)
 rotate_left
 .simp_all
 rw[Ya e3,decide_eq_true e3];have c6:=l6 _ (Ye g2);have p1:∀p,Qv b x p=XZ (λy=>decide (p=y)) b.ZO[x.Xw.toNat] 0:=by intro p;unfold Qv;rw[Yf g2]
 refine⟨_,Yf g2,_,Z9c _ _ c6,?_⟩;rw[<-p1];by_cases e4:Qv b x x.Zg<0
 .grind
 rw[Yb e4,decide_eq_true (by omega)]
 cases i with
 |zero=>rw[Ypx];simp[Zec,ZbQ]
 |succ j =>
  have hj:j<xs.length:=by omega
  have w3:w (((j+1:Nat):Int)-1)=j:=by rw[show((j+1:Nat):Int)-1=j by omega];exact ZL (by omega) (by omega)
  rw[Ynx,w3];refine⟨by omega,xs[j],by rw[Yh];exact Yf hj,?_⟩;have e5:Zec xs (j+1)=some xs[j]:=Yf hj;rw[e5];simp only[ZbQ]
  simp_all
def Jf(b:ZM)(xs:List ZR):Nat->Nat->Bool
 |_,0=>true
 |i,k+1=>(match xs[i]? with|some x=>Zha b xs.length i x && ZbQ b x (Zec xs i)|none=>false) && Jf b xs (i+1) k
def ZMB(b:ZM)(hl:LeB b)(hc:b.ZO.length=b.ZQ.length)(xs:List ZR)(hx:Le xs):∀i,i<=xs.length->
  Zjc b xs xs.length i=some (Bo (Jf b xs i (xs.length-i)),[]):=by
 refine down _ ?_ ?_
 .apply WH.1.2.2.1;rw[Ynx,Ycc];simp[Jf]
 .intro i hi ih;apply WH.1.2.2.1;have h4:=Xd (i:=i) (by omega);rw[Ypx];refine⟨_,ZMA b hl hc xs hx i hi,?_⟩;rw[show xs.length-i=(xs.length-(i+1))+1 by omega,Jf,Yf hi]
  simp_all
def ZMC(q:Zf)(b:ZM)(xs:List ZR)(hq:LeQ q)(hl:LeB b)(hx:Le xs) :
  Zfs q b xs=some (Bo (Qp q.Zk q.Zb b && (decide (xs≠[]) && Jf b xs 0 xs.length)),[]):=by
 apply WH.1.2.2.2;refine⟨_,Z9g q b hq hl,?_⟩;rcases tf (Qp q.Zk q.Zb b)with e|e
 .rw[e];simp
 rw[e,Ya rfl];have hc:b.ZO.length=b.ZQ.length:=by
  simp only[Qp,Yg,decide_eq_true_eq]at e;exact e.2.2
 by_cases e2:xs=[]
 .subst e2;simp
 .have e3:¬(xs.length:Int)=0:=λhc=>e2 (Ydj.1 (by omega))
  rw[Yb e3];have:=ZMB b hl hc xs hx 0 (Yc _)
  simp_all
def Zed(b:ZM)(c x:Int):Option ZR->Prop
 |none=>c=0/\x=-1
 |some y=>c=y.Xw/\x=Qv b y y.Zg/\0<=y.Xw
def ZMD(b:ZM)(hl:LeB b)(hc:b.ZO.length=b.ZQ.length)(xs:List ZR)(hx:Le xs):∀i,i<=xs.length->∀last x,Zed b last x (Zec xs i)->
  ZkL b xs last x i=some (Bo (Jf b xs i (xs.length-i) && decide (0<xs.length)),[]):=by
 obtain⟨l1,l2,l3,l4,l5,l6⟩:=hl;have w1:w ((b.ZQ.length:Int)-1)=(b.ZO.length:Int)-1:=by rw[hc];exact ZL (by omega) (by omega)
 have w2:w ((xs.length:Int)-1)=(xs.length:Int)-1:=ZL (by omega) (by omega);refine down _ ?_ ?_
 .intro last x _;apply Wd.2.2.1.2;rw[Ynx,Ycc];simp[Jf]
 .intro i hi ih last pos hst;apply Wd.2.2.1.2;have h4:=Xd (i:=i) (by omega);have hg:xs[((i:Nat):Int).toNat]?=some xs[i]:=by rw[Yh];exact Yf hi
  have hpos:decide (0<xs.length)=true:=decide_eq_true (by omega);rw[Ypx];refine⟨by omega,xs[i],hg,_,Xx _ _ _,?_⟩;rw[show xs.length-i=(xs.length-(i+1))+1 by omega,Jf,Yf hi,w1,hpos,Bool.and_true];simp only;have ih:=ih xs[i].Xw (Qv b xs[i] xs[i].Zg);have el:Zec xs (i+1)=some xs[i]:=Yf hi;rw[el,hpos,Bool.and_true]at ih;simp only[Zed,true_and,Yx,Yy]at ih;generalize hL:Zec xs i=lst at hst|-;generalize xs[i]=x at ih|-;generalize Jf b xs (i+1) (xs.length-(i+1))=rest at ih|-;have hlast:0<=last:=by cases lst<;>simp only[Zed]at hst<;>omega
  rcases tf (inR x.Xw last ((b.ZO.length:Int)-1))with e1|e1
  .rw[e1,Yb (by simp)];simp[inR]at e1
   have:(Zha b xs.length i x && ZbQ b x lst)=false:=by
    rcases tf (inR x.Xw 0 ((b.ZO.length:Int)-1))with e2|e2
    .simp[Zha,e2]
    .simp[inR]at e2
     cases lst with
     |none=>simp only[Zed]at hst;omega
     |some y =>
      simp only[Zed]at hst;have a1:¬y.Xw<x.Xw:=by omega
      have a2:¬y.Xw=x.Xw:=by omega
      simp[ZbQ,a1,a2]
   rw[this];simp
  rw[e1,Ya rfl];have e0:=e1;simp[inR]at e0;have e1':inR x.Xw 0 ((b.ZO.length:Int)-1)=true:=by simp[inR];omega
  have g1:x.Xw.toNat<b.ZQ.length:=by omega
  have g2:x.Xw.toNat<b.ZO.length:=by omega
  refine⟨by omega,_,Yf g1,_,ZM1 _ _,?_⟩;unfold Zha;rw[e1',Yf g1];simp only;by_cases e2:x.Vs=ZcA b.ZQ[x.Xw.toNat] b.XL
  rotate_left
  .simp_all
  rw[Ya e2,decide_eq_true e2,w2];by_cases e3:x.Vi=decide ((i:Int)=(xs.length:Int)-1)
  rotate_left
  .simp_all
  rw[Ya e3,decide_eq_true e3];have c6:=l6 _ (Ye g2);have p1:∀p,Qv b x p=XZ (λy=>decide (p=y)) b.ZO[x.Xw.toNat] 0:=by intro p;unfold Qv;rw[Yf g2]
  refine⟨_,Yf g2,_,Z9f _ _ c6,?_⟩;rw[<-p1];by_cases e4:Qv b x x.Zg<0
  .grind
  rw[Yb e4,decide_eq_true (by omega),show w ((i:Int)+1)=(i:Int)+1 from h4];have ih:=ih (by omega);rw[ih]
  cases lst with
  |none =>
   simp only[Zed]at hst;simp only[ZbQ]
   grind
  |some y =>
   simp only[Zed]at hst;simp only[ZbQ];by_cases e5:x.Xw=last
   .rw[Ya e5];have a1:¬y.Xw<x.Xw:=by omega
    have a2:y.Xw=x.Xw:=by omega
    have a3:Qv b y y.Zg=Qv b x y.Zg:=by unfold Qv;rw[a2]
    grind
   .rw[Yb e5,decide_eq_true (by omega:y.Xw<x.Xw)];simp
def ZME(q:Zf)(b:ZM)(xs:List ZR)(hq:LeQ q)(hl:LeB b)(hx:Le xs) :
  Zgv q b xs=some (Bo (Qp q.Zk q.Zb b && (decide (xs≠[]) && Jf b xs 0 xs.length)),[]):=by
 apply Wd.2.2.2.1;refine⟨_,Z9h q b hq hl,?_⟩;rcases tf (Qp q.Zk q.Zb b)with e|e
 .rw[e];simp
 rw[e,Ya rfl];have hc:b.ZO.length=b.ZQ.length:=by
  simp only[Qp,Yg,decide_eq_true_eq]at e;exact e.2.2
 have:=ZMD b hl hc xs hx 0 (Yc _) 0 (-1) ⟨rfl,rfl⟩;simp at this;rw[this]
 have:decide (0<xs.length)=decide (xs≠[]):=by cases xs<;>simp
 grind
def Kp:Int->List Zx->Bool
 |_,[]=>true
 |p,s::r=>inR s.ZY 1 8192 && inR s.Add (-99) 99 && decide (p<s.ZY) && Kp s.ZY r
def U8(l:List Zx):Nat->Int
 |0=>0
 |i+1=>match l[i]? with|some s=>s.ZY|none=>0
def U9(n:Int):Bool:=inR n (-99) 99
def Wo(o:Z8):Bool:=U9 o.ZD && U9 o.ZE && U9 o.ZF && U9 o.ZG && U9 o.ZH && decide (o.Steps.length<=4) && Kp 0 o.Steps
def Z9i(p:Int){l:List Zx}{i:Nat}(h:i<l.length):Kp p (l.drop i)=(inR l[i].ZY 1 8192 && inR l[i].Add (-99) 99 && decide (p<l[i].ZY) && Kp l[i].ZY (l.drop (i+1))):=by
 rw[Yi h,Kp]
@[simp] def ZMF(n:Int):Za2 n=some (Bo (U9 n),[]):=by
 apply WY.1.2.2.1;simp[U9]
def ZMG(o:Z8)(hl:Le o.Steps):∀i,i<=o.Steps.length->Zd0 o i=some (Bo (Kp (U8 o.Steps i) (o.Steps.drop i)),[]):=by
 refine down _ ?_ ?_
 .apply WY.1.2.2.2.1;simp[Kp]
 .intro i hi ih;apply WY.1.2.2.2.1;have h4:=Xd (i:=i) (by omega);rw[Z9i _ hi];have pn:U8 o.Steps (i+1)=o.Steps[i].ZY:=by simp[U8,Yf hi]
  rw[pn]at ih;simp only[Yx,Yy]at ih;rw[Ypx];refine⟨by omega,o.Steps[i],by rw[Yh];exact Yf hi,_,Xx _ _ _,?_⟩;rcases tf (inR o.Steps[i].ZY 1 8192)with e1|e1
  .rw[e1];simp
  rw[e1,Ya rfl];refine⟨_,ZMF _,?_⟩;unfold U9;rcases tf (inR o.Steps[i].Add (-99) 99)with e2|e2
  .rw[e2];simp
  rw[e2,Ya rfl,show w ((i:Int)+1)=(i:Int)+1 from h4]
  cases i with
  |zero =>
   rw[Ynx,ih]
   have:U8 o.Steps 0<o.Steps[0].ZY:=by simp[inR]at e1;simp[U8];omega
   simp[this]
  |succ j =>
   have hj:j<o.Steps.length:=by omega
   have w2:w (((j+1:Nat):Int)-1)=j:=by rw[show((j+1:Nat):Int)-1=j by omega];exact ZL (by omega) (by omega)
   have pj:U8 o.Steps (j+1)=o.Steps[j].ZY:=by simp[U8,Yf hj]
   grind
@[simp] def Zl3(o:Z8)(hl:Le o.Steps):Za3 o=some (Bo (Wo o),[]):=by
 apply WY.1.2.2.2.2;have b:=ZMG o hl 0 (Yc _);simp only[U8,Ym,Int.ofNat_zero]at b;have b:Zd0 o 0=_:=b;unfold Wo;rcases tf (U9 o.ZD)with e1|e1
 .simp[e1]
 rcases tf (U9 o.ZE)with e2|e2
 .simp[e1,e2]
 rcases tf (U9 o.ZF)with e3|e3
 .simp[e1,e2,e3]
 rcases tf (U9 o.ZG)with e4|e4
 .simp[e1,e2,e3,e4]
 rcases tf (U9 o.ZH)with e5|e5
 .simp[e1,e2,e3,e4,e5]
 by_cases e6:o.Steps.length<=4
 .have e7:¬(4:Int)<o.Steps.length:=by omega
  simp[e1,e2,e3,e4,e5,e6,e7,b]
 .have e7:(4:Int)<o.Steps.length:=by omega
  simp[e1,e2,e3,e4,e5,e6,e7]
def ZMH(o:Z8)(hl:Le o.Steps):∀i,i<=o.Steps.length->ZcK o o.Steps o.Steps.length i=some (Bo (Kp (U8 o.Steps i) (o.Steps.drop i) && decide (o.Steps.length<=4)),[]):=by
 refine down _ ?_ ?_
 .apply W5.2.2.2.2.2;rw[Ynx];by_cases e:o.Steps.length<=4
  .simp[Kp,e];omega
  .simp[Kp,e];omega
 .intro i hi ih;apply W5.2.2.2.2.2;have h4:=Xd (i:=i) (by omega);rw[Z9i _ hi];have pn:U8 o.Steps (i+1)=o.Steps[i].ZY:=by simp[U8,Yf hi]
  rw[pn]at ih;simp only[Yx,Yy]at ih;rw[Ypx];refine⟨by omega,o.Steps[i],by rw[Yh];exact Yf hi,_,X0 _ _ _,?_⟩;rcases tf (inR o.Steps[i].Add (-99) 99)with e2|e2
  .rw[e2];simp
  rw[e2,Ya rfl];refine⟨_,X0 _ _ _,?_⟩;rcases tf (inR o.Steps[i].ZY 1 8192)with e1|e1
  .rw[e1];simp
  rw[e1,Ya rfl,show w ((i:Int)+1)=(i:Int)+1 from h4]
  cases i with
  |zero =>
   rw[Ynx,ih]
   have:U8 o.Steps 0<o.Steps[0].ZY:=by simp[inR]at e1;simp[U8];omega
   simp[this]
  |succ j =>
   have hj:j<o.Steps.length:=by omega
   have w2:w (((j+1:Nat):Int)-1)=j:=by rw[show((j+1:Nat):Int)-1=j by omega];exact ZL (by omega) (by omega)
   have pj:U8 o.Steps (j+1)=o.Steps[j].ZY:=by simp[U8,Yf hj]
   grind
@[simp] def UA(o:Z8)(hl:Le o.Steps):Vl o=some (Bo (Wo o),[]):=by
 apply JI.1.1;have hc:Zix o=some (.bsl 1 5,[.box (o.c.map .t),.box [.ptr 0 0,.ptr 0 1,.ptr 0 2,.ptr 0 3,.ptr 0 4]]):=W5.2.2.2.2.1 _ _ rfl;refine⟨hc,?_⟩;have b:=ZMH o hl 0 (Yc _);simp only[U8,Ym]at b;have b:ZcK o o.Steps o.Steps.length 0=_:=b;have w1:w (0+1)=1:=by decide
 have w2:w (1+1)=2:=by decide
 have w3:w (2+1)=3:=by decide
 have w4:w (3+1)=4:=by decide
 have w5:w (4+1)=5:=by decide
 unfold Wo U9;apply ZgR;rw[Ypx,Ya rfl];refine⟨_,X0 _ _ _,?_⟩;rcases tf (inR o.ZD (-99) 99)with e1|e1
 .rw[e1];simp
 rw[e1,Ya rfl,w1];apply ZgR;rw[Ypx,Ynx,Ya rfl];refine⟨_,X0 _ _ _,?_⟩;rcases tf (inR o.ZE (-99) 99)with e2|e2
 .rw[e2];simp
 rw[e2,Ya rfl,w2];apply ZgR;rw[Ypx,Ynx,Ynx,Ya rfl];refine⟨_,X0 _ _ _,?_⟩;rcases tf (inR o.ZF (-99) 99)with e3|e3
 .rw[e3];simp
 rw[e3,Ya rfl,w3];apply ZgR;rw[Ypx,Ynx,Ynx,Ynx,Ya rfl];refine⟨_,X0 _ _ _,?_⟩;rcases tf (inR o.ZG (-99) 99)with e4|e4
 .rw[e4];simp
 rw[e4,Ya rfl,w4];apply ZgR
 simp_all [X0,tf,ZgR,Bool.and_comm]
def ZaC(o:Z8)(l r n:Int):Int:=w (w (w (w (o.ZD+w (o.ZE*l))+w (o.ZF*r))+w (o.ZG*n))+w (w (o.ZH*l)*r))
def Kq(l r n:Int)(s:Zx):Int:=if s.ZY<=w (l+r)then w (n+s.Add)else n
def Zee(o:Z8)(l r n:Int):Int:=o.Steps.foldl (Kq l r) (ZaC o l r n)
def XQ(o:Z8)(l r n:Int):Int:=if(Wo o && inR l 0 4096 && inR r 0 4096 && inR n 0 4096)=true then Zee o l r n else 0
def ZMI(l r:Int)(st:List Zx)(hl:Le st):∀i,i<=st.length->∀n,ZeZ l r n st st.length i=some (I ((st.drop i).foldl (Kq l r) n),[]):=by
 refine down _ ?_ ?_
 .simp[W9.1.1.1.1]
 .intro i hi ih n;apply W9.1.1.1.1;have h4:=Xd (i:=i) (by omega);rw[Yi hi,Y7];simp only[Yx,Yy]at ih;by_cases e:st[i].ZY<=w (l+r)
  .simp[hi,h4,e,ih,Kq]
  .simp[hi,h4,e,ih,Kq]
@[simp] theorem ZMJ(o:Z8)(hl:Le o.Steps)(l r n:Int):ZcN o l r n=some (I (Zee o l r n),[]):=by
 apply W9.1.1.1.2;have b:=ZMI l r o.Steps hl 0 (Yc _) (ZaC o l r n);simpa[Zee,ZaC]using b
@[simp] theorem Jg(o:Z8)(hl:Le o.Steps)(l r n:Int):Wb o l r n=some (I (XQ o l r n),[]):=by
 apply Vn.2.1.2;unfold XQ
 simp_all
def ZMK(o:Z8)(l r:Int)(hl:Le o.Steps):∀i,i<=o.Steps.length->∀n,Zd1 o l r n i=some (I ((o.Steps.drop i).foldl (Kq l r) n),[]):=by
 refine down _ ?_ ?_
 .simp[WY.2.1.2.1]
 .intro i hi ih n;apply WY.2.1.2.1;have h4:=Xd (i:=i) (by omega);rw[Yi hi,Y7];simp only[Yx,Yy]at ih;by_cases e:o.Steps[i].ZY<=w (l+r)
  .simp[hi,h4,e,ih,Kq]
  .simp[hi,h4,e,ih,Kq]
@[simp] theorem Kr(o:Z8)(hl:Le o.Steps)(l r n:Int):Ua o l r n=some (I (XQ o l r n),[]):=by
 apply WY.2.1.2.2;have b:=ZMK o l r hl 0 (Yc _) (ZaC o l r n);simp only[Ym,ZaC]at b;have b:Zd1 o l r _ 0=_:=b;unfold XQ;rcases tf (Wo o)with e1|e1<;>rcases tf (inR l 0 4096)with e2|e2<;>rcases tf (inR r 0 4096)with e3|e3<;>rcases tf (inR n 0 4096)with e4|e4<;>simp[hl,e1,e2,e3,e4,b,Zee,ZaC]
@[simp] theorem Jh(c:Int):QG c=some (I (Xt c),[]):=by
 apply JI.2.2.2;cases h:inR c 0 7
 .simp[h,Z3f h]
 .rcases cls8 h with rfl|rfl|rfl|rfl|rfl|rfl|rfl|rfl<;>simp[inR,Xt,ZL,shlI]
@[simp] def VI(c:Int):QL c=some (I (Xt c),[]):=by
 apply WY.2.1.1.2;have e:∀n i r,(if i<c then ZfH c (if 1<w (n*4)then w (n*4)else 1) (w (i+1))=some r else some (I n,[])=some r)->ZfH c n i=some r:=λn i r h=>WY.2.1.1.1 _ _ _ _ h
 cases h:inR c 0 7
 .simp[h,Z3f h]
 .refine⟨_,Xx _ _ _,?_⟩;rw[h,Ya rfl];rcases cls8 h with rfl|rfl|rfl|rfl|rfl|rfl|rfl|rfl
  all_goals repeat (refine e _ _ _ ?_;first|(rw[Yb (by decide)];rfl)|rw[Ya (by decide)])
def inT(t:V6):Prop:=∃a b c:Int,t=[a,b,c]/\(0<=a/\a<=7)/\(0<=b/\b<=7)/\(0<=c/\c<=7)
def tcl(o:Z8):V6->Int
 |[a,b,c]=>Zee o (Xt a) (Xt b) (Xt c)
 |_=>0
def Zhb{c:Int}(h0:0<=c)(h7:c<=7):inR (Xt c) 0 4096=true:=by
 have:c=0\/c=1\/c=2\/c=3\/c=4\/c=5\/c=6\/c=7:=by omega
 rcases this with rfl|rfl|rfl|rfl|rfl|rfl|rfl|rfl<;>decide
def Zef(o:Z8)(hl:Le o.Steps){t:V6}(h:inT t):J7 o t=some (I (tcl o t),[]):=by
 obtain⟨a,b,c,rfl,_⟩:=h;apply W9.1.1.2.1;simp[hl,tcl]
theorem Zps(o:Z8)(hl:Le o.Steps)(hv:Wo o=true){t:V6}(h:inT t):Zd2 o t=some (I (tcl o t),[]):=by
 obtain⟨a,b,c,rfl,h1,h2,h3⟩:=h;apply WY.2.2.1.1;have c1:=Zhb h1.1 h1.2;have c2:=Zhb h2.1 h2.2;have c3:=Zhb h3.1 h3.2;simp[hl,tcl,XQ,hv,c1,c2,c3]
def Z9j{t:V6}(h:inT t){k:Nat}{e:Int}(hk:t[k]?=some e)(h7:e+1<=7):inT (t.set k (e+1)):=by
 obtain⟨a,b,c,rfl,h1,h2,h3⟩:=h
 match k,hk with
 |0,hk=>simp at hk;subst hk;exact⟨a+1,b,c,rfl,by omega,h2,h3⟩
 |1,hk=>simp at hk;subst hk;exact⟨a,b+1,c,rfl,h1,by omega,h3⟩
 |2,hk=>simp at hk;subst hk;exact⟨a,b,c+1,rfl,h1,h2,by omega⟩
 |k+3,hk=>simp at hk
def Z9k{t:V6}(h:inT t){k:Nat}(hk:k<3):∃e,t[k]?=some e/\0<=e/\e<=7:=by
 obtain⟨a,b,c,rfl,h1,h2,h3⟩:=h
 match k,hk with
 |0,_=>exact⟨a,rfl,h1⟩
 |1,_=>exact⟨b,rfl,h2⟩
 |2,_=>exact⟨c,rfl,h3⟩
def ZzT{t:V6}(h:inT t):t.length=3:=by obtain⟨a,b,c,rfl,_⟩:=h;rfl
def Zl4(o:Z8)(t:V6)(k:Nat):Prop:=∃e,t[k]?=some e/\e+1<=7/\tcl o (t.set k (e+1))<tcl o t
def Ur(o:Z8)(t:V6)(k:Nat):Prop:=∃j,k<=j/\j<3/\Zl4 o t j
def Zhc(o:Z8):Prop:=∃t,inT t/\Ur o t 0
def ZzU(o:Z8):Prop:=∃t,inT t/\tcl o t<1
abbrev Qw(X:Rs)(p:Prop):Prop:=∃(xs ys:V6) (b:Bool),X=some (.tup [.own 0,.own 1,Bo b],[.arr Xm 1 true (xs.map ic),.arr Xm 1 true (ys.map ic)])/\(b=true↔p)
def Qw.congr{X:Rs}{p q:Prop}(h:Qw X p)(e:p↔q):Qw X q:=by
 simp_all
def l_fd0(o:Z8)(hl:Le o.Steps)(hv:Wo o=true){t:V6}(ht:inT t)(a b e:Int)(p:Prop)(hc:Qw (ZfJ o a b (w (e+1))) p):∀k:Nat,k<=3->
  Qw (Zb6 o t a b e k) (Ur o t k\/p):=by
 have h3:=ZzT ht;refine down _ ?_ ?_
 .obtain⟨xs,ys,f,h1,h2⟩:=hc;refine⟨xs,ys,f,WY.2.2.2.2.2 _ _ _ _ _ _ _ (by rw[Ynx];exact h1),?_⟩;rw[h2];exact⟨.inr,λh=>h.elim (λ⟨j,a,b,_⟩=>by omega) id⟩
 .intro k hk ih;have h4:=Xd (i:=k) (by omega);obtain⟨x,hx,x0,x7⟩:=Z9k ht hk;have wx:w (x+1)=x+1:=ZL (by omega) (by omega);simp only[Yx,Yy]at ih;have step:Ur o t k↔(Zl4 o t k\/Ur o t (k+1)):=by
   constructor
   .rintro⟨j,j1,j2,j3⟩;by_cases hj:j=k
    .subst hj;exact .inl j3
    .exact .inr ⟨j,by omega,j2,j3⟩
   .rintro(h|⟨j,j1,j2,j3⟩)
    .exact⟨k,Yj _,hk,h⟩
    .exact⟨j,by omega,j2,j3⟩
  have pre:∀r,(if x+1<=7 then(if tcl o (t.set k (x+1))<tcl o t then some (.tup [.own 0,.own 1,Bo true],[.arr Xm 1 true (t.map ic),.arr Xm 1 true ((t.set k (x+1)).map ic)])=some r
    else Zb6 o t a b e ((k:Int)+1)=some r)else Zb6 o t a b e ((k:Int)+1)=some r)->Zb6 o t a b e k=some r:=by
   intro r hr;apply WY.2.2.2.2.2;rw[Ypx];refine⟨by omega,by omega,x,by rw[Yh];exact hx,?_⟩;rw[wx,Yh,show w ((k:Int)+1)=(k:Int)+1 from h4];by_cases h7:x+1<=7
   .rw[Ya h7]at hr|-;exact⟨_,Zps o hl hv (Z9j ht hx h7),_,Zps o hl hv ht,hr⟩
   .grind
  have dk:Zl4 o t k↔(x+1<=7/\tcl o (t.set k (x+1))<tcl o t):=by
   constructor
   .rintro⟨y,y1,y2,y3⟩;rw[hx]at y1;cases y1;exact⟨y2,y3⟩
   .rintro⟨y2,y3⟩;exact⟨x,hx,y2,y3⟩
  grind
def Zhd{P:Nat->Prop}{i:Nat}{p:Prop}(hi:i<8):((∃z,i<=z/\z<=7/\P z)\/p)↔(P i\/(∃z,i+1<=z/\z<=7/\P z)\/p):=by
 grind
def Zhe{P:Nat->Prop}{p:Prop}:((∃z,8<=z/\z<=7/\P z)\/p)↔p:=⟨λh=>h.elim (λ⟨z,a,b,_⟩=>by omega) id,.inr⟩
def l_fd1(o:Z8)(hl:Le o.Steps)(hv:Wo o=true)(a b:Nat)(ha:a<=7)(hb:b<=7)(p:Prop)(hc:Qw (ZfI o a ((b:Int)+1)) p):∀e:Nat,e<=8->
  Qw (ZfJ o a b e) ((∃z:Nat,e<=z/\z<=7/\Ur o [(a:Int),(b:Int),(z:Int)] 0)\/p):=by
 have wb:w ((b:Int)+1)=(b:Int)+1:=ZL (by omega) (by omega);refine down _ ?_ ?_
 .refine Qw.congr ?_ Zhe.symm
  grind [WY.2.2.2.2.1]
 .intro e he ih;have we:w ((e:Int)+1)=(e:Int)+1:=ZL (by omega) (by omega);have hT:inT [(a:Int),(b:Int),(e:Int)]:=⟨a,b,e,rfl,by omega,by omega,by omega⟩;simp only[Yx,Yy]at ih;obtain⟨xs,ys,f,h1,h2⟩:=l_fd0 o hl hv hT a b e _ (by rw[we];exact ih) 0 (by omega);exact⟨xs,ys,f,WY.2.2.2.2.1 _ _ _ _ _ (by rw[Ypx];exact h1),h2.trans (Zhd (P:=λz:Nat=>Ur o [(a:Int),(b:Int),(z:Int)] 0) he).symm⟩
def l_fd2(o:Z8)(hl:Le o.Steps)(hv:Wo o=true)(a:Nat)(ha:a<=7)(p:Prop)(hc:Qw (Zd3 o ((a:Int)+1)) p):∀b:Nat,b<=8->
  Qw (ZfI o a b) ((∃y:Nat,b<=y/\y<=7/\∃z:Nat,0<=z/\z<=7/\Ur o [(a:Int),(y:Int),(z:Int)] 0)\/p):=by
 have wa:w ((a:Int)+1)=(a:Int)+1:=ZL (by omega) (by omega);refine down _ ?_ ?_
 .refine Qw.congr ?_ Zhe.symm
  grind [WY.2.2.2.1]
 .intro b hb ih;simp only[Yx,Yy]at ih;obtain⟨xs,ys,f,h1,h2⟩:=l_fd1 o hl hv a b ha (by omega) _ ih 0 (by omega);exact⟨xs,ys,f,WY.2.2.2.1 _ _ _ _ (by rw[Ypx];exact h1),h2.trans (Zhd (P:=λy:Nat=>∃z:Nat,0<=z/\z<=7/\Ur o [(a:Int),(y:Int),(z:Int)] 0) hb).symm⟩
def l_fd3(o:Z8)(hl:Le o.Steps)(hv:Wo o=true):∀a:Nat,a<=8->
  Qw (Zd3 o a) ((∃x:Nat,a<=x/\x<=7/\∃y:Nat,0<=y/\y<=7/\∃z:Nat,0<=z/\z<=7/\Ur o [(x:Int),(y:Int),(z:Int)] 0)\/False):=by
 refine down _ ?_ ?_
 .refine Qw.congr ?_ Zhe.symm;exact⟨[],[],false,WY.2.2.1.2 _ _ _ (by rw[Ynx]),by simp⟩
 .intro a ha ih;simp only[Yx,Yy]at ih;obtain⟨xs,ys,f,h1,h2⟩:=l_fd2 o hl hv a (by omega) _ ih 0 (by omega);exact⟨xs,ys,f,WY.2.2.1.2 _ _ _ (by rw[Ypx];exact h1),h2.trans (Zhd (P:=λx:Nat=>∃y:Nat,0<=y/\y<=7/\∃z:Nat,0<=z/\z<=7/\Ur o [(x:Int),(y:Int),(z:Int)] 0) ha).symm⟩
def Z9l(o:Z8)(P:V6->Prop):(∃t,inT t/\P t)↔∃x:Nat,0<=x/\x<=7/\∃y:Nat,0<=y/\y<=7/\∃z:Nat,0<=z/\z<=7/\P [(x:Int),(y:Int),(z:Int)]:=by
 constructor
 .rintro⟨t,⟨a,b,c,rfl,h1,h2,h3⟩,h⟩;refine⟨a.toNat,by omega,by omega,b.toNat,by omega,by omega,c.toNat,by omega,by omega,?_⟩
  grind
 .rintro⟨x,_,x2,y,_,y2,z,_,z2,h⟩;exact⟨_,⟨x,y,z,rfl,by omega,by omega,by omega⟩,h⟩
def ZML(o:Z8)(hl:Le o.Steps)(hv:Wo o=true):Qw (ZjO o) (Zhc o):=by
 obtain⟨xs,ys,f,h1,h2⟩:=l_fd3 o hl hv 0 (by omega);refine⟨xs,ys,f,ZaB.1.1 _ _ ⟨_,Zl3 o hl,?_⟩,?_⟩
 .simp_all
 .rw[h2,Zhc,Z9l o (λt=>Ur o t 0)];simp
abbrev QO(X:Rs)(p:Prop):Prop:=∃(xs:V6),X=some (.own 0,[.arr Xm 1 true (xs.map ic)])/\(xs≠[]↔p)
def QO.congr{X:Rs}{p q:Prop}(h:QO X p)(e:p↔q):QO X q:=by
 simp_all
def l_ch0(o:Z8)(hl:Le o.Steps)(hv:Wo o=true)(a b:Nat)(ha:a<=7)(hb:b<=7)(p:Prop)(hc:QO (ZfL o a ((b:Int)+1)) p):∀e:Nat,e<=8->
  QO (ZjQ o a b e) ((∃z:Nat,e<=z/\z<=7/\tcl o [(a:Int),(b:Int),(z:Int)]<1)\/p):=by
 have wb:w ((b:Int)+1)=(b:Int)+1:=ZL (by omega) (by omega);refine down _ ?_ ?_
 .refine QO.congr ?_ Zhe.symm
  grind [ZaB.2.2.1]
 .intro e he ih;have we:w ((e:Int)+1)=(e:Int)+1:=ZL (by omega) (by omega);have hT:inT [(a:Int),(b:Int),(e:Int)]:=⟨a,b,e,rfl,by omega,by omega,by omega⟩;simp only[Yx,Yy]at ih;refine QO.congr ?_ (Zhd he).symm;by_cases h:tcl o [(a:Int),(b:Int),(e:Int)]<1
  .refine⟨[a,b,e],ZaB.2.2.1 _ _ _ _ _ ?_,by simp[h]⟩
   grind [Zps]
  .obtain⟨xs,h1,h2⟩:=ih;refine⟨xs,ZaB.2.2.1 _ _ _ _ _ ?_,by rw[h2];simp[h]⟩
   grind [Zps]
def l_ch1(o:Z8)(hl:Le o.Steps)(hv:Wo o=true)(a:Nat)(ha:a<=7)(p:Prop)(hc:QO (ZfK o ((a:Int)+1)) p):∀b:Nat,b<=8->
  QO (ZfL o a b) ((∃y:Nat,b<=y/\y<=7/\∃z:Nat,0<=z/\z<=7/\tcl o [(a:Int),(y:Int),(z:Int)]<1)\/p):=by
 have wa:w ((a:Int)+1)=(a:Int)+1:=ZL (by omega) (by omega);refine down _ ?_ ?_
 .refine QO.congr ?_ Zhe.symm
  grind [ZaB.2.1]
 .intro b hb ih;simp only[Yx,Yy]at ih;obtain⟨xs,h1,h2⟩:=l_ch0 o hl hv a b ha (by omega) _ ih 0 (by omega);exact⟨xs,ZaB.2.1 _ _ _ _ (by rw[Ypx];exact h1),h2.trans (Zhd (P:=λy:Nat=>∃z:Nat,0<=z/\z<=7/\tcl o [(a:Int),(y:Int),(z:Int)]<1) hb).symm⟩
def l_ch2(o:Z8)(hl:Le o.Steps)(hv:Wo o=true):∀a:Nat,a<=8->
  QO (ZfK o a) ((∃x:Nat,a<=x/\x<=7/\∃y:Nat,0<=y/\y<=7/\∃z:Nat,0<=z/\z<=7/\tcl o [(x:Int),(y:Int),(z:Int)]<1)\/False):=by
 refine down _ ?_ ?_
 .refine QO.congr ?_ Zhe.symm
  grind [ZaB.1.2]
 .intro a ha ih;simp only[Yx,Yy]at ih;obtain⟨xs,h1,h2⟩:=l_ch1 o hl hv a (by omega) _ ih 0 (by omega);exact⟨xs,ZaB.1.2 _ _ _ (by rw[Ypx];exact h1),h2.trans (Zhd (P:=λx:Nat=>∃y:Nat,0<=y/\y<=7/\∃z:Nat,0<=z/\z<=7/\tcl o [(x:Int),(y:Int),(z:Int)]<1) ha).symm⟩
def ZMM(o:Z8)(hl:Le o.Steps)(hv:Wo o=true):QO (ZjP o) (ZzU o):=by
 obtain⟨xs,h1,h2⟩:=l_ch2 o hl hv 0 (by omega);refine⟨xs,ZaB.2.2.2 _ _ h1,?_⟩;rw[h2,ZzU,Z9l o (λt=>tcl o t<1)];simp
def JL(a b:Int)(c:Nat):V4:=(List.range' c (8-c)).map λz:Nat=>[a,b,(z:Int)]
def ZbR(a:Int)(b:Nat):V4:=(List.range' b (8-b)).flatMap λy:Nat=>JL a y 0
def Zhf(a:Nat):V4:=(List.range' a (8-a)).flatMap λx:Nat=>ZbR x 0
def ZzV{i:Nat}(h:i<8):List.range' i (8-i)=i::List.range' (i+1) (8-(i+1)):=by
 rw[show 8-i=(8-(i+1))+1 by omega,Ybs]
def ZMN(a b:Int)(c:Nat):(JL a b c).length=8-c:=by simp[JL]
def ZMO(a:Int):(ZbR a 0).length=64:=rfl
def l_tr0(a b:Nat)(hb:b<=7)(r:V3):∀c:Nat,c<=8->∀out:V4,out.length<=1000000->ZcM (out++JL a b c) a ((b:Int)+1)=some r->ZeY out a b c=some r:=by
 have wb:w ((b:Int)+1)=(b:Int)+1:=ZL (by omega) (by omega);have key:∀c:Nat,c<=8->∀out:V4,out.length<=1000000+c->ZcM (out++JL a b c) a ((b:Int)+1)=some r->ZeY out a b c=some r:=by
  refine down _ ?_ ?_
  .intro out ho h;apply JI.2.1.1;rw[Ynx,wb];simpa[JL]using h
  .intro c hc ih out ho h;have wc:w ((c:Int)+1)=(c:Int)+1:=ZL (by omega) (by omega);apply JI.2.1.1;rw[Ypx,wc];refine⟨by omega,?_⟩
   have ih:=ih (out++[[(a:Int),(b:Int),(c:Int)]]) (by simp;omega) (by
    rw[JL,ZzV hc]at h
    simpa[JL]using h)
   simpa using ih
 grind
def l_tr1(a:Nat)(ha:a<=7)(r:V3):∀b:Nat,b<=8->∀out:V4,out.length<=100000+8*b->ZeX (out++ZbR a b) ((a:Int)+1)=some r->ZcM out a b=some r:=by
 have wa:w ((a:Int)+1)=(a:Int)+1:=ZL (by omega) (by omega);refine down _ ?_ ?_
 .intro out ho h;apply JI.1.2.2;rw[Ynx,wa];simpa[ZbR]using h
 .intro b hb ih out ho h;apply JI.1.2.2;rw[Ypx];refine l_tr0 a b (by omega) r 0 (by omega) out (by omega) ?_
  have ih:=ih (out++JL a b 0) (by rw[Yq,ZMN];omega) (by
   rw[ZbR,ZzV hb]at h
   simpa[ZbR]using h)
  simpa using ih
def l_tr2:∀a:Nat,a<=8->∀out:V4,out.length<=64*a->ZeX out a=some (.own 0,[.arr Zbn 1 true ((out++Zhf a).map isc)]):=by
 refine down _ ?_ ?_
 .intro out ho;apply JI.1.2.1;rw[Ynx];simp[Zhf]
 .intro a ha ih out ho;apply JI.1.2.1;rw[Ypx];refine l_tr1 a (by omega) _ 0 (by omega) out (by omega) ?_;have ih:=ih (out++ZbR a 0) (by rw[Yq,ZMO];omega);rw[Zhf,ZzV ha];simpa[Zhf]using ih
def QP:V4:=Zhf 0
def Zhg:UV=some (.own 0,[.arr Zbn 1 true (QP.map isc)]):=JI.2.1.2 _ (l_tr2 0 (by omega) [] (by simp))
def Ks(t:V6):t∈QP↔inT t:=by
 simp only[QP,Zhf,ZbR,JL,Ybw,Yt,List.mem_range'_1,inT];constructor
 .grind
 .rintro⟨a,b,c,rfl,h1,h2,h3⟩;refine⟨a.toNat,by omega,b.toNat,by omega,c.toNat,by omega,?_⟩
  grind
set_option maxRecDepth 100000 in
def Zhh:QP.length=512:=rfl
@[simp] theorem Zeg(xs:V6)(h:xs.length<=68719476736):Uo xs=some (.own 0,[.arr Xm 1 true (xs.map ic)]):=JI.2.2.1 _ _ ⟨h,rfl⟩
abbrev Zpt(X:Rs)(p:Prop):Prop:=(p/\∃xs ys:V6,X=some (.tup [L 1 (xs.map ic),.own 0,Bo true],[.arr Xm 1 true (ys.map ic)]))\/(¬p/\X=some (.tup [.t .nil,.t .nil,Bo false],[]))
def l_id0(o:Z8)(hl:Le o.Steps)(ts:V4){t:V6}(ht:inT t)(n i:Int)(p:Prop)(hc:Zpt (Zbp o ts n (w (i+1))) p):∀k:Nat,k<=3->
  Zpt (Zam o ts t n i 3 k) (Ur o t k\/p):=by
 have h3:=ZzT ht;refine down _ ?_ ?_
 .have e:(Ur o t 3\/p)↔p:=⟨λh=>h.elim (λ⟨j,a,b,_⟩=>by omega) id,.inr⟩
  grind [W9.1.2.1.1]
 .intro k hk ih;have h4:=Xd (i:=k) (by omega);obtain⟨x,hx,x0,x7⟩:=Z9k ht hk;have wx:w (x+1)=x+1:=ZL (by omega) (by omega);simp only[Yx,Yy]at ih;have step:Ur o t k↔(Zl4 o t k\/Ur o t (k+1)):=by
   constructor
   .rintro⟨j,j1,j2,j3⟩;by_cases hj:j=k
    .subst hj;exact .inl j3
    .exact .inr ⟨j,by omega,j2,j3⟩
   .rintro(h|⟨j,j1,j2,j3⟩)
    .exact⟨k,Yj _,hk,h⟩
    .exact⟨j,by omega,j2,j3⟩
  have dk:Zl4 o t k↔(x+1<=7/\tcl o (t.set k (x+1))<tcl o t):=by
   constructor
   .rintro⟨y,y1,y2,y3⟩;rw[hx]at y1;cases y1;exact⟨y2,y3⟩
   .rintro⟨y2,y3⟩;exact⟨x,hx,y2,y3⟩
  have pre:∀r,(if x+1<=7 then(if tcl o (t.set k (x+1))<tcl o t then some (.tup [L 1 (t.map ic),.own 0,Bo true],[.arr Xm 1 true ((t.set k (x+1)).map ic)])=some r
    else Zam o ts t n i 3 ((k:Int)+1)=some r)else Zam o ts t n i 3 ((k:Int)+1)=some r)->Zam o ts t n i 3 k=some r:=by
   intro r hr;apply W9.1.2.1.1;rw[Ypx];refine⟨by omega,x,by rw[Yh];exact hx,?_⟩;rw[show w ((k:Int)+1)=(k:Int)+1 from h4];by_cases h7:x=7
   .simp_all
   .rw[Yb h7];have h8:x+1<=7:=by omega
    rw[Ya h8]at hr;refine⟨t,Zeg t (by omega),x,by rw[Yh];exact hx,?_⟩;rw[wx,Yh];exact⟨_,Zef o hl (Z9j ht hx h8),_,Zef o hl ht,hr⟩
  grind
def l_id1(o:Z8)(hl:Le o.Steps)(ts:V4)(c:∀t∈ts,inT t)(hn:ts.length<=1000):∀i,i<=ts.length->Zpt (Zbp o ts ts.length i) (∃t∈ts.drop i,Ur o t 0):=by
 refine down _ ?_ ?_
 .grind [W9.1.1.2.2]
 .intro i hi ih;have h4:=Xd (i:=i) (by omega);have ht:=c _ (Ye hi);simp only[Yx,Yy]at ih;have b:=l_id0 o hl ts ht ts.length i _ (by rw[show w ((i:Int)+1)=(i:Int)+1 from h4];exact ih) 0 (by omega);have go:∀r,Zam o ts ts[i] ts.length i 3 0=some r->Zbp o ts ts.length i=some r:=by
   intro r hr;apply W9.1.1.2.2
   simp_all [Yh,Yf,ZzT]
  grind [List.drop_eq_getElem_cons]
def Zl5(o:Z8)(hl:Le o.Steps)(hv:Wo o=true):Zpt (WW o) (Zhc o):=by
 have b:=l_id1 o hl QP (λt h=>(Ks t).1 h) (by rw[Zhh];omega) 0 (Yc _);have go:∀r,Zbp o QP QP.length 0=some r->WW o=some r:=by
  simp_all [W9.1.2.1.2,UA,Zhg]
 have e:(∃t∈QP.drop 0,Ur o t 0)↔Zhc o:=by
  simp only[Ym,Ks,Zhc]
 grind
def WC(o:Z8):Prop:=Wo o=true/\¬Zhc o/\¬ZzU o
def mOp(m:Zn)(k:Int):Z8:=if k=1 then m.Z1 else if k=2 then m.Zz else if k=3 then m.Z2 else if k=4 then m.Z3 else m.Z4
abbrev LeM(m:Zn):Prop:=Le m.Z1.Steps/\Le m.Zz.Steps/\Le m.Z2.Steps/\Le m.Z3.Steps/\Le m.Z4.Steps
def LeM.op{m:Zn}(h:LeM m)(k:Int):Le (mOp m k).Steps:=by
 unfold mOp
 grind
@[simp] def Zeh(m:Zn)(k:Int):Qs m k=some (.agg ((mOp m k).c.map .t),[]):=by
 apply WY.1.2.1.1;unfold mOp
 simp_all
def Vf(m:Zn):Prop:=WC m.Z1/\WC m.Zz/\WC m.Z2/\WC m.Z3/\WC m.Z4
def ZMP(m:Zn)(hm:LeM m):∀k:Nat,k<=6->1<=k->
  ∃(xs ys:V6) (n:Int),ZfM m k=some (.tup [I n,.own 0,.own 1],[.arr Xm 1 true (xs.map ic),.arr Xm 1 true (ys.map ic)])/\(n=0↔∀j:Nat,k<=j->j<=5->WC (mOp m j)):=by
 refine down _ ?_ ?_
 .intro _;exact⟨[],[],0,Wl.1.1.1.1 _ _ _ (by rw[Ynx]),⟨λ_ j h1 h2=>by omega,λ_=>rfl⟩⟩
 .intro k hk ih h1;have wk':w ((k:Int)+1)=(k:Int)+1:=ZL (by omega) (by omega);have hl:=hm.op k;have step:(∀j:Nat,k<=j->j<=5->WC (mOp m j))↔(WC (mOp m k)/\∀j:Nat,k+1<=j->j<=5->WC (mOp m j)):=by
   grind
  have kne:(k:Int)≠0:=by omega
  have pre:∀r,(∃v,Za3 (mOp m k)=some (Bo v,[])/\_)->ZfM m k=some r:=λr h=>Wl.1.1.1.1 _ _ _ (by rw[Ypx];exact⟨mOp m k,Zeh m k,h⟩)
  rcases tf (Wo (mOp m k))with hv|hv
  .refine⟨[],[],k,pre _ ⟨false,by rw[Zl3 _ hl,hv],by rw[Yb (by simp)]⟩,?_⟩;rw[step];exact⟨λh=>absurd h kne,λh=>by have:=h.1.1;rw[hv]at this;cases this⟩
  .obtain⟨xs,ys,f,d1,d2⟩:=ZML (mOp m k) hl hv
   cases f with
   |true =>
    refine⟨xs,ys,k,pre _ ⟨true,by rw[Zl3 _ hl,hv],?_⟩,?_⟩
    .simp_all
    .rw[step]
     exact⟨λh=>absurd h kne,λh=>absurd (d2.1 rfl) h.1.2.1⟩
   |false =>
    obtain⟨cs,c1,c2⟩:=ZMM (mOp m k) hl hv;by_cases hc:cs=[]
    .obtain⟨xs',ys',n,i1,i2⟩:=ih (by omega);simp only[Yx,Yy]at i1;refine⟨xs',ys',n,pre _ ⟨true,by rw[Zl3 _ hl,hv],?_⟩,?_⟩
     .simp_all
     .rw[step,i2];refine⟨λh=>⟨⟨hv,λhd=>(by have:=d2.2 hd;cases this),λhch=>(c2.2 hch) hc⟩,h⟩,λh=>h.2⟩
    .refine⟨cs,[],k,pre _ ⟨true,by rw[Zl3 _ hl,hv],?_⟩,?_⟩
     .simp_all
     .rw[step];exact⟨λh=>absurd h kne,λh=>absurd (c2.1 hc) h.1.2.2⟩
theorem ZMQ(m:Zn):(∀j:Nat,1<=j->j<=5->WC (mOp m j))↔Vf m:=by
 constructor
 .intro h;exact⟨h 1 (by omega) (by omega),h 2 (by omega) (by omega),h 3 (by omega) (by omega),h 4 (by omega) (by omega),h 5 (by omega) (by omega)⟩
 .rintro⟨h1,h2,h3,h4,h5⟩ j a b
  have:j=1\/j=2\/j=3\/j=4\/j=5:=by omega
  rcases this with rfl|rfl|rfl|rfl|rfl
  .exact h1
  .exact h2
  .exact h3
  .exact h4
  .exact h5
open Classical in
def Zhi(m:Zn)(hm:LeM m):Za5 m=some (Bo (decide (Vf m)),[]):=by
 obtain⟨xs,ys,n,h1,h2⟩:=ZMP m hm 1 (by omega) (by omega)
 grind [Wl.1.1.2.1,Wl.1.1.1.2,ZMQ]
abbrev We(X:Rs)(p:Prop):Prop:=(p/\X=some (.tup [I 0,.t .nil,.t .nil],[]))\/(¬p/\∃n:Int,n≠0/\((∃xs ys:V6,X=some (.tup [I n,L 1 (xs.map ic),.own 0],[.arr Xm 1 true (ys.map ic)]))\/X=some (.tup [I n,.t .nil,.t .nil],[])\/∃xs:V6,X=some (.tup [I n,L 1 (xs.map ic),.t .nil],[])))
def We.of{X Y:Rs}{p:Prop}(h:We X p)(e:∀r,X=some r->Y=some r):We Y p:=by
 grind
def We.congr{X:Rs}{p q:Prop}(h:We X p)(e:p↔q):We X q:=by
 rw[<-e];exact h
def Zl6{ts:V4}{j:Nat}(hj:j<ts.length){P:V6->Prop}{p:Prop}:((∀t∈ts.drop j,P t)/\p)↔(P ts[j]/\(∀t∈ts.drop (j+1),P t)/\p):=by
 rw[Yi hj]
 grind
def l_rf0(m:Zn)(hl:Le m.Z1.Steps)(ts:V4)(c:∀t∈ts,inT t)(hn:ts.length<=1000)(kind:Int)(hk:kind≠0)(x1 x2:Int)(p:Prop)(hc:We (Ww m x1 (w (x2+1))) p):∀j,j<=ts.length->
  We (Zbq m ts kind x1 x2 ts.length j) ((∀t∈ts.drop j,¬tcl m.Z1 t<1)/\p):=by
 refine down _ ?_ ?_
 .grind [W9.1.2.2.1]
 .intro j hj ih;have h4:=Xd (i:=j) (by omega);have ht:=c _ (Ye hj);simp only[Yx,Yy]at ih;have pre:∀r,(if tcl m.Z1 ts[j]<1 then some (.tup [I kind,L 1 (ts[j].map ic),.t .nil],[])=some r else Zbq m ts kind x1 x2 ts.length ((j:Int)+1)=some r)->Zbq m ts kind x1 x2 ts.length j=some r:=by
   intro r hr;apply W9.1.2.2.1
   simp_all [Yh,Yf,Zef]
  refine We.congr ?_ (Zl6 (P:=λt=>¬tcl m.Z1 t<1) hj).symm;by_cases h:tcl m.Z1 ts[j]<1
  .grind
  .grind
def l_rf1(m:Zn)(hm:LeM m)(p:Prop)(hc:We (Ww m 5 1) p):We (Ww m 5 0) (WC m.Z1/\p):=by
 have hl:Le m.Z1.Steps:=by obtain⟨h1,h2,h3,h4,h5⟩:=hm;assumption
 have w1:w (1+0)=1:=by decide
 have w2:w (0+1)=1:=by decide
 have pre:∀r,(∃v,Vl m.Z1=some (Bo v,[])/\_)->Ww m 5 0=some r:=λr h=>ZgS (by rw[Ypx,Ya rfl];exact h)
 rcases tf (Wo m.Z1)with hv|hv
 .refine .inr ⟨λh=>(by have:=h.1.1;rw[hv]at this;cases this),1,by decide,.inr (.inl (pre _ ⟨false,by rw[UA _ hl,hv],?_⟩))⟩
  simp_all
 rcases Zl5 m.Z1 hl hv with⟨hd,xs,ys,d1⟩|⟨hd,d1⟩
 .refine .inr ⟨λh=>h.1.2.1 hd,1,by decide,.inl ⟨xs,ys,pre _ ⟨true,by rw[UA _ hl,hv],?_⟩⟩⟩
  grind
 .have b:=l_rf0 m hl QP (λt h=>(Ks t).1 h) (by rw[Zhh];omega) 1 (by decide) 5 0 p (by rw[w2];exact hc) 0 (Yc _);refine(b.of λr hr=>pre r ⟨true,by rw[UA _ hl,hv],?_⟩).congr ?_
  .simp_all [Zhg]
  .simp only[Ym,Ks];constructor
   .rintro⟨h,hp⟩;exact⟨⟨hv,hd,λ⟨t,ht,hc⟩=>h t ht hc⟩,hp⟩
   .rintro⟨h,hp⟩;exact⟨λt ht hc=>h.2.2 ⟨t,ht,hc⟩,hp⟩
def l_rf0a(m:Zn)(hl:Le m.Zz.Steps)(ts:V4)(c:∀t∈ts,inT t)(hn:ts.length<=1000)(kind:Int)(hk:kind≠0)(x1 x2:Int)(p:Prop)(hc:We (Ww m x1 (w (x2+1))) p):∀j,j<=ts.length->
  We (Zbr m ts kind x1 x2 ts.length j) ((∀t∈ts.drop j,¬tcl m.Zz t<1)/\p):=by
 refine down _ ?_ ?_
 .grind [W9.1.2.2.2.1]
 .intro j hj ih;have h4:=Xd (i:=j) (by omega);have ht:=c _ (Ye hj);simp only[Yx,Yy]at ih;have pre:∀r,(if tcl m.Zz ts[j]<1 then some (.tup [I kind,L 1 (ts[j].map ic),.t .nil],[])=some r else Zbr m ts kind x1 x2 ts.length ((j:Int)+1)=some r)->Zbr m ts kind x1 x2 ts.length j=some r:=by
   intro r hr;apply W9.1.2.2.2.1
   simp_all [Yh,Yf,Zef]
  refine We.congr ?_ (Zl6 (P:=λt=>¬tcl m.Zz t<1) hj).symm;by_cases h:tcl m.Zz ts[j]<1
  .grind
  .grind
def l_rf1a(m:Zn)(hm:LeM m)(p:Prop)(hc:We (Ww m 5 2) p):We (Ww m 5 1) (WC m.Zz/\p):=by
 have hl:Le m.Zz.Steps:=by obtain⟨h1,h2,h3,h4,h5⟩:=hm;assumption
 have w1:w (1+1)=2:=by decide
 have w2:w (1+1)=2:=by decide
 have pre:∀r,(∃v,Vl m.Zz=some (Bo v,[])/\_)->Ww m 5 1=some r:=λr h=>ZgS (by rw[Ypx,Ynx,Ya rfl];exact h)
 rcases tf (Wo m.Zz)with hv|hv
 .refine .inr ⟨λh=>(by have:=h.1.1;rw[hv]at this;cases this),2,by decide,.inr (.inl (pre _ ⟨false,by rw[UA _ hl,hv],?_⟩))⟩
  simp_all
 rcases Zl5 m.Zz hl hv with⟨hd,xs,ys,d1⟩|⟨hd,d1⟩
 .refine .inr ⟨λh=>h.1.2.1 hd,2,by decide,.inl ⟨xs,ys,pre _ ⟨true,by rw[UA _ hl,hv],?_⟩⟩⟩
  grind
 .have b:=l_rf0a m hl QP (λt h=>(Ks t).1 h) (by rw[Zhh];omega) 2 (by decide) 5 1 p (by rw[w2];exact hc) 0 (Yc _);refine(b.of λr hr=>pre r ⟨true,by rw[UA _ hl,hv],?_⟩).congr ?_
  .simp_all [Zhg]
  .simp only[Ym,Ks];constructor
   .rintro⟨h,hp⟩;exact⟨⟨hv,hd,λ⟨t,ht,hc⟩=>h t ht hc⟩,hp⟩
   .rintro⟨h,hp⟩;exact⟨λt ht hc=>h.2.2 ⟨t,ht,hc⟩,hp⟩
def l_rf0b(m:Zn)(hl:Le m.Z2.Steps)(ts:V4)(c:∀t∈ts,inT t)(hn:ts.length<=1000)(kind:Int)(hk:kind≠0)(x1 x2:Int)(p:Prop)(hc:We (Ww m x1 (w (x2+1))) p):∀j,j<=ts.length->
  We (Zbs m ts kind x1 x2 ts.length j) ((∀t∈ts.drop j,¬tcl m.Z2 t<1)/\p):=by
 refine down _ ?_ ?_
 .grind [W9.1.2.2.2.2]
 .intro j hj ih;have h4:=Xd (i:=j) (by omega);have ht:=c _ (Ye hj);simp only[Yx,Yy]at ih;have pre:∀r,(if tcl m.Z2 ts[j]<1 then some (.tup [I kind,L 1 (ts[j].map ic),.t .nil],[])=some r else Zbs m ts kind x1 x2 ts.length ((j:Int)+1)=some r)->Zbs m ts kind x1 x2 ts.length j=some r:=by
   intro r hr;apply W9.1.2.2.2.2
   simp_all [Yh,Yf,Zef]
  refine We.congr ?_ (Zl6 (P:=λt=>¬tcl m.Z2 t<1) hj).symm;by_cases h:tcl m.Z2 ts[j]<1
  .grind
  .grind
def l_rf1b(m:Zn)(hm:LeM m)(p:Prop)(hc:We (Ww m 5 3) p):We (Ww m 5 2) (WC m.Z2/\p):=by
 have hl:Le m.Z2.Steps:=by obtain⟨h1,h2,h3,h4,h5⟩:=hm;assumption
 have w1:w (1+2)=3:=by decide
 have w2:w (2+1)=3:=by decide
 have pre:∀r,(∃v,Vl m.Z2=some (Bo v,[])/\_)->Ww m 5 2=some r:=λr h=>ZgS (by rw[Ypx,Ynx,Ynx,Ya rfl];exact h)
 rcases tf (Wo m.Z2)with hv|hv
 .refine .inr ⟨λh=>(by have:=h.1.1;rw[hv]at this;cases this),3,by decide,.inr (.inl (pre _ ⟨false,by rw[UA _ hl,hv],?_⟩))⟩
  simp_all
 rcases Zl5 m.Z2 hl hv with⟨hd,xs,ys,d1⟩|⟨hd,d1⟩
 .refine .inr ⟨λh=>h.1.2.1 hd,3,by decide,.inl ⟨xs,ys,pre _ ⟨true,by rw[UA _ hl,hv],?_⟩⟩⟩
  grind
 .have b:=l_rf0b m hl QP (λt h=>(Ks t).1 h) (by rw[Zhh];omega) 3 (by decide) 5 2 p (by rw[w2];exact hc) 0 (Yc _);refine(b.of λr hr=>pre r ⟨true,by rw[UA _ hl,hv],?_⟩).congr ?_
  .simp_all [Zhg]
  .simp only[Ym,Ks];constructor
   .rintro⟨h,hp⟩;exact⟨⟨hv,hd,λ⟨t,ht,hc⟩=>h t ht hc⟩,hp⟩
   .rintro⟨h,hp⟩;exact⟨λt ht hc=>h.2.2 ⟨t,ht,hc⟩,hp⟩
def l_rf0c(m:Zn)(hl:Le m.Z3.Steps)(ts:V4)(c:∀t∈ts,inT t)(hn:ts.length<=1000)(kind:Int)(hk:kind≠0)(x1 x2:Int)(p:Prop)(hc:We (Ww m x1 (w (x2+1))) p):∀j,j<=ts.length->
  We (Zbt m ts kind x1 x2 ts.length j) ((∀t∈ts.drop j,¬tcl m.Z3 t<1)/\p):=by
 refine down _ ?_ ?_
 .grind [W9.2.1.1.1]
 .intro j hj ih;have h4:=Xd (i:=j) (by omega);have ht:=c _ (Ye hj);simp only[Yx,Yy]at ih;have pre:∀r,(if tcl m.Z3 ts[j]<1 then some (.tup [I kind,L 1 (ts[j].map ic),.t .nil],[])=some r else Zbt m ts kind x1 x2 ts.length ((j:Int)+1)=some r)->Zbt m ts kind x1 x2 ts.length j=some r:=by
   intro r hr;apply W9.2.1.1.1
   simp_all [Yh,Yf,Zef]
  refine We.congr ?_ (Zl6 (P:=λt=>¬tcl m.Z3 t<1) hj).symm;by_cases h:tcl m.Z3 ts[j]<1
  .grind
  .grind
def l_rf1c(m:Zn)(hm:LeM m)(p:Prop)(hc:We (Ww m 5 4) p):We (Ww m 5 3) (WC m.Z3/\p):=by
 have hl:Le m.Z3.Steps:=by obtain⟨h1,h2,h3,h4,h5⟩:=hm;assumption
 have w1:w (1+3)=4:=by decide
 have w2:w (3+1)=4:=by decide
 have pre:∀r,(∃v,Vl m.Z3=some (Bo v,[])/\_)->Ww m 5 3=some r:=λr h=>ZgS (by rw[Ypx,Ynx,Ynx,Ynx,Ya rfl];exact h)
 rcases tf (Wo m.Z3)with hv|hv
 .refine .inr ⟨λh=>(by have:=h.1.1;rw[hv]at this;cases this),4,by decide,.inr (.inl (pre _ ⟨false,by rw[UA _ hl,hv],?_⟩))⟩
  simp_all
 rcases Zl5 m.Z3 hl hv with⟨hd,xs,ys,d1⟩|⟨hd,d1⟩
 .refine .inr ⟨λh=>h.1.2.1 hd,4,by decide,.inl ⟨xs,ys,pre _ ⟨true,by rw[UA _ hl,hv],?_⟩⟩⟩
  grind
 .have b:=l_rf0c m hl QP (λt h=>(Ks t).1 h) (by rw[Zhh];omega) 4 (by decide) 5 3 p (by rw[w2];exact hc) 0 (Yc _);refine(b.of λr hr=>pre r ⟨true,by rw[UA _ hl,hv],?_⟩).congr ?_
  .simp_all [Zhg]
  .simp only[Ym,Ks];constructor
   .rintro⟨h,hp⟩;exact⟨⟨hv,hd,λ⟨t,ht,hc⟩=>h t ht hc⟩,hp⟩
   .rintro⟨h,hp⟩;exact⟨λt ht hc=>h.2.2 ⟨t,ht,hc⟩,hp⟩
def l_rf0d(m:Zn)(hl:Le m.Z4.Steps)(ts:V4)(c:∀t∈ts,inT t)(hn:ts.length<=1000)(kind:Int)(hk:kind≠0)(x1 x2:Int)(p:Prop)(hc:We (Ww m x1 (w (x2+1))) p):∀j,j<=ts.length->
  We (Zbu m ts kind x1 x2 ts.length j) ((∀t∈ts.drop j,¬tcl m.Z4 t<1)/\p):=by
 refine down _ ?_ ?_
 .grind [W9.2.1.1.2]
 .intro j hj ih;have h4:=Xd (i:=j) (by omega);have ht:=c _ (Ye hj);simp only[Yx,Yy]at ih;have pre:∀r,(if tcl m.Z4 ts[j]<1 then some (.tup [I kind,L 1 (ts[j].map ic),.t .nil],[])=some r else Zbu m ts kind x1 x2 ts.length ((j:Int)+1)=some r)->Zbu m ts kind x1 x2 ts.length j=some r:=by
   intro r hr;apply W9.2.1.1.2
   simp_all [Yh,Yf,Zef]
  refine We.congr ?_ (Zl6 (P:=λt=>¬tcl m.Z4 t<1) hj).symm;by_cases h:tcl m.Z4 ts[j]<1
  .grind
  .grind
def l_rf1d(m:Zn)(hm:LeM m)(p:Prop)(hc:We (Ww m 5 5) p):We (Ww m 5 4) (WC m.Z4/\p):=by
 have hl:Le m.Z4.Steps:=by obtain⟨h1,h2,h3,h4,h5⟩:=hm;assumption
 have w1:w (1+4)=5:=by decide
 have w2:w (4+1)=5:=by decide
 have pre:∀r,(∃v,Vl m.Z4=some (Bo v,[])/\_)->Ww m 5 4=some r:=λr h=>ZgS (by rw[Ypx,Ynx,Ynx,Ynx,Ynx,Ya rfl];exact h)
 rcases tf (Wo m.Z4)with hv|hv
 .refine .inr ⟨λh=>(by have:=h.1.1;rw[hv]at this;cases this),5,by decide,.inr (.inl (pre _ ⟨false,by rw[UA _ hl,hv],?_⟩))⟩
  simp_all
 rcases Zl5 m.Z4 hl hv with⟨hd,xs,ys,d1⟩|⟨hd,d1⟩
 .refine .inr ⟨λh=>h.1.2.1 hd,5,by decide,.inl ⟨xs,ys,pre _ ⟨true,by rw[UA _ hl,hv],?_⟩⟩⟩
  grind
 .have b:=l_rf0d m hl QP (λt h=>(Ks t).1 h) (by rw[Zhh];omega) 5 (by decide) 5 4 p (by rw[w2];exact hc) 0 (Yc _);refine(b.of λr hr=>pre r ⟨true,by rw[UA _ hl,hv],?_⟩).congr ?_
  .simp_all [Zhg]
  .simp only[Ym,Ks];constructor
   .rintro⟨h,hp⟩;exact⟨⟨hv,hd,λ⟨t,ht,hc⟩=>h t ht hc⟩,hp⟩
   .rintro⟨h,hp⟩;exact⟨λt ht hc=>h.2.2 ⟨t,ht,hc⟩,hp⟩
open Classical in
theorem Zpu(m:Zn)(hm:LeM m):Zao m=some (Bo (decide (Vf m)),[]):=by
 have h5:We (Ww m 5 5) True:=.inl ⟨trivial,ZgS (by rw[Ynx])⟩;have h0:=l_rf1 m hm _ (l_rf1a m hm _ (l_rf1b m hm _ (l_rf1c m hm _ (l_rf1d m hm _ h5))));have hop:Un m=some (.bsl 1 5,[.box (m.c.map .t),.box [.ptr 0 0,.ptr 0 6,.ptr 0 12,.ptr 0 18,.ptr 0 24]]):=W5.2.2.2.1 _ _ rfl;have hR:We (Zfb m) (Vf m):=(h0.of λr hr=>W9.2.1.2.1 _ _ ⟨hop,hr⟩).congr (by simp[Vf])
 grind [W9.2.1.2.2]
