/-
  Parts of the proofs for this seat: G19 G20 G21.
-/
import Derived.Test.YteaiinkcanpleaaGreatP12
set_option linter.all false
set_option maxRecDepth 100000
set_option maxHeartbeats 4000000
namespace Go.Proofs.YteaiinkcanpleaaGreat
open Go.AM
def ZKH:(((iM RL λsizes fr l m x mine k r=>if k<(x.ZL.length:Int)then qG x.ZL k (λu1=>qI (F1 l u1) (λu2=>qG l u2 (λu3=>qI (F1 l (w (x.mask-u1))) (λu4=>qG l u4 (λu5=>aN (LQ sizes mine m u3 u5 3 0 (-1)) (λu6 u7=>r (RM u6 fr l m x u7 u5 k u1 (w (x.mask-u1)) (-1))))))))else r (LR mine true ([]:List Zd) sizes fr l 0))/\
 ((iM RM λsizes fr l m x mine b k left right o r=>if o<4 then qI (RJ l left o) (λu1=>if 0<=u1 then qH l u1 (λu2=>aN (LQ sizes mine m u2 b 5 0 o) (λu3 u4=>r (RM u3 fr l m x u4 b k left right (w (o+1)))))else r (RM sizes fr l m x mine b k left right (w (o+1))))else r (F2 sizes fr l m x mine k left right 0))/\
 (iM LR λmine fr out x fr1 x1 o r=>if o<=4 then qG mine o (λu1=>if 0<u1.Mask then qN out (r (LR mine false (out++[u1]) x fr1 x1 (w (o+1))))else r (LR mine fr out x fr1 x1 (w (o+1))))else r (some (.own 2,[.arr 3 1 true (x.map ic),.arr 77 4 fr1 (x1.map Zd.c),.arr 77 4 fr (out.map Zd.c)])))))/\
 ((iM F2 λsizes fr l m x mine k left right e r=>qG x.shared k (λu1=>if e<(u1.length:Int)then qG u1 e (λu2=>qL (RK sizes fr l m) λk2=>qL (k2 right u2) λk1=>qL (w (e+1)) λk3=>(∃(u3:Zd),k2 left u2=some (.agg (u3.c.map .t),[.arr 3 1 true (sizes.map ic),.arr 77 4 fr (l.map Zd.c)])/\((∃(u4:Zd),k1=some (.agg (u4.c.map .t),[.arr 3 1 true (sizes.map ic),.arr 77 4 fr (l.map Zd.c)])/\aN (LQ sizes mine m u3 u4 4 u2 u2) (λu5 u6=>r (F2 u5 fr l m x u6 k left right k3)))\/(∃(u4:List Zk),∃u5,∃u6,∃u7,k1=some (.agg [I u5,I u6,I u7,.own 2],[.arr 3 1 true (sizes.map ic),.arr 77 4 fr (l.map Zd.c),.arr 149 3 true (u4.map Zk.c)])/\vB (fQ sizes mine u4 m u3 u5 u6 u7 4 u2 u2) (λu8 u9 u10=>r (F2 u8 fr l m x u9 k left right k3)))))\/(∃(u3:List Zk),∃u4,∃u5,∃u6,k2 left u2=some (.agg [I u4,I u5,I u6,.own 2],[.arr 3 1 true (sizes.map ic),.arr 77 4 fr (l.map Zd.c),.arr 149 3 true (u3.map Zk.c)])/\((∃(u7:Zd),k1=some (.agg (u7.c.map .t),[.arr 3 1 true (sizes.map ic),.arr 77 4 fr (l.map Zd.c)])/\vB (fR sizes mine u3 m u4 u5 u6 u7 4 u2 u2) (λu8 u9 u10=>r (F2 u8 fr l m x u9 k left right k3)))\/(∃(u7:List Zk),∃u8,∃u9,∃u10,k1=some (.agg [I u8,I u9,I u10,.own 2],[.arr 3 1 true (sizes.map ic),.arr 77 4 fr (l.map Zd.c),.arr 149 3 true (u7.map Zk.c)])/\∃(cc:WL) (cd:List Zd) (cl:List Zk) (cn:List Zk),fS sizes mine u3 u7 m u4 u5 u6 u8 u9 u10 4 u2 u2=some (.tup [],[.arr 3 1 true (cc.map ic),.arr 77 4 true (cd.map Zd.c),.arr 149 3 true (cl.map Zk.c),.arr 149 3 true (cn.map Zk.c)])/\r (F2 cc fr l m x cd k left right k3)))))else r (RL sizes fr l m x mine (w (k+1)))))/\
 ((iM zJ λx fr x1 a a1 r=>r (RL x fr x1 a a1 (List.replicate 5 (⟨0,0,0,(⟨[]⟩:Ze)⟩:Zd)) 0))/\
 (iM RN λshapes sizes m q fr out i r=>if i<(shapes.length:Int)then qG shapes i (λu1=>if(Ah u1.mask (w (u1.mask-1)))=0 then AO (Hm u1.mask) (λu2=>∃u3,u2[0]?=some u3/\qG q.Atoms u3 (λu4=>∃u5,u4.Vars[0]?=some u5/\qG sizes u1.mask (λu6=>qI (Ur m.Scan u6 0 u6) (λu7=>BZ (fN u3) (λu8=>qN out (r (RN shapes sizes m q fr (out++[(⟨u1.mask,u5,u7,(⟨u8⟩:Ze)⟩:Zd)]) (w (i+1)))))))))else ∃u2,∃(u3:List Zd),zJ sizes fr out m u1=some (.own 2,[.arr 3 1 true (sizes.map ic),.arr 77 4 fr (out.map Zd.c),.arr 77 4 u2 (u3.map Zd.c)])/\out.length+u3.length<=68719476736/\r (RN shapes sizes m q (fr && flat (u3.map Zd.c)) (out++u3) (w (i+1))))else r (some (.own 2,[.arr 108 3 true (shapes.map ZX.c),.arr 3 1 true (sizes.map ic),.arr 77 4 fr (out.map Zd.c)]))))))/\
 (((iM J2 λx x1 a a1 r=>r (RN x x1 a a1 true ([]:List Zd) 0))/\
 ((iM Us λa a1 r=>qI (F1 a a1) (λu1=>if u1<0 then vC r else qG a u1 (λu2=>qM u2.Ze.Steps (Pf u2.Mask u2.Order u2.Cost u2.Ze.Steps r))))/\
 (iM Zx3 λp i r=>if i<0 then False else qi (-1) r)))/\
 (((iM fV λa r=>r (Zx3 a 0))/\
 (iM zL λa a1 r=>if(a.Steps.length:Int)=(a1.Steps.length:Int)then r (LS a a1 0)else qb false r))/\
 ((iM fX λp l i r=>if i<(l.length:Int)then qG l i (λu1=>qB (zL u1 p) (qi i r) (r (fX p l (w (i+1)))))else qi (-1) r)/\
 (iM fW λa a1 r=>r (fX a1 a 0))))):=by
 refine qu ?_
 and_intros
 all_goals(intros;unfold Im;(try simp only[RL,RM,LR,F2,zJ,RN,J2,Us,Zx3,fV,zL,fX,fW,F1,LQ,Zf.c_def,Zz.c_def,Ze.c_def,Zd.c_def,RJ,RK,fQ,fR,fS,Zk.c_def,Hm,Ur,fN,ZX.c_def,LS,Zx2,Aq,Bc,A8]);(try simp only[Bd]);(try simp only[Be,gS,kk]))
 all_goals(repeat' first|refine Bp λ_=>?_|refine Bn λ_ _=>?_|refine Bm λ_=>?_|refine AH ?_ ?_|exact False.elim)
 all_goals(intro h;first|rw[Zl fT.eq_1]|rw[Zl Zxs.eq_1]|rw[Zl Zxv.eq_1]|rw[Zl Zxt.eq_1]|refine XH ZIf rfl ?_|rw[Zl Zxx.eq_1]|refine XH ZIg rfl ?_|refine run ZIh rfl ?_|rw[Zl Zx0.eq_1]|refine run ZIi rfl ?_|refine run ZIj rfl ?_)
 all_goals (refine Ye ?_ h;clear h;simp +decide[*,kk,tI,Av,fU,Z7K,Zxu,Z7L,Zxw,zI,Z7M,Z7N,Zxy,Z7O,Z7P,Zx1,Z7Q,Z7S])
abbrev WN:=uq ZKH
def ZKI:iM LS λa b i r=>if i<(a.Steps.length:Int)then qG a.Steps i (λu1=>qH b.Steps i (λu2=>if u1.Kind=u2.Kind/\u1.Zg=u2.Zg/\u1.Order=u2.Order then r (LS a b (w (i+1)))else qb false r))else qb true r:=by
 refine qu ?_;intro a b i r;unfold Im;intro h;unfold LS
 try simp only[Aq]
 rw[Zl Zx5.eq_1]
 try simp only[Bd]at h
 try simp only[Be,gS,kk]at h
 rcases h with⟨q1,q2,e1,⟨g3,q3⟩,e2,⟨g4,q4⟩,(⟨q5,h⟩|⟨q5,h⟩)⟩|⟨q1,h⟩
 all_goals (try (simp at q5))
 all_goals (refine Ye ?_ h;clear h;simp +decide[*,kk,tI,Av,LS,Zx6,Aq])
 all_goals (try (intros;simp_all))
abbrev Z0F:=uq ZKI
def ZKJ:((((iM zP λm q b x x1 shapes n full i r=>if i<n then Kc (Qn b i) (λu1 u2=>AO (Kk u1) (λu3=>∃u4,∃(u5:List Zd),J2 shapes u3 m q=some (.own 2,[.arr 108 3 true (shapes.map ZX.c),.arr 3 1 true (u3.map ic),.arr 77 4 u4 (u5.map Zd.c)])/\(qL (w (i+1)) λk1=>(Jv (Us u5 full) (λu6 u7 u8=>qI Z7R (λu9=>if u9<0 then r (RO m q b x x1 ([u8]) ([0]) ([(⟨[]⟩:Ze)]) shapes n full k1)else r (Zx9 m q b x x1 ([u8]) ([u9]) shapes n full k1))))\/(Jw (Us u5 full) (λu6 u7 u8 u9=>qI (fV (⟨u6⟩:Ze)) (λu10=>if u10<0 then r (RO m q b x x1 ([u9]) ([0]) ([(⟨u6⟩:Ze)]) shapes n full k1)else r (Zx9 m q b x x1 ([u9]) ([u10]) shapes n full k1)))))))else r (some (.tup [.agg [L 1 (x.map ic),L 1 (x1.map ic),L 1 (([]:WL).map ic),L 1 (([]:WL).map ic),L 1 (([]:List Ze).map Ze.c)],Bo true],[])))/\
 (iM RO λm q b x x1 x2 x3 x4 shapes n full i r=>if i<n then Kc (Qn b i) (λu1 u2=>AO (Kk u1) (λu3=>∃u4,∃(u5:List Zd),J2 shapes u3 m q=some (.own 2,[.arr 108 3 true (shapes.map ZX.c),.arr 3 1 true (u3.map ic),.arr 77 4 u4 (u5.map Zd.c)])/\(qL (RO m q b x x1) λk1=>qL (x3++[(x4.length:Int)]) λk2=>qL (w (i+1)) λk3=>(Jv (Us u5 full) (λu6 u7 u8=>qI (Z7T x4) (λu9=>if u9<0 then qN x4 (qN x2 (qN x3 (r (k1 (x2++[u8]) k2 (x4++[(⟨[]⟩:Ze)]) shapes n full k3))))else qN x2 (qN x3 (r (k1 (x2++[u8]) (x3++[u9]) x4 shapes n full k3))))))\/(Jw (Us u5 full) (λu6 u7 u8 u9=>qI (fW x4 (⟨u6⟩:Ze)) (λu10=>if u10<0 then qN x4 (qN x2 (qN x3 (r (k1 (x2++[u9]) k2 (x4++[(⟨u6⟩:Ze)]) shapes n full k3))))else qN x2 (qN x3 (r (k1 (x2++[u9]) (x3++[u10]) x4 shapes n full k3)))))))))else r (some (.tup [.agg [L 1 (x.map ic),L 1 (x1.map ic),L 1 (x2.map ic),L 1 (x3.map ic),L 1 (x4.map Ze.c)],Bo true],[]))))/\
 ((iM fY λa a1 a2 r=>qI (Kh a2) (λu1=>qL (Lc ([]:WL) ([]:List Ze) r) λk1=>qB (Kj a) (qI (Wn a1) (λu3=>qB (UN a1 u3) (qB (Z0 u1 1 400) (if(a2.Low.length:Int)=(w (u3+1))then aO (KI a2) (λu6 u7=>aP (Hw a1) (λu8=>r (zP a a1 a2 u6 u7 u8 u1 u3 0)))else k1) k1) k1)) k1))/\
 (iM fZ λs n i r=>if i<n then qG s.Costs i (λu1=>qB (Z0 u1 1 1000000000000) (qH s.Choices i (λu3=>qB (Z0 u3 0 (w ((s.Plans.length:Int)-1))) (r (fZ s n (w (i+1)))) (qb false r))) (qb false r))else qb true r)))/\
 (((iM J3 λa r=>qI (Kh a.Box) (λu1=>qB (Z0 u1 1 400) (if(a.Costs.length:Int)=u1 then if(a.Choices.length:Int)=u1 then r (fZ a u1 0)else qb false r else qb false r) (qb false r)))/\
 (iM gB λs lo hi i r=>if i<(s.Costs.length:Int)then qG s.Costs i (λu1=>r (gB s (if u1<lo then u1 else lo) (if hi<u1 then u1 else hi) (w (i+1))))else FF lo hi r))/\
 ((iM gA λa r=>qB (J3 a) (∃u2,a.Costs[0]?=some u2/\r (gB a u2 u2 0)) (r (some (.tup [I 0,I 0],[]))))/\
 ((iM gF λout high ratio b r=>if b<high then qN out (r (gF (out++[(w (b*ratio))]) high ratio (w (b*ratio))))else AZ out r)/\
 (iM gC λa a1 a2 r=>qL (AZ ([]:WL) r) λk1=>qB (Z0 a 1 1000000000000) (qB (Z0 a1 a 1000000000000) (qB (Z0 a2 2 8) (r (gF ([a]) a1 a2 a)) k1) k1) k1)))))/\
 ((((iM gG λout l i r=>if i<(l.length:Int)then qG l i (λu1=>qM u1.Steps (qN out (r (gG (out++[u1]) l (w (i+1))))))else r (some (.own 0,[.arr 75 1 true (out.map Ze.c)])))/\
 (iM LT λa r=>r (gG ([]:List Ze) a 0)))/\
 ((iM LU λa a1 r=>qB (Ht a) (qB (LL a1 a.Low) (qV (LL a.High a1) (λu3=>qb u3 r)) (qb false r)) (qb false r))/\
 (iM gH λb l n i r=>if i<(l.length:Int)then qG b.High i (λu1=>qH b.Low i (λu2=>qH l i (λu3=>r (gH b l (w ((w ((w (n*(w ((w (u1-u2))+1))))+u3))-u2)) (w (i+1))))))else qi n r)))/\
 (((iM zQ λa a1 r=>qB (LU a a1) (r (gH a a1 0 0)) (qi (-1) r))/\
 (iM zR λa a1 a2 r=>qM a1 (qG a1 a2 (λu1=>qI (zQ a (a1.set a2.toNat (w (u1+1)))) (λu2=>qi u2 r)))))/\
 ((iM Hz λs out budget i r=>if i<(s.Costs.length:Int)then qG s.Costs i (λu1=>if budget<u1 then r (Hz s out budget (w (i+1)))else Kc (Qn s.Box i) (λu2 u3=>r (gI s out u2 budget i true 0)))else AZ out r)/\
 ((iM gI λs out l budget i top k r=>if k<(l.length:Int)then qI (zR s.Box l k) (λu1=>qL (gI s out l budget i) λk1=>if top=true then if u1<0 then r (k1 true (w (k+1)))else qG s.Costs u1 (λu2=>r (k1 (decide (budget<u2)) (w (k+1))))else r (k1 false (w (k+1))))else if top=true then qN out (r (Hz s (out++[i]) budget (w (i+1))))else r (Hz s out budget (w (i+1))))/\
 (iM LV λa a1 r=>qB (J3 a) (r (Hz a ([]:WL) a1 0)) (AZ ([]:WL) r)))))):=by
 refine qu ?_
 and_intros
 all_goals(intros;unfold Im;(try simp only[zP,RO,fY,fZ,J3,gB,gA,gF,gC,gG,LT,LU,gH,zQ,zR,Hz,gI,LV,Qn,Kk,J2,Us,Z7R,fV,Box.c_def,ZX.c_def,Zf.c_def,Zz.c_def,Ze.c_def,Zd.c_def,Zc.c_def,Z7T,fW,Kh,Kj,Wn,UN,Z0,KI,Hw,ZY.c_def,Ht,LL,tI,Zx9,zO,Aq,ZxT,Bc,A8]);(try simp only[Bd]);(try simp only[Be,gS,kk]))
 all_goals(repeat' first|refine Bp λ_=>?_|refine Bn λ_ _=>?_|refine Bm λ_=>?_|refine AH ?_ ?_|exact False.elim)
 all_goals(intro h;first|rw[Zl Zx7.eq_1]|refine run ZIk rfl ?_|rw[Zl ZxB.eq_1]|refine run ZIl rfl ?_|rw[Zl ZxE.eq_1]|refine run ZIm rfl ?_|rw[Zl ZxH.eq_1]|refine run ZIn rfl ?_|rw[Zl ZxK.eq_1]|refine run ZIo rfl ?_|refine run ZIp rfl ?_|rw[Zl ZxN.eq_1]|refine run ZIq rfl ?_|refine run ZIr rfl ?_|rw[Zl zS.eq_1]|rw[Zl ZxP.eq_1]|refine run ZIs rfl ?_)
 all_goals (refine Ye ?_ h;clear h;simp +decide[*,kk,tI,Av,Z7U,Zx8,Z7V,ZxC,Z7W,ZxF,Z7X,ZxI,Z7Y,ZxL,Z7Z,Z8a,ZxO,Z8b,Z8c,ZxR,ZxS,ZxQ,Z8d])
abbrev X0:=uq ZKJ
def ZKK:iM KK λa a1 r=>qB (Z0 a 0 1000000000000) (qB (Z0 a1 0 100) (qi (w (Int.tdiv (w (a*(w (100+a1)))) 100)) r) (qi (-1) r)) (qi (-1) r):=by
 refine qu ?_
 all_goals(intros;unfold Im;(try simp only[KK,Z0,Aq,Bc,A8]);(try simp only[Bd]);(try simp only[Be,gS,kk]))
 all_goals(repeat' first|refine Bp λ_=>?_|refine Bn λ_ _=>?_|refine Bm λ_=>?_|refine AH ?_ ?_|exact False.elim)
 all_goals(intro h;first|refine run ZIt rfl ?_)
 all_goals (refine Ye ?_ h;clear h;simp +decide[*,kk,tI,Av,Z8e])
abbrev ZKL:=uq ZKK
def ZKM:((((iM RQ λs out f i r=>if i<(f.length:Int)then qB (J3 s) (qG f i (λu2=>qL (r (RQ s out f (w (i+1)))) λk1=>qB (Z0 u2 0 (w ((s.Choices.length:Int)-1))) (qG s.Choices u2 (λu4=>qB (Vw out u4) k1 (qN out (r (RQ s (out++[u4]) f (w (i+1))))))) k1)) (AZ out r)else AZ out r)/\
 (iM gJ λa a1 r=>r (RQ a ([]:WL) a1 0)))/\
 ((iM RR λa a1 r=>qB (Z0 a1 0 3) (¬a1<0/\qb (decide ((Ah (Au a a1) 1)=1)) r) (qb false r))/\
 (iM RT λx x1 x2 a b y v r=>if x1.Kind=4 then qB (RR v x1.Order) (if a.Order=x1.Order then if b.Order=x1.Order then r (some (.tup [.agg [I y.Mask,I x1.Order,I y.Left,I y.Right],I 2],[]))else Wx r else Wx r) (Wx r)else r (some (.tup [.agg (y.c.map .t),I 2],[])))))/\
 (((iM LX λx x1 x2 a b y v x3 r=>if x1.Kind=4 then qB (RR v x1.Order) (if a.Order=x1.Order then if b.Order=x1.Order then r (some (.tup [.agg [I y.Mask,I x1.Order,I y.Left,I y.Right],I 2],[]))else Wx r else Wx r) (Wx r)else r (some (.tup [.agg (y.c.map .t),I 2],[])))/\
 (iM LW λa a1 a2 a3 r=>if a1.Kind=1 then qB (Z0 a1.Zg 0 (w ((a.Atoms.length:Int)-1))) (if a1.Order=0 then ¬a1.Zg<0/\qG a.Atoms a1.Zg (λu2=>∃u3,u2.Vars[0]?=some u3/\r (some (.tup [.agg [I (Ac 1 a1.Zg),I u3,I (-1),I (-1)],I 0],[])))else Wx r) (Wx r)else qL (a3.length:Int) λk1=>qL (w (k1-1)) λk3=>if a1.Kind=2 then if a1.Zg=0 then if k1<1 then Wx r else 0<=k3/\∃u1,a3[k3.toNat]?=some u1/\qG a2 u1 (λu2=>if u2.Order=a1.Order then Wx r else qI (Ud a u2.Mask) (λu3=>qB (RR u3 a1.Order) (r (some (.tup [.agg [I u2.Mask,I a1.Order,I u1,I (-1)],I 1],[]))) (Wx r)))else Wx r else qL (⟨0,0,0,0⟩:Zp) λk4=>qL (r (RS a a1 k4 a2 a3 k1 a1.Kind true)) λk2=>if a1.Kind=3 then k2 else if a1.Kind=4 then k2 else if a1.Kind=5 then if a1.Zg=0 then if k1<2 then Wx r else 0<=(w (k1-2))/\∃u1,a3[(w (k1-2)).toNat]?=some u1/\qG a2 u1 (λu2=>0<=k3/\∃u3,a3[k3.toNat]?=some u3/\qG a2 u3 (λu4=>qI (Ud a u2.Mask) (λu5=>qI (Ud a u4.Mask) (λu6=>if(Ah u2.Mask u4.Mask)=0 then if(Ah u5 u6)=0 then Wx r else if a1.Order=0 then r (RT a a1 k4 u2 u4 (⟨(At u2.Mask u4.Mask),u2.Order,u1,u3⟩:Zp) (Ah u5 u6))else Wx r else Wx r))))else Wx r else Wx r))/\
 ((iM gK λq p info stack i r=>qL (aH ([]:List Zp) r) λk2=>if i<(p.Steps.length:Int)then qG p.Steps i (λu1=>∃(u2:Zp),∃u3,LW q u1 info stack=some (.tup [.agg (u2.c.map .t),I u3],[])/\if u3<0 then k2 else qN info (qL (w ((stack.length:Int)-u3)) λk1=>0<=k1/\k1.toNat<=stack.length/\k1.toNat<=68719476736/\k1.toNat+1<=68719476736/\r (gK q p (info++[u2]) ((stack.take (k1.toNat))++[i]) (w (i+1)))))else if(stack.length:Int)=1 then vD info r else k2)/\
 (iM RU λa a1 r=>qL ([]:List Zp) λk1=>qB (Q8 a) (qB (Z0 (a1.Steps.length:Int) 1 14) (r (gK a a1 k1 ([]:WL) 0)) (aH k1 r)) (aH k1 r)))))/\
 ((((iM gL λsizes i r=>if i<(sizes.length:Int)then qG sizes i (λu1=>qB (Z0 u1 0 4096) (r (gL sizes (w (i+1)))) (qb false r))else qb true r)/\
 (iM RW λa a1 r=>qB (Q8 a) (qI (Wn a) (λu2=>if(a1.length:Int)=(w (u2+1))then r (gL a1 0)else qb false r)) (qb false r)))/\
 ((iM zX λa a1 a2 a3 a4 r=>qG a2 a3 (λu1=>Hc (Ki a a1) (λu2=>if u1.Left<0 then qG a4 u1.Mask (λu3=>qI (Ur u2 u3 0 u3) (λu4=>qi u4 r))else if u1.Right<0 then qG a2 u1.Left (λu3=>qG a4 u3.Mask (λu4=>qG a4 u1.Mask (λu5=>qI (Ur u2 u4 0 u5) (λu6=>qi u6 r))))else qG a2 u1.Left (λu3=>qG a4 u3.Mask (λu4=>qG a2 u1.Right (λu5=>qG a4 u5.Mask (λu6=>qG a4 u1.Mask (λu7=>qI (Ur u2 u4 u6 u7) (λu8=>qi u8 r)))))))))/\
 (iM gM λm p out info sizes i r=>if i<(info.length:Int)then qG p.Steps i (λu1=>qI (zX m u1.Kind info i sizes) (λu2=>qN out (r (gM m p (out++[u2]) info sizes (w (i+1))))))else AZ out r)))/\
 (((iM zY λa a1 a2 a3 r=>∃(u1:List Zp),∃u2,RU a1 a2=some (.tup [.own 0,Bo u2],[.arr 143 4 true (u1.map Zp.c)])/\qL ([]:WL) λk1=>if u2=true then qB (RW a1 a3) (r (gM a a2 k1 u1 a3 0)) (AZ k1 r)else AZ k1 r)/\
 (iM gN λl n i r=>if i<(l.length:Int)then qG l i (λu1=>r (gN l (w (n+u1)) (w (i+1))))else qi n r))/\
 ((iM zZ λa a1 a2 a3 r=>AO (zY a a1 a2 a3) (λu1=>if(u1.length:Int)=0 then qi (-1) r else r (gN u1 0 0)))/\
 ((iM HA λa a1 a2 a3 r=>AO (Kk a3) (λu1=>qI (zZ a a1 a2 u1) (λu2=>qi u2 r)))/\
 (iM gO λa a1 a2 a3 a4 a5 r=>Kc (Qn a2.Box a4) (λu1 u2=>qL (qb false r) λk1=>if u2=true then qB (J3 a2) (qB (Z0 a3 0 (w ((a2.Plans.length:Int)-1))) (qG a2.Plans a3 (λu5=>qI (HA a a1 u5 u1) (λu6=>if 0<=u6 then qb (decide (u6<=a5)) r else k1))) k1) k1 else k1)))))):=by
 refine qu ?_
 and_intros
 all_goals(intros;unfold Im;(try simp only[RQ,gJ,RR,LW,gK,RU,gL,RW,zX,gM,zY,gN,zZ,HA,gO,J3,Z0,Vw,Box.c_def,ZY.c_def,Ud,Zc.c_def,Zk.c_def,Zp.c_def,Q8,Wn,Ki,Ur,Zf.c_def,Zz.c_def,Ze.c_def,Kk,Qn,RS,RT,LX,Aq,Bc,A8]);(try simp only[Bd]);(try simp only[Be,gS,kk]))
 all_goals(repeat' first|refine Bp λ_=>?_|refine Bn λ_ _=>?_|refine Bm λ_=>?_|refine AH ?_ ?_|exact False.elim)
 all_goals(intro h;first|rw[Zl ZxU.eq_1]|refine run ZIu rfl ?_|refine run ZIv rfl ?_|rw[Cb zV.eq_1]|refine run ZIw rfl ?_|rw[Zl ZxX.eq_1]|refine run ZIx rfl ?_|rw[Zl Zya.eq_1]|refine run ZIy rfl ?_|refine run ZIz rfl ?_|rw[Zl Zyd.eq_1]|refine run ZI0 rfl ?_|rw[Zl Zyg.eq_1]|refine run ZI1 rfl ?_|refine run ZI2 rfl ?_|refine run ZI3 rfl ?_)
 all_goals (refine Ye ?_ h;clear h;simp +decide[*,kk,tI,Av,Z8f,ZxV,Z8g,Z8h,Z8i,Z8j,zW,ZxY,Z8k,Zyb,Z8l,Z8m,Zye,Z8n,Zyh,Z8o,Z8p,Z8q])
abbrev X6:=uq ZKM
def ZKN:iM RS λq x x1 info stack n x2 x3 r=>if x3=true then if x.Zg=0 then if n<2 then Wx r else 0<=(w (n-2))/\∃u1,stack[(w (n-2)).toNat]?=some u1/\qG info u1 (λu2=>0<=(w (n-1))/\∃u3,stack[(w (n-1)).toNat]?=some u3/\qG info u3 (λu4=>qI (Ud q u2.Mask) (λu5=>qI (Ud q u4.Mask) (λu6=>if(Ah u2.Mask u4.Mask)=0 then if(Ah u5 u6)=0 then Wx r else qL (r (LX q x x1 u2 u4 (⟨(At u2.Mask u4.Mask),(-1),u1,u3⟩:Zp) (Ah u5 u6) false)) λk1=>if x.Kind=4 then k1 else if x.Order=0 then if x.Kind=5 then r (RT q x x1 u2 u4 (⟨(At u2.Mask u4.Mask),u2.Order,u1,u3⟩:Zp) (Ah u5 u6))else k1 else Wx r else Wx r))))else Wx r else Wx r:=by
 refine qu ?_;intro q x x1 info stack n x2 x3 r;unfold Im;intro h;unfold RS
 try simp only[Aq]
 rw[Cb zW.eq_1];by_cases q1:x3=true
 .rw[Ya q1]at h;by_cases q2:x.Zg=0
  .rw[Ya q2]at h;replace q2:=eq_true q2;by_cases q3:n<2
   .rw[Ya q3]at h;refine Ye ?_ h;clear h;simp +decide[*,tI,Av,Aq]
   .rw[Yb q3]at h;obtain⟨q4,h⟩:=h;obtain⟨e1,q5,h⟩:=h;have gq5:=We q5;have kq5:=Wm q5;obtain⟨q6,h⟩:=h;obtain⟨e2,q7,h⟩:=h;have gq7:=We q7;have kq7:=Wm q7;obtain⟨q8,h⟩:=h;obtain⟨e3,q9,h⟩:=h;have gq9:=We q9;have kq9:=Wm q9;obtain⟨q10,h⟩:=h;obtain⟨e4,q11,h⟩:=h;have j9:=We q11;have kG:=Wm q11;obtain⟨v,q12,h⟩:=h;unfold Ud at q12
    try simp[Aq]at q12
    obtain⟨v1,q13,h⟩:=h;unfold Ud at q13
    try simp[Aq]at q13
    by_cases Bv:(Ah e2.Mask e4.Mask)=0
    .rw[Ya Bv]at h;replace Bv:=eq_true Bv;by_cases BN:(Ah v v1)=0
     .rw[Ya BN]at h;replace BN:=eq_true BN;refine Ye ?_ h;clear h;simp +decide[*,tI,Av,Aq]
     .rw[Yb BN]at h;replace BN:=eq_false BN;by_cases q16:x.Kind=4
      .rw[Ya q16]at h;replace q16:=eq_true q16;have EP:(x.Kind=5)=False:=eq_false (by intro hh;simp_all);refine Ye ?_ h;clear h;simp +decide[*,tI,Av,LX,Aq]
      .rw[Yb q16]at h;replace q16:=eq_false q16;by_cases Cq:x.Order=0
       .rw[Ya Cq]at h;replace Cq:=eq_true Cq;by_cases Dz:x.Kind=5
        .rw[Ya Dz]at h;replace Dz:=eq_true Dz;refine Ye ?_ h;clear h;simp +decide[*,tI,Av,RT,Aq]
        .rw[Yb Dz]at h;replace Dz:=eq_false Dz;refine Ye ?_ h;clear h;simp +decide[*,tI,Av,LX,Aq]
       .rw[Yb Cq]at h;replace Cq:=eq_false Cq;refine Ye ?_ h;clear h;simp +decide[*,tI,Av,Aq]
    .rw[Yb Bv]at h;replace Bv:=eq_false Bv;refine Ye ?_ h;clear h;simp +decide[*,tI,Av,Aq]
  .rw[Yb q2]at h;replace q2:=eq_false q2;refine Ye ?_ h;clear h;simp +decide[*,tI,Av,Aq]
 .rw[Yb q1]at h;refine Ye ?_ h;clear h;simp +decide[*,tI,Av,Aq]
abbrev kH:=uq ZKN
