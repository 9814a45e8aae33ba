/-
  Parts of the proofs for this seat: G19 G20 G21.
-/
import Derived.Test.YtggcnlojfngdeaaGreatP13
set_option linter.all false
set_option maxRecDepth 100000
set_option maxHeartbeats 4000000
namespace Go.Proofs.YtggcnlojfngdeaaGreat
open Go.AM
def ZIb:(((iM L3 λx x1 a a1 a2 a3 a4 a5 r=>G3 (Kb a a3) (λu1=>qG x a1.Mask (λu2=>qG x a2.Mask (λu3=>qL (Au a1.Mask a2.Mask) λk2=>0<=k2/\∃u4,x[k2.toNat]?=some u4/\qI (Uu u1 u2 u3 u4) (λu5=>0<=(w (a5+1))/\∃u6,x1[(w (a5+1)).toNat]?=some u6/\qL (w ((w (a1.Cost+a2.Cost))+u5)) λk3=>qL (JK (Hw a1.Zj a2.Zj a3 a4) (λu7=>uJ x (x1.set ((w (a5+1)).toNat) (⟨k2,a5,k3,(⟨u7⟩:Zj)⟩:Ze)) r)) λk1=>if u6.Mask=0 then k1 else if k3<u6.Cost then k1 else uJ x x1 r)))))/\
 (iM gB λl mask order i r=>if i<(l.length:Int)then qG l i (λu1=>qL (r (gB l mask order (w (i+1)))) λk1=>if u1.Mask=mask then if u1.Order=order then qi i r else k1 else k1)else qi (-1) r))/\
 ((iM RT λa a1 a2 r=>r (gB a a1 a2 0))/\
 (iM gC λa a1 r=>qM a.Steps (qN a.Steps (aR (a.Steps++[(⟨2,0,a1⟩:Zn)]) r)))))/\
 (((iM gF λx x1 x2 a a1 Mask Order Cost a2 a3 a4 r=>G3 (Kb a a2) (λu1=>qG x a1.Mask (λu2=>qG x Mask (λu3=>qL (Au a1.Mask Mask) λk2=>0<=k2/\∃u4,x[k2.toNat]?=some u4/\qI (Uu u1 u2 u3 u4) (λu5=>0<=(w (a4+1))/\∃u6,x1[(w (a4+1)).toNat]?=some u6/\qL (w ((w (a1.Cost+Cost))+u5)) λk3=>qL (JK (Hw a1.Zj (⟨x2⟩:Zj) a2 a3) (λu7=>Pk x (x1.set ((w (a4+1)).toNat) (⟨k2,a4,k3,(⟨u7⟩:Zj)⟩:Ze)) x2 r)) λk1=>if u6.Mask=0 then k1 else if k3<u6.Cost then k1 else Pk x x1 x2 r)))))/\
 (iM gG λx x1 x2 a Mask Order Cost a1 a2 a3 a4 r=>G3 (Kb a a2) (λu1=>qG x Mask (λu2=>qG x a1.Mask (λu3=>qL (Au Mask a1.Mask) λk2=>0<=k2/\∃u4,x[k2.toNat]?=some u4/\qI (Uu u1 u2 u3 u4) (λu5=>0<=(w (a4+1))/\∃u6,x1[(w (a4+1)).toNat]?=some u6/\qL (w ((w (Cost+a1.Cost))+u5)) λk3=>qL (JK (Hw (⟨x2⟩:Zj) a1.Zj a2 a3) (λu7=>Pk x (x1.set ((w (a4+1)).toNat) (⟨k2,a4,k3,(⟨u7⟩:Zj)⟩:Ze)) x2 r)) λk1=>if u6.Mask=0 then k1 else if k3<u6.Cost then k1 else Pk x x1 x2 r))))))/\
 ((iM gH λx x1 x2 x3 a Mask Order Cost HL AaW jU a1 a2 a3 r=>G3 (Kb a a1) (λu1=>qG x Mask (λu2=>qG x HL (λu3=>qL (Au Mask HL) λk2=>0<=k2/\∃u4,x[k2.toNat]?=some u4/\qI (Uu u1 u2 u3 u4) (λu5=>0<=(w (a3+1))/\∃u6,x1[(w (a3+1)).toNat]?=some u6/\qL (w ((w (Cost+jU))+u5)) λk3=>qL (JK (Hw (⟨x2⟩:Zj) (⟨x3⟩:Zj) a1 a2) (λu7=>uK x (x1.set ((w (a3+1)).toNat) (⟨k2,a3,k3,(⟨u7⟩:Zj)⟩:Ze)) x2 x3 r)) λk1=>if u6.Mask=0 then k1 else if k3<u6.Cost then k1 else uK x x1 x2 x3 r)))))/\
 (iM RU λx fr x1 a a1 a2 r=>qI (FZ x1 a1) (λu1=>qG x1 u1 (λu2=>qG x a1 (λu3=>qI (Uu a.Sort_ u3 0 u3) (λu4=>qI (RT x1 a1 a2) (λu5=>qL (w (u2.Cost+u4)) λk1=>if 0<=u5 then qH x1 u5 (λu6=>if u6.Cost<=k1 then r (some (.agg (u6.c.map .t),[.arr 3 1 true (x.map ic),.arr 117 4 fr (x1.map Ze.c)]))else JK (gC u2.Zj a2) (λu7=>r (some (.agg [I a1,I a2,I k1,.own 2],[.arr 3 1 true (x.map ic),.arr 117 4 fr (x1.map Ze.c),.arr 210 3 true (u7.map Zn.c)]))))else JK (gC u2.Zj a2) (λu6=>r (some (.agg [I a1,I a2,I k1,.own 2],[.arr 3 1 true (x.map ic),.arr 117 4 fr (x1.map Ze.c),.arr 210 3 true (u6.map Zn.c)]))))))))))):=by
 refine qu ?_
 and_intros
 all_goals(intros;unfold Im;(try simp only[L3,gB,RT,gC,gF,gG,gH,RU,Kb,Uu,Hw,Zf.c_def,Zz.c_def,Zj.c_def,FZ,Ze.c_def,Ar,Bf,A7]);(try simp only[Bc]);(try simp only[Bd,gS,kk]))
 all_goals(repeat' first|refine Br λ_=>?_|refine Bq λ_ _=>?_|refine Bp λ_=>?_|refine AL ?_ ?_|exact False.elim)
 all_goals(intro h;first|refine XD ZFU rfl ?_|rw[Zk Zw9.eq_1]|refine run ZFV rfl ?_|refine run ZFW rfl ?_|refine XD ZFX rfl ?_)
 all_goals (refine Yg ?_ h;clear h;simp +decide[*,kk,tI,Az,Z6l,ZwA,Z6m,Z6n,Z6o])
abbrev KC:=uq ZIb
def ZIc:(((iM RW λsizes fr l m x mine k r=>if k<(x.ZQ.length:Int)then qG x.ZQ k (λu1=>qI (FZ l u1) (λu2=>qG l u2 (λu3=>qI (FZ l (w (x.mask-u1))) (λu4=>qG l u4 (λu5=>aS (L3 sizes mine m u3 u5 3 0 (-1)) (λu6 u7=>r (RX u6 fr l m x u7 u5 k u1 (w (x.mask-u1)) (-1))))))))else r (L4 mine true ([]:List Ze) sizes fr l 0))/\
 ((iM RX λsizes fr l m x mine b k left right o r=>if o<4 then qI (RT l left o) (λu1=>if 0<=u1 then qH l u1 (λu2=>aS (L3 sizes mine m u2 b 5 0 o) (λu3 u4=>r (RX u3 fr l m x u4 b k left right (w (o+1)))))else r (RX sizes fr l m x mine b k left right (w (o+1))))else r (F0 sizes fr l m x mine k left right 0))/\
 (iM L4 λmine fr out x fr1 x1 o r=>if o<=4 then qG mine o (λu1=>if 0<u1.Mask then qN out (r (L4 mine false (out++[u1]) x fr1 x1 (w (o+1))))else r (L4 mine fr out x fr1 x1 (w (o+1))))else r (some (.own 2,[.arr 3 1 true (x.map ic),.arr 117 4 fr1 (x1.map Ze.c),.arr 117 4 fr (out.map Ze.c)])))))/\
 ((iM F0 λsizes fr l m x mine k left right e r=>qG x.shared k (λu1=>if e<(u1.length:Int)then qG u1 e (λu2=>qL (RU sizes fr l m) λk2=>qL (k2 right u2) λk1=>qL (w (e+1)) λk3=>(∃(u3:Ze),k2 left u2=some (.agg (u3.c.map .t),[.arr 3 1 true (sizes.map ic),.arr 117 4 fr (l.map Ze.c)])/\((∃(u4:Ze),k1=some (.agg (u4.c.map .t),[.arr 3 1 true (sizes.map ic),.arr 117 4 fr (l.map Ze.c)])/\aS (L3 sizes mine m u3 u4 4 u2 u2) (λu5 u6=>r (F0 u5 fr l m x u6 k left right k3)))\/(∃(u4:List Zn),∃u5,∃u6,∃u7,k1=some (.agg [I u5,I u6,I u7,.own 2],[.arr 3 1 true (sizes.map ic),.arr 117 4 fr (l.map Ze.c),.arr 210 3 true (u4.map Zn.c)])/\vC (gF sizes mine u4 m u3 u5 u6 u7 4 u2 u2) (λu8 u9 u10=>r (F0 u8 fr l m x u9 k left right k3)))))\/(∃(u3:List Zn),∃u4,∃u5,∃u6,k2 left u2=some (.agg [I u4,I u5,I u6,.own 2],[.arr 3 1 true (sizes.map ic),.arr 117 4 fr (l.map Ze.c),.arr 210 3 true (u3.map Zn.c)])/\((∃(u7:Ze),k1=some (.agg (u7.c.map .t),[.arr 3 1 true (sizes.map ic),.arr 117 4 fr (l.map Ze.c)])/\vC (gG sizes mine u3 m u4 u5 u6 u7 4 u2 u2) (λu8 u9 u10=>r (F0 u8 fr l m x u9 k left right k3)))\/(∃(u7:List Zn),∃u8,∃u9,∃u10,k1=some (.agg [I u8,I u9,I u10,.own 2],[.arr 3 1 true (sizes.map ic),.arr 117 4 fr (l.map Ze.c),.arr 210 3 true (u7.map Zn.c)])/\∃(cc:WL) (cd:List Ze) (cl:List Zn) (cn:List Zn),gH sizes mine u3 u7 m u4 u5 u6 u8 u9 u10 4 u2 u2=some (.tup [],[.arr 3 1 true (cc.map ic),.arr 117 4 true (cd.map Ze.c),.arr 210 3 true (cl.map Zn.c),.arr 210 3 true (cn.map Zn.c)])/\r (F0 cc fr l m x cd k left right k3)))))else r (RW sizes fr l m x mine (w (k+1)))))/\
 ((iM zU λx fr x1 a a1 r=>r (RW x fr x1 a a1 (List.replicate 5 (⟨0,0,0,(⟨[]⟩:Zj)⟩:Ze)) 0))/\
 (iM RY λshapes sizes m q fr out i r=>if i<(shapes.length:Int)then qG shapes i (λu1=>if(Aj u1.mask (w (u1.mask-1)))=0 then A4 (Hh u1.mask) (λu2=>∃u3,u2[0]?=some u3/\qG q.Atoms u3 (λu4=>∃u5,u4.Vars[0]?=some u5/\qG sizes u1.mask (λu6=>qI (Uu m.Scan u6 0 u6) (λu7=>JK (gA u3) (λu8=>qN out (r (RY shapes sizes m q fr (out++[(⟨u1.mask,u5,u7,(⟨u8⟩:Zj)⟩:Ze)]) (w (i+1)))))))))else ∃u2,∃(u3:List Ze),zU sizes fr out m u1=some (.own 2,[.arr 3 1 true (sizes.map ic),.arr 117 4 fr (out.map Ze.c),.arr 117 4 u2 (u3.map Ze.c)])/\out.length+u3.length<=68719476736/\r (RY shapes sizes m q (fr && flat (u3.map Ze.c)) (out++u3) (w (i+1))))else r (some (.own 2,[.arr 158 3 true (shapes.map ZU.c),.arr 3 1 true (sizes.map ic),.arr 117 4 fr (out.map Ze.c)]))))))/\
 (((iM F1 λx x1 a a1 r=>r (RY x x1 a a1 true ([]:List Ze) 0))/\
 ((iM Qm λa a1 r=>qI (FZ a a1) (λu1=>if u1<0 then r (some (.tup [.agg [I 0,I 0,I 0,.t .nil],Bo false],[]))else qG a u1 (λu2=>qM u2.Zj.Steps (r (some (.tup [.agg [I u2.Mask,I u2.Order,I u2.Cost,.own 0],Bo true],[.arr 210 3 true (u2.Zj.Steps.map Zn.c)]))))))/\
 (iM ZwM λp i r=>if i<0 then False else qi (-1) r)))/\
 (((iM gK λa r=>r (ZwM a 0))/\
 (iM zW λa a1 r=>if(a.Steps.length:Int)=(a1.Steps.length:Int)then r (L5 a a1 0)else qb false r))/\
 ((iM gM λp l i r=>if i<(l.length:Int)then qG l i (λu1=>qB (zW u1 p) (qi i r) (r (gM p l (w (i+1)))))else qi (-1) r)/\
 (iM gL λa a1 r=>r (gM a1 a 0))))):=by
 refine qu ?_
 and_intros
 all_goals(intros;unfold Im;(try simp only[RW,RX,L4,F0,zU,RY,F1,Qm,ZwM,gK,zW,gM,gL,FZ,L3,Zf.c_def,Zz.c_def,Zj.c_def,Ze.c_def,RT,RU,gF,gG,gH,Zn.c_def,Hh,Uu,gA,ZU.c_def,L5,ZwL,Ar,Bf,A7]);(try simp only[Bc]);(try simp only[Bd,gS,kk]))
 all_goals(repeat' first|refine Br λ_=>?_|refine Bq λ_ _=>?_|refine Bp λ_=>?_|refine AL ?_ ?_|exact False.elim)
 all_goals(intro h;first|rw[Zk gI.eq_1]|rw[Zk ZwB.eq_1]|rw[Zk ZwE.eq_1]|rw[Zk ZwC.eq_1]|refine XD ZFY rfl ?_|rw[Zk ZwG.eq_1]|refine XD ZFZ rfl ?_|refine run ZGa rfl ?_|rw[Zk ZwJ.eq_1]|refine run ZGb rfl ?_|refine run ZGc rfl ?_)
 all_goals (refine Yg ?_ h;clear h;simp +decide[*,kk,tI,Az,gJ,Z6p,ZwD,Z6q,ZwF,zT,Z6r,Z6s,ZwH,Z6t,Z6u,ZwK,Z6v,Z6x])
abbrev WJ:=uq ZIc
def ZId:iM L5 λa b i r=>if i<(a.Steps.length:Int)then qG a.Steps i (λu1=>qH b.Steps i (λu2=>if u1.Kind=u2.Kind/\u1.Zd=u2.Zd/\u1.Order=u2.Order then r (L5 a b (w (i+1)))else qb false r))else qb true r:=by
 refine qu ?_;intro a b i r;unfold Im;intro h;unfold L5
 try simp only[Ar]
 rw[Zk ZwO.eq_1]
 try simp only[Bc]at h
 try simp only[Bd,gS,kk]at h
 rcases h with⟨q1,q2,e1,⟨g3,q3⟩,e2,⟨g4,q4⟩,(⟨q5,h⟩|⟨q5,h⟩)⟩|⟨q1,h⟩
 all_goals (try (simp at q5))
 all_goals (refine Yg ?_ h;clear h;simp +decide[*,kk,tI,Az,L5,ZwP,Ar])
 all_goals (try (intros;simp_all))
abbrev Zze:=uq ZId
def ZIe:((((iM zZ λm q b x x1 shapes n full i r=>if i<n then Kz (Kc b i) (λu1 u2=>A4 (K8 u1) (λu3=>∃u4,∃(u5:List Ze),F1 shapes u3 m q=some (.own 2,[.arr 158 3 true (shapes.map ZU.c),.arr 3 1 true (u3.map ic),.arr 117 4 u4 (u5.map Ze.c)])/\(qL (w (i+1)) λk1=>(Po (Qm u5 full) (λu6 u7 u8=>qI Z6w (λu9=>if u9<0 then r (RZ m q b x x1 ([u8]) ([0]) ([(⟨[]⟩:Zj)]) shapes n full k1)else r (ZwS m q b x x1 ([u8]) ([u9]) shapes n full k1))))\/(Pp (Qm u5 full) (λu6 u7 u8 u9=>qI (gK (⟨u6⟩:Zj)) (λu10=>if u10<0 then r (RZ m q b x x1 ([u9]) ([0]) ([(⟨u6⟩:Zj)]) shapes n full k1)else r (ZwS m q b x x1 ([u9]) ([u10]) shapes n full k1)))))))else r (some (.tup [.agg [L 1 (x.map ic),L 1 (x1.map ic),L 1 (([]:WL).map ic),L 1 (([]:WL).map ic),L 1 (([]:List Zj).map Zj.c)],Bo true],[])))/\
 (iM RZ λm q b x x1 x2 x3 x4 shapes n full i r=>if i<n then Kz (Kc b i) (λu1 u2=>A4 (K8 u1) (λu3=>∃u4,∃(u5:List Ze),F1 shapes u3 m q=some (.own 2,[.arr 158 3 true (shapes.map ZU.c),.arr 3 1 true (u3.map ic),.arr 117 4 u4 (u5.map Ze.c)])/\(qL (RZ m q b x x1) λk1=>qL (x3++[(x4.length:Int)]) λk2=>qL (w (i+1)) λk3=>(Po (Qm u5 full) (λu6 u7 u8=>qI (Z6y x4) (λu9=>if u9<0 then qN x4 (qN x2 (qN x3 (r (k1 (x2++[u8]) k2 (x4++[(⟨[]⟩:Zj)]) shapes n full k3))))else qN x2 (qN x3 (r (k1 (x2++[u8]) (x3++[u9]) x4 shapes n full k3))))))\/(Pp (Qm u5 full) (λu6 u7 u8 u9=>qI (gL x4 (⟨u6⟩:Zj)) (λu10=>if u10<0 then qN x4 (qN x2 (qN x3 (r (k1 (x2++[u9]) k2 (x4++[(⟨u6⟩:Zj)]) shapes n full k3))))else qN x2 (qN x3 (r (k1 (x2++[u9]) (x3++[u10]) x4 shapes n full k3)))))))))else r (some (.tup [.agg [L 1 (x.map ic),L 1 (x1.map ic),L 1 (x2.map ic),L 1 (x3.map ic),L 1 (x4.map Zj.c)],Bo true],[]))))/\
 ((iM gN λa a1 a2 r=>qI (Jj a2) (λu1=>qL (La ([]:WL) ([]:List Zj) r) λk1=>qB (FY a) (qI (Wp a1) (λu3=>qB (Q4 a1 u3) (qB (Z0 u1 1 400) (if(a2.Low.length:Int)=(w (u3+1))then vD (Hu a2) (λu6 u7=>∃(u8:List ZU),L2 a1=some (.own 0,[.arr 158 3 true (u8.map ZU.c)])/\r (zZ a a1 a2 u6 u7 u8 u1 u3 0))else k1) k1) k1)) k1))/\
 (iM gO λs n i r=>if i<n then qG s.Costs i (λu1=>qB (Z0 u1 1 1000000000000) (qH s.Choices i (λu3=>qB (Z0 u3 0 (w ((s.Plans.length:Int)-1))) (r (gO s n (w (i+1)))) (qb false r))) (qb false r))else qb true r)))/\
 (((iM Jk λa r=>qI (Jj a.Box) (λu1=>qB (Z0 u1 1 400) (if(a.Costs.length:Int)=u1 then if(a.Choices.length:Int)=u1 then r (gO a u1 0)else qb false r else qb false r) (qb false r)))/\
 (iM gQ λs lo hi i r=>if i<(s.Costs.length:Int)then qG s.Costs i (λu1=>r (gQ s (if u1<lo then u1 else lo) (if hi<u1 then u1 else hi) (w (i+1))))else JM lo hi r))/\
 ((iM gP λa r=>qB (Jk a) (∃u2,a.Costs[0]?=some u2/\r (gQ a u2 u2 0)) (r (some (.tup [I 0,I 0],[]))))/\
 ((iM gU λout high ratio b r=>if b<high then qN out (r (gU (out++[(w (b*ratio))]) high ratio (w (b*ratio))))else A3 out r)/\
 (iM gT λa a1 a2 r=>qL (A3 ([]:WL) r) λk1=>qB (Z0 a 1 1000000000000) (qB (Z0 a1 a 1000000000000) (qB (Z0 a2 2 8) (r (gU ([a]) a1 a2 a)) k1) k1) k1)))))/\
 ((((iM gW λout l i r=>if i<(l.length:Int)then qG l i (λu1=>qM u1.Steps (qN out (r (gW (out++[u1]) l (w (i+1))))))else r (some (.own 0,[.arr 115 1 true (out.map Zj.c)])))/\
 (iM gV λa r=>r (gW ([]:List Zj) a 0)))/\
 ((iM z0 λa a1 r=>qB (Hr a) (qB (LX a1 a.Low) (qV (LX a.High a1) (λu3=>qb u3 r)) (qb false r)) (qb false r))/\
 (iM gX λb l n i r=>if i<(l.length:Int)then qG b.High i (λu1=>qH b.Low i (λu2=>qH l i (λu3=>r (gX b l (w ((w ((w (n*(w ((w (u1-u2))+1))))+u3))-u2)) (w (i+1))))))else qi n r)))/\
 (((iM z6 λa a1 r=>qB (z0 a a1) (r (gX a a1 0 0)) (qi (-1) r))/\
 (iM z7 λa a1 a2 r=>qM a1 (qG a1 a2 (λu1=>qI (z6 a (a1.set a2.toNat (w (u1+1)))) (λu2=>qi u2 r)))))/\
 ((iM F2 λs out budget i r=>if i<(s.Costs.length:Int)then qG s.Costs i (λu1=>if budget<u1 then r (F2 s out budget (w (i+1)))else Kz (Kc s.Box i) (λu2 u3=>r (gY s out u2 budget i true 0)))else A3 out r)/\
 ((iM gY λs out l budget i top k r=>if k<(l.length:Int)then qI (z7 s.Box l k) (λu1=>qL (gY s out l budget i) λk1=>if top=true then if u1<0 then r (k1 true (w (k+1)))else qG s.Costs u1 (λu2=>r (k1 (decide (budget<u2)) (w (k+1))))else r (k1 false (w (k+1))))else if top=true then qN out (r (F2 s (out++[i]) budget (w (i+1))))else r (F2 s out budget (w (i+1))))/\
 (iM L6 λa a1 r=>qB (Jk a) (r (F2 a ([]:WL) a1 0)) (A3 ([]:WL) r)))))):=by
 refine qu ?_
 and_intros
 all_goals(intros;unfold Im;(try simp only[zZ,RZ,gN,gO,Jk,gQ,gP,gU,gT,gW,gV,z0,gX,z6,z7,F2,gY,L6,Kc,K8,F1,Qm,Z6w,gK,Box.c_def,ZU.c_def,Zf.c_def,Zz.c_def,Zj.c_def,Ze.c_def,Zc.c_def,Z6y,gL,Jj,FY,Wp,Q4,Z0,Hu,L2,ZL.c_def,Hr,LX,tI,ZwS,zY,Ar,Zxm,Bf,A7]);(try simp only[Bc]);(try simp only[Bd,gS,kk]))
 all_goals(repeat' first|refine Br λ_=>?_|refine Bq λ_ _=>?_|refine Bp λ_=>?_|refine AL ?_ ?_|exact False.elim)
 all_goals(intro h;first|rw[Zk ZwQ.eq_1]|refine run ZGd rfl ?_|rw[Zk ZwU.eq_1]|refine run ZGe rfl ?_|rw[Zk ZwX.eq_1]|refine run ZGf rfl ?_|rw[Zk Zxa.eq_1]|refine run ZGg rfl ?_|rw[Zk Zxd.eq_1]|refine run ZGh rfl ?_|refine run ZGi rfl ?_|rw[Zk Zxg.eq_1]|refine run ZGj rfl ?_|refine run ZGk rfl ?_|rw[Zk z8.eq_1]|rw[Zk Zxi.eq_1]|refine run ZGl rfl ?_)
 all_goals (refine Yg ?_ h;clear h;simp +decide[*,kk,tI,Az,Z6z,ZwR,Z60,ZwV,Z61,ZwY,Z62,Zxb,Z63,Zxe,Z64,Z65,Zxh,Z66,Z67,Zxk,Zxl,Zxj,Z68])
abbrev Xx:=uq ZIe
def ZIf:iM L7 λa a1 r=>qB (Z0 a 0 1000000000000) (qB (Z0 a1 0 100) (qi (w (Int.tdiv (w (a*(w (100+a1)))) 100)) r) (qi (-1) r)) (qi (-1) r):=by
 refine qu ?_
 all_goals(intros;unfold Im;(try simp only[L7,Z0,Ar,Bf,A7]);(try simp only[Bc]);(try simp only[Bd,gS,kk]))
 all_goals(repeat' first|refine Br λ_=>?_|refine Bq λ_ _=>?_|refine Bp λ_=>?_|refine AL ?_ ?_|exact False.elim)
 all_goals(intro h;first|refine run ZGm rfl ?_)
 all_goals (refine Yg ?_ h;clear h;simp +decide[*,kk,tI,Az,Z69])
abbrev ZIg:=uq ZIf
