/-
  Parts of the proofs for this seat: G10 G11 G12.
-/
import Derived.Test.YtobfkfgdneeabaaGreatP13
import Derived.Test.YtobfkfgdneeabaaGreatP14
set_option linter.all false
set_option maxRecDepth 100000
set_option maxHeartbeats 4000000
namespace Go.Proofs.YtobfkfgdneeabaaGreat
open Go.AM
def ZNw:((((iM Zvx λs Name Arity RowCount Al Ah At i r=>if i<(s.Groups.length:Int)then qG s.Groups i (λu1=>qM u1.Columns (qM u1.Counts (r (Zvy s Name Arity RowCount Al Ah At u1.Columns u1.Counts i 0))))else r (some (.agg [.t (.str Al),I Ah,I At,.own 0],[.arr 261 3 true (([]:List ZA).map ZA.c)])))/\
 (iM Zvy λs Name Arity RowCount Al Ah At x x1 i k r=>qG s.Groups i (λu1=>if k<(u1.Values.length:Int)then qG u1.Values k (λu2=>qM u2 (r (jQ s Name Arity RowCount Al Ah At x ([u2]) x1 i (w (k+1)))))else r (Gy s Name Arity RowCount Al Ah At ([(⟨x,[],x1⟩:ZA)]) (w (i+1))))))/\
 ((iM jQ λs Name Arity RowCount Al Ah At x x1 x2 i k r=>qG s.Groups i (λu1=>if k<(u1.Values.length:Int)then qG u1.Values k (λu2=>qM u2 (qN x1 (r (jQ s Name Arity RowCount Al Ah At x (x1++[u2]) x2 i (w (k+1))))))else r (Gy s Name Arity RowCount Al Ah At ([(⟨x,x1,x2⟩:ZA)]) (w (i+1)))))/\
 (iM Gy λs Name Arity RowCount Al Ah At x i r=>if i<(s.Groups.length:Int)then qG s.Groups i (λu1=>qM u1.Columns (qM u1.Counts (r (Zvz s Name Arity RowCount Al Ah At x u1.Columns u1.Counts i 0))))else r (some (.agg [.t (.str Al),I Ah,I At,.own 0],[.arr 261 3 true (x.map ZA.c)])))))/\
 (((iM Zvz λs Name Arity RowCount Al Ah At x x1 x2 i k r=>qG s.Groups i (λu1=>if k<(u1.Values.length:Int)then qG u1.Values k (λu2=>qM u2 (r (jS s Name Arity RowCount Al Ah At x x1 ([u2]) x2 i (w (k+1)))))else qN x (r (Gy s Name Arity RowCount Al Ah At (x++[(⟨x1,[],x2⟩:ZA)]) (w (i+1))))))/\
 (iM jS λs Name Arity RowCount Al Ah At x x1 x2 x3 i k r=>qG s.Groups i (λu1=>if k<(u1.Values.length:Int)then qG u1.Values k (λu2=>qM u2 (qN x2 (r (jS s Name Arity RowCount Al Ah At x x1 (x2++[u2]) x3 i (w (k+1))))))else qN x (r (Gy s Name Arity RowCount Al Ah At (x++[(⟨x1,x2,x3⟩:ZA)]) (w (i+1)))))))/\
 ((iM Zos λa r=>r (Zvx a (⟨#[]⟩:KI) 0 0 a.Name a.Arity a.RowCount 0))/\
 ((iM jT λc Name Arity RowCount name i r=>if i<(c.Tables.length:Int)then qG c.Tables i (λu1=>qL (r (jT c Name Arity RowCount name (w (i+1)))) λk1=>if u1.Name=name then qB (Gx u1) (∃(u3:List ZA),∃u4,∃u5,∃u6,Zos u1=some (.agg [.t (.str u4),I u5,I u6,.own 0],[.arr 261 3 true (u3.map ZA.c)])/\r (some (.tup [.agg [.t (.str u4),I u5,I u6,.own 0],Bo true],[.arr 261 3 true (u3.map ZA.c)]))) k1 else k1)else r (some (.tup [.agg [.t (.str (⟨#[]⟩:KI)),I 0,I 0,.own 0],Bo false],[.arr 261 3 true (([]:List ZA).map ZA.c)])))/\
 (iM Zot λa a1 r=>r (jT a (⟨#[]⟩:KI) 0 0 a1 0))))))/\
 ((((iM QB λa a1 a2 r=>qG a1.Atoms a2 (λu1=>∃(u2:List ZA),∃u3,∃u4,∃u5,∃u6,Zot a.ZM u1.Name=some (.tup [.agg [.t (.str u3),I u4,I u5,.own 0],Bo u6],[.arr 261 3 true (u2.map ZA.c)])/\r (some (.agg [.t (.str u3),I u4,I u5,.own 0],[.arr 261 3 true (u2.map ZA.c)]))))/\
 (iM Ta λs q mask n i r=>if i<(q.Atoms.length:Int)then AX (S8 s q mask i) (λu1=>if 0<(u1.length:Int)then ∃(u2:List ZA),∃u3,∃u4,∃u5,QB s q i=some (.agg [.t (.str u3),I u4,I u5,.own 0],[.arr 261 3 true (u2.map ZA.c)])/\r (Ta s q mask (if n<u5 then u5 else n) (w (i+1)))else r (Ta s q mask n (w (i+1))))else qi n r))/\
 ((iM Zov λa a1 a2 r=>qB (VG a a1 a2) (r (Ta a a1 a2 0 0)) (qi (-1) r))/\
 (iM Tb λs q out m r=>qI (Wv q) (λu1=>if m<=u1 then qB (UD q m) (qI (Zov s q m) (λu3=>qN out (r (Tb s q (out++[u3]) (w (m+1)))))) (qN out (r (Tb s q (out++[0]) (w (m+1)))))else Bn out r))))/\
 (((iM jU λa a1 r=>qI (Wv a1) (λu1=>qB (VG a a1 u1) (r (Tb a a1 ([]:V2) 0)) (Bn ([]:V2) r)))/\
 (iM Tc λs q mask n i r=>if i<(q.Atoms.length:Int)then ¬i<0/\if(Ai (As mask i) 1)=1 then ∃(u1:List ZA),∃u2,∃u3,∃u4,QB s q i=some (.agg [.t (.str u2),I u3,I u4,.own 0],[.arr 261 3 true (u1.map ZA.c)])/\r (Tc s q mask (w (n*u4)) (w (i+1)))else r (Tc s q mask n (w (i+1)))else qi n r))/\
 ((iM jV λa a1 a2 r=>qB (VG a a1 a2) (r (Tc a a1 a2 1 0)) (qi (-1) r))/\
 ((iM Td λa out vars i r=>if i<(a.Vars.length:Int)then qG a.Vars i (λu1=>qB (VW vars u1) (qN out (r (Td a (out++[i]) vars (w (i+1))))) (r (Td a out vars (w (i+1)))))else Bn out r)/\
 (iM ML λa a1 r=>r (Td a ([]:V2) a1 0)))))):=by
 refine qu ?_
 and_intros
 all_goals(intros;unfold Im;(try simp only[Zvx,Zvy,jQ,Gy,Zvz,jS,Zos,jT,Zot,QB,Ta,Zov,Tb,jU,Tc,jV,Td,ML,Gx,Z1.c_def,ZM.c_def,S8,Zj.c_def,Zc.c_def,Zs.c_def,VG,Wv,UD,VW,Zvw,Bm,Zvv,jP,A7,AY]);(try simp only[AZ]);(try simp only[A0,gS,kk]))
 all_goals(repeat' first|refine Bs λ_=>?_|refine Br λ_ _=>?_|refine Bq λ_=>?_|refine AL ?_ ?_|exact False.elim)
 all_goals(intro h;first|rw[Zk Zor.eq_1]|rw[Zk Zvr.eq_1]|refine run ZJK rfl ?_|rw[Zk Zv1.eq_1]|refine run ZJL rfl ?_|refine run ZJM rfl ?_|rw[Zk Zv3.eq_1]|refine run ZJN rfl ?_|rw[Zk Zv5.eq_1]|refine run ZJO rfl ?_|rw[Zk Zv7.eq_1]|refine run ZJP rfl ?_|rw[Zk Zv9.eq_1]|refine run ZJQ rfl ?_)
 all_goals (refine Yd ?_ h;clear h;simp +decide[*,kk,tI,Ax,Zvu,Zvt,Zvs,Z7U,Zv2,Z7V,Z7W,Z7X,Zv4,Z7Y,Z7Z,Zv6,Z8a,Z8b,Zv8,Z8c,Z8d,ZvA,Z8e])
abbrev W9:=uq ZNw
def ZNx:((iM Gz λout l i r=>if i<(l.length:Int)then r (MM out l i (out.length:Int))else Bn out r)/\
 (iM Zo2 λa r=>r (Gz ([]:V2) a 0)))/\
 ((iM jW λs cols i r=>if i<(s.Groups.length:Int)then qG s.Groups i (λu1=>qI (Vy u1.Columns cols) (λu2=>if u2=0 then AX (Zo2 u1.Counts) (λu3=>Bn u3 r)else r (jW s cols (w (i+1)))))else Bn ([]:V2) r)/\
 (iM Tf λa a1 r=>if(a1.length:Int)=0 then if a.RowCount=0 then Bn ([]:V2) r else Bn ([a.RowCount]) r else r (jW a a1 0))):=by
 refine qu ?_
 and_intros
 all_goals(intros;unfold Im;(try simp only[Gz,Zo2,jW,Tf,Vy,MM,Bm,ZvD,A7,AY]);(try simp only[AZ]);(try simp only[A0,gS,kk]))
 all_goals(repeat' first|refine Bs λ_=>?_|refine Br λ_ _=>?_|refine Bq λ_=>?_|refine AL ?_ ?_|exact False.elim)
 all_goals(intro h;first|rw[Zk Zo1.eq_1]|refine run ZJR rfl ?_|rw[Zk ZvF.eq_1]|refine run ZJS rfl ?_)
 all_goals (refine Yd ?_ h;clear h;simp +decide[*,kk,tI,Ax,ZvC,Z8f,ZvG,Z8g])
abbrev pG:=uq ZNx
def ZNy:iM MM λout l i k r=>qL (out.take k.toNat) λk1=>qL (out.drop k.toNat) λk2=>if 0<k then 0<=(w (k-1))/\∃u1,out[(w (k-1)).toNat]?=some u1/\qG l i (λu2=>if u1<u2 then r (MM out l i (w (k-1)))else 0<=k/\k.toNat<=out.length/\qM k1 (qN k1 (k1.length+1+k2.length<=68719476736/\r (Gz ((k1++[u2])++k2) l (w (i+1))))))else 0<=k/\k.toNat<=out.length/\qM k1 (qG l i (λu1=>qN k1 (k1.length+1+k2.length<=68719476736/\r (Gz ((k1++[u1])++k2) l (w (i+1)))))):=by
 refine qu ?_;intro out l i k r;unfold Im;intro h;unfold MM;(try simp only[ZvD,Bm]);rw[Zk ZvB.eq_1];by_cases q1:0<k
 .rw[Ya q1]at h;obtain⟨q2,h⟩:=h;obtain⟨e1,q3,h⟩:=h;have gq3:=Wk q3;have kq3:=Ws q3;obtain⟨q4,h⟩:=h;obtain⟨e2,q5,h⟩:=h;have gq5:=Wk q5;have kq5:=Ws q5;by_cases q6:e1<e2
  .rw[Ya q6]at h;refine Yd ?_ h;clear h;simp +decide[*,tI,Ax,MM,ZvD,Bm]
  .rw[Yb q6]at h;obtain⟨q7,h⟩:=h;obtain⟨q8,h⟩:=h;have pH:=q8;try simp[Bm]at pH
   obtain⟨q9,h⟩:=h;have rq9:=Q3 (b:=8) q9 E;have sq9:=Q4 q9
   try simp[*]at rq9
   try simp[*]at sq9
   obtain⟨q10,h⟩:=h;have NT:=Q3 (b:=8) q10 E;have NU:=Q4 q10
   try simp[*]at NT
   try simp[*]at NU
   obtain⟨q11,h⟩:=h;have AaF:=Q3 (b:=8) q11 E;have AaG:=Q4 q11
   try simp[*]at AaF
   try simp[*]at AaG
   refine Yd ?_ h;clear h;simp +decide[*,tI,Ax,Gz,Zo0,Zoz,ZvD,Bm]
 .rw[Yb q1]at h;obtain⟨q12,h⟩:=h;obtain⟨q13,h⟩:=h;have AaH:=q13;try simp[Bm]at AaH
  obtain⟨BK,h⟩:=h;have AaI:=Q3 (b:=8) BK E;have AaJ:=Q4 BK
  try simp[*]at AaI
  try simp[*]at AaJ
  obtain⟨B9,h⟩:=h;obtain⟨e3,q16,h⟩:=h;have AbY:=Wk q16;have AbZ:=Ws q16;obtain⟨CU,h⟩:=h;have AaK:=Q3 (b:=8) CU E;have AaL:=Q4 CU
  try simp[*]at AaK
  try simp[*]at AaL
  obtain⟨Ca,h⟩:=h;have AaM:=Q3 (b:=8) Ca E;have AaN:=Q4 Ca
  try simp[*]at AaM
  try simp[*]at AaN
  refine Yd ?_ h;clear h;simp +decide[*,tI,Ax,Gz,Zo0,Zoz,ZvD,Bm]
abbrev ZCl:=uq ZNy
def ZNz:((((iM Th λq s mask used best i r=>if i<(q.Atoms.length:Int)then ¬i<0/\qL (r (Th q s mask used best (w (i+1)))) λk1=>if(Ai (As mask i) 1)=1 then if(Ai (As used i) 1)=0 then qG s i (λu1=>qH q.Atoms i (λu2=>qI (Un q used) (λu3=>AX (MF u3) (λu4=>AX (ML u2 u4) (λu5=>AX (Tf u1 u5) (λu6=>qN u6 (∃u7,(u6++[0])[0]?=some u7/\qI (Tg s q mask (Az used (Ac 1 i))) (λu8=>qL (r (Th q s mask used (w (u7*u8)) (w (i+1)))) λk2=>if best<0 then k2 else if(w (u7*u8))<best then k2 else k1))))))))else k1 else k1 else qi best r)/\
 (iM Tg λa a1 a2 a3 r=>if a3=a2 then qi 1 r else r (Th a1 a a2 a3 (-1) 0)))/\
 ((iM jY λs q l mask i r=>if i<(q.Atoms.length:Int)then ∃(u1:List ZA),∃u2,∃u3,∃u4,QB s q i=some (.agg [.t (.str u2),I u3,I u4,.own 0],[.arr 261 3 true (u1.map ZA.c)])/\qN l (r (jY s q (l++[(⟨u2,u3,u4,u1⟩:Z1)]) mask (w (i+1))))else qI (Tg l q mask 0) (λu1=>qi u1 r))/\
 (iM jX λa a1 a2 r=>qB (VG a a1 a2) (r (jY a a1 ([]:List Z1) a2 0)) (qi (-1) r))))/\
 (((iM Ti λa a1 r=>qB (Gx a) (AX (Tf a a1) (λu2=>Bn u2 r)) (Bn ([]:V2) r))/\
 (iM j4 λl n i r=>if i<(l.length:Int)then qG l i (λu1=>qB (Z0 u1 1 (w (8-n))) (qL (r (j4 l (w (n+u1)) (w (i+1)))) λk1=>if 0<i then 0<=(w (i-1))/\∃u3,l[(w (i-1)).toNat]?=some u3/\if u3<u1 then qb false r else k1 else k1) (qb false r))else qb true r))/\
 ((iM jZ λa r=>r (j4 a 0 0))/\
 ((iM j5 λa b n i r=>if i<(a.length:Int)then if i<(b.length:Int)then qB (jZ a) (qB (jZ b) (qG a i (λu3=>qH b i (λu4=>r (j5 a b (w (n+(w (u3*u4)))) (w (i+1)))))) (qi n r)) (qi n r)else qi n r else qi n r)/\
 (iM Zo4 λa a1 r=>r (j5 a a1 0 0))))))/\
 ((((iM Tj λa a1 a2 a3 r=>qI (Wv a1) (λu1=>qB (VG a a1 u1) (qL (w ((a1.Atoms.length:Int)-1)) λk1=>qB (Z0 a2 0 k1) (qB (Z0 a3 0 k1) (if a2=a3 then qi (-1) r else ¬a2<0/\¬a3<0/\AX (Ic a1 (Ac 1 a2) (Ac 1 a3)) (λu5=>∃(u6:List ZA),∃u7,∃u8,∃u9,QB a a1 a2=some (.agg [.t (.str u7),I u8,I u9,.own 0],[.arr 261 3 true (u6.map ZA.c)])/\qG a1.Atoms a2 (λu10=>AX (ML u10 u5) (λu11=>AX (Ti (⟨u7,u8,u9,u6⟩:Z1) u11) (λu12=>∃(cc:List ZA),∃u14,∃u15,∃u16,QB a a1 a3=some (.agg [.t (.str u14),I u15,I u16,.own 0],[.arr 261 3 true (cc.map ZA.c)])/\qG a1.Atoms a3 (λCT=>AX (ML CT u5) (λDh=>AX (Ti (⟨u14,u15,u16,cc⟩:Z1) Dh) (λFA=>qI (Zo4 u12 FA) (λu20=>qi u20 r))))))))) (qi (-1) r)) (qi (-1) r)) (qi (-1) r)))/\
 (iM Tk λa m x k r=>if k<(a.Vars.length:Int)then if k<3 then ¬k<0/\qL (r (Tk a m x (w (k+1)))) λk1=>if(Ai (As m k) 1)=1 then qG a.Vars k (λu1=>qB (Z0 u1 0 3) (¬u1<0/\r (Tk a m (Az x (Ac 1 u1)) (w (k+1)))) k1)else k1 else qi x r else qi x r))/\
 ((iM Zo6 λa a1 r=>r (Tk a a1 0 0))/\
 (iM Tl λl m i r=>if i<(l.length:Int)then qG l i (λu1=>qB (Z0 u1 0 3) (¬u1<0/\r (Tl l (Az m (Ac 1 u1)) (w (i+1)))) (r (Tl l m (w (i+1)))))else qi m r)))/\
 (((iM Zo8 λa r=>r (Tl a 0 0))/\
 (iM Zo9 λa a1 r=>AX (Ti a a1) (λu1=>if(u1.length:Int)=0 then qi 0 r else ∃u2,u1[0]?=some u2/\qi u2 r)))/\
 ((iM j6 λn b r=>¬b<0/\if(Ac 1 b)<n then r (j6 n (w (b+1)))else qi b r)/\
 ((iM ZoA λa r=>qB (Z0 a 1 4096) (r (j6 a 0)) (qi (-1) r))/\
 (iM Tm λs a out m r=>¬s.Arity<0/\if m<(w ((Ac 1 s.Arity)-1))then qI (Zo6 a m) (λu1=>qI (Zo8 a.Vars) (λu2=>AX (UC m) (λu3=>qI (Zo9 s u3) (λu4=>qI (ZoA u4) (λu5=>qN out (r (Tm s a (out++[(⟨u1,u2,u5⟩:ZD)]) (w (m+1)))))))))else Ju out r))))):=by
 refine qu ?_
 and_intros
 all_goals(intros;unfold Im;(try simp only[Th,Tg,jY,jX,Ti,j4,jZ,j5,Zo4,Tj,Tk,Zo6,Tl,Zo8,Zo9,j6,ZoA,Tm,Un,MF,ML,Tf,Zd.c_def,Zc.c_def,Z1.c_def,QB,ZM.c_def,Zj.c_def,Zs.c_def,VG,Gx,Z0,Wv,Ic,UC,Bm,A7,AY]);(try simp only[AZ]);(try simp only[A0,gS,kk]))
 all_goals(repeat' first|refine Bs λ_=>?_|refine Br λ_ _=>?_|refine Bq λ_=>?_|refine AL ?_ ?_|exact False.elim)
 all_goals(intro h;first|rw[Zk ZvH.eq_1]|refine run ZJT rfl ?_|rw[Zk ZvK.eq_1]|refine run ZJU rfl ?_|refine run ZJV rfl ?_|rw[Zk ZvN.eq_1]|refine run ZJW rfl ?_|rw[Zk ZvQ.eq_1]|refine run ZJX rfl ?_|refine run ZJY rfl ?_|rw[Zk ZvS.eq_1]|refine run ZJZ rfl ?_|rw[Zk ZvU.eq_1]|refine run ZKa rfl ?_|refine run ZKb rfl ?_|rw[Zk ZvX.eq_1]|refine run ZKc rfl ?_|rw[Zk Zwa.eq_1])
 all_goals (refine Yd ?_ h;clear h;simp +decide[*,kk,tI,Ax,Z8h,ZvI,Z8i,ZvL,Z8j,Z8k,ZvO,Z8l,ZvR,Z8m,Z8n,Z8o,ZvT,Z8p,Z8q,ZvV,Z8r,Z8s,ZvY,Z8t,Zwb])
abbrev Wh:=uq ZNz
def ZN0:((iM j7 λa a1 r=>qL ([]:List ZD) λk1=>qB (Gx a) (if a.RowCount=0 then Ju k1 r else if(a1.Vars.length:Int)=a.Arity then r (Tm a a1 k1 0)else Ju k1 r) (Ju k1 r))/\
 ((iM Tn λs q out mask i r=>if i<(q.Atoms.length:Int)then ¬i<0/\if(Ai (As mask i) 1)=0 then r (Tn s q out mask (w (i+1)))else ∃(u1:List ZA),∃u2,∃u3,∃u4,QB s q i=some (.agg [.t (.str u2),I u3,I u4,.own 0],[.arr 261 3 true (u1.map ZA.c)])/\qG q.Atoms i (λu5=>fV (j7 (⟨u2,u3,u4,u1⟩:Z1) u5) (λu6=>if(u6.length:Int)=0 then Ju ([]:List ZD) r else out.length+u6.length<=68719476736/\r (Tn s q (out++u6) mask (w (i+1)))))else Ju out r)/\
 (iM j8 λa a1 a2 r=>qL ([]:List ZD) λk1=>qB (VG a a1 a2) (r (Tn a a1 k1 a2 0)) (Ju k1 r))))/\
 (((iM Tp λm vars x i r=>if i<(vars.length:Int)then if i<4 then qG vars i (λu1=>qL (r (Tp m vars x (w (i+1)))) λk1=>qB (Z0 u1 0 3) (¬u1<0/\if(Ai (As m u1) 1)=1 then ¬i<0/\r (Tp m vars (Az x (Ac 1 i)) (w (i+1)))else k1) k1)else qi x r else qi x r)/\
 (iM j9 λa a1 r=>r (Tp a a1 0 0)))/\
 ((iM kH λout l vars i r=>if i<(l.length:Int)then qG l i (λu1=>qI (j9 u1.From vars) (λu2=>qI (j9 u1.To vars) (λu3=>qN out (r (kH (out++[(⟨u2,u3,u1.Bits⟩:ZD)]) l vars (w (i+1)))))))else Ju out r)/\
 (iM kG λa a1 r=>r (kH ([]:List ZD) a a1 0)))):=by
 refine qu ?_
 and_intros
 all_goals(intros;unfold Im;(try simp only[j7,Tn,j8,Tp,j9,kH,kG,Gx,Z1.c_def,QB,Zd.c_def,ZM.c_def,Zj.c_def,Zc.c_def,Zs.c_def,VG,Z0,Tm,Bm,A7,AY]);(try simp only[AZ]);(try simp only[A0,gS,kk]))
 all_goals(repeat' first|refine Bs λ_=>?_|refine Br λ_ _=>?_|refine Bq λ_=>?_|refine AL ?_ ?_|exact False.elim)
 all_goals(intro h;first|refine run ZKd rfl ?_|rw[Zk Zwc.eq_1]|refine run ZKe rfl ?_|rw[Zk Zwe.eq_1]|refine run ZKf rfl ?_|rw[Zk Zwh.eq_1]|refine run ZKg rfl ?_)
 all_goals (refine Yd ?_ h;clear h;simp +decide[*,kk,tI,Ax,Z8u,Z8v,Zwd,Z8w,Z8x,Zwf,Z8y,Zwi,Z8z])
abbrev J1:=uq ZN0
def ZN1:(((iM MP λrow plus minus i r=>if i<(plus.length:Int)then qG plus i (λu1=>if 0<u1 then 0<=(w (u1-1))/\∃u2,row[(w (u1-1)).toNat]?=some u2/\r (MP (row.set ((w (u1-1)).toNat) 1) plus minus (w (i+1)))else r (MP row plus minus (w (i+1))))else r (Tq row minus 0))/\
 ((iM Tq λrow minus i r=>if i<(minus.length:Int)then qG minus i (λu1=>if 0<u1 then 0<=(w (u1-1))/\∃u2,row[(w (u1-1)).toNat]?=some u2/\r (Tq (row.set ((w (u1-1)).toNat) (-1)) minus (w (i+1)))else r (Tq row minus (w (i+1))))else Bn row r)/\
 (iM kJ λout n full i r=>if i<n then ¬i<0/\AX (GB n ([(w (full-(Ac 1 i)))]) ([full])) (λu1=>qN out (r (kJ (out++[u1]) n full (w (i+1)))))else r (Ts out n full 0))))/\
 (((iM Ts λout n full i r=>if i<n then r (Tt out n full i (w (i+1)))else Q6 out r)/\
 (iM Tt λout n full i j r=>if j<n then r (Tu out n full i j 0)else r (Ts out n full (w (i+1)))))/\
 ((iM Tu λout n full i j s r=>if s<=full then ¬i<0/\qL (r (Tu out n full i j (w (s+1)))) λk1=>if(Ai (As s i) 1)=0 then ¬j<0/\if(Ai (As s j) 1)=0 then AX (GB n ([s,(Az (Az s (Ac 1 i)) (Ac 1 j))]) ([(Az s (Ac 1 i)),(Az s (Ac 1 j))])) (λu1=>qN out (r (Tu (out++[u1]) n full i j (w (s+1)))))else k1 else k1 else r (Tt out n full i (w (j+1))))/\
 (iM kI λa r=>qB (Z0 a 1 4) (¬a<0/\r (kJ ([]:XS) a (w ((Ac 1 a)-1)) 0)) (Q6 ([]:XS) r)))))/\
 (((iM kK λp n k r=>if k<n then qG p.Objective k (λu1=>qB (Z0 u1 (-9) 9) (r (kK p n (w (k+1)))) (qb false r))else r (Tw p n 0))/\
 ((iM Tw λp n i r=>if i<(p.Rows.length:Int)then qG p.Rows i (λu1=>if(u1.length:Int)=n then qH p.Limits i (λu2=>qB (Z0 u2 0 99) (r (kL p n i 0)) (qb false r))else qb false r)else qb true r)/\
 (iM kL λp n i k r=>if k<n then qG p.Rows i (λu1=>qG u1 k (λu2=>qB (Z0 u2 (-9) 9) (r (kL p n i (w (k+1)))) (qb false r)))else r (Tw p n (w (i+1))))))/\
 (((iM Tv λa r=>qL (a.Objective.length:Int) λk1=>qB (Z0 k1 1 15) (if 64<(a.Rows.length:Int)then qb false r else if(a.Rows.length:Int)=(a.Limits.length:Int)then r (kK a k1 0)else qb false r) (qb false r))/\
 (iM Tx λx x1 x2 l n full i r=>qL (fP ([]:V2) ([]:XS) r) λk1=>if i<(l.length:Int)then qG l i (λu1=>qB (Z0 u1.To 1 full) (qB (Z0 u1.From 0 full) (if(Ai u1.From u1.To)=u1.From then if u1.From=u1.To then k1 else if 64<=i then k1 else AX (GB n ([u1.To]) ([u1.From])) (λu4=>qN x1 (qN x2 (r (Tx x (x1++[u4]) (x2++[u1.Bits]) l n full (w (i+1))))))else k1) k1) k1)else qB (Tv (⟨x,x1,x2⟩:Program)) (r (some (.tup [.agg [.own 0,.own 1,.own 2],Bo true],[.arr 3 1 true (x.map ic),.arr 38 1 true (x1.map Ae),.arr 3 1 true (x2.map ic)]))) k1))/\
 ((iM ZoG λa a1 a2 r=>fV (j8 a a1 a2) (λu1=>if(u1.length:Int)=0 then fP ([]:V2) ([]:XS) r else AX (Q9 a1 a2) (λu2=>fV (kG u1 u2) (λu3=>Znq (MS u3 (u2.length:Int)) (λu4 u5 u6 u7=>r (some (.tup [.agg [.own 0,.own 1,.own 2],Bo u7],[.arr 3 1 true (u4.map ic),.arr 38 1 true (u5.map Ae),.arr 3 1 true (u6.map ic)])))))))/\
 (iM W7 λa r=>r (some (.agg [I a,I 1],[])))))):=by
 refine qu ?_
 and_intros
 all_goals(intros;unfold Im;(try simp only[MP,Tq,kJ,Ts,Tt,Tu,kI,kK,Tw,kL,Tv,Tx,ZoG,W7,GB,Z0,Program.c_def,j8,Q9,kG,MS,ZM.c_def,Zj.c_def,Zc.c_def,ZD.c_def,Zs.c_def,Bm,Zwt,Zwu,Zw0,A7,AY]);(try simp only[AZ]);(try simp only[A0,gS,kk]))
 all_goals(repeat' first|refine Bs λ_=>?_|refine Br λ_ _=>?_|refine Bq λ_=>?_|refine AL ?_ ?_|exact False.elim)
 all_goals(intro h;first|rw[Zk Zwj.eq_1]|rw[Zk Zwk.eq_1]|rw[Zk Zwn.eq_1]|rw[Zk ZoE.eq_1]|rw[Zk ZoD.eq_1]|rw[Zk Zwo.eq_1]|refine run ZKi rfl ?_|rw[Zk Zwv.eq_1]|rw[Zk ZoF.eq_1]|rw[Zk Zww.eq_1]|refine run ZKj rfl ?_|rw[Zk Zw2.eq_1]|refine run ZKl rfl ?_|refine run ZKm rfl ?_)
 all_goals (refine Yd ?_ h;clear h;simp +decide[*,kk,tI,Ax,Z80,Zwm,Z81,Zwl,Zws,Zwr,Zwq,Z83,Zwp,Z84,Zwz,Zwy,Zwx,Z85,Zw3,Z86,Z87])
abbrev Ww:=uq ZN1
def ZN2:iM GB λa a1 a2 r=>¬a<0/\qL (w ((Ac 1 a)-1)) λk1=>0<=k1/\k1<=k1/\k1.toNat*8<=room/\k1<=140737488355328/\r (MP (List.replicate k1.toNat 0) a1 a2 0):=by
 refine qu ?_;intro a a1 a2 r;unfold Im;intro h;unfold GB;(try simp only[Bm]);refine run ZKh rfl ?_;obtain⟨q1,h⟩:=h;obtain⟨q2,h⟩:=h;obtain⟨q3,h⟩:=h;obtain⟨q4,h⟩:=h;have zq4:=q4;try simp[Bm]at zq4
 obtain⟨q5,h⟩:=h;refine Yd ?_ h;clear h;simp +decide[*,Z82,tI,Ax,MP,Bm]
abbrev ZN3:=uq ZN2
def ZN4:iM MS λa a1 r=>qB (Z0 a1 1 4) (¬a1<0/\AX (GB a1 ([(w ((Ac 1 a1)-1))]) ([]:V2)) (λu2=>Vb (kI a1) (λu3=>qL (u3.length:Int) λk1=>0<=k1/\k1<=k1/\k1.toNat*8<=room/\k1<=140737488355328/\r (Tx u2 u3 (List.replicate k1.toNat 0) a a1 (w ((Ac 1 a1)-1)) 0)))) (fP ([]:V2) ([]:XS) r):=by
 refine qu ?_;intro a a1 r;unfold Im;intro h;unfold MS;(try simp only[Bm]);refine run ZKk rfl ?_;obtain⟨v,q1,h⟩:=h;unfold Z0 at q1
 try simp[Bm]at q1
 by_cases q2:v=true
 .rw[Ya q2]at h;obtain⟨q3,h⟩:=h;obtain⟨v1,q4,h⟩:=h;unfold GB at q4
  try simp[Bm]at q4
  obtain⟨v2,q5,h⟩:=h;unfold kI at q5
  try simp[Bm]at q5
  obtain⟨q6,h⟩:=h;have zq6:=q6;try simp[Bm]at zq6
  obtain⟨q7,h⟩:=h;have zq7:=q7;try simp[Bm]at zq7
  obtain⟨q8,h⟩:=h;have pH:=q8;try simp[Bm]at pH
  obtain⟨q9,h⟩:=h;have zq9:=q9;try simp[Bm]at zq9
  refine Yd ?_ h;clear h;simp +decide[*,Zw4,tI,Ax,Tx,Bm]
 .rw[Yb q2]at h;refine Yd ?_ h;clear h;simp +decide[*,Zw4,tI,Ax,Bm]
abbrev ZCm:=uq ZN4
