/-
  Parts of the proofs for this seat: G4 G5 G6.
-/
import Derived.Test.YthpdbpfamhcgiaaGreatP13
import Derived.Test.YthpdbpfamhcgiaaGreatP14
set_option linter.all false
set_option maxRecDepth 100000
set_option maxHeartbeats 4000000
namespace Go.Proofs.YthpdbpfamhcgiaaGreat
open Go.AM
def ZLd:((((iM Zi3 λs1 s2 x x1 x2 r=>if x2<x1 then qG x x2 (λu1=>if(s2.length:Int)<=x2 then qi 1 r else qH s2 x2 (λu2=>qI (Zi2 u1 u2) (λu3=>if u3=0 then r (Zi3 s1 s2 x x1 (w (x2+1)))else qi u3 r)))else if(s1.length:Int)<(s2.length:Int)then qi (-1) r else qi 0 r)/\
 (iM Zso λa a1 r=>r (Zi3 a a1 a (a.length:Int) 0)))/\
 ((iM Zni λa a1 r=>qI (Zso a a1) (λu1=>qi u1 r))/\
 (iM Zi4 λrows i r=>if i<(rows.length:Int)then 0<=(w (i-1))/\∃u1,rows[(w (i-1)).toNat]?=some u1/\qG rows i (λu2=>qI (Zni u1 u2) (λu3=>if 0<=u3 then qb false r else r (Zi4 rows (w (i+1)))))else qb true r)))/\
 (((iM Znj λa r=>r (Zi4 a 1))/\
 (iM Zi5 λt x x1 x2 r=>qL (qb false r) λk1=>if x2<x1 then qG x x2 (λu1=>qB (ZcO u1 t.Zu) (r (Zi5 t x x1 (w (x2+1)))) k1)else qB (ZeR t.Zq) (qB (ZT t.Zu 1 3) (if(t.Rows.length:Int)<=8 then qV (Znj t.Rows) (λu3=>qb u3 r)else k1) k1) k1))/\
 ((iM Zbv λa r=>r (Zi5 a a.Rows (a.Rows.length:Int) 0))/\
 ((iM Zi6 λdb x x1 x2 r=>if x2<x1 then qG x x2 (λu1=>qB (Zbv u1) (qL (r (Zi6 db x x1 (w (x2+1)))) λk1=>if 0<x2 then 0<=(w (x2-1))/\∃u3,db.Z6[(w (x2-1)).toNat]?=some u3/\if(Op.bytesLess u3.Zq.toList u1.Zq.toList)=true then k1 else qb false r else k1) (qb false r))else qb (decide ((db.Z6.length:Int)<=6)) r)/\
 (iM ZcP λa r=>r (Zi6 a a.Z6 (a.Z6.length:Int) 0))))))/\
 ((((iM Zi7 λout set i r=>¬i<0/\if(shrI set i)=0 then qs3 out r else if(andI (shrI set i) 1)=1 then qN out (r (Zi7 (out++[i]) set (w (i+1))))else r (Zi7 out set (w (i+1))))/\
 (iM KM λa r=>r (Zi7 ([]:V6) a 0)))/\
 ((iM ZcQ λout arity set r=>¬arity<0/\if set<(shlI 1 arity)then qs2 (KM set) (λu1=>qN out (r (ZcQ (out++[u1]) arity (w (set+1)))))else Qm out r)/\
 (iM Zfc λa r=>qB (ZT a 1 3) (r (ZcQ ([]:V4) a 1)) (KG r))))/\
 (((iM Zfd λcolumns arity x x1 x2 r=>if x2<x1 then qG x x2 (λu1=>qB (ZT u1 0 (w (arity-1))) (qL (r (Zfd columns arity x x1 (w (x2+1)))) λk1=>if 0<x2 then 0<=(w (x2-1))/\∃u3,columns[(w (x2-1)).toNat]?=some u3/\if u1<=u3 then qb false r else k1 else k1) (qb false r))else qb true r)/\
 (iM Zap λa a1 r=>r (Zfd a a1 a (a.length:Int) 0)))/\
 ((iM Zi8 λout row x x1 x2 r=>if x2<x1 then qG x x2 (λu1=>qB (ZT u1 0 (w ((row.length:Int)-1))) (qG row u1 (λu3=>qN out (r (Zi8 (out++[u3]) row x x1 (w (x2+1)))))) (Zcx r))else Zm5 out r)/\
 ((iM Up λa a1 r=>r (Zi8 ([]:V6) a a1 (a1.length:Int) 0))/\
 (iM Zfe λout x x1 x2 r=>if x2<x1 then qG x x2 (λu1=>qs2 (Uo u1) (λu2=>qN out (r (Zfe (out++[u2]) x x1 (w (x2+1))))))else Qm out r))))):=by
 refine qu ?_
 and_intros
 all_goals(intros;unfold Im;(try simp only[Zi3,Zso,Zni,Zi4,Znj,Zi5,Zbv,Zi6,ZcP,Zi7,KM,ZcQ,Zfc,Zfd,Zap,Zi8,Up,Zfe,Zi2,ZcO,ZeR,ZT,Zt.c_def,Uo,lpz,Zi9,mpl,dfs]);(try simp only[itb]);(try simp only[itf,gS,kk]))
 all_goals(repeat' first|refine exI λ_=>?_|refine anJ λ_ _=>?_|refine anI λ_=>?_|refine orE2 ?_ ?_|exact False.elim)
 all_goals(intro h;first|rw[Zr Zsm.eq_1]|refine run ZHz rfl ?_|refine run ZH0 rfl ?_|rw[Zr Zsq.eq_1]|refine run ZH1 rfl ?_|rw[Zr Zst.eq_1]|refine run ZH2 rfl ?_|rw[Zr Zsw.eq_1]|refine run ZH3 rfl ?_|rw[Zr Zsy.eq_1]|refine run ZH4 rfl ?_|rw[Zr Zs1.eq_1]|refine run ZH5 rfl ?_|rw[Zr Zs4.eq_1]|refine run ZH6 rfl ?_|rw[Zr Zs7.eq_1]|refine run ZH7 rfl ?_|rw[Zr Znl.eq_1])
 all_goals (refine Yd ?_ h;clear h;simp +decide[*,kk,tI,tII,Zsn,Z4n,Z4o,Zsr,Z4p,Zsu,Z4q,Zsx,Z4r,Zsz,Z4s,Z4t,Zs2,Z4u,Zs5,Z4v,Zs8,Z4w,Znm])
abbrev X9:=uq ZLd
def ZLe:((iM Zbw λa r=>r (Zfe ([]:V4) a (a.length:Int) 0))/\
 ((iM J8 λa r=>UR (Zbw a) (λu1=>∃(u2:V4),ZiA u1=some (.tup [],[.arr 40 1 true (u2.map isc)])/\∃(u3:V4),ZiB u2=some (.own 1,[.dead,.arr 40 1 true (u3.map isc)])/\Qm u3 r))/\
 (iM ZiC λs1 s2 x x1 r=>if x1<x then qG s1 x1 (λu1=>qH s2 x1 (λu2=>if u1=u2 then r (ZiC s1 s2 x (w (x1+1)))else qb false r))else qb true r)))/\
 (((iM Kj λa a1 r=>if(a.length:Int)=(a1.length:Int)then r (ZiC a a1 (a.length:Int) 0)else qb false r)/\
 (iM ZcR λall groups counts x x1 r=>if x1<x then qG groups x1 (λu1=>r (Zff all groups counts x1 u1 x x1 (all.length:Int) 0))else Zic groups counts r))/\
 ((iM Zff λall groups counts i g x x1 x2 x3 r=>if x3<x2 then qG all x3 (λu1=>qB (Kj g u1) (qG counts i (λu3=>r (Zff all groups (counts.set i.toNat (w (u3+1))) i g x x1 x2 (w (x3+1))))) (r (Zff all groups counts i g x x1 x2 (w (x3+1)))))else r (ZcR all groups counts x (w (x1+1))))/\
 (iM Zby λa a1 r=>qL (r (some (.tup [.t .nil,.t .nil],[]))) λk1=>qB (Zbv a) (qB (Zap a1 a.Zu) (r (Zaq ([]:V4) a1 a.Rows (a.Rows.length:Int) 0)) k1) k1))):=by
 refine qu ?_
 and_intros
 all_goals(intros;unfold Im;(try simp only[Zbw,J8,ZiC,Kj,ZcR,Zff,Zby,ZiA,ZiB,Zbv,Zap,Zt.c_def,Zfe,Zaq,lpz,Zno,Zi9,mpl,dfs]);(try simp only[itb]);(try simp only[itf,gS,kk]))
 all_goals(repeat' first|refine exI λ_=>?_|refine anJ λ_ _=>?_|refine anI λ_=>?_|refine orE2 ?_ ?_|exact False.elim)
 all_goals(intro h;first|refine run Z8D rfl ?_|refine run Z8E rfl ?_|rw[Zr ZsD.eq_1]|refine run ZH8 rfl ?_|rw[Zr Znn.eq_1]|rw[Zr ZsG.eq_1]|refine run ZH9 rfl ?_)
 all_goals (refine Yd ?_ h;clear h;simp +decide[*,kk,tI,tII,ZsA,ZsB,ZsE,Z4x,ZsI,Z4y,ZsH,Z4z])
abbrev Jc:=uq ZLe
def Z8N{all:V4}{c:V6}{x:V4}{x1 x2:Int}{r:V3}(h:(if x2<x1 then(0<=x2/\(∃(e1:V6),x[x2.toNat]?=some e1/\((Up e1 c=some (.tup [.t .nil,Bo false],[])/\(all.length+1<=68719476736/\(Zaq (all++[[]]) c x x1 (w (x2+1))=some r)))\/(∃(v:V6),Up e1 c=some (.tup [.own 0,Bo true],[.arr 3 1 true (v.map ic)])/\(all.length+1<=68719476736/\(Zaq (all++[v]) c x x1 (w (x2+1))=some r))))))else(∃(v1:V4),J8 all=some (.own 0,[.arr 40 1 true (v1.map isc)])/\(0<=(v1.length:Int)/\((v1.length:Int)<=(v1.length:Int)/\((v1.length:Int).toNat*8<=room/\((v1.length:Int)<=140737488355328/\(ZcR all v1 (List.replicate ((v1.length:Int)).toNat 0) (v1.length:Int) 0=some r)))))))):Zaq all c x x1 x2=some r:=by
 unfold Zaq
 try simp only[lpz]
 rw[Zr ZsF.eq_1];by_cases q1:x2<x1
 .rw[Ya q1]at h;obtain⟨q2,h⟩:=h;obtain⟨e1,q3,h⟩:=h;have gq3:=X3 q3;have kq3:=X4 q3;rcases h with h|h
  .obtain⟨q4,h⟩:=h;unfold Up at q4
   try simp[lpz]at q4
   obtain⟨q5,h⟩:=h;have rq5:=Vb (b:=24) q5 (by omega);have sq5:=Vc q5
   try simp[*]at rq5
   try simp[*]at sq5
   refine Yd ?_ h;clear h;simp +decide[*,tI,tII,Zaq,lpz]
  .obtain⟨v,q6,h⟩:=h;unfold Up at q6
   try simp[lpz]at q6
   obtain⟨q7,h⟩:=h;have rq7:=Vb (b:=24) q7 (by omega);have sq7:=Vc q7
   try simp[*]at rq7
   try simp[*]at sq7
   refine Yd ?_ h;clear h;simp +decide[*,tI,tII,Zaq,lpz]
 .rw[Yb q1]at h;obtain⟨v1,q8,h⟩:=h;unfold J8 at q8
  try simp[lpz]at q8
  obtain⟨q9,h⟩:=h;have zq9:=q9;try simp[lpz]at zq9
  obtain⟨q10,h⟩:=h;have zq10:=q10;try simp[lpz]at zq10
  obtain⟨q11,h⟩:=h;have zq11:=q11;try simp[lpz]at zq11
  obtain⟨q12,h⟩:=h;have zq12:=q12;try simp[lpz]at zq12
  refine Yd ?_ h;clear h;simp +decide[*,tI,tII,ZcR,ZsJ,Zno,lpz]
def ZLf:((((iM ZsN λt Zq Zu VD Name1 Arity1 RowCount1 x x1 x2 r=>if x2<x1 then qG x x2 (λu1=>qL (ZiD t Zq Zu VD Name1 Arity1 RowCount1 false) λk1=>(Zby t u1=some (.tup [.t .nil,.t .nil],[])/\r (k1 ([(⟨u1,[],[]⟩:ZC)]) x x1 (w (x2+1))))\/(ZeF (Zby t u1) (λu2 u3=>r (k1 ([(⟨u1,u2,u3⟩:ZC)]) x x1 (w (x2+1))))))else r (some (.agg [.t (.str Name1),I Arity1,I RowCount1,.t .nil],[])))/\
 (iM ZiD λt Zq Zu VD Name1 Arity1 RowCount1 fr x x1 x2 x3 r=>if x3<x2 then qG x1 x3 (λu1=>qL (ZiD t Zq Zu VD Name1 Arity1 RowCount1 false) λk1=>(Zby t u1=some (.tup [.t .nil,.t .nil],[])/\qN x (r (k1 (x++[(⟨u1,[],[]⟩:ZC)]) x1 x2 (w (x3+1)))))\/(ZeF (Zby t u1) (λu2 u3=>qN x (r (k1 (x++[(⟨u1,u2,u3⟩:ZC)]) x1 x2 (w (x3+1)))))))else r (some (.agg [.t (.str Name1),I Arity1,I RowCount1,.own 0],[.arr 389 3 fr (x.map ZC.c)]))))/\
 ((iM ZcS λa r=>qB (Zbv a) ((Zfc a.Zu=some (.t .nil,[])/\r (Z41 a (⟨#[]⟩:YA) 0 0 a.Zq a.Zu (a.Rows.length:Int) 0 0))\/(UR (Zfc a.Zu) (λu2=>r (ZsN a (⟨#[]⟩:YA) 0 0 a.Zq a.Zu (a.Rows.length:Int) u2 (u2.length:Int) 0)))) (Zm6 r))/\
 (iM ZsS λXh Version1 x x1 x2 r=>if x2<x1 then qG x x2 (λu1=>(∃u2 u3 u4,ZcS u1=some (.agg [.t (.str u2),I u3,I u4,.t .nil],[])/\r (ZcT Xh Version1 true ([(⟨u2,u3,u4,[]⟩:Z5)]) x x1 (w (x2+1))))\/(∃u2,∃(u3:List ZC),∃u4,∃u5,∃u6,ZcS u1=some (.agg [.t (.str u4),I u5,I u6,.own 0],[.arr 389 3 u2 (u3.map ZC.c)])/\r (ZcT Xh Version1 u2 ([(⟨u4,u5,u6,u3⟩:Z5)]) x x1 (w (x2+1)))))else ZeG Version1 ([]:List Z5) r)))/\
 (((iM ZcT λXh Version1 fr x x1 x2 x3 r=>if x3<x2 then qG x1 x3 (λu1=>(∃u2 u3 u4,ZcS u1=some (.agg [.t (.str u2),I u3,I u4,.t .nil],[])/\qN x (r (ZcT Xh Version1 fr (x++[(⟨u2,u3,u4,[]⟩:Z5)]) x1 x2 (w (x3+1)))))\/(∃u2,∃(u3:List ZC),∃u4,∃u5,∃u6,ZcS u1=some (.agg [.t (.str u4),I u5,I u6,.own 0],[.arr 389 3 u2 (u3.map ZC.c)])/\qN x (r (ZcT Xh Version1 (fr && u2) (x++[(⟨u4,u5,u6,u3⟩:Z5)]) x1 x2 (w (x3+1))))))else ZeG Version1 x r)/\
 (iM ZiE λa a1 r=>qL (Zm1 ([]:List Z5) r) λk1=>qB (ZcP a) (qB (ZT a1 1 999) (r (ZsS 0 a1 a.Z6 (a.Z6.length:Int) 0)) k1) k1))/\
 ((iM ZsT λa a1 r=>qV (Kj a a1) (λu1=>qb u1 r))/\
 ((iM ZiF λs2 x x1 x2 r=>if x2<x1 then qG x x2 (λu1=>qH s2 x2 (λu2=>qB (ZsT u1 u2) (r (ZiF s2 x x1 (w (x2+1)))) (qb false r)))else qb true r)/\
 (iM ZsX λa a1 r=>if(a.length:Int)=(a1.length:Int)then r (ZiF a1 a (a.length:Int) 0)else qb false r)))))/\
 ((((iM Zfg λa a1 r=>qV (ZsX a a1) (λu1=>qb u1 r))/\
 (iM Znq λa a1 r=>qB (Kj a.Ql a1.Ql) (qB (Zfg a.W7 a1.W7) (qV (Kj a.Ke a1.Ke) (λu3=>qb u3 r)) (qb false r)) (qb false r)))/\
 ((iM ZiG λs2 x x1 x2 r=>if x2<x1 then qG x x2 (λu1=>qH s2 x2 (λu2=>qB (Znq u1 u2) (r (ZiG s2 x x1 (w (x2+1)))) (qb false r)))else qb true r)/\
 (iM Ztb λa a1 r=>if(a.length:Int)=(a1.length:Int)then r (ZiG a1 a (a.length:Int) 0)else qb false r)))/\
 (((iM Znr λa a1 r=>if a.Zq=a1.Zq then if a.Zu=a1.Zu then if a.VD=a1.VD then qV (Ztb a.Xs a1.Xs) (λu1=>qb u1 r)else qb false r else qb false r else qb false r)/\
 (iM ZiH λs2 x x1 x2 r=>if x2<x1 then qG x x2 (λu1=>qH s2 x2 (λu2=>qB (Znr u1 u2) (r (ZiH s2 x x1 (w (x2+1)))) (qb false r)))else qb true r))/\
 ((iM Ztf λa a1 r=>if(a.length:Int)=(a1.length:Int)then r (ZiH a1 a (a.length:Int) 0)else qb false r)/\
 ((iM ZiI λa a1 r=>if a.Xh=a1.Xh then qV (Ztf a.Z6 a1.Z6) (λu1=>qb u1 r)else qb false r)/\
 (iM Zns λa a1 r=>qb (decide (a.Zq=a1)) r))))):=by
 refine qu ?_
 and_intros
 all_goals(intros;unfold Im;(try simp only[ZsN,ZiD,ZcS,ZsS,ZcT,ZiE,ZsT,ZiF,ZsX,Zfg,Znq,ZiG,Ztb,Znr,ZiH,Ztf,ZiI,Zns,Zby,Zt.c_def,Zbv,Zfc,ZcP,ZT,Zp.c_def,Kj,ZC.c_def,Z5.c_def,Z41,Znp,lpz,ZsR,mpl,dfs]);(try simp only[itb]);(try simp only[itf,gS,kk]))
 all_goals(repeat' first|refine exI λ_=>?_|refine anJ λ_ _=>?_|refine anI λ_=>?_|refine orE2 ?_ ?_|exact False.elim)
 all_goals(intro h;first|rw[Zr ZsL.eq_1]|refine run ZHA rfl ?_|rw[Zr ZsP.eq_1]|refine run ZHB rfl ?_|refine run ZHC rfl ?_|rw[Zr ZsV.eq_1]|refine run ZHD rfl ?_|refine run ZHE rfl ?_|refine run ZHF rfl ?_|rw[Zr ZsZ.eq_1]|refine run ZHG rfl ?_|refine run ZHH rfl ?_|rw[Zr Ztd.eq_1]|refine run ZHI rfl ?_|refine run ZHJ rfl ?_|refine run ZHK rfl ?_)
 all_goals (refine Yd ?_ h;clear h;simp +decide[*,kk,tI,tII,ZsM,Z40,ZsQ,Z42,Z43,ZsW,Z44,Z45,Z46,Zta,Z47,Z48,Zte,Z49,Z4A,Z4B])
abbrev Ve:=uq ZLf
def ZLg:((iM ZiJ λs f x x1 r=>if x1<x then qG s x1 (λu1=>qB (Zns u1 f) (qi x1 r) (r (ZiJ s f x (w (x1+1)))))else qi (-1) r)/\
 (iM Ztj λa a1 r=>r (ZiJ a a1 (a.length:Int) 0)))/\
 ((iM Ztk λa r=>UR (Zbw a.Rows) (λu1=>r (some (.agg [.t (.str a.Zq),I a.Zu,.own 0],[.arr 40 1 true (u1.map isc)]))))/\
 ((iM Vm λa a1 r=>qI (Ztj a.Z6 a1) (λu1=>if u1<0 then ZeH r else qB (ZcP a) (qG a.Z6 u1 (λu3=>∃(u4:V4),∃u5,∃u6,Ztk u3=some (.agg [.t (.str u5),I u6,.own 0],[.arr 40 1 true (u4.map isc)])/\r (some (.tup [.agg [.t (.str u5),I u6,.own 0],Bo true],[.arr 40 1 true (u4.map isc)])))) (ZeH r)))/\
 (iM Zfh λa a1 r=>(∃u1 u2,Vm a a1.Zq=some (.tup [.agg [.t (.str u1),I u2,.t .nil],Bo false],[])/\qb false r)\/(∃(u1:V4),∃u2,∃u3,Vm a a1.Zq=some (.tup [.agg [.t (.str u2),I u3,.own 0],Bo true],[.arr 40 1 true (u1.map isc)])/\qB (Zap a1.ZY u3) (qB (ZT a1.To 0 (w (u3-1))) (qV (UU a1.ZY a1.To) (λu6=>qb (!u6) r)) (qb false r)) (qb false r))))):=by
 refine qu ?_
 and_intros
 all_goals(intros;unfold Im;(try simp only[ZiJ,Ztj,Ztk,Vm,Zfh,Zns,Zt.c_def,Zbw,ZcP,Zp.c_def,Zap,ZT,UU,lpz,mpl,dfs]);(try simp only[itb]);(try simp only[itf,gS,kk]))
 all_goals(repeat' first|refine exI λ_=>?_|refine anJ λ_ _=>?_|refine anI λ_=>?_|refine orE2 ?_ ?_|exact False.elim)
 all_goals(intro h;first|rw[Zr Zth.eq_1]|refine run ZHL rfl ?_|refine run ZHM rfl ?_|refine run ZHN rfl ?_|refine run ZHO rfl ?_)
 all_goals (refine Yd ?_ h;clear h;simp +decide[*,kk,tI,tII,Zti,Z4C,Z4D,Z4E,Z4F])
abbrev ZgT:=uq ZLg
def ZLh:(((iM Zfi λf t x x1 x2 r=>if x2<x1 then qG x x2 (λu1=>x2.toNat<=t.Rows.length/\r (Zbz f t x2 u1 x x1 x2 (t.Rows.take x2.toNat) ((t.Rows.take x2.toNat).length:Int) 0))else r (some (.t .nil,[])))/\
 ((iM Zbz λf t k y x x1 x2 x3 x4 x5 r=>if x5<x4 then qG x3 x5 (λu1=>qL (r (Zbz f t k y x x1 x2 x3 x4 (w (x5+1)))) λk1=>qL (qs3 ([x5,k]) r) λk4=>qL (qG u1 f.To (λu4=>qH y f.To (λu5=>if u4=u5 then k1 else k4))) λk2=>qL (Up y f.ZY) λk3=>(Up u1 f.ZY=some (.tup [.t .nil,Bo false],[])/\((k3=some (.tup [.t .nil,Bo false],[])/\qB Z4G (qG u1 f.To (λu3=>qH y f.To (λu4=>if u3=u4 then k1 else k4))) k1)\/(Zcz k3 (λu2=>qB (Z4H u2) k2 k1))))\/(Zcz (Up u1 f.ZY) (λu2=>(k3=some (.tup [.t .nil,Bo false],[])/\qB (Z4I u2) k2 k1)\/(Zcz k3 (λu3=>qB (Kj u2 u3) (qG u1 f.To (λu5=>qH y f.To (λu6=>if u5=u6 then k1 else k4))) k1)))))else r (Zfi f t x x1 (w (x2+1))))/\
 (iM ZiL λa a1 r=>qB (Zfh a a1) ((∃u2 u3,Vm a a1.Zq=some (.tup [.agg [.t (.str u2),I u3,.t .nil],Bo false],[])/\r (Z4K a1 u2 u3 0 0))\/(∃(u2:V4),∃u3,∃u4,Vm a a1.Zq=some (.tup [.agg [.t (.str u3),I u4,.own 0],Bo true],[.arr 40 1 true (u2.map isc)])/\r (Zfi a1 (⟨u3,u4,u2⟩:Zt) u2 (u2.length:Int) 0))) (KG r))))/\
 ((iM Znu λa a1 r=>qB (Zfh a a1) ((ZiL a a1=some (.t .nil,[])/\qb true r)\/(qs2 (ZiL a a1) (λu2=>qb (decide ((u2.length:Int)=0)) r))) (qb false r))/\
 ((iM ZiM λa a1 r=>qL (Vm a a1.Vr) λk1=>qL (qb false r) λk2=>(∃u1 u2,Vm a a1.Zq=some (.tup [.agg [.t (.str u1),I u2,.t .nil],Bo false],[])/\((∃u3 u4,k1=some (.tup [.agg [.t (.str u3),I u4,.t .nil],Bo false],[])/\k2)\/(∃(u3:V4),∃u4,∃u5,k1=some (.tup [.agg [.t (.str u4),I u5,.own 0],Bo true],[.arr 40 1 true (u3.map isc)])/\k2)))\/(∃(u1:V4),∃u2,∃u3,Vm a a1.Zq=some (.tup [.agg [.t (.str u2),I u3,.own 0],Bo true],[.arr 40 1 true (u1.map isc)])/\((∃u4 u5,k1=some (.tup [.agg [.t (.str u4),I u5,.t .nil],Bo false],[])/\k2)\/(∃(u4:V4),∃u5,∃u6,k1=some (.tup [.agg [.t (.str u5),I u6,.own 0],Bo true],[.arr 40 1 true (u4.map isc)])/\qB (ZT a1.Xu 0 (w (u3-1))) (qV (ZT a1.XC 0 (w (u6-1))) (λu8=>qb u8 r)) k2))))/\
 (iM ZiP λx Zq Zu x1 WP x2 x3 x4 r=>if x4<x3 then qG x2 x4 (λu1=>qG u1 x.XC (λu2=>qN WP (r (ZiP x Zq Zu x1 (WP++[u2]) x2 x3 (w (x4+1))))))else r (Zfk x WP ([]:V6) x1 (x1.length:Int) 0)))))/\
 (((iM Zfk λx WP out x1 x2 x3 r=>if x3<x2 then qG x1 x3 (λu1=>qG u1 x.Xu (λu2=>qB (UU WP u2) (r (Zfk x WP out x1 x2 (w (x3+1)))) (qN out (r (Zfk x WP (out++[u2]) x1 x2 (w (x3+1)))))))else ZeI (KN out) (λu1=>∃(u2:V6),Zb0 u1=some (.own 1,[.dead,.arr 3 1 true (u2.map ic)])/\qs3 u2 r))/\
 ((iM ZiN λa a1 r=>qB (ZiM a a1) (qL ([]:V6) λk1=>qL (Vm a a1.Vr) λk2=>(∃u2 u3,Vm a a1.Zq=some (.tup [.agg [.t (.str u2),I u3,.t .nil],Bo false],[])/\((∃u4 u5,k2=some (.tup [.agg [.t (.str u4),I u5,.t .nil],Bo false],[])/\r (Z4P a1 u2 u3 k1 0 0))\/(∃(u4:V4),∃u5,∃u6,k2=some (.tup [.agg [.t (.str u5),I u6,.own 0],Bo true],[.arr 40 1 true (u4.map isc)])/\r (Z4Q a1 u2 u3 k1 u4 (u4.length:Int) 0))))\/(∃(u2:V4),∃u3,∃u4,Vm a a1.Zq=some (.tup [.agg [.t (.str u3),I u4,.own 0],Bo true],[.arr 40 1 true (u2.map isc)])/\((∃u5 u6,k2=some (.tup [.agg [.t (.str u5),I u6,.t .nil],Bo false],[])/\r (Z4R a1 u3 u4 u2 k1 0 0))\/(∃(u5:V4),∃u6,∃u7,k2=some (.tup [.agg [.t (.str u6),I u7,.own 0],Bo true],[.arr 40 1 true (u5.map isc)])/\r (ZiP a1 u3 u4 u2 k1 u5 (u5.length:Int) 0))))) (KG r))/\
 (iM Znv λa a1 r=>qB (ZiM a a1) ((ZiN a a1=some (.t .nil,[])/\qb true r)\/(qs2 (ZiN a a1) (λu2=>qb (decide ((u2.length:Int)=0)) r))) (qb false r))))/\
 ((iM ZiS λdb dependencies inclusions x x1 x2 r=>if x2<x1 then qG x x2 (λu1=>qB (Znu db u1) (r (ZiS db dependencies inclusions x x1 (w (x2+1)))) (qb false r))else r (ZiT db dependencies inclusions inclusions (inclusions.length:Int) 0))/\
 ((iM ZiT λdb dependencies inclusions x x1 x2 r=>if x2<x1 then qG x x2 (λu1=>qB (Znv db u1) (r (ZiT db dependencies inclusions x x1 (w (x2+1)))) (qb false r))else if(dependencies.length:Int)<=8 then qb (decide ((inclusions.length:Int)<=8)) r else qb false r)/\
 (iM ZiR λa a1 a2 r=>r (ZiS a a1 a2 a1 (a1.length:Int) 0))))):=by
 refine qu ?_
 and_intros
 all_goals(intros;unfold Im;(try simp only[Zfi,Zbz,ZiL,Znu,ZiM,ZiP,Zfk,ZiN,Znv,ZiS,ZiT,ZiR,Up,Z4G,Z4H,Z4I,Kj,Zfh,Vm,Zp.c_def,ZA.c_def,ZT,UU,KN,Zb0,Z7.c_def,Z4K,Z4P,Z4Q,Z4R,Ztp,lpz,Zto,ZiO,mpl,dfs]);(try simp only[itb]);(try simp only[itf,gS,kk]))
 all_goals(repeat' first|refine exI λ_=>?_|refine anJ λ_ _=>?_|refine anI λ_=>?_|refine orE2 ?_ ?_|exact False.elim)
 all_goals(intro h;first|rw[Zr Znt.eq_1]|rw[Zr Ztl.eq_1]|refine run ZHP rfl ?_|refine run ZHQ rfl ?_|refine run ZHR rfl ?_|rw[Zr Ztq.eq_1]|rw[Zr Ztr.eq_1]|refine run ZHS rfl ?_|refine run ZHT rfl ?_|rw[Zr Ztu.eq_1]|rw[Zr Ztv.eq_1]|refine run ZHU rfl ?_)
 all_goals (refine Yd ?_ h;clear h;simp +decide[*,kk,tI,tII,Ztn,Ztm,Z4J,Z4L,Z4M,Ztt,Z4N,Zts,Z4O,Z4S,Ztx,Ztw,Z4T])
abbrev Uc:=uq ZLh
