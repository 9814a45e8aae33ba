/-
  Parts of the proofs for this seat: G7 SN SN2 G8 G9.
-/
import Derived.Test.YthpdbpfamhcgiaaGreatP13
import Derived.Test.YthpdbpfamhcgiaaGreatP14
set_option linter.all false
set_option maxRecDepth 100000
set_option maxHeartbeats 4000000
namespace Go.Proofs.YthpdbpfamhcgiaaGreat
open Go.AM
def ZLi:((((iM Znw λa r=>∃(u1:ZN),∃u2,ZiE a.Zp a.ZN.Xh=some (.tup [.agg (u1.c.map .t),Bo u2],[])/\if u2=true then qB (ZiI u1 a.ZN) (qV (ZiR a.Zp a.QD a.QE) (λu4=>qb u4 r)) (qb false r)else qb false r)/\
 (iM ZiU λa a1 r=>if a.ZN.Xh=a1 then qV (Znw a) (λu1=>qb u1 r)else qb false r))/\
 ((iM ZiV λdb x x1 x2 r=>if x2<x1 then qG x x2 (λu1=>(∃u2 u3,Vm db u1.Zq=some (.tup [.agg [.t (.str u2),I u3,.t .nil],Bo false],[])/\qb false r)\/(∃(u2:V4),∃u3,∃u4,Vm db u1.Zq=some (.tup [.agg [.t (.str u3),I u4,.own 0],Bo true],[.arr 40 1 true (u2.map isc)])/\if u4=(u1.Za.length:Int)then r (ZiV db x x1 (w (x2+1)))else qb false r))else qb true r)/\
 (iM Qr λa a1 r=>qB (QF a1) (r (ZiV a a1.Zb (a1.Zb.length:Int) 0)) (qb false r))))/\
 (((iM Zt3 λout x x1 r=>if x1<x then False else Qm out r)/\
 (iM Zt2 λr=>r (Zt3 ([]:V4) 0 0)))/\
 ((iM Znx λr=>UR Zt2 (λu1=>∃(u2:V4),ZiA u1=some (.tup [],[.arr 40 1 true (u2.map isc)])/\∃(u3:V4),ZiB u2=some (.own 1,[.dead,.arr 40 1 true (u3.map isc)])/\Qm u3 r))/\
 ((iM ZcU λdb vars x mask x1 x2 x3 r=>qL (x.length:Int) λk1=>if x3<x2 then qG x1 x3 (λu1=>¬x3<0/\if(andI (shrI mask x3) 1)=0 then r (ZcU db vars x mask x1 x2 (w (x3+1)))else(∃u2 u3,Vm db u1.Zq=some (.tup [.agg [.t (.str u2),I u3,.t .nil],Bo false],[])/\r (Z4Y db vars u1 u2 u3 ([]:V4) x mask x1 x2 x3 k1 0))\/(∃(u2:V4),∃u3,∃u4,Vm db u1.Zq=some (.tup [.agg [.t (.str u3),I u4,.own 0],Bo true],[.arr 40 1 true (u2.map isc)])/\r (Zfm db vars u1 u3 u4 u2 ([]:V4) x mask x1 x2 x3 k1 0)))else r (ZiW vars x k1 0))/\
 (iM Zfm λdb vars a Zq Zu x next x1 mask x2 x3 x4 x5 x6 r=>if x6<x5 then qG x1 x6 (λu1=>r (Zfn db vars a Zq Zu x next x1 mask u1 x2 x3 x4 x5 x6 (x.length:Int) 0))else r (ZcU db vars next mask x2 x3 (w (x4+1))))))))/\
 ((((iM ZiW λvars x x1 x2 r=>if x2<x1 then qG x x2 (λu1=>(Up u1 vars=some (.tup [.t .nil,Bo false],[])/\r (ZcV vars ([[]]) x x1 (w (x2+1))))\/(Zcz (Up u1 vars) (λu2=>r (ZcV vars ([u2]) x x1 (w (x2+1))))))else UR Znx (λu1=>ZeJ vars u1 r))/\
 (iM Zfn λdb vars a Zq Zu x next x1 mask values x2 x3 x4 x5 x6 x7 x8 r=>if x8<x7 then qG x x8 (λu1=>qs2 (Uo values) (λu2=>r (ZiX db vars a Zq Zu x next u2 x1 mask values u1 true x2 x3 x4 x5 x6 x7 x8 a.Za (a.Za.length:Int) 0)))else r (Zfm db vars a Zq Zu x next x1 mask x2 x3 x4 x5 (w (x6+1)))))/\
 ((iM ZcV λvars x x1 x2 x3 r=>if x3<x2 then qG x1 x3 (λu1=>(Up u1 vars=some (.tup [.t .nil,Bo false],[])/\qN x (r (ZcV vars (x++[[]]) x1 x2 (w (x3+1)))))\/(Zcz (Up u1 vars) (λu2=>qN x (r (ZcV vars (x++[u2]) x1 x2 (w (x3+1)))))))else UR (J8 x) (λu1=>ZeJ vars u1 r))/\
 (iM ZiX λdb vars a Zq Zu x next x1 x2 mask values row ok x3 x4 x5 x6 x7 x8 x9 x10 x11 x12 r=>if x12<x11 then qG x10 x12 (λu1=>qL (ZiX db vars a Zq Zu x next) λk1=>if ok=true then qG x1 u1 (λu2=>if u2=(-1)then qH row x12 (λu3=>r (k1 (x1.set u1.toNat u3) x2 mask values row true x3 x4 x5 x6 x7 x8 x9 x10 x11 (w (x12+1))))else qH row x12 (λu3=>r (k1 (x1.set u1.toNat u3) x2 mask values row (decide (u2=u3)) x3 x4 x5 x6 x7 x8 x9 x10 x11 (w (x12+1)))))else qH row x12 (λu2=>qG x1 u1 (λu3=>r (k1 (x1.set u1.toNat u2) x2 mask values row false x3 x4 x5 x6 x7 x8 x9 x10 x11 (w (x12+1))))))else qL (Zfn db vars a Zq Zu x) λk2=>if ok=true then qN next (r (k2 (next++[x1]) x2 mask values x3 x4 x5 x6 x7 x8 (w (x9+1))))else r (k2 next x2 mask values x3 x4 x5 x6 x7 x8 (w (x9+1))))))/\
 (((iM Zfl λa a1 a2 r=>qs2 (Ki a1 a2) (λu1=>qs2 (Zt1 ([(-1)]) a1.Zk) (λu2=>r (ZcU a u1 ([u2]) a2 a1.Zb (a1.Zb.length:Int) 0))))/\
 (iM Zn1 λa a1 a2 r=>qB (Qr a a1) (qI (Vd a1) (λu2=>qB (ZT a2 1 u2) (Zbj (Zfl a a1 a2) (λu4 u5=>VV u4 u5 r)) (qs4 r))) (qs4 r)))/\
 ((iM ZiY λa a1 r=>qI (Vd a1) (λu1=>(VW (Zn1 a a1 u1) (λu2 u3=>Zid u2 u3 r))\/(Zn1 a a1 u1=some (.tup [.agg [.t .nil,.t .nil],Bo false],[])/\Zm7 ([]:V6) ([]:V4) r)))/\
 ((iM ZiZ λn x x1 x2 r=>if x2<x1 then qG x x2 (λu1=>r (ZiZ (if n<(u1.length:Int)then(u1.length:Int)else n) x x1 (w (x2+1))))else qi n r)/\
 (iM Zn2 λa r=>r (ZiZ 0 a.ZO (a.ZO.length:Int) 0)))))):=by
 refine qu ?_
 and_intros
 all_goals(intros;unfold Im;(try simp only[Znw,ZiU,ZiV,Qr,Zt3,Zt2,Znx,ZcU,Zfm,ZiW,Zfn,ZcV,ZiX,Zfl,Zn1,ZiY,ZiZ,Zn2,ZiE,ZiI,ZiR,ZN.c_def,Zp.c_def,ZA.c_def,Z7.c_def,Xr.c_def,Vm,QF,Zf.c_def,ZiA,ZiB,Up,Uo,J8,Ki,Zt1,Vd,ZT,Z4Y,lpz,Zi9,ZtD,ZtF,ZtE,ZtG,ZtH,mpl,dfs]);(try simp only[itb]);(try simp only[itf,gS,kk]))
 all_goals(repeat' first|refine exI λ_=>?_|refine anJ λ_ _=>?_|refine anI λ_=>?_|refine orE2 ?_ ?_|exact False.elim)
 all_goals(intro h;first|refine run ZHV rfl ?_|refine run ZHW rfl ?_|rw[Zr Ztz.eq_1]|refine run ZHX rfl ?_|rw[Zr Znl.eq_1]|refine run Z8D rfl ?_|refine run Z8E rfl ?_|rw[Zr Zn0.eq_1]|rw[Zr Znz.eq_1]|rw[Zr ZtA.eq_1]|rw[Zr Zny.eq_1]|rw[Zr Zt4.eq_1]|refine run ZHY rfl ?_|refine run ZHZ rfl ?_|refine run ZIa rfl ?_|rw[Zr ZtJ.eq_1]|refine run ZIb rfl ?_)
 all_goals (refine Yd ?_ h;clear h;simp +decide[*,kk,tI,tII,Z4U,Z4V,Zt0,Z4W,Znm,ZsA,ZsB,Zt9,ZtC,Zt8,ZtB,Zt7,Zt6,Zt5,Z4X,Z4Z,Z5a,ZtK,Z5b])
abbrev WQ:=uq ZLi
def ZLj:(iM Zfo λa b r=>if b=0 then qi (if a<(w (0-a))then(w (0-a))else a) r else ¬b=0/\r (Zfo b (Int.tmod a b)))/\
 ((iM Zar λa a1 r=>r (Zfo a a1))/\
 (iM J9 λa r=>qB (ZT a.Den 1 2147483647) (qB (ZT a.Num (-2147483647) 2147483647) (qI (Zar a.Num a.Den) (λu3=>qb (decide (u3=1)) r)) (qb false r)) (qb false r))):=by
 refine qu ?_
 and_intros
 all_goals(intros;unfold Im;(try simp only[Zfo,Zar,J9,ZT,lpz,mpl,dfs]);(try simp only[itb]);(try simp only[itf,gS,kk]))
 all_goals(repeat' first|refine exI λ_=>?_|refine anJ λ_ _=>?_|refine anI λ_=>?_|refine orE2 ?_ ?_|exact False.elim)
 all_goals(intro h;first|rw[Zr ZtM.eq_1]|refine run ZIc rfl ?_|refine run ZId rfl ?_)
 all_goals (refine Yd ?_ h;clear h;simp +decide[*,kk,tI,tII,ZtN,Z5c,Z5d])
abbrev ZgU:=uq ZLj
def ZLk{a a1:Int}{r:V3}(h:(if a1=0 then(some (.tup [.agg [I 0,I 0],Bo false],[])=some r)else(if a=(w (0-a))then(if a=0 then(if a1=(w (0-a1))then(some (.tup [.agg [I 0,I 0],Bo false],[])=some r)else(if a1<0 then(∃(v:Int),Zar (w (0-a)) (w (0-a1))=some (I v,[])/\(¬v=0/\(∃(v1:Bool),J9 (⟨(w (Int.tdiv (w (0-a)) v)),(w (Int.tdiv (w (0-a1)) v))⟩:XO)=some (Bo v1,[])/\(if v1=true then(some (.tup [.agg [I (w (Int.tdiv (w (0-a)) v)),I (w (Int.tdiv (w (0-a1)) v))],Bo true],[])=some r)else(some (.tup [.agg [I 0,I 0],Bo false],[])=some r)))))else(∃(v2:Int),Zar a a1=some (I v2,[])/\(¬v2=0/\(∃(v3:Bool),J9 (⟨(w (Int.tdiv a v2)),(w (Int.tdiv a1 v2))⟩:XO)=some (Bo v3,[])/\(if v3=true then(some (.tup [.agg [I (w (Int.tdiv a v2)),I (w (Int.tdiv a1 v2))],Bo true],[])=some r)else(some (.tup [.agg [I 0,I 0],Bo false],[])=some r)))))))else(some (.tup [.agg [I 0,I 0],Bo false],[])=some r))else(if a1=(w (0-a1))then(some (.tup [.agg [I 0,I 0],Bo false],[])=some r)else(if a1<0 then(∃(v4:Int),Zar (w (0-a)) (w (0-a1))=some (I v4,[])/\(¬v4=0/\(∃(v5:Bool),J9 (⟨(w (Int.tdiv (w (0-a)) v4)),(w (Int.tdiv (w (0-a1)) v4))⟩:XO)=some (Bo v5,[])/\(if v5=true then(some (.tup [.agg [I (w (Int.tdiv (w (0-a)) v4)),I (w (Int.tdiv (w (0-a1)) v4))],Bo true],[])=some r)else(some (.tup [.agg [I 0,I 0],Bo false],[])=some r)))))else(∃(v6:Int),Zar a a1=some (I v6,[])/\(¬v6=0/\(∃(v7:Bool),J9 (⟨(w (Int.tdiv a v6)),(w (Int.tdiv a1 v6))⟩:XO)=some (Bo v7,[])/\(if v7=true then(some (.tup [.agg [I (w (Int.tdiv a v6)),I (w (Int.tdiv a1 v6))],Bo true],[])=some r)else(some (.tup [.agg [I 0,I 0],Bo false],[])=some r)))))))))):Zfp a a1=some r:=by
 unfold Zfp
 try simp only[lpz]
 refine run ZIe rfl ?_;simp only[Zar,J9,XO.c_def,mpl,dfs,lpz]at h
 try simp only[itb]at h
 try simp only[itf,gS,kk]at h
 rcases h with⟨q1,h⟩|⟨q1,(⟨q2,(⟨q3,(⟨q4,h⟩|⟨q4,(⟨q5,v,q6,q7,v1,q8,(⟨q9,h⟩|⟨q9,h⟩)⟩|⟨q5,v2,q10,q11,v3,q12,(⟨q13,h⟩|⟨q13,h⟩)⟩)⟩)⟩|⟨q3,h⟩)⟩|⟨q2,(⟨q14,h⟩|⟨q14,(⟨q15,v4,q16,q17,v5,q18,(⟨q19,h⟩|⟨q19,h⟩)⟩|⟨q15,v6,q20,q21,v7,q22,(⟨q23,h⟩|⟨q23,h⟩)⟩)⟩)⟩)⟩
 all_goals (try simp only[Int.zero_sub]at *)
 all_goals (refine Yd ?_ h;clear h;simp +decide[*,kk,tI,tII,Z5g,Z5f,lpz])
end Go.Proofs.YthpdbpfamhcgiaaGreat
namespace Go.AM
def V9(l:V4)(i:Nat)(e:V6):(l.map isc).set i [.lst 1 (e.map ic)]=(l.set i e).map isc:=by rw[List.map_set];rfl
def Zpl(l:V6)(v:Int):l.map ic++[[.int .i64 v]]=(l++[v]).map ic:=by simp
def VA(a b:Int)(k:IntKind):binT .shr (.int .u64 a) (.int k b)=if b<0 then none else some (.int .u64 (shrI a b)):=by simp[binT,shrI,IntKind.bits]
end Go.AM
namespace Go.Proofs.YthpdbpfamhcgiaaGreat
open Go.AM
def appO(l:List ZB)(a b:Int)(c:Bool):l.map ZB.c++[[.int .i64 a,.int .i64 b,.bool c]]=(l++[(⟨a,b,c⟩:ZB)]).map ZB.c:=by simp
def ZLl:((((iM Zja λa r=>qI (Zn2 a) (λu1=>qB (ZT u1 1 10000) (qB (ZT a.Xk 2 8) (qB (ZT a.XL 0 100) (ZeK (Zfp (w ((w ((w (u1*(w (100+a.XL))))*a.Xk))*a.Xk)) (w (100*(w (a.Xk-1))))) (λu5 u6=>r (some (.tup [.agg (u5.c.map .t),Bo u6],[])))) (Zbk r)) (Zbk r)) (Zbk r)))/\
 (iM Zjb λa a1 r=>qB (Kj a.Za a1.Za) (qV (Zfg a.Rows a1.Rows) (λu2=>qb u2 r)) (qb false r)))/\
 ((iM Zfr λnotes n x x1 x2 r=>if x2<x1 then qG x x2 (λu1=>qB (ZT u1.Zv 0 1000000000000) (r (Zfr notes (w (n+u1.Zv)) x x1 (w (x2+1)))) (qi (-1) r))else if 10000<(notes.length:Int)then qi (-1) r else qi n r)/\
 (iM Zfq λa r=>r (Zfr a 0 a (a.length:Int) 0))))/\
 (((iM Zn3 λa a1 r=>qB (ZT a 0 1000000000000) (qB (ZT a1 0 100) (qi (w (Int.tdiv (w (a*(w (100+a1)))) 100)) r) (qi (-1) r)) (qi (-1) r))/\
 (iM Zn4 λa a1 a2 r=>qG a1 a2 (λu1=>qL (qb false r) λk1=>qB (ZT u1.Xw 0 (w ((a.ZO.length:Int)-1))) (qG a.ZQ u1.Xw (λu3=>qI (Zn3 u3 a.XL) (λu4=>if u1.Vs=u4 then if u1.Vi=(decide (a2=(w ((a1.length:Int)-1))))then qH a.ZO u1.Xw (λu5=>qI (VZ u5 u1.Zg) (λu6=>if u6<0 then k1 else if a2=0 then qb true r else 0<=(w (a2-1))/\∃u7,a1[(w (a2-1)).toNat]?=some u7/\if u7.Xw<u1.Xw then qb true r else if u7.Xw=u1.Xw then qI (VZ u5 u7.Zg) (λu8=>qb (decide (u8<u6)) r)else k1))else k1 else k1))) k1)))/\
 ((iM Zjc λb notes x x1 r=>if x1<x then qB (Zn4 b notes x1) (r (Zjc b notes x (w (x1+1)))) (qb false r)else qb true r)/\
 (iM Zfs λa a1 a2 r=>qB (ZcJ a a1) (if(a2.length:Int)=0 then qb false r else r (Zjc a1 a2 (a2.length:Int) 0)) (qb false r)))))/\
 ((((iM ZtZ λa x x1 x2 x3 r=>if x3<x2 then qG x1 x3 (λu1=>r (Zje a x ([]:V6) x1 u1 x2 x3 (x.length:Int) 0))else Qn x r)/\
 (iM Zje λa x x1 x2 row x3 x4 x5 x6 r=>if x6<x5 then qG x x6 (λu1=>qI (VZ a.Za u1) (λu2=>qG row u2 (λu3=>qN x1 (r (Zje a x (x1++[u3]) x2 row x3 x4 x5 (w (x6+1)))))))else r (ZcW a x ([x1]) x2 x3 (w (x4+1)))))/\
 ((iM ZcW λa x x1 x2 x3 x4 r=>if x4<x3 then qG x2 x4 (λu1=>r (Zjf a x x1 ([]:V6) x2 u1 x3 x4 (x.length:Int) 0))else VV x x1 r)/\
 (iM Zjf λa x x1 x2 x3 row x4 x5 x6 x7 r=>if x7<x6 then qG x x7 (λu1=>qI (VZ a.Za u1) (λu2=>qG row u2 (λu3=>qN x2 (r (Zjf a x x1 (x2++[u3]) x3 row x4 x5 x6 (w (x7+1)))))))else qN x1 (r (ZcW a x (x1++[x2]) x3 x4 (w (x5+1)))))))/\
 (((iM Zjd λa a1 a2 r=>qB (Qr a a1) (qB (ZT a2 0 (w ((a1.Zb.length:Int)-1))) (qG a1.Zb a2 (λu3=>(∃u4 u5,Vm a u3.Zq=some (.tup [.agg [.t (.str u4),I u5,.t .nil],Bo false],[])/\qs2 (Uo u3.Za) (λu6=>ZeI (KN u6) (λu7=>r (Z5o u3 u7 0 0))))\/(∃(u4:V4),∃u5,∃u6,Vm a u3.Zq=some (.tup [.agg [.t (.str u5),I u6,.own 0],Bo true],[.arr 40 1 true (u4.map isc)])/\qs2 (Uo u3.Za) (λu7=>ZeI (KN u7) (λu8=>r (ZtZ u3 u8 u4 (u4.length:Int) 0)))))) (qs4 r)) (qs4 r))/\
 (iM Zub λa r=>qV (Zap a 4) (λu1=>qb u1 r)))/\
 ((iM Zjg λs x x1 x2 r=>if x2<x1 then qG x x2 (λu1=>qB (ZcO u1 (s.Za.length:Int)) (r (Zjg s x x1 (w (x2+1)))) (qb false r))else qB (Zub s.Za) (qb (decide ((s.Rows.length:Int)<=4096)) r) (qb false r))/\
 ((iM QI λa r=>r (Zjg a a.Rows (a.Rows.length:Int) 0))/\
 (iM KO λx a a1 r=>qG a x (λu1=>qH a1 x (λu2=>r (some (I (w (u1-u2)),[.box [I x]]))))))))):=by
 refine qu ?_
 and_intros
 all_goals(intros;unfold Im;(try simp only[Zja,Zjb,Zfr,Zfq,Zn3,Zn4,Zjc,Zfs,ZtZ,Zje,ZcW,Zjf,Zjd,Zub,Zjg,QI,KO,Zn2,ZT,Zfp,ZM.c_def,Box.c_def,XO.c_def,Kj,Zfg,VZ,ZR.c_def,ZcJ,Zf.c_def,Qr,Vm,Uo,KN,Zp.c_def,Zap,ZcO,Z5o,lpz,Zn6,ZtY,Zua,mpl,dfs]);(try simp only[itb]);(try simp only[itf,gS,kk]))
 all_goals(repeat' first|refine exI λ_=>?_|refine anJ λ_ _=>?_|refine anI λ_=>?_|refine orE2 ?_ ?_|exact False.elim)
 all_goals(intro h;first|refine run ZIf rfl ?_|refine run ZIg rfl ?_|rw[Zr ZtP.eq_1]|refine run ZIh rfl ?_|refine run ZIi rfl ?_|refine run ZIj rfl ?_|rw[Zr ZtS.eq_1]|refine run ZIk rfl ?_|rw[Zr Zn5.eq_1]|rw[Zr ZtU.eq_1]|refine run ZIl rfl ?_|refine run ZIm rfl ?_|rw[Zr Zud.eq_1]|refine run ZIn rfl ?_|refine W8 ZIo rfl ?_)
 all_goals (refine Yd ?_ h;clear h;simp +decide[*,kk,tI,tII,Z5h,Z5i,ZtQ,Z5j,Z5k,Z5l,ZtT,Z5m,ZtX,ZtW,ZtV,Z5n,Z5p,Zue,Z5q,Z5r])
abbrev WH:=uq ZLl
def Z8O{fr:Bool}{c:V4}{x a b i:Int}{r:V3}(h:(if i<b then(ZcX fr c x a b i i=some r)else(some (.tup [],[.arr 40 1 fr (c.map isc),.box [I x]])=some r))):Zas fr c x a b i=some r:=by
 unfold Zas
 try simp only[lpz]
 rw[Zr Zn8.eq_1]
 try simp only[itb]at h
 try simp only[itf,gS,kk]at h
 rcases h with⟨q1,h⟩|⟨q1,h⟩
 all_goals (refine Yd ?_ h;clear h;simp +decide[*,-List.map_set,V9,VA,kk,tI,tII,ZcX,lpz])
theorem Zpm{fr:Bool}{c:V4}{x a b i j:Int}{r:V3}(h:(if a<j then(0<=j/\(∃(e1:V6),c[j.toNat]?=some e1/\(0<=(w (j-1))/\(∃(e2:V6),c[(w (j-1)).toNat]?=some e2/\(∃(v:Int) (v1:Int),KO x e1 e2=some (I v1,[.box [I v]])/\(if v1<0 then(∃(e4:V6),(c.set j.toNat e2)[(w (j-1)).toNat]?=some e4/\(ZcX false ((c.set j.toNat e2).set ((w (j-1)).toNat) e1) v a b i (w (j-1))=some r))else(Zas fr c v a b (w (i+1))=some r)))))))else(Zas fr c x a b (w (i+1))=some r))):ZcX fr c x a b i j=some r:=by
 unfold ZcX
 try simp only[lpz]
 rw[Zr Zuf.eq_1];simp only[KO,mpl,dfs,lpz]at h
 try simp only[itb]at h
 try simp only[itf,gS,kk]at h
 rcases h with⟨q1,q2,e1,⟨g3,q3⟩,q4,e2,⟨g5,q5⟩,v,v1,q6,(⟨q7,e4,⟨g8,q8⟩,h⟩|⟨q7,h⟩)⟩|⟨q1,h⟩
 all_goals (refine Yd ?_ h;clear h;simp +decide[*,-List.map_set,V9,VA,kk,tI,tII,ZcX,Zas,Zug,lpz])
def ZLm{fr:Bool}{x:V4}{x1 a a1:Int}{r:V3}(h:(Zas fr x x1 a a1 (w (a+1))=some r)):Zfu fr x x1 a a1=some r:=by
 unfold Zfu
 try simp only[lpz]
 refine W8 ZIp rfl ?_;refine Yd ?_ h;clear h;simp +decide[*,-List.map_set,V9,VA,kk,tI,tII,Z5s,Zas,lpz]
def Z8P{fr:Bool}{c:V4}{x a b n i:Int}{r:V3}(h:(if i<n then(0<=(w (b+i))/\(∃(e1:V6),c[(w (b+i)).toNat]?=some e1/\(0<=(w (a+i))/\(∃(e2:V6),c[(w (a+i)).toNat]?=some e2/\(∃(e3:V6),(c.set ((w (a+i)).toNat) e1)[(w (b+i)).toNat]?=some e3/\(ZcZ false ((c.set ((w (a+i)).toNat) e1).set ((w (b+i)).toNat) e2) x a b n (w (i+1))=some r))))))else(some (.tup [],[.arr 40 1 fr (c.map isc),.box [I x]])=some r))):ZcZ fr c x a b n i=some r:=by
 unfold ZcZ
 try simp only[lpz]
 rw[Zr Zuh.eq_1]
 try simp only[itb]at h
 try simp only[itf,gS,kk]at h
 rcases h with⟨q1,q2,e1,⟨g3,q3⟩,q4,e2,⟨g5,q5⟩,e3,⟨g6,q6⟩,h⟩|⟨q1,h⟩
 all_goals (refine Yd ?_ h;clear h;simp +decide[*,-List.map_set,V9,VA,kk,tI,tII,ZcZ,lpz])
def ZLn{fr:Bool}{x:V4}{x1 a a1 a2:Int}{r:V3}(h:(ZcZ fr x x1 a a1 a2 0=some r)):ZcY fr x x1 a a1 a2=some r:=by
 unfold ZcY
 try simp only[lpz]
 refine W8 ZIq rfl ?_;refine Yd ?_ h;clear h;simp +decide[*,-List.map_set,V9,VA,kk,tI,tII,Z5u,ZcZ,lpz]
def ZzL{fr:Bool}{c:V4}{x m i j:Int}{r:V3}(h:(if i=j then(∃(v:Bool) (v1:V4) (v2:Int),ZcY fr c x (w (m-i)) m i=some (.tup [],[.arr 40 1 v (v1.map isc),.box [I v2]])/\(some (.tup [],[.arr 40 1 v (v1.map isc),.box [I v2]])=some r))else(if j<i then(∃(v3:Bool) (v4:V4) (v5:Int),ZcY fr c x (w (m-i)) m j=some (.tup [],[.arr 40 1 v3 (v4.map isc),.box [I v5]])/\(Zb1 v3 v4 v5 m (w (i-j)) j=some r))else(∃(v6:Bool) (v7:V4) (v8:Int),ZcY fr c x (w (m-i)) (w ((w (m+j))-i)) i=some (.tup [],[.arr 40 1 v6 (v7.map isc),.box [I v8]])/\(Zb1 v6 v7 v8 m i (w (j-i))=some r))))):Zb1 fr c x m i j=some r:=by
 unfold Zb1
 try simp only[lpz]
 rw[Zr Zuj.eq_1];simp only[ZcY,mpl,dfs,lpz]at h
 try simp only[itb]at h
 try simp only[itf,gS,kk]at h
 rcases h with⟨q1,v,v1,v2,q2,h⟩|⟨q1,(⟨q3,v3,v4,v5,q4,h⟩|⟨q3,v6,v7,v8,q5,h⟩)⟩
 all_goals (refine Yd ?_ h;clear h;simp +decide[*,-List.map_set,V9,VA,kk,tI,tII,Zuk,Zb1,lpz])
def ZLo{fr:Bool}{x:V4}{x1 a a1 a2:Int}{r:V3}(h:(Zb1 fr x x1 a1 (w (a1-a)) (w (a2-a1))=some r)):Zjh fr x x1 a a1 a2=some r:=by
 unfold Zjh
 try simp only[lpz]
 refine W8 ZIr rfl ?_;refine Yd ?_ h;clear h;simp +decide[*,-List.map_set,V9,VA,kk,tI,tII,Z5v,Zb1,lpz]
def ZzM{fr:Bool}{c:V4}{x a i j:Int}{r:V3}(h:(if i<j then(0<=(w (shrI (IntKind.wrap .u64 (w (i+j))) 1))/\(∃(e1:V6),c[(w (shrI (IntKind.wrap .u64 (w (i+j))) 1)).toNat]?=some e1/\(0<=a/\(∃(e2:V6),c[a.toNat]?=some e2/\(∃(v:Int) (v1:Int),KO x e1 e2=some (I v1,[.box [I v]])/\(if v1<0 then(Zb2 fr c v a (w ((w (shrI (IntKind.wrap .u64 (w (i+j))) 1))+1)) j=some r)else(Zb2 fr c v a i (w (shrI (IntKind.wrap .u64 (w (i+j))) 1))=some r)))))))else(Zda fr c x i a=some r))):Zb2 fr c x a i j=some r:=by
 unfold Zb2
 try simp only[lpz]
 rw[Zr Zul.eq_1];simp only[KO,mpl,dfs,lpz]at h
 try simp only[itb]at h
 try simp only[itf,gS,kk]at h
 rcases h with⟨q1,q2,e1,⟨g3,q3⟩,q4,e2,⟨g5,q5⟩,v,v1,q6,(⟨q7,h⟩|⟨q7,h⟩)⟩|⟨q1,h⟩
 all_goals (refine Yd ?_ h;clear h;simp +decide[*,-List.map_set,V9,VA,kk,tI,tII,Zb2,Zda,Zuo,lpz])
def ZzN{fr:Bool}{c:V4}{x m i j:Int}{r:V3}(h:(if i<j then(0<=m/\(∃(e1:V6),c[m.toNat]?=some e1/\(0<=(w (shrI (IntKind.wrap .u64 (w (i+j))) 1))/\(∃(e2:V6),c[(w (shrI (IntKind.wrap .u64 (w (i+j))) 1)).toNat]?=some e2/\(∃(v:Int) (v1:Int),KO x e1 e2=some (I v1,[.box [I v]])/\(if v1<0 then(Zb3 fr c v m i (w (shrI (IntKind.wrap .u64 (w (i+j))) 1))=some r)else(Zb3 fr c v m (w ((w (shrI (IntKind.wrap .u64 (w (i+j))) 1))+1)) j=some r)))))))else(Zdb fr c x i m=some r))):Zb3 fr c x m i j=some r:=by
 unfold Zb3
 try simp only[lpz]
 rw[Zr Zup.eq_1];simp only[KO,mpl,dfs,lpz]at h
 try simp only[itb]at h
 try simp only[itf,gS,kk]at h
 rcases h with⟨q1,q2,e1,⟨g3,q3⟩,q4,e2,⟨g5,q5⟩,v,v1,q6,(⟨q7,h⟩|⟨q7,h⟩)⟩|⟨q1,h⟩
 all_goals (refine Yd ?_ h;clear h;simp +decide[*,-List.map_set,V9,VA,kk,tI,tII,Zb3,Zdb,Zus,lpz])
def Zl0{fr:Bool}{c:V4}{x a m b cc n start cd p:Int}{r:V3}(h:(if start<cd then(0<=(w (p-(w (shrI (IntKind.wrap .u64 (w (start+cd))) 1))))/\(∃(e1:V6),c[(w (p-(w (shrI (IntKind.wrap .u64 (w (start+cd))) 1)))).toNat]?=some e1/\(0<=(w (shrI (IntKind.wrap .u64 (w (start+cd))) 1))/\(∃(e2:V6),c[(w (shrI (IntKind.wrap .u64 (w (start+cd))) 1)).toNat]?=some e2/\(∃(v:Int) (v1:Int),KO x e1 e2=some (I v1,[.box [I v]])/\(if v1<0 then(Zat fr c v a m b cc n start (w (shrI (IntKind.wrap .u64 (w (start+cd))) 1)) p=some r)else(Zat fr c v a m b cc n (w ((w (shrI (IntKind.wrap .u64 (w (start+cd))) 1))+1)) cd p=some r)))))))else(if start<m then(if m<(w (n-start))then(∃(v2:Bool) (v3:V4) (v4:Int),Zjh fr c x start m (w (n-start))=some (.tup [],[.arr 40 1 v2 (v3.map isc),.box [I v4]])/\(if a<start then(if start<cc then(∃(v5:Bool) (v6:V4) (v7:Int),U4 v2 v3 v4 a start cc=some (.tup [],[.arr 40 1 v5 (v6.map isc),.box [I v7]])/\(Zau v5 v6 v7 b cc (w (n-start))=some r))else(KP v2 v3 v4 a b cc start (w (n-start)) false=some r))else(KP v2 v3 v4 a b cc start (w (n-start)) false=some r)))else(Zfv fr c x a m b cc start (w (n-start)) false=some r))else(Zfv fr c x a m b cc start (w (n-start)) false=some r)))):Zat fr c x a m b cc n start cd p=some r:=by
 unfold Zat
 try simp only[lpz]
 rw[Zr Zut.eq_1];simp only[KO,Zjh,U4,mpl,dfs,lpz]at h
 try simp only[itb]at h
 try simp only[itf,gS,kk]at h
 rcases h with⟨q1,q2,e1,⟨g3,q3⟩,q4,e2,⟨g5,q5⟩,v,v1,q6,(⟨q7,h⟩|⟨q7,h⟩)⟩|⟨q1,(⟨q8,(⟨q9,v2,v3,v4,q10,(⟨q11,(⟨q12,v5,v6,v7,q13,h⟩|⟨q12,h⟩)⟩|⟨q11,h⟩)⟩|⟨q9,h⟩)⟩|⟨q8,h⟩)⟩
 all_goals (refine Yd ?_ h;clear h;simp +decide[*,-List.map_set,V9,VA,kk,tI,tII,Zat,Zau,Zn9,Zuu,KP,Zfv,lpz])
def Z8Q{fr:Bool}{c:V4}{x i k:Int}{r:V3}(h:(if k<(w (i-1))then(0<=(w (k+1))/\(∃(e1:V6),c[(w (k+1)).toNat]?=some e1/\(0<=k/\(∃(e2:V6),c[k.toNat]?=some e2/\(∃(e3:V6),(c.set k.toNat e1)[(w (k+1)).toNat]?=some e3/\(Zda false ((c.set k.toNat e1).set ((w (k+1)).toNat) e2) x i (w (k+1))=some r))))))else(some (.tup [],[.arr 40 1 fr (c.map isc),.box [I x]])=some r))):Zda fr c x i k=some r:=by
 unfold Zda
 try simp only[lpz]
 rw[Zr Zum.eq_1]
 try simp only[itb]at h
 try simp only[itf,gS,kk]at h
 rcases h with⟨q1,q2,e1,⟨g3,q3⟩,q4,e2,⟨g5,q5⟩,e3,⟨g6,q6⟩,h⟩|⟨q1,h⟩
 all_goals (refine Yd ?_ h;clear h;simp +decide[*,-List.map_set,V9,VA,kk,tI,tII,Zda,Zun,lpz])
def Z8R{fr:Bool}{c:V4}{x i k:Int}{r:V3}(h:(if i<k then(0<=(w (k-1))/\(∃(e1:V6),c[(w (k-1)).toNat]?=some e1/\(0<=k/\(∃(e2:V6),c[k.toNat]?=some e2/\(∃(e3:V6),(c.set k.toNat e1)[(w (k-1)).toNat]?=some e3/\(Zdb false ((c.set k.toNat e1).set ((w (k-1)).toNat) e2) x i (w (k-1))=some r))))))else(some (.tup [],[.arr 40 1 fr (c.map isc),.box [I x]])=some r))):Zdb fr c x i k=some r:=by
 unfold Zdb
 try simp only[lpz]
 rw[Zr Zuq.eq_1]
 try simp only[itb]at h
 try simp only[itf,gS,kk]at h
 rcases h with⟨q1,q2,e1,⟨g3,q3⟩,q4,e2,⟨g5,q5⟩,e3,⟨g6,q6⟩,h⟩|⟨q1,h⟩
 all_goals (refine Yd ?_ h;clear h;simp +decide[*,-List.map_set,V9,VA,kk,tI,tII,Zdb,Zur,lpz])
def Z8S{fr:Bool}{c:V4}{x b mid x1:Int}{r:V3}(h:(if mid<x1 then(if x1<b then(∃(v:Bool) (v1:V4) (v2:Int),U4 fr c x mid x1 b=some (.tup [],[.arr 40 1 v (v1.map isc),.box [I v2]])/\(some (.tup [],[.arr 40 1 v (v1.map isc),.box [I v2]])=some r))else(some (.tup [],[.arr 40 1 fr (c.map isc),.box [I x]])=some r))else(some (.tup [],[.arr 40 1 fr (c.map isc),.box [I x]])=some r))):Zau fr c x b mid x1=some r:=by
 unfold Zau
 try simp only[lpz]
 rw[Zbh Zji.eq_1];simp only[U4,mpl,dfs,lpz]at h
 try simp only[itb]at h
 try simp only[itf,gS,kk]at h
 rcases h with⟨q1,(⟨q2,v,v1,v2,q3,h⟩|⟨q2,h⟩)⟩|⟨q1,h⟩
 all_goals (refine Yd ?_ h;clear h;simp +decide[*,-List.map_set,V9,VA,kk,tI,tII,lpz])
def Z8T{fr:Bool}{c:V4}{x a b mid cc x1:Int}{x2:Bool}{r:V3}(h:(if mid<x1 then(if x1<b then(∃(v:Bool) (v1:V4) (v2:Int),U4 fr c x mid x1 b=some (.tup [],[.arr 40 1 v (v1.map isc),.box [I v2]])/\(some (.tup [],[.arr 40 1 v (v1.map isc),.box [I v2]])=some r))else(some (.tup [],[.arr 40 1 fr (c.map isc),.box [I x]])=some r))else(some (.tup [],[.arr 40 1 fr (c.map isc),.box [I x]])=some r))):KP fr c x a b mid cc x1 x2=some r:=by
 unfold KP
 try simp only[lpz]
 rw[Zbh Zji.eq_1];simp only[U4,mpl,dfs,lpz]at h
 try simp only[itb]at h
 try simp only[itf,gS,kk]at h
 rcases h with⟨q1,(⟨q2,v,v1,v2,q3,h⟩|⟨q2,h⟩)⟩|⟨q1,h⟩
 all_goals (refine Yd ?_ h;clear h;simp +decide[*,-List.map_set,V9,VA,kk,tI,tII,lpz])
def Z8U{fr:Bool}{cd:V4}{x a m b cc c x1:Int}{x2:Bool}{r:V3}(h:(if a<c then(if c<cc then(∃(v:Bool) (v1:V4) (v2:Int),U4 fr cd x a c cc=some (.tup [],[.arr 40 1 v (v1.map isc),.box [I v2]])/\(Zau v v1 v2 b cc x1=some r))else(KP fr cd x a b cc c x1 false=some r))else(KP fr cd x a b cc c x1 false=some r))):Zfv fr cd x a m b cc c x1 x2=some r:=by
 unfold Zfv
 try simp only[lpz]
 rw[Zbh Zn9.eq_1];simp only[U4,mpl,dfs,lpz]at h
 try simp only[itb]at h
 try simp only[itf,gS,kk]at h
 rcases h with⟨q1,(⟨q2,v,v1,v2,q3,h⟩|⟨q2,h⟩)⟩|⟨q1,h⟩
 all_goals (refine Yd ?_ h;clear h;simp +decide[*,-List.map_set,V9,VA,kk,tI,tII,Zau,KP,lpz])
def Zpn{fr:Bool}{x:V4}{x1 a a1 a2:Int}{r:V3}(h:(if(w (a1-a))=1 then(Zb2 fr x x1 a a1 a2=some r)else(if(w (a2-a1))=1 then(Zb3 fr x x1 a1 a a1=some r)else(if(w (shrI (IntKind.wrap .u64 (w (a+a2))) 1))<a1 then(Zat fr x x1 a a1 a2 (w (shrI (IntKind.wrap .u64 (w (a+a2))) 1)) (w ((w (shrI (IntKind.wrap .u64 (w (a+a2))) 1))+a1)) (w ((w ((w (shrI (IntKind.wrap .u64 (w (a+a2))) 1))+a1))-a2)) (w (shrI (IntKind.wrap .u64 (w (a+a2))) 1)) (w ((w ((w (shrI (IntKind.wrap .u64 (w (a+a2))) 1))+a1))-1))=some r)else(Zat fr x x1 a a1 a2 (w (shrI (IntKind.wrap .u64 (w (a+a2))) 1)) (w ((w (shrI (IntKind.wrap .u64 (w (a+a2))) 1))+a1)) a a1 (w ((w ((w (shrI (IntKind.wrap .u64 (w (a+a2))) 1))+a1))-1))=some r))))):U4 fr x x1 a a1 a2=some r:=by
 unfold U4
 try simp only[lpz]
 refine W8 ZIs rfl ?_
 try simp only[itb]at h
 try simp only[itf,gS,kk]at h
 rcases h with⟨q1,h⟩|⟨q1,(⟨q2,h⟩|⟨q2,(⟨q3,h⟩|⟨q3,h⟩)⟩)⟩
 all_goals (refine Yd ?_ h;clear h;simp +decide[*,-List.map_set,V9,VA,kk,tI,tII,Z5x,Zb2,Zb3,ZnB,Zat,Z5w,ZnA,lpz])
def Z8V{fr:Bool}{cc:V4}{x n c a b:Int}{r:V3}(h:(if b<=n then(∃(v:Bool) (v1:V4) (v2:Int),Zfu fr cc x a b=some (.tup [],[.arr 40 1 v (v1.map isc),.box [I v2]])/\(Zdd v v1 v2 n c b (w (b+c))=some r))else(∃(v3:Bool) (v4:V4) (v5:Int),Zfu fr cc x a n=some (.tup [],[.arr 40 1 v3 (v4.map isc),.box [I v5]])/\(Zav v3 v4 v5 n c=some r)))):Zdd fr cc x n c a b=some r:=by
 unfold Zdd
 try simp only[lpz]
 rw[Zr Zuv.eq_1];simp only[Zfu,mpl,dfs,lpz]at h
 try simp only[itb]at h
 try simp only[itf,gS,kk]at h
 rcases h with⟨q1,v,v1,v2,q2,h⟩|⟨q1,v3,v4,v5,q3,h⟩
 all_goals (refine Yd ?_ h;clear h;simp +decide[*,-List.map_set,V9,VA,kk,tI,tII,Zdd,Zav,Zuy,lpz])
def Z8W{fr:Bool}{c:V4}{x n blockSize:Int}{r:V3}(h:(if blockSize<n then(Zde fr c x n blockSize 0 (w (2*blockSize))=some r)else(some (.tup [],[.arr 40 1 fr (c.map isc),.box [I x]])=some r))):Zav fr c x n blockSize=some r:=by
 unfold Zav
 try simp only[lpz]
 rw[Zr ZnC.eq_1]
 try simp only[itb]at h
 try simp only[itf,gS,kk]at h
 rcases h with⟨q1,h⟩|⟨q1,h⟩
 all_goals (refine Yd ?_ h;clear h;simp +decide[*,-List.map_set,V9,VA,kk,tI,tII,Zde,lpz])
def ZzO{fr:Bool}{cc:V4}{x n c a b:Int}{r:V3}(h:(if b<=n then(∃(v:Bool) (v1:V4) (v2:Int),U4 fr cc x a (w (a+c)) b=some (.tup [],[.arr 40 1 v (v1.map isc),.box [I v2]])/\(Zde v v1 v2 n c b (w (b+(w (2*c))))=some r))else(if(w (a+c))<n then(∃(v3:Bool) (v4:V4) (v5:Int),U4 fr cc x a (w (a+c)) n=some (.tup [],[.arr 40 1 v3 (v4.map isc),.box [I v5]])/\(Zav v3 v4 v5 n (w (c*2))=some r))else(Zav fr cc x n (w (c*2))=some r)))):Zde fr cc x n c a b=some r:=by
 unfold Zde
 try simp only[lpz]
 rw[Zr Zuw.eq_1];simp only[U4,mpl,dfs,lpz]at h
 try simp only[itb]at h
 try simp only[itf,gS,kk]at h
 rcases h with⟨q1,v,v1,v2,q2,h⟩|⟨q1,(⟨q3,v3,v4,v5,q4,h⟩|⟨q3,h⟩)⟩
 all_goals (refine Yd ?_ h;clear h;simp +decide[*,-List.map_set,V9,VA,kk,tI,tII,Zde,Zav,Z5y,Zux,lpz])
def ZLp{x:V4}{x1 a:Int}{r:V3}(h:(Zdd true x x1 a 20 0 20=some r)):ZnD x x1 a=some r:=by
 unfold ZnD
 try simp only[lpz]
 refine W8 ZIt rfl ?_;refine Yd ?_ h;clear h;simp +decide[*,-List.map_set,V9,VA,kk,tI,tII,Z5z,Zdd,lpz]
def ZLq:((iM ZnE λx x1 r=>∃u1,∃(u2:V4),∃u3,ZnD x x1 (x.length:Int)=some (.tup [],[.arr 40 1 u1 (u2.map isc),.box [I u3]])/\r (some (.tup [],[.arr 40 1 u1 (u2.map isc),.box [I u3]])))/\
 ((iM Zfw λa a1 r=>qI (VZ a.Za a1) (λu1=>if u1<0 then qs4 r else qB (QI a) (qs2 (Uo a.Za) (λu3=>UR (Zbw a.Rows) (λu4=>∃u5,∃(u6:V4),∃u7,ZnE u4 u1=some (.tup [],[.arr 40 1 u5 (u6.map isc),.box [I u7]])/\r (some (.tup [.agg [.own 0,.own 1],Bo true],[.arr 3 1 true (u3.map ic),.arr 40 1 u5 (u6.map isc)]))))) (qs4 r)))/\
 (iM Zfx λa a1 r=>qs2 (Uo a.Za) (λu1=>u1.length+a1.Za.length<=68719476736/\ZeI (KN (u1++a1.Za)) (λu2=>∃(u3:V6),Zb0 u2=some (.own 1,[.dead,.arr 3 1 true (u3.map ic)])/\r (some (.ptr 0 0,[.box [L 1 (a.Za.map ic),L 1 (a.Rows.map isc),L 1 (a1.Za.map ic),L 1 (a1.Rows.map isc),.own 1,.t .nil],.arr 3 1 true (u3.map ic)])))))))/\
 ((iM Zdf λa b x row x1 y x2 x3 r=>if x3<x2 then qG x x3 (λu1=>qI (VZ a.Za u1) (λu2=>qI (VZ b.Za u1) (λu3=>if u2<0 then qG y u3 (λu4=>qN row (r (Zdf a b x (row++[u4]) x1 y x2 (w (x3+1)))))else if 0<=u3 then qG x1 u2 (λu4=>qH y u3 (λu5=>if u4=u5 then qN row (r (Zdf a b x (row++[u4]) x1 y x2 (w (x3+1))))else r (some (.tup [],[.box [L 1 (a.Za.map ic),L 1 (a.Rows.map isc),L 1 (b.Za.map ic),L 1 (b.Rows.map isc),.own 1,.t .nil],.arr 3 1 true (x.map ic)]))))else qG x1 u2 (λu4=>qN row (r (Zdf a b x (row++[u4]) x1 y x2 (w (x3+1))))))))else Zm8 a.Za a.Rows b.Za b.Rows x ([row]) r)/\
 ((iM Zb4 λa b x a1 a2 r=>r (Zdf a b x ([]:V6) a1 a2 (x.length:Int) 0))/\
 (iM Zjl λa b x r=>r (some (.tup [.agg [.own 1,.t .nil],Bo true],[.box [L 1 (a.Za.map ic),L 1 (a.Rows.map isc),L 1 (b.Za.map ic),L 1 (b.Rows.map isc),.own 1,.t .nil],.arr 3 1 true (x.map ic)]))))):=by
 refine qu ?_
 and_intros
 all_goals(intros;unfold Im;(try simp only[ZnE,Zfw,Zfx,Zdf,Zb4,Zjl,ZnD,VZ,QI,Uo,Zbw,Zm.c_def,KN,Zb0,lpz,mpl,dfs]);(try simp only[itb]);(try simp only[itf,gS,kk]))
 all_goals(repeat' first|refine exI λ_=>?_|refine anJ λ_ _=>?_|refine anI λ_=>?_|refine orE2 ?_ ?_|exact False.elim)
 all_goals(intro h;first|refine W8 ZIu rfl ?_|refine run ZIv rfl ?_|refine run ZIw rfl ?_|rw[Zr Zjj.eq_1]|refine W8 Z8F rfl ?_|refine W8 Z8G rfl ?_)
 all_goals (refine Yd ?_ h;clear h;simp +decide[*,kk,tI,tII,Z50,Z51,Z52,Zuz,Zjk,Zu0,Zu1])
abbrev ZbM:=uq ZLq
