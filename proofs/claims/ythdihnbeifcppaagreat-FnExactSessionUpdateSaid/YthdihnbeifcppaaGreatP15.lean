/-
  Parts of the proofs for this seat: G4 G5 G6.
-/
import Derived.Test.YthdihnbeifcppaaGreatP13
set_option linter.all false
set_option maxRecDepth 100000
set_option maxHeartbeats 4000000
namespace Go.Proofs.YthdihnbeifcppaaGreat
open Go.AM
def ZFg:((((iM ZfN λx Name Arity x1 Wa x2 x3 x4 r=>if x4<x3 then qG x2 x4 (λu1=>qG u1 x.IntoColumn (λu2=>qN Wa (r (ZfN x Name Arity x1 (Wa++[u2]) x2 x3 (w (x4+1))))))else r (ZcW x Wa ([]:V6) x1 (x1.length:Int) 0))/\
 (iM ZcW λx Wa out x1 x2 x3 r=>if x3<x2 then qG x1 x3 (λu1=>qG u1 x.Column (λu2=>qB (Qb Wa u2) (r (ZcW x Wa out x1 x2 (w (x3+1)))) (qN out (r (ZcW x Wa (out++[u2]) x1 x2 (w (x3+1)))))))else ∃(u1:V6),ZjX out=some (.tup [],[.arr 3 1 true (u1.map ic)])/\∃(u2:V6),ZjY u1=some (.own 1,[.dead,.arr 3 1 true (u2.map ic)])/\qs3 u2 r))/\
 ((iM ZfL λa a1 r=>qB (ZcU a a1) (qL ([]:V6) λk1=>qL (V0 a a1.Into) λk2=>(∃u2 u3,V0 a a1.Name=some (.tup [.agg [.t (.str u2),I u3,.t .nil],Bo false],[])/\((∃u4 u5,k2=some (.tup [.agg [.t (.str u4),I u5,.t .nil],Bo false],[])/\r (ZyN a1 u2 u3 k1 0 0))\/(∃(u4:V4),∃u5,∃u6,k2=some (.tup [.agg [.t (.str u5),I u6,.own 0],Bo true],[.arr 42 1 true (u4.map isc)])/\r (ZyO a1 u2 u3 k1 u4 (u4.length:Int) 0))))\/(∃(u2:V4),∃u3,∃u4,V0 a a1.Name=some (.tup [.agg [.t (.str u3),I u4,.own 0],Bo true],[.arr 42 1 true (u2.map isc)])/\((∃u5 u6,k2=some (.tup [.agg [.t (.str u5),I u6,.t .nil],Bo false],[])/\r (ZyP a1 u3 u4 u2 k1 0 0))\/(∃(u5:V4),∃u6,∃u7,k2=some (.tup [.agg [.t (.str u6),I u7,.own 0],Bo true],[.arr 42 1 true (u5.map isc)])/\r (ZfN a1 u3 u4 u2 k1 u5 (u5.length:Int) 0))))) (QX r))/\
 (iM ZjZ λa a1 r=>qB (ZcU a a1) ((ZfL a a1=some (.t .nil,[])/\qb true r)\/(qs2 (ZfL a a1) (λu2=>qb (decide ((u2.length:Int)=0)) r))) (qb false r))))/\
 (((iM ZfP λdb dependencies inclusions x x1 x2 r=>if x2<x1 then qG x x2 (λu1=>qB (ZfK db u1) (r (ZfP db dependencies inclusions x x1 (w (x2+1)))) (qb false r))else r (ZfQ db dependencies inclusions inclusions (inclusions.length:Int) 0))/\
 (iM ZfQ λdb dependencies inclusions x x1 x2 r=>if x2<x1 then qG x x2 (λu1=>qB (ZjZ db u1) (r (ZfQ db dependencies inclusions x x1 (w (x2+1)))) (qb false r))else if(dependencies.length:Int)<=8 then qb (decide ((inclusions.length:Int)<=8)) r else qb false r))/\
 ((iM ZcX λa a1 a2 r=>r (ZfP a a1 a2 a1 (a1.length:Int) 0))/\
 ((iM Zbz λa r=>∃(u1:List Zk),∃u2,∃u3,Zby a.Zl a.Zu.Version=some (.tup [.agg [I u2,.own 0],Bo u3],[.arr 191 4 true (u1.map Zk.c)])/\if u3=true then qB (ZfC (⟨u2,u1⟩:Zu) a.Zu) (qV (ZcX a.Zl a.Dependencies a.Inclusions) (λu5=>qb u5 r)) (qb false r)else qb false r)/\
 (iM Q5 λx r=>r (some (.bsl 1 5,[.box (x.c.map .t),.box [.ptr 0 0,.ptr 0 6,.ptr 0 12,.ptr 0 18,.ptr 0 24]])))))))/\
 ((((iM Zka λx r=>r (some (.bsl 1 5,[.box (x.c.map .t),.box [.ptr 0 0,.ptr 0 1,.ptr 0 2,.ptr 0 3,.ptr 0 4]])))/\
 (iM Zb0 λo x x1 x2 r=>if x2<x1 then qG x x2 (λu1=>qB (ZV u1.Add (-99) 99) (qB (ZV u1.From 1 8192) (qL (r (Zb0 o x x1 (w (x2+1)))) λk1=>if 0<x2 then 0<=(w (x2-1))/\∃u4,o.Steps[(w (x2-1)).toNat]?=some u4/\if u1.From<=u4.From then qb false r else k1 else k1) (qb false r)) (qb false r))else qb (decide ((o.Steps.length:Int)<=4)) r))/\
 ((iM W6 λa r=>Zka a=some (.bsl 1 5,[.box (a.c.map .t),.box [.ptr 0 0,.ptr 0 1,.ptr 0 2,.ptr 0 3,.ptr 0 4]])/\r (Uw a 5 0))/\
 (iM ZcY λout a r=>if a<=7 then r (Zb2 out a 0)else KB out r)))/\
 (((iM Zb2 λout a b r=>if b<=7 then r (ZcZ out a b 0)else r (ZcY out (w (a+1))))/\
 (iM ZcZ λout a b c r=>if c<=7 then qN out (r (ZcZ (out++[[a,b,c]]) a b (w (c+1))))else r (Zb2 out a (w (b+1)))))/\
 ((iM Ui λr=>r (ZcY ([]:V4) 0))/\
 ((iM Js λa r=>qB (ZV a 0 7) (if a=0 then qi 0 r else ¬(w (2*(w (a-1))))<0/\qi (shlI 1 (w (2*(w (a-1))))) r) (qi (-1) r))/\
 (iM Zb3 λleft right n x x1 x2 r=>if x2<x1 then qG x x2 (λu1=>if u1.From<=(w (left+right))then r (Zb3 left right (w (n+u1.Add)) x x1 (w (x2+1)))else r (Zb3 left right n x x1 (w (x2+1))))else qi n r))))):=by
 refine qu ?_
 and_intros
 all_goals(intros;unfold Im;(try simp only[ZfN,ZcW,ZfL,ZjZ,ZfP,ZfQ,ZcX,Zbz,Q5,Zka,Zb0,W6,ZcY,Zb2,ZcZ,Ui,Js,Zb3,Qb,ZjX,ZjY,ZcU,V0,Zl.c_def,Zr.c_def,ZfK,Zp.c_def,Zby,ZfC,Zu.c_def,ZV,Z0.c_def,ZyN,ZyO,ZyP,Uw,ZfM,lpz,Zp0,Zp1,mpl,dfs]);(try simp only[itb]);(try simp only[itf,gS,kk]))
 all_goals(repeat' first|refine exI λ_=>?_|refine anJ λ_ _=>?_|refine anI λ_=>?_|refine orE2 ?_ ?_|exact False.elim)
 all_goals(intro h;first|rw[Zn Zpk.eq_1]|rw[Zn Zpl.eq_1]|refine run ZCk rfl ?_|refine run ZCl rfl ?_|rw[Zn Zpo.eq_1]|rw[Zn Zpp.eq_1]|refine run ZCm rfl ?_|refine run ZCn rfl ?_|refine XR ZCo rfl ?_|refine XR ZCp rfl ?_|rw[Zn Zpt.eq_1]|refine run ZCq rfl ?_|rw[Zn Zkc.eq_1]|rw[Zn Zkb.eq_1]|rw[Zn Zpw.eq_1]|refine run ZCr rfl ?_|refine run ZCs rfl ?_|rw[Zn Zp2.eq_1])
 all_goals (refine Ye ?_ h;clear h;simp +decide[*,kk,tI,tII,Zpn,ZyL,Zpm,ZyM,ZyQ,Zpr,Zpq,ZyR,ZyS,ZyT,ZyU,Zpu,ZyV,Zpz,Zpy,Zpx,ZyW,ZyX,ZyY,Zp3])
abbrev XS:=uq ZFg
def ZFh:(iM Zda λa a1 a2 a3 r=>r (Zb3 a1 a2 (w ((w ((w ((w (a.Fixed+(w (a.Zv*a1))))+(w (a.Zw*a2))))+(w (a.Zz*a3))))+(w ((w (a.Zx*a1))*a2)))) a.Steps (a.Steps.length:Int) 0))/\
 (iM Kc λa a1 r=>∃u1,a1[0]?=some u1/\qI (Js u1) (λu2=>∃u3,a1[1]?=some u3/\qI (Js u3) (λu4=>∃u5,a1[2]?=some u5/\qI (Js u5) (λu6=>qI (Zda a u2 u4 u6) (λu7=>qi u7 r))))):=by
 refine qu ?_
 and_intros
 all_goals(intros;unfold Im;(try simp only[Zda,Kc,Js,Z0.c_def,Zb3,lpz,mpl,dfs]);(try simp only[itb]);(try simp only[itf,gS,kk]))
 all_goals(repeat' first|refine exI λ_=>?_|refine anJ λ_ _=>?_|refine anI λ_=>?_|refine orE2 ?_ ?_|exact False.elim)
 all_goals(intro h;first|refine run ZCt rfl ?_|refine run ZCu rfl ?_)
 all_goals (refine Ye ?_ h;clear h;simp +decide[*,kk,tI,tII,ZyZ,Zza])
abbrev Z24:=uq ZFh
def Zek{o:Z0}{x x1:Int}{r:V3}(h:(if x1<x then(if x1=0 then(∃(v:Bool),ZV o.Fixed (-99) 99=some (Bo v,[])/\(if v=true then(Uw o x (w (x1+1))=some r)else(some (Bo false,[])=some r)))else(if x1=1 then(∃(v1:Bool),ZV o.Zv (-99) 99=some (Bo v1,[])/\(if v1=true then(Uw o x (w (x1+1))=some r)else(some (Bo false,[])=some r)))else(if x1=2 then(∃(v2:Bool),ZV o.Zw (-99) 99=some (Bo v2,[])/\(if v2=true then(Uw o x (w (x1+1))=some r)else(some (Bo false,[])=some r)))else(if x1=3 then(∃(v3:Bool),ZV o.Zz (-99) 99=some (Bo v3,[])/\(if v3=true then(Uw o x (w (x1+1))=some r)else(some (Bo false,[])=some r)))else(if x1=4 then(∃(v4:Bool),ZV o.Zx (-99) 99=some (Bo v4,[])/\(if v4=true then(Uw o x (w (x1+1))=some r)else(some (Bo false,[])=some r)))else False)))))else(Zb0 o o.Steps (o.Steps.length:Int) 0=some r))):Uw o x x1=some r:=by
 unfold Uw
 try simp only[lpz]
 rw[Zn Zps.eq_1];by_cases q1:x1<x
 .rw[Ya q1]at h;by_cases q2:x1=0
  .rw[Ya q2]at h;subst q2;obtain⟨v,q3,h⟩:=h;unfold ZV at q3
   try simp[lpz]at q3
   by_cases q4:v=true
   .rw[Ya q4]at h;refine Ye ?_ h;clear h;simp +decide[*,tI,tII,Uw,lpz]
   .rw[Yb q4]at h;refine Ye ?_ h;clear h;simp +decide[*,tI,tII,lpz]
  .rw[Yb q2]at h;replace q2:=eq_false q2;by_cases q5:x1=1
   .rw[Ya q5]at h;subst q5;obtain⟨v1,q6,h⟩:=h;unfold ZV at q6
    try simp[lpz]at q6
    by_cases q7:v1=true
    .rw[Ya q7]at h;refine Ye ?_ h;clear h;simp +decide[*,tI,tII,Uw,lpz]
    .rw[Yb q7]at h;refine Ye ?_ h;clear h;simp +decide[*,tI,tII,lpz]
   .rw[Yb q5]at h;replace q5:=eq_false q5;by_cases q8:x1=2
    .rw[Ya q8]at h;subst q8;obtain⟨v2,q9,h⟩:=h;unfold ZV at q9
     try simp[lpz]at q9
     by_cases q10:v2=true
     .rw[Ya q10]at h;refine Ye ?_ h;clear h;simp +decide[*,tI,tII,Uw,lpz]
     .rw[Yb q10]at h;refine Ye ?_ h;clear h;simp +decide[*,tI,tII,lpz]
    .rw[Yb q8]at h;replace q8:=eq_false q8;by_cases q11:x1=3
     .rw[Ya q11]at h;subst q11;obtain⟨v3,q12,h⟩:=h;unfold ZV at q12
      try simp[lpz]at q12
      by_cases q13:v3=true
      .rw[Ya q13]at h;refine Ye ?_ h;clear h;simp +decide[*,tI,tII,Uw,lpz]
      .rw[Yb q13]at h;refine Ye ?_ h;clear h;simp +decide[*,tI,tII,lpz]
     .rw[Yb q11]at h;replace q11:=eq_false q11;by_cases q14:x1=4
      .rw[Ya q14]at h;subst q14;obtain⟨v4,q15,h⟩:=h;unfold ZV at q15
       try simp[lpz]at q15
       by_cases q16:v4=true
       .rw[Ya q16]at h;refine Ye ?_ h;clear h;simp +decide[*,tI,tII,Uw,lpz]
       .rw[Yb q16]at h;refine Ye ?_ h;clear h;simp +decide[*,tI,tII,lpz]
      .rw[Yb q14]at h;replace q14:=eq_false q14;cases h
 .rw[Yb q1]at h;refine Ye ?_ h;clear h;simp +decide[*,tI,tII,Zb0,Zpv,lpz]
def ZFi:(((iM Zah λo x x1 x2 r=>if x2<x1 then qG x x2 (λu1=>r (Kd o x u1 x1 x2 (u1.length:Int) 0))else Zjx r)/\
 ((iM Kd λo x t x1 x2 x3 x4 r=>if x4<x3 then qG t x4 (λu1=>qL (r (Kd o x t x1 x2 x3 (w (x4+1)))) λk1=>if u1=7 then k1 else qs2 (Uv t) (λu2=>qH u2 x4 (λu3=>qL (u2.set x4.toNat (w (u3+1))) λk2=>qI (Kc o k2) (λu4=>qI (Kc o t) (λu5=>if u4<u5 then r (some (.tup [L 1 (t.map ic),.own 0,Bo true],[.arr 3 1 true (k2.map ic)]))else k1)))))else r (Zah o x x1 (w (x2+1))))/\
 (iM Wv λa r=>qB (W6 a) (KC Ui (λu2=>r (Zah a u2 (u2.length:Int) 0))) (Zjx r))))/\
 (((iM Zai λo x kind x1 x2 x3 x4 r=>if x4<x3 then qG x x4 (λu1=>qI (Kc o.Scan u1) (λu2=>if u2<1 then Zbl kind u1 r else r (Zai o x kind x1 x2 x3 (w (x4+1)))))else r (XJ o x1 (w (x2+1))))/\
 (iM Zaj λo x kind x1 x2 x3 x4 r=>if x4<x3 then qG x x4 (λu1=>qI (Kc o.Sort_ u1) (λu2=>if u2<1 then Zbl kind u1 r else r (Zaj o x kind x1 x2 x3 (w (x4+1)))))else r (XJ o x1 (w (x2+1)))))/\
 ((iM Zak λo x kind x1 x2 x3 x4 r=>if x4<x3 then qG x x4 (λu1=>qI (Kc o.Hash u1) (λu2=>if u2<1 then Zbl kind u1 r else r (Zak o x kind x1 x2 x3 (w (x4+1)))))else r (XJ o x1 (w (x2+1))))/\
 (iM Zal λo x kind x1 x2 x3 x4 r=>if x4<x3 then qG x x4 (λu1=>qI (Kc o.Merge u1) (λu2=>if u2<1 then Zbl kind u1 r else r (Zal o x kind x1 x2 x3 (w (x4+1)))))else r (XJ o x1 (w (x2+1)))))))/\
 ((((iM Zam λo x kind x1 x2 x3 x4 r=>if x4<x3 then qG x x4 (λu1=>qI (Kc o.Nested u1) (λu2=>if u2<1 then Zbl kind u1 r else r (Zam o x kind x1 x2 x3 (w (x4+1)))))else r (XJ o x1 (w (x2+1))))/\
 (iM Zdc λa r=>Q5 a=some (.bsl 1 5,[.box (a.c.map .t),.box [.ptr 0 0,.ptr 0 6,.ptr 0 12,.ptr 0 18,.ptr 0 24]])/\r (XJ a 5 0)))/\
 ((iM Ju λa r=>(∃(u1:V6),∃u2,∃(u3:V6),Zdc a=some (.tup [I u2,L 1 (u3.map ic),.own 0],[.arr 3 1 true (u1.map ic)])/\qb (decide (u2=0)) r)\/(∃u1,Zdc a=some (.tup [I u1,.t .nil,.t .nil],[])/\qb (decide (u1=0)) r)\/(∃u1,∃(u2:V6),Zdc a=some (.tup [I u1,L 1 (u2.map ic),.t .nil],[])/\qb (decide (u1=0)) r))/\
 (iM ZfT λs v x x1 r=>if x1<x then qG s x1 (λu1=>if v=u1 then qi x1 r else r (ZfT s v x (w (x1+1))))else qi (-1) r)))/\
 (((iM Zkg λa a1 r=>r (ZfT a a1 (a.length:Int) 0))/\
 (iM Zkh λa a1 r=>qI (Zkg a a1) (λu1=>qb (decide (0<=u1)) r)))/\
 ((iM Zb4 λq seen x x1 x2 r=>if x2<x1 then qG x x2 (λu1=>qB (Zbx u1.Name) (qB (ZV (u1.Vars.length:Int) 1 3) (r (ZfV q seen u1 x x1 x2 u1.Vars (u1.Vars.length:Int) 0)) (qb false r)) (qb false r))else qV (Zkh seen false) (λu1=>qb (!u1) r))/\
 (iM ZfV λq seen a x x1 x2 x3 x4 x5 r=>if x5<x4 then qG x3 x5 (λu1=>qB (ZV u1 0 (w (q.Zm-1))) (x5.toNat<=a.Vars.length/\qB (Qb (a.Vars.take x5.toNat) u1) (qb false r) (qG seen u1 (λu4=>r (ZfV q (seen.set u1.toNat true) a x x1 x2 x3 x4 (w (x5+1)))))) (qb false r))else r (Zb4 q seen x x1 (w (x2+1))))))):=by
 refine qu ?_
 and_intros
 all_goals(intros;unfold Im;(try simp only[Zah,Kd,Wv,Zai,Zaj,Zak,Zal,Zam,Zdc,Ju,ZfT,Zkg,Zkh,Zb4,ZfV,Uv,Kc,Z0.c_def,W6,Ui,Q5,Za.c_def,Zbx,ZV,Qb,XJ,lpz,Zp7,Ke,Jt,Zkk,mpl,dfs]);(try simp only[itb]);(try simp only[itf,gS,kk]))
 all_goals(repeat' first|refine exI λ_=>?_|refine anJ λ_ _=>?_|refine anI λ_=>?_|refine orE2 ?_ ?_|exact False.elim)
 all_goals(intro h;first|rw[Zn Zke.eq_1]|rw[Zn Zp4.eq_1]|refine run ZCv rfl ?_|rw[Zn Zp8.eq_1]|refine run ZCw rfl ?_|refine run ZCx rfl ?_|rw[Zn ZpC.eq_1]|refine run ZCy rfl ?_|refine run ZCz rfl ?_|rw[Zn Zki.eq_1]|rw[Zn ZpE.eq_1])
 all_goals (refine Ye ?_ h;clear h;simp +decide[*,kk,tI,tII,Zp6,Zzb,Zp5,Zzc,Zp9,Zzd,Zze,ZpD,Zzf,Zzg,ZpG,ZpF])
abbrev Wi:=uq ZFi
def Zel{x:Za}{x1 x2:Int}{r:V3}(h:(if x2<x1 then(if x2=0 then(∃(v:Bool),W6 x.Scan=some (Bo v,[])/\(if v=true then((Wv x.Scan=some (.tup [.t .nil,.t .nil,Bo false],[])/\(∃(v1:V4),Ui=some (.own 0,[.arr 42 1 true (v1.map isc)])/\(Zai x v1 (w (1+x2)) x1 x2 (v1.length:Int) 0=some r)))\/(∃(v2:V6) (v3:V6),Wv x.Scan=some (.tup [L 1 (v3.map ic),.own 0,Bo true],[.arr 3 1 true (v2.map ic)])/\(some (.tup [I (w (1+x2)),L 1 (v3.map ic),.own 0],[.arr 3 1 true (v2.map ic)])=some r)))else(some (.tup [I (w (1+x2)),.t .nil,.t .nil],[])=some r)))else(if x2=1 then(∃(v4:Bool),W6 x.Sort_=some (Bo v4,[])/\(if v4=true then((Wv x.Sort_=some (.tup [.t .nil,.t .nil,Bo false],[])/\(∃(v5:V4),Ui=some (.own 0,[.arr 42 1 true (v5.map isc)])/\(Zaj x v5 (w (1+x2)) x1 x2 (v5.length:Int) 0=some r)))\/(∃(v6:V6) (v7:V6),Wv x.Sort_=some (.tup [L 1 (v7.map ic),.own 0,Bo true],[.arr 3 1 true (v6.map ic)])/\(some (.tup [I (w (1+x2)),L 1 (v7.map ic),.own 0],[.arr 3 1 true (v6.map ic)])=some r)))else(some (.tup [I (w (1+x2)),.t .nil,.t .nil],[])=some r)))else(if x2=2 then(∃(v8:Bool),W6 x.Hash=some (Bo v8,[])/\(if v8=true then((Wv x.Hash=some (.tup [.t .nil,.t .nil,Bo false],[])/\(∃(v9:V4),Ui=some (.own 0,[.arr 42 1 true (v9.map isc)])/\(Zak x v9 (w (1+x2)) x1 x2 (v9.length:Int) 0=some r)))\/(∃(v10:V6) (v11:V6),Wv x.Hash=some (.tup [L 1 (v11.map ic),.own 0,Bo true],[.arr 3 1 true (v10.map ic)])/\(some (.tup [I (w (1+x2)),L 1 (v11.map ic),.own 0],[.arr 3 1 true (v10.map ic)])=some r)))else(some (.tup [I (w (1+x2)),.t .nil,.t .nil],[])=some r)))else(if x2=3 then(∃(v12:Bool),W6 x.Merge=some (Bo v12,[])/\(if v12=true then((Wv x.Merge=some (.tup [.t .nil,.t .nil,Bo false],[])/\(∃(v13:V4),Ui=some (.own 0,[.arr 42 1 true (v13.map isc)])/\(Zal x v13 (w (1+x2)) x1 x2 (v13.length:Int) 0=some r)))\/(∃(v14:V6) (v15:V6),Wv x.Merge=some (.tup [L 1 (v15.map ic),.own 0,Bo true],[.arr 3 1 true (v14.map ic)])/\(some (.tup [I (w (1+x2)),L 1 (v15.map ic),.own 0],[.arr 3 1 true (v14.map ic)])=some r)))else(some (.tup [I (w (1+x2)),.t .nil,.t .nil],[])=some r)))else(if x2=4 then(∃(v16:Bool),W6 x.Nested=some (Bo v16,[])/\(if v16=true then((Wv x.Nested=some (.tup [.t .nil,.t .nil,Bo false],[])/\(∃(v17:V4),Ui=some (.own 0,[.arr 42 1 true (v17.map isc)])/\(Zam x v17 (w (1+x2)) x1 x2 (v17.length:Int) 0=some r)))\/(∃(v18:V6) (v19:V6),Wv x.Nested=some (.tup [L 1 (v19.map ic),.own 0,Bo true],[.arr 3 1 true (v18.map ic)])/\(some (.tup [I (w (1+x2)),L 1 (v19.map ic),.own 0],[.arr 3 1 true (v18.map ic)])=some r)))else(some (.tup [I (w (1+x2)),.t .nil,.t .nil],[])=some r)))else False)))))else(some (.tup [I 0,.t .nil,.t .nil],[])=some r))):XJ x x1 x2=some r:=by
 unfold XJ
 try simp only[Jt,lpz]
 rw[Zn Zkf.eq_1];by_cases q1:x2<x1
 .rw[Ya q1]at h;by_cases q2:x2=0
  .rw[Ya q2]at h;subst q2;obtain⟨v,q3,h⟩:=h;unfold W6 at q3
   try simp[lpz]at q3
   by_cases q4:v=true
   .rw[Ya q4]at h;rcases h with h|h
    .obtain⟨q5,h⟩:=h;unfold Wv at q5
     try simp[lpz]at q5
     obtain⟨v1,q6,h⟩:=h;unfold Ui at q6
     try simp[lpz]at q6
     refine Ye ?_ h;clear h;simp +decide[*,tI,tII,Zai,Ke,Jt,lpz]
    .obtain⟨v2,v3,q7,h⟩:=h;unfold Wv at q7
     try simp[lpz]at q7
     refine Ye ?_ h;clear h;simp +decide[*,tI,tII,lpz]
   .rw[Yb q4]at h;refine Ye ?_ h;clear h;simp +decide[*,tI,tII,lpz]
  .rw[Yb q2]at h;replace q2:=eq_false q2;by_cases q8:x2=1
   .rw[Ya q8]at h;subst q8;obtain⟨v4,q9,h⟩:=h;unfold W6 at q9
    try simp[lpz]at q9
    by_cases q10:v4=true
    .rw[Ya q10]at h;rcases h with h|h
     .obtain⟨q11,h⟩:=h;unfold Wv at q11
      try simp[lpz]at q11
      obtain⟨v5,q12,h⟩:=h;unfold Ui at q12
      try simp[lpz]at q12
      refine Ye ?_ h;clear h;simp +decide[*,tI,tII,Zaj,Ke,Jt,lpz]
     .obtain⟨v6,v7,q13,h⟩:=h;unfold Wv at q13
      try simp[lpz]at q13
      refine Ye ?_ h;clear h;simp +decide[*,tI,tII,lpz]
    .rw[Yb q10]at h;refine Ye ?_ h;clear h;simp +decide[*,tI,tII,lpz]
   .rw[Yb q8]at h;replace q8:=eq_false q8;by_cases q14:x2=2
    .rw[Ya q14]at h;subst q14;obtain⟨v8,q15,h⟩:=h;unfold W6 at q15
     try simp[lpz]at q15
     by_cases q16:v8=true
     .rw[Ya q16]at h;rcases h with h|h
      .obtain⟨q17,h⟩:=h;unfold Wv at q17
       try simp[lpz]at q17
       obtain⟨v9,q18,h⟩:=h;unfold Ui at q18
       try simp[lpz]at q18
       refine Ye ?_ h;clear h;simp +decide[*,tI,tII,Zak,Ke,Jt,lpz]
      .obtain⟨v10,v11,q19,h⟩:=h;unfold Wv at q19
       try simp[lpz]at q19
       refine Ye ?_ h;clear h;simp +decide[*,tI,tII,lpz]
     .rw[Yb q16]at h;refine Ye ?_ h;clear h;simp +decide[*,tI,tII,lpz]
    .rw[Yb q14]at h;replace q14:=eq_false q14;by_cases q20:x2=3
     .rw[Ya q20]at h;subst q20;obtain⟨v12,q21,h⟩:=h;unfold W6 at q21
      try simp[lpz]at q21
      by_cases q22:v12=true
      .rw[Ya q22]at h;rcases h with h|h
       .obtain⟨q23,h⟩:=h;unfold Wv at q23
        try simp[lpz]at q23
        obtain⟨v13,q24,h⟩:=h;unfold Ui at q24
        try simp[lpz]at q24
        refine Ye ?_ h;clear h;simp +decide[*,tI,tII,Zal,Ke,Jt,lpz]
       .obtain⟨v14,v15,q25,h⟩:=h;unfold Wv at q25
        try simp[lpz]at q25
        refine Ye ?_ h;clear h;simp +decide[*,tI,tII,lpz]
      .rw[Yb q22]at h;refine Ye ?_ h;clear h;simp +decide[*,tI,tII,lpz]
     .rw[Yb q20]at h;replace q20:=eq_false q20;by_cases q26:x2=4
      .rw[Ya q26]at h;subst q26;obtain⟨v16,q27,h⟩:=h;unfold W6 at q27
       try simp[lpz]at q27
       by_cases q28:v16=true
       .rw[Ya q28]at h;rcases h with h|h
        .obtain⟨q29,h⟩:=h;unfold Wv at q29
         try simp[lpz]at q29
         obtain⟨v17,q30,h⟩:=h;unfold Ui at q30
         try simp[lpz]at q30
         refine Ye ?_ h;clear h;simp +decide[*,tI,tII,Zam,Ke,Jt,lpz]
        .obtain⟨v18,v19,q31,h⟩:=h;unfold Wv at q31
         try simp[lpz]at q31
         refine Ye ?_ h;clear h;simp +decide[*,tI,tII,lpz]
       .rw[Yb q28]at h;refine Ye ?_ h;clear h;simp +decide[*,tI,tII,lpz]
      .rw[Yb q26]at h;replace q26:=eq_false q26;cases h
 .rw[Yb q1]at h;refine Ye ?_ h;clear h;simp +decide[*,tI,tII,ZpA,lpz]
def ZFj{a:Zj}{r:V3}(h:(∃(v:Bool),ZV a.Zm 1 4=some (Bo v,[])/\(if v=true then(∃(v1:Bool),ZV (a.Atoms.length:Int) 1 4=some (Bo v1,[])/\(if v1=true then(0<=a.Zm/\(a.Zm.toNat*1<=room/\(a.Zm<=140737488355328/\(Zb4 a (List.replicate (a.Zm).toNat false) a.Atoms (a.Atoms.length:Int) 0=some r))))else(some (Bo false,[])=some r)))else(some (Bo false,[])=some r)))):KG a=some r:=by
 unfold KG
 try simp only[lpz]
 refine run ZC0 rfl ?_;obtain⟨v,q1,h⟩:=h;unfold ZV at q1
 try simp[lpz]at q1
 by_cases q2:v=true
 .rw[Ya q2]at h;obtain⟨v1,q3,h⟩:=h;unfold ZV at q3
  try simp[lpz]at q3
  by_cases q4:v1=true
  .rw[Ya q4]at h;obtain⟨q5,h⟩:=h;obtain⟨q6,h⟩:=h;have zq6:=q6;try simp[lpz]at zq6
   obtain⟨q7,h⟩:=h;refine Ye ?_ h;clear h;simp +decide[*,Zkj,tI,tII,Zb4,Zkk,lpz]
  .rw[Yb q4]at h;refine Ye ?_ h;clear h;simp +decide[*,Zkj,tI,tII,lpz]
 .rw[Yb q2]at h;refine Ye ?_ h;clear h;simp +decide[*,Zkj,tI,tII,lpz]
def ZFk:((((iM ZfW λlocation x x1 x2 r=>if x2<x1 then qG x x2 (λu1=>qB (ZV u1 0 7) (r (ZfW location x x1 (w (x2+1)))) (qb false r))else qb (decide ((location.length:Int)<=16)) r)/\
 (iM Zb5 λa r=>r (ZfW a a (a.length:Int) 0)))/\
 ((iM ZfX λa b x x1 r=>if x1<x then qG a x1 (λu1=>qH b x1 (λu2=>if u1<u2 then qb false r else r (ZfX a b x (w (x1+1)))))else qb true r)/\
 (iM Zkl λa a1 r=>if(a.length:Int)=(a1.length:Int)then r (ZfX a a1 (a.length:Int) 0)else qb false r)))/\
 (((iM Zkm λa r=>qB (Zb5 a.Low) (qB (Zb5 a.High) (if 0<(a.Low.length:Int)then qV (Zkl a.High a.Low) (λu3=>qb u3 r)else qb false r) (qb false r)) (qb false r))/\
 (iM VJ λa r=>qB (KG a) (¬(a.Atoms.length:Int)<0/\qi (w ((shlI 1 (a.Atoms.length:Int))-1)) r) (qi 0 r)))/\
 ((iM Zkn λa a1 r=>qB (Zkm a1) (qI (VJ a) (λu2=>qb (decide ((a1.Low.length:Int)=(w (u2+1)))) r)) (qb false r))/\
 ((iM Zb6 λq out mask v r=>if v<q.Zm then r (ZfZ q out mask v q.Atoms (q.Atoms.length:Int) 0)else qs3 out r)/\
 (iM ZfZ λq out mask v x x1 x2 r=>if x2<x1 then qG x x2 (λu1=>¬x2<0/\qL (r (ZfZ q out mask v x x1 (w (x2+1)))) λk1=>if(andI (shrI mask x2) 1)=1 then qB (Qb u1.Vars v) (qN out (r (Zb6 q (out++[v]) mask (w (v+1))))) k1 else k1)else r (Zb6 q out mask (w (v+1))))))))/\
 ((((iM KH λa a1 r=>r (Zb6 a ([]:V6) a1 0))/\
 (iM Zdd λout b x x1 x2 r=>if x2<x1 then qG x x2 (λu1=>qB (Qb b u1) (qN out (r (Zdd (out++[u1]) b x x1 (w (x2+1))))) (r (Zdd out b x x1 (w (x2+1)))))else qs3 out r))/\
 ((iM Zan λa a1 r=>r (Zdd ([]:V6) a1 a (a.length:Int) 0))/\
 (iM Zde λa a1 a2 a3 r=>if a1.Kind=1 then qB (ZV a1.Ze 0 (w ((a.Atoms.length:Int)-1))) (if a1.Order=0 then ¬a1.Ze<0/\qG a.Atoms a1.Ze (λu2=>∃u3,u2.Vars[0]?=some u3/\r (some (.tup [.agg [I (shlI 1 a1.Ze),I u3,I (-1),I (-1)],Bo true],[])))else Jm r) (Jm r)else if a1.Ze=0 then qL (a3.length:Int) λk2=>qL (w (k2-1)) λk4=>if a1.Kind=2 then if k2<1 then Jm r else 0<=k4/\∃u1,a3[k4.toNat]?=some u1/\qG a2 u1 (λu2=>qs2 (KH a u2.Mask) (λu3=>qB (Qb u3 a1.Order) (if u2.Order=a1.Order then Jm r else r (some (.tup [.agg [I u2.Mask,I a1.Order,I u1,I (-1)],Bo true],[]))) (Jm r)))else if k2<2 then Jm r else 0<=(w (k2-2))/\∃u1,a3[(w (k2-2)).toNat]?=some u1/\0<=k4/\∃u2,a3[k4.toNat]?=some u2/\qG a2 u1 (λu3=>qG a2 u2 (λu4=>qs2 (KH a u3.Mask) (λu5=>qs2 (KH a u4.Mask) (λu6=>qs2 (Zan u5 u6) (λu7=>qL (orI u3.Mask u4.Mask) λk1=>qL (qs38 k1 u1 u2 r) λk5=>if(andI u3.Mask u4.Mask)=0 then if(u7.length:Int)=0 then k5 else if a1.Kind=3 then r (some (.tup [.agg [I k1,I (-1),I u1,I u2],Bo (decide (a1.Order=0))],[]))else if a1.Kind=5 then r (some (.tup [.agg [I k1,I u3.Order,I u1,I u2],Bo (decide (a1.Order=0))],[]))else if a1.Kind=4 then qL (r (some (.tup [.agg [I k1,I a1.Order,I u1,I u2],Bo false],[]))) λk3=>qB (Qb u7 a1.Order) (if u3.Order=a1.Order then r (some (.tup [.agg [I k1,I a1.Order,I u1,I u2],Bo (decide (u4.Order=a1.Order))],[]))else k3) k3 else k5 else k5)))))else Jm r)))/\
 (((iM Zga λq info stack x x1 x2 r=>qL (stack.length:Int) λk1=>if x2<x1 then qG x x2 (λu1=>∃(u2:Zt),∃u3,Zde q u1 info stack=some (.tup [.agg (u2.c.map .t),Bo u3],[])/\if u3=true then qN info (qL (Zga q (info++[u2])) λk2=>if 0<=u2.Right then qL (w (k1-2)) λk3=>0<=k3/\k3.toNat<=stack.length/\k3.toNat+1<=68719476736/\r (k2 ((stack.take (k3.toNat))++[x2]) x x1 (w (x2+1)))else if 0<=u2.Left then qL (w (k1-1)) λk4=>0<=k4/\k4.toNat<=stack.length/\k4.toNat+1<=68719476736/\r (k2 ((stack.take (k4.toNat))++[x2]) x x1 (w (x2+1)))else qN stack (r (k2 (stack++[x2]) x x1 (w (x2+1)))))else Zbk r)else if k1=1 then Zjy info r else Zbk r)/\
 (iM Zao λa a1 r=>qB (KG a) (qB (ZV (a1.Steps.length:Int) 1 14) (r (Zga a ([]:List Zt) ([]:V6) a1.Steps (a1.Steps.length:Int) 0)) (Zbk r)) (Zbk r)))/\
 ((iM Zkr λa a1 r=>(Zao a a1=some (.tup [.t .nil,Bo false],[])/\qi 0 r)\/(Zjz (Zao a a1) (λu1=>qL (w ((u1.length:Int)-1)) λk1=>0<=k1/\∃u2,u1[k1.toNat]?=some u2/\qi u2.Mask r)))/\
 ((iM Zgb λa a1 r=>qB (KG a) (qB (Zkn a a1.Box) (qI (Zkr a a1.Zg) (λu3=>qI (VJ a) (λu4=>if u3=u4 then qV (ZV a1.Percent 100 1000) (λu5=>qb u5 r)else qb false r))) (qb false r)) (qb false r))/\
 (iM Zb7 λa a1 r=>qB (KG a) (¬(a.Atoms.length:Int)<0/\qV (ZV a1 0 (w ((shlI 1 (a.Atoms.length:Int))-1))) (λu2=>qb u2 r)) (qb false r)))))):=by
 refine qu ?_
 and_intros
 all_goals(intros;unfold Im;(try simp only[ZfW,Zb5,ZfX,Zkl,Zkm,VJ,Zkn,Zb6,ZfZ,KH,Zdd,Zan,Zde,Zga,Zao,Zkr,Zgb,Zb7,ZV,KG,Zj.c_def,Box.c_def,Qb,Zh.c_def,Zt.c_def,Zg.c_def,lpz,ZpQ,mpl,dfs]);(try simp only[itb]);(try simp only[itf,gS,kk]))
 all_goals(repeat' first|refine exI λ_=>?_|refine anJ λ_ _=>?_|refine anI λ_=>?_|refine orE2 ?_ ?_|exact False.elim)
 all_goals(intro h;first|rw[Zn ZpI.eq_1]|refine run ZC1 rfl ?_|rw[Zn ZpL.eq_1]|refine run ZC2 rfl ?_|refine run ZC3 rfl ?_|refine run ZC4 rfl ?_|refine run ZC5 rfl ?_|rw[Zn Zko.eq_1]|rw[Zn ZpN.eq_1]|refine run ZC6 rfl ?_|rw[Zn ZpR.eq_1]|refine run ZC7 rfl ?_|refine run ZC8 rfl ?_|rw[Zn ZpT.eq_1]|refine run ZC9 rfl ?_|refine run ZCA rfl ?_|refine run ZCB rfl ?_|refine run ZCC rfl ?_)
 all_goals (refine Ye ?_ h;clear h;simp +decide[*,kk,tI,tII,ZpJ,Zzh,ZpM,Zzi,Zzj,Zzk,Zzl,ZpP,ZpO,Zzm,Zzn,ZpS,Zzo,Zzp,Zzq,ZpU,Zzr,Zzs,Zzt,Zzu])
abbrev XG:=uq ZFk
def ZFl:(((iM Zdf λvars mask out x x1 x2 r=>if x2<x1 then qG x x2 (λu1=>¬x2<0/\qL (r (Zdf vars mask out x x1 (w (x2+1)))) λk1=>if(andI (shrI mask x2) 1)=0 then qs2 (Zan u1.Vars vars) (λu2=>if 0<(u2.length:Int)then r (Zdf vars mask (orI out (shlI 1 x2)) x x1 (w (x2+1)))else k1)else k1)else qi out r)/\
 (iM Zkt λa a1 r=>qs2 (KH a a1) (λu1=>r (Zdf u1 a1 0 a.Atoms (a.Atoms.length:Int) 0))))/\
 ((iM Zgc λq mask got r=>qI (Zkt q got) (λu1=>qL (orI got (andI u1 mask)) λk1=>if k1=got then qb (decide (got=mask)) r else r (Zgc q mask k1)))/\
 (iM Jv λa a1 r=>if a1=0 then qb false r else r (Zgc a a1 (andI a1 (w (0-a1)))))))/\
 (((iM Zdg λa a1 r=>qB (Zb7 a a1) (qV (Jv a a1) (λu2=>qb u2 r)) (qb false r))/\
 (iM Zgd λa a1 a2 r=>qB (Zgb a1 a2) (qI (VJ a1) (λu2=>qB (Zdg a1 u2) (qV (Ju a) (λu4=>qb u4 r)) (qb false r))) (qb false r)))/\
 ((iM Zb8 λout location x x1 x2 r=>if x2<x1 then qG x x2 (λu1=>qI (Js u1) (λu2=>qN out (r (Zb8 (out++[u2]) location x x1 (w (x2+1))))))else qB (Zb5 location) (qs3 out r) (QX r))/\
 (iM Jw λa r=>r (Zb8 ([]:V6) a a (a.length:Int) 0)))):=by
 refine qu ?_
 and_intros
 all_goals(intros;unfold Im;(try simp only[Zdf,Zkt,Zgc,Jv,Zdg,Zgd,Zb8,Jw,Zan,KH,Zj.c_def,Zb7,Zgb,VJ,Ju,Box.c_def,Za.c_def,Z0.c_def,Zg.c_def,Region.c_def,Js,Zb5,lpz,mpl,dfs]);(try simp only[itb]);(try simp only[itf,gS,kk]))
 all_goals(repeat' first|refine exI λ_=>?_|refine anJ λ_ _=>?_|refine anI λ_=>?_|refine orE2 ?_ ?_|exact False.elim)
 all_goals(intro h;first|rw[Zn ZpV.eq_1]|refine run ZCD rfl ?_|rw[Zn ZpX.eq_1]|refine run ZCE rfl ?_|refine run ZCF rfl ?_|refine run ZCG rfl ?_|rw[Zn ZpZ.eq_1]|refine run ZCH rfl ?_)
 all_goals (refine Ye ?_ h;clear h;simp +decide[*,kk,tI,tII,Zzv,ZpW,Zzw,Zzy,Zzz,Zz0,Zqa,Zz1])
abbrev U0:=uq ZFl
