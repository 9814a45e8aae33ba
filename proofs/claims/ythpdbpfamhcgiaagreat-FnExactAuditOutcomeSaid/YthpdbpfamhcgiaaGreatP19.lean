/-
  Parts of the proofs for this seat: G13 G14 G15.
-/
import Derived.Test.YthpdbpfamhcgiaaGreatP13
import Derived.Test.YthpdbpfamhcgiaaGreatP14
set_option linter.all false
set_option maxRecDepth 100000
set_option maxHeartbeats 4000000
namespace Go.Proofs.YthpdbpfamhcgiaaGreat
open Go.AM
def ZLv:(((iM Zf4 λq out mask r=>qI (Vd q) (λu1=>if mask<=u1 then qB (Zak q mask) (qN out (r (Zf4 q (out++[mask]) (w (mask+1))))) (r (Zf4 q out (w (mask+1))))else qs3 out r))/\
 ((iM Zdq λa r=>r (Zf4 a ([]:V6) 1))/\
 (iM Zf6 λdb q out x x1 x2 r=>if x2<x1 then qG x x2 (λu1=>Zbj (Zfl db q u1) (λu2 u3=>qG out u1 (λu4=>r (Zf6 db q (out.set u1.toNat (u3.length:Int)) x x1 (w (x2+1))))))else qs3 out r)))/\
 ((iM Zj0 λout x x1 x2 r=>if x2<x1 then qG x x2 (λu1=>qI (JC u1) (λu2=>qN out (r (Zj0 (out++[u2]) x x1 (w (x2+1))))))else qs3 out r)/\
 ((iM Zve λa r=>r (Zj0 ([]:V6) a (a.length:Int) 0))/\
 (iM Zj1 λa a1 r=>(Zf5 a a1=some (.t .nil,[])/\qs2 Z5Q (λu1=>qs3 u1 r))\/(qs2 (Zf5 a a1) (λu1=>qs2 (Zve u1) (λu2=>qs3 u2 r)))))))/\
 (((iM Zdr λout location x x1 x2 r=>if x2<x1 then qG x x2 (λu1=>qI (QG u1) (λu2=>qN out (r (Zdr (out++[u2]) location x x1 (w (x2+1))))))else qB (ZcF location) (qs3 out r) (KG r))/\
 ((iM Zf7 λa r=>r (Zdr ([]:V6) a a (a.length:Int) 0))/\
 (iM Zj2 λq sizes x x1 x2 r=>if x2<x1 then qG x x2 (λu1=>qB (ZT u1 0 4096) (r (Zj2 q sizes x x1 (w (x2+1)))) (qb false r))else qB (QF q) (qI (Vd q) (λu2=>qb (decide ((sizes.length:Int)=(w (u2+1)))) r)) (qb false r))))/\
 (((iM Zds λa a1 r=>r (Zj2 a a1 a1 (a1.length:Int) 0))/\
 (iM Zf9 λout mask i r=>if i<4 then ¬i<0/\if(andI (shrI mask i) 1)=1 then qN out (r (Zf9 (out++[i]) mask (w (i+1))))else r (Zf9 out mask (w (i+1)))else qs3 out r))/\
 ((iM Zf8 λa r=>qB (ZT a 0 15) (r (Zf9 ([]:V6) a 0)) (KG r))/\
 (iM Zj3 λa r=>J5 ([(⟨1,a,0⟩:Zj)]) r)))):=by
 refine qu ?_
 and_intros
 all_goals(intros;unfold Im;(try simp only[Zf4,Zdq,Zf6,Zj0,Zve,Zj1,Zdr,Zf7,Zj2,Zds,Zf9,Zf8,Zj3,Vd,Zak,Zf.c_def,Zfl,Zp.c_def,JC,Zf5,Z5Q,QG,ZcF,ZT,QF,lpz,mpl,dfs]);(try simp only[itb]);(try simp only[itf,gS,kk]))
 all_goals(repeat' first|refine exI λ_=>?_|refine anJ λ_ _=>?_|refine anI λ_=>?_|refine orE2 ?_ ?_|exact False.elim)
 all_goals(intro h;first|rw[Zr ZuV.eq_1]|refine run ZIE rfl ?_|rw[Zr ZuY.eq_1]|rw[Zr Zvc.eq_1]|refine run ZIG rfl ?_|refine run ZIH rfl ?_|rw[Zr Zvg.eq_1]|refine run ZII rfl ?_|rw[Zr Zvj.eq_1]|refine run ZIJ rfl ?_|rw[Zr Zvl.eq_1]|refine run ZIK rfl ?_|refine run ZIL rfl ?_)
 all_goals (refine Yd ?_ h;clear h;simp +decide[*,kk,tI,tII,Z5N,ZuW,Z5O,ZuZ,Zvd,Z5P,Z5R,Zvh,Z5S,Zvk,Z5T,Z5U,Zvm,Z5V,Z5W])
abbrev Vv:=uq ZLv
def ZLw{a:Zp}{a1:Zf}{r:V3}(h:(∃(v:Bool),Qr a a1=some (Bo v,[])/\(if v=true then(∃(v1:Int),Vd a1=some (I v1,[])/\(0<=(w (v1+1))/\((w (v1+1))<=(w (v1+1))/\((w (v1+1)).toNat*8<=room/\((w (v1+1))<=140737488355328/\(∃(v2:V6),Zdq a1=some (.own 0,[.arr 3 1 true (v2.map ic)])/\(Zf6 a a1 (List.replicate ((w (v1+1))).toNat 0) v2 (v2.length:Int) 0=some r)))))))else(some (.t .nil,[])=some r)))):Zf5 a a1=some r:=by
 unfold Zf5
 try simp only[lpz]
 refine run ZIF rfl ?_;obtain⟨v,q1,h⟩:=h;unfold Qr at q1
 try simp[lpz]at q1
 by_cases q2:v=true
 .rw[Ya q2]at h;obtain⟨v1,q3,h⟩:=h;unfold Vd at q3
  try simp[lpz]at q3
  obtain⟨q4,h⟩:=h;obtain⟨q5,h⟩:=h;obtain⟨q6,h⟩:=h;have zq6:=q6;try simp[lpz]at zq6
  obtain⟨q7,h⟩:=h;obtain⟨v2,q8,h⟩:=h;unfold Zdq at q8
  try simp[lpz]at q8
  refine Yd ?_ h;clear h;simp +decide[*,Zva,tI,tII,Zf6,lpz]
 .rw[Yb q2]at h;refine Yd ?_ h;clear h;simp +decide[*,Zva,tI,tII,lpz]
def ZLx:((iM WG λm info out sizes x x1 x2 r=>if x2<x1 then qG x x2 (λu1=>qH info x2 (λu2=>qG sizes u2.Mask (λu3=>qL (Zj8 m info out u1 sizes x2) λk1=>qL (Zj9 m info out u1 sizes x2) λk2=>if 0<=u2.Left then qH info u2.Left (λu4=>qG sizes u4.Mask (λu5=>if 0<=u2.Right then qH info u2.Right (λu6=>qG sizes u6.Mask (λu7=>r (k1 u5 u7 x x1 x2)))else r (k2 u5 0 x x1 x2 false)))else if 0<=u2.Right then qH info u2.Right (λu4=>qG sizes u4.Mask (λu5=>r (k1 u3 u5 x x1 x2)))else r (k2 u3 0 x x1 x2 false))))else qs3 out r)/\
 (iM Zdt λa a1 a2 a3 r=>(KK a1 a2=some (.tup [.t .nil,Bo false],[])/\KG r)\/(Zib (KK a1 a2) (λu1=>qB (Zds a1 a3) (r (WG a u1 ([]:V6) a3 a2.Steps (a2.Steps.length:Int) 0)) (KG r)))))/\
 ((iM ZjB λn x x1 x2 r=>if x2<x1 then qG x x2 (λu1=>r (ZjB (w (n+u1)) x x1 (w (x2+1))))else qi n r)/\
 (iM ZjA λa r=>r (ZjB 0 a (a.length:Int) 0))):=by
 refine qu ?_
 and_intros
 all_goals(intros;unfold Im;(try simp only[WG,Zdt,ZjB,ZjA,KK,Zds,Zg.c_def,Zf.c_def,Zj8,Zj9,lpz,mpl,dfs]);(try simp only[itb]);(try simp only[itf,gS,kk]))
 all_goals(repeat' first|refine exI λ_=>?_|refine anJ λ_ _=>?_|refine anI λ_=>?_|refine orE2 ?_ ?_|exact False.elim)
 all_goals(intro h;first|rw[Zr Zj6.eq_1]|refine run ZIM rfl ?_|rw[Zr Zvo.eq_1]|refine run ZIN rfl ?_)
 all_goals (refine Yd ?_ h;clear h;simp +decide[*,kk,tI,tII,Z5X,Zj7,Z5Y,Zvp,Z5Z])
abbrev ZbN:=uq ZLx
def ZLy{m:Zn}{cd:List Zo}{cl:V6}{x:Zj}{cc:V6}{i co cn:Int}{x1:List Zj}{x2 x3:Int}{r:V3}(h:(Un m=some (.bsl 1 5,[.box (m.c.map .t),.box [.ptr 0 0,.ptr 0 6,.ptr 0 12,.ptr 0 18,.ptr 0 24]])/\(if(w (x.Zs-1))=0 then(0<=i/\(∃(e2:Zo),cd[i.toNat]?=some e2/\(0<=e2.Mask/\(∃(e3:Int),cc[e2.Mask.toNat]?=some e3/\(∃(v:Int),Wb m.Z1 co cn e3=some (I v,[])/\(cl.length+1<=68719476736/\(WG m cd (cl++[v]) cc x1 x2 (w (x3+1))=some r)))))))else(if(w (x.Zs-1))=1 then(0<=i/\(∃(e5:Zo),cd[i.toNat]?=some e5/\(0<=e5.Mask/\(∃(e6:Int),cc[e5.Mask.toNat]?=some e6/\(∃(v1:Int),Wb m.Zz co cn e6=some (I v1,[])/\(cl.length+1<=68719476736/\(WG m cd (cl++[v1]) cc x1 x2 (w (x3+1))=some r)))))))else(if(w (x.Zs-1))=2 then(0<=i/\(∃(e8:Zo),cd[i.toNat]?=some e8/\(0<=e8.Mask/\(∃(e9:Int),cc[e8.Mask.toNat]?=some e9/\(∃(v2:Int),Wb m.Z2 co cn e9=some (I v2,[])/\(cl.length+1<=68719476736/\(WG m cd (cl++[v2]) cc x1 x2 (w (x3+1))=some r)))))))else(if(w (x.Zs-1))=3 then(0<=i/\(∃(e11:Zo),cd[i.toNat]?=some e11/\(0<=e11.Mask/\(∃(e12:Int),cc[e11.Mask.toNat]?=some e12/\(∃(v3:Int),Wb m.Z3 co cn e12=some (I v3,[])/\(cl.length+1<=68719476736/\(WG m cd (cl++[v3]) cc x1 x2 (w (x3+1))=some r)))))))else(if(w (x.Zs-1))=4 then(0<=i/\(∃(e14:Zo),cd[i.toNat]?=some e14/\(0<=e14.Mask/\(∃(e15:Int),cc[e14.Mask.toNat]?=some e15/\(∃(v4:Int),Wb m.Z4 co cn e15=some (I v4,[])/\(cl.length+1<=68719476736/\(WG m cd (cl++[v4]) cc x1 x2 (w (x3+1))=some r)))))))else False))))))):Zj8 m cd cl x cc i co cn x1 x2 x3=some r:=by
 unfold Zj8
 try simp only[lpz]
 rw[Zbh Zj5.eq_1];obtain⟨q1,h⟩:=h;unfold Un at q1
 try simp[lpz]at q1
 by_cases q2:(w (x.Zs-1))=0
 .rw[Ya q2]at h;obtain⟨q3,h⟩:=h;obtain⟨e2,q4,h⟩:=h;have gq4:=X3 q4;have kq4:=X4 q4;obtain⟨q5,h⟩:=h;obtain⟨e3,q6,h⟩:=h;have gq6:=X3 q6;have kq6:=X4 q6;obtain⟨v,q7,h⟩:=h;unfold Wb at q7
  try simp[lpz]at q7
  obtain⟨q8,h⟩:=h;have rq8:=Vb (b:=8) q8 (by omega);have sq8:=Vc q8
  try simp[*]at rq8
  try simp[*]at sq8
  refine Yd ?_ h;clear h;simp +decide[*,tI,tII,WG,lpz]
 .rw[Yb q2]at h;replace q2:=eq_false q2;by_cases q9:(w (x.Zs-1))=1
  .rw[Ya q9]at h;obtain⟨q10,h⟩:=h;obtain⟨e5,q11,h⟩:=h;have gq11:=X3 q11;have kq11:=X4 q11;obtain⟨q12,h⟩:=h;obtain⟨e6,q13,h⟩:=h;have gq13:=X3 q13;have kq13:=X4 q13;obtain⟨v1,q14,h⟩:=h;unfold Wb at q14
   try simp[lpz]at q14
   obtain⟨q15,h⟩:=h;have rq15:=Vb (b:=8) q15 (by omega);have sq15:=Vc q15
   try simp[*]at rq15
   try simp[*]at sq15
   refine Yd ?_ h;clear h;simp +decide[*,tI,tII,WG,lpz]
  .rw[Yb q9]at h;replace q9:=eq_false q9;by_cases q16:(w (x.Zs-1))=2
   .rw[Ya q16]at h;obtain⟨q17,h⟩:=h;obtain⟨e8,q18,h⟩:=h;have gq18:=X3 q18;have kq18:=X4 q18;obtain⟨q19,h⟩:=h;obtain⟨e9,q20,h⟩:=h;have gq20:=X3 q20;have kq20:=X4 q20;obtain⟨v2,q21,h⟩:=h;unfold Wb at q21
    try simp[lpz]at q21
    obtain⟨q22,h⟩:=h;have rq22:=Vb (b:=8) q22 (by omega);have sq22:=Vc q22
    try simp[*]at rq22
    try simp[*]at sq22
    refine Yd ?_ h;clear h;simp +decide[*,tI,tII,WG,lpz]
   .rw[Yb q16]at h;replace q16:=eq_false q16;by_cases q23:(w (x.Zs-1))=3
    .rw[Ya q23]at h;obtain⟨q24,h⟩:=h;obtain⟨e11,q25,h⟩:=h;have gq25:=X3 q25;have kq25:=X4 q25;obtain⟨q26,h⟩:=h;obtain⟨e12,q27,h⟩:=h;have gq27:=X3 q27;have kq27:=X4 q27;obtain⟨v3,q28,h⟩:=h;unfold Wb at q28
     try simp[lpz]at q28
     obtain⟨q29,h⟩:=h;have rq29:=Vb (b:=8) q29 (by omega);have sq29:=Vc q29
     try simp[*]at rq29
     try simp[*]at sq29
     refine Yd ?_ h;clear h;simp +decide[*,tI,tII,WG,lpz]
    .rw[Yb q23]at h;replace q23:=eq_false q23;by_cases q30:(w (x.Zs-1))=4
     .rw[Ya q30]at h;obtain⟨q31,h⟩:=h;obtain⟨e14,q32,h⟩:=h;have gq32:=X3 q32;have kq32:=X4 q32;obtain⟨q33,h⟩:=h;obtain⟨e15,q34,h⟩:=h;have gq34:=X3 q34;have kq34:=X4 q34;obtain⟨v4,q35,h⟩:=h;unfold Wb at q35
      try simp[lpz]at q35
      obtain⟨q36,h⟩:=h;have rq36:=Vb (b:=8) q36 (by omega);have sq36:=Vc q36
      try simp[*]at rq36
      try simp[*]at sq36
      refine Yd ?_ h;clear h;simp +decide[*,tI,tII,WG,lpz]
     .rw[Yb q30]at h;replace q30:=eq_false q30;cases h
def ZLz{m:Zn}{cd:List Zo}{cl:V6}{x:Zj}{cc:V6}{i co cn:Int}{x1:List Zj}{x2 x3:Int}{x4:Bool}{r:V3}(h:(Un m=some (.bsl 1 5,[.box (m.c.map .t),.box [.ptr 0 0,.ptr 0 6,.ptr 0 12,.ptr 0 18,.ptr 0 24]])/\(if(w (x.Zs-1))=0 then(0<=i/\(∃(e2:Zo),cd[i.toNat]?=some e2/\(0<=e2.Mask/\(∃(e3:Int),cc[e2.Mask.toNat]?=some e3/\(∃(v:Int),Wb m.Z1 co cn e3=some (I v,[])/\(cl.length+1<=68719476736/\(WG m cd (cl++[v]) cc x1 x2 (w (x3+1))=some r)))))))else(if(w (x.Zs-1))=1 then(0<=i/\(∃(e5:Zo),cd[i.toNat]?=some e5/\(0<=e5.Mask/\(∃(e6:Int),cc[e5.Mask.toNat]?=some e6/\(∃(v1:Int),Wb m.Zz co cn e6=some (I v1,[])/\(cl.length+1<=68719476736/\(WG m cd (cl++[v1]) cc x1 x2 (w (x3+1))=some r)))))))else(if(w (x.Zs-1))=2 then(0<=i/\(∃(e8:Zo),cd[i.toNat]?=some e8/\(0<=e8.Mask/\(∃(e9:Int),cc[e8.Mask.toNat]?=some e9/\(∃(v2:Int),Wb m.Z2 co cn e9=some (I v2,[])/\(cl.length+1<=68719476736/\(WG m cd (cl++[v2]) cc x1 x2 (w (x3+1))=some r)))))))else(if(w (x.Zs-1))=3 then(0<=i/\(∃(e11:Zo),cd[i.toNat]?=some e11/\(0<=e11.Mask/\(∃(e12:Int),cc[e11.Mask.toNat]?=some e12/\(∃(v3:Int),Wb m.Z3 co cn e12=some (I v3,[])/\(cl.length+1<=68719476736/\(WG m cd (cl++[v3]) cc x1 x2 (w (x3+1))=some r)))))))else(if(w (x.Zs-1))=4 then(0<=i/\(∃(e14:Zo),cd[i.toNat]?=some e14/\(0<=e14.Mask/\(∃(e15:Int),cc[e14.Mask.toNat]?=some e15/\(∃(v4:Int),Wb m.Z4 co cn e15=some (I v4,[])/\(cl.length+1<=68719476736/\(WG m cd (cl++[v4]) cc x1 x2 (w (x3+1))=some r)))))))else False))))))):Zj9 m cd cl x cc i co cn x1 x2 x3 x4=some r:=by
 unfold Zj9
 try simp only[lpz]
 rw[Zbh Zj5.eq_1];obtain⟨q1,h⟩:=h;unfold Un at q1
 try simp[lpz]at q1
 by_cases q2:(w (x.Zs-1))=0
 .rw[Ya q2]at h;obtain⟨q3,h⟩:=h;obtain⟨e2,q4,h⟩:=h;have gq4:=X3 q4;have kq4:=X4 q4;obtain⟨q5,h⟩:=h;obtain⟨e3,q6,h⟩:=h;have gq6:=X3 q6;have kq6:=X4 q6;obtain⟨v,q7,h⟩:=h;unfold Wb at q7
  try simp[lpz]at q7
  obtain⟨q8,h⟩:=h;have rq8:=Vb (b:=8) q8 (by omega);have sq8:=Vc q8
  try simp[*]at rq8
  try simp[*]at sq8
  refine Yd ?_ h;clear h;simp +decide[*,tI,tII,WG,lpz]
 .rw[Yb q2]at h;replace q2:=eq_false q2;by_cases q9:(w (x.Zs-1))=1
  .rw[Ya q9]at h;obtain⟨q10,h⟩:=h;obtain⟨e5,q11,h⟩:=h;have gq11:=X3 q11;have kq11:=X4 q11;obtain⟨q12,h⟩:=h;obtain⟨e6,q13,h⟩:=h;have gq13:=X3 q13;have kq13:=X4 q13;obtain⟨v1,q14,h⟩:=h;unfold Wb at q14
   try simp[lpz]at q14
   obtain⟨q15,h⟩:=h;have rq15:=Vb (b:=8) q15 (by omega);have sq15:=Vc q15
   try simp[*]at rq15
   try simp[*]at sq15
   refine Yd ?_ h;clear h;simp +decide[*,tI,tII,WG,lpz]
  .rw[Yb q9]at h;replace q9:=eq_false q9;by_cases q16:(w (x.Zs-1))=2
   .rw[Ya q16]at h;obtain⟨q17,h⟩:=h;obtain⟨e8,q18,h⟩:=h;have gq18:=X3 q18;have kq18:=X4 q18;obtain⟨q19,h⟩:=h;obtain⟨e9,q20,h⟩:=h;have gq20:=X3 q20;have kq20:=X4 q20;obtain⟨v2,q21,h⟩:=h;unfold Wb at q21
    try simp[lpz]at q21
    obtain⟨q22,h⟩:=h;have rq22:=Vb (b:=8) q22 (by omega);have sq22:=Vc q22
    try simp[*]at rq22
    try simp[*]at sq22
    refine Yd ?_ h;clear h;simp +decide[*,tI,tII,WG,lpz]
   .rw[Yb q16]at h;replace q16:=eq_false q16;by_cases q23:(w (x.Zs-1))=3
    .rw[Ya q23]at h;obtain⟨q24,h⟩:=h;obtain⟨e11,q25,h⟩:=h;have gq25:=X3 q25;have kq25:=X4 q25;obtain⟨q26,h⟩:=h;obtain⟨e12,q27,h⟩:=h;have gq27:=X3 q27;have kq27:=X4 q27;obtain⟨v3,q28,h⟩:=h;unfold Wb at q28
     try simp[lpz]at q28
     obtain⟨q29,h⟩:=h;have rq29:=Vb (b:=8) q29 (by omega);have sq29:=Vc q29
     try simp[*]at rq29
     try simp[*]at sq29
     refine Yd ?_ h;clear h;simp +decide[*,tI,tII,WG,lpz]
    .rw[Yb q23]at h;replace q23:=eq_false q23;by_cases q30:(w (x.Zs-1))=4
     .rw[Ya q30]at h;obtain⟨q31,h⟩:=h;obtain⟨e14,q32,h⟩:=h;have gq32:=X3 q32;have kq32:=X4 q32;obtain⟨q33,h⟩:=h;obtain⟨e15,q34,h⟩:=h;have gq34:=X3 q34;have kq34:=X4 q34;obtain⟨v4,q35,h⟩:=h;unfold Wb at q35
      try simp[lpz]at q35
      obtain⟨q36,h⟩:=h;have rq36:=Vb (b:=8) q36 (by omega);have sq36:=Vc q36
      try simp[*]at rq36
      try simp[*]at sq36
      refine Yd ?_ h;clear h;simp +decide[*,tI,tII,WG,lpz]
     .rw[Yb q30]at h;replace q30:=eq_false q30;cases h
def ZL0{a:Zn}{a1:Zf}{a2:Zg}{a3:V6}{r:V3}(h:((Zdt a a1 a2 a3=some (.t .nil,[])/\(some (I (-1),[])=some r))\/(∃(v:V6),Zdt a a1 a2 a3=some (.own 0,[.arr 3 1 true (v.map ic)])/\(v≠[]/\(∃(v1:Int),ZjA v=some (I v1,[])/\(some (I v1,[])=some r)))))):Zdu a a1 a2 a3=some r:=by
 unfold Zdu
 try simp only[lpz]
 refine run ZIO rfl ?_;rcases h with h|h
 .obtain⟨q1,h⟩:=h;unfold Zdt at q1
  try simp[lpz]at q1
  refine Yd ?_ h;clear h;simp +decide[*,Zvq,tI,tII,lpz]
 .obtain⟨v,q2,h⟩:=h;unfold Zdt at q2
  try simp[lpz]at q2
  obtain⟨q3,h⟩:=h;obtain⟨yq3,ysq3,eq3⟩:=List.exists_cons_of_ne_nil q3
  first|subst eq3|skip
  obtain⟨v1,q4,h⟩:=h;unfold ZjA at q4
  try simp[lpz]at q4
  refine Yd ?_ h;clear h;simp +decide[*,Zvq,tI,tII,lpz]
def UX{m:Zn}{q:Zf}{cu:V6}{cp:Int}{cc cd cl cn co:Zd}{cv cy cz d dc:Bool}{x:List Zj}{a:Int}{r:V3}(h:(∃(v:Int),Zdu m q (⟨x⟩:Zg) cu=some (I v,[])/\(if(w (a+1))=0 then(if cv=true then(if v<cc.Zv then(some (.tup [],[.box [I m.Z1.ZD,I m.Z1.ZE,I m.Z1.ZF,I m.Z1.ZG,I m.Z1.ZH,L 2 (m.Z1.Steps.map Zx.c),I m.Zz.ZD,I m.Zz.ZE,I m.Zz.ZF,I m.Zz.ZG,I m.Zz.ZH,L 2 (m.Zz.Steps.map Zx.c),I m.Z2.ZD,I m.Z2.ZE,I m.Z2.ZF,I m.Z2.ZG,I m.Z2.ZH,L 2 (m.Z2.Steps.map Zx.c),I m.Z3.ZD,I m.Z3.ZE,I m.Z3.ZF,I m.Z3.ZG,I m.Z3.ZH,L 2 (m.Z3.Steps.map Zx.c),I m.Z4.ZD,I m.Z4.ZE,I m.Z4.ZF,I m.Z4.ZG,I m.Z4.ZH,L 2 (m.Z4.Steps.map Zx.c),I q.Zk,L 2 (q.Zb.map Ze.c),L 1 (cu.map ic),I cp,I cp,I a,I v,L 3 (x.map Zj.c),I cd.Mask,I cd.Zl,I cd.Zv,L 3 (cd.Zg.Steps.map Zj.c),I cl.Mask,I cl.Zl,I cl.Zv,L 3 (cl.Zg.Steps.map Zj.c),I cn.Mask,I cn.Zl,I cn.Zv,L 3 (cn.Zg.Steps.map Zj.c),I co.Mask,I co.Zl,I co.Zv,L 3 (co.Zg.Steps.map Zj.c),Bo true,Bo cy,Bo cz,Bo d,Bo dc],.dead])=some r)else(some (.tup [],[WF m q cu cp cc cd cl cn co cv cy cz d dc,.arr 258 3 true (x.map Zj.c)])=some r))else(some (.tup [],[.box [I m.Z1.ZD,I m.Z1.ZE,I m.Z1.ZF,I m.Z1.ZG,I m.Z1.ZH,L 2 (m.Z1.Steps.map Zx.c),I m.Zz.ZD,I m.Zz.ZE,I m.Zz.ZF,I m.Zz.ZG,I m.Zz.ZH,L 2 (m.Zz.Steps.map Zx.c),I m.Z2.ZD,I m.Z2.ZE,I m.Z2.ZF,I m.Z2.ZG,I m.Z2.ZH,L 2 (m.Z2.Steps.map Zx.c),I m.Z3.ZD,I m.Z3.ZE,I m.Z3.ZF,I m.Z3.ZG,I m.Z3.ZH,L 2 (m.Z3.Steps.map Zx.c),I m.Z4.ZD,I m.Z4.ZE,I m.Z4.ZF,I m.Z4.ZG,I m.Z4.ZH,L 2 (m.Z4.Steps.map Zx.c),I q.Zk,L 2 (q.Zb.map Ze.c),L 1 (cu.map ic),I cp,I cp,I a,I v,L 3 (x.map Zj.c),I cd.Mask,I cd.Zl,I cd.Zv,L 3 (cd.Zg.Steps.map Zj.c),I cl.Mask,I cl.Zl,I cl.Zv,L 3 (cl.Zg.Steps.map Zj.c),I cn.Mask,I cn.Zl,I cn.Zv,L 3 (cn.Zg.Steps.map Zj.c),I co.Mask,I co.Zl,I co.Zv,L 3 (co.Zg.Steps.map Zj.c),Bo true,Bo cy,Bo cz,Bo d,Bo dc],.dead])=some r))else(if(w (a+1))=1 then(if cy=true then(if v<cd.Zv then(some (.tup [],[.box [I m.Z1.ZD,I m.Z1.ZE,I m.Z1.ZF,I m.Z1.ZG,I m.Z1.ZH,L 2 (m.Z1.Steps.map Zx.c),I m.Zz.ZD,I m.Zz.ZE,I m.Zz.ZF,I m.Zz.ZG,I m.Zz.ZH,L 2 (m.Zz.Steps.map Zx.c),I m.Z2.ZD,I m.Z2.ZE,I m.Z2.ZF,I m.Z2.ZG,I m.Z2.ZH,L 2 (m.Z2.Steps.map Zx.c),I m.Z3.ZD,I m.Z3.ZE,I m.Z3.ZF,I m.Z3.ZG,I m.Z3.ZH,L 2 (m.Z3.Steps.map Zx.c),I m.Z4.ZD,I m.Z4.ZE,I m.Z4.ZF,I m.Z4.ZG,I m.Z4.ZH,L 2 (m.Z4.Steps.map Zx.c),I q.Zk,L 2 (q.Zb.map Ze.c),L 1 (cu.map ic),I cp,I cc.Mask,I cc.Zl,I cc.Zv,L 3 (cc.Zg.Steps.map Zj.c),I cp,I a,I v,L 3 (x.map Zj.c),I cl.Mask,I cl.Zl,I cl.Zv,L 3 (cl.Zg.Steps.map Zj.c),I cn.Mask,I cn.Zl,I cn.Zv,L 3 (cn.Zg.Steps.map Zj.c),I co.Mask,I co.Zl,I co.Zv,L 3 (co.Zg.Steps.map Zj.c),Bo cv,Bo true,Bo cz,Bo d,Bo dc],.dead])=some r)else(some (.tup [],[WF m q cu cp cc cd cl cn co cv cy cz d dc,.arr 258 3 true (x.map Zj.c)])=some r))else(some (.tup [],[.box [I m.Z1.ZD,I m.Z1.ZE,I m.Z1.ZF,I m.Z1.ZG,I m.Z1.ZH,L 2 (m.Z1.Steps.map Zx.c),I m.Zz.ZD,I m.Zz.ZE,I m.Zz.ZF,I m.Zz.ZG,I m.Zz.ZH,L 2 (m.Zz.Steps.map Zx.c),I m.Z2.ZD,I m.Z2.ZE,I m.Z2.ZF,I m.Z2.ZG,I m.Z2.ZH,L 2 (m.Z2.Steps.map Zx.c),I m.Z3.ZD,I m.Z3.ZE,I m.Z3.ZF,I m.Z3.ZG,I m.Z3.ZH,L 2 (m.Z3.Steps.map Zx.c),I m.Z4.ZD,I m.Z4.ZE,I m.Z4.ZF,I m.Z4.ZG,I m.Z4.ZH,L 2 (m.Z4.Steps.map Zx.c),I q.Zk,L 2 (q.Zb.map Ze.c),L 1 (cu.map ic),I cp,I cc.Mask,I cc.Zl,I cc.Zv,L 3 (cc.Zg.Steps.map Zj.c),I cp,I a,I v,L 3 (x.map Zj.c),I cl.Mask,I cl.Zl,I cl.Zv,L 3 (cl.Zg.Steps.map Zj.c),I cn.Mask,I cn.Zl,I cn.Zv,L 3 (cn.Zg.Steps.map Zj.c),I co.Mask,I co.Zl,I co.Zv,L 3 (co.Zg.Steps.map Zj.c),Bo cv,Bo true,Bo cz,Bo d,Bo dc],.dead])=some r))else(if(w (a+1))=2 then(if cz=true then(if v<cl.Zv then(some (.tup [],[.box [I m.Z1.ZD,I m.Z1.ZE,I m.Z1.ZF,I m.Z1.ZG,I m.Z1.ZH,L 2 (m.Z1.Steps.map Zx.c),I m.Zz.ZD,I m.Zz.ZE,I m.Zz.ZF,I m.Zz.ZG,I m.Zz.ZH,L 2 (m.Zz.Steps.map Zx.c),I m.Z2.ZD,I m.Z2.ZE,I m.Z2.ZF,I m.Z2.ZG,I m.Z2.ZH,L 2 (m.Z2.Steps.map Zx.c),I m.Z3.ZD,I m.Z3.ZE,I m.Z3.ZF,I m.Z3.ZG,I m.Z3.ZH,L 2 (m.Z3.Steps.map Zx.c),I m.Z4.ZD,I m.Z4.ZE,I m.Z4.ZF,I m.Z4.ZG,I m.Z4.ZH,L 2 (m.Z4.Steps.map Zx.c),I q.Zk,L 2 (q.Zb.map Ze.c),L 1 (cu.map ic),I cp,I cc.Mask,I cc.Zl,I cc.Zv,L 3 (cc.Zg.Steps.map Zj.c),I cd.Mask,I cd.Zl,I cd.Zv,L 3 (cd.Zg.Steps.map Zj.c),I cp,I a,I v,L 3 (x.map Zj.c),I cn.Mask,I cn.Zl,I cn.Zv,L 3 (cn.Zg.Steps.map Zj.c),I co.Mask,I co.Zl,I co.Zv,L 3 (co.Zg.Steps.map Zj.c),Bo cv,Bo cy,Bo true,Bo d,Bo dc],.dead])=some r)else(some (.tup [],[WF m q cu cp cc cd cl cn co cv cy cz d dc,.arr 258 3 true (x.map Zj.c)])=some r))else(some (.tup [],[.box [I m.Z1.ZD,I m.Z1.ZE,I m.Z1.ZF,I m.Z1.ZG,I m.Z1.ZH,L 2 (m.Z1.Steps.map Zx.c),I m.Zz.ZD,I m.Zz.ZE,I m.Zz.ZF,I m.Zz.ZG,I m.Zz.ZH,L 2 (m.Zz.Steps.map Zx.c),I m.Z2.ZD,I m.Z2.ZE,I m.Z2.ZF,I m.Z2.ZG,I m.Z2.ZH,L 2 (m.Z2.Steps.map Zx.c),I m.Z3.ZD,I m.Z3.ZE,I m.Z3.ZF,I m.Z3.ZG,I m.Z3.ZH,L 2 (m.Z3.Steps.map Zx.c),I m.Z4.ZD,I m.Z4.ZE,I m.Z4.ZF,I m.Z4.ZG,I m.Z4.ZH,L 2 (m.Z4.Steps.map Zx.c),I q.Zk,L 2 (q.Zb.map Ze.c),L 1 (cu.map ic),I cp,I cc.Mask,I cc.Zl,I cc.Zv,L 3 (cc.Zg.Steps.map Zj.c),I cd.Mask,I cd.Zl,I cd.Zv,L 3 (cd.Zg.Steps.map Zj.c),I cp,I a,I v,L 3 (x.map Zj.c),I cn.Mask,I cn.Zl,I cn.Zv,L 3 (cn.Zg.Steps.map Zj.c),I co.Mask,I co.Zl,I co.Zv,L 3 (co.Zg.Steps.map Zj.c),Bo cv,Bo cy,Bo true,Bo d,Bo dc],.dead])=some r))else(if(w (a+1))=3 then(if d=true then(if v<cn.Zv then(some (.tup [],[.box [I m.Z1.ZD,I m.Z1.ZE,I m.Z1.ZF,I m.Z1.ZG,I m.Z1.ZH,L 2 (m.Z1.Steps.map Zx.c),I m.Zz.ZD,I m.Zz.ZE,I m.Zz.ZF,I m.Zz.ZG,I m.Zz.ZH,L 2 (m.Zz.Steps.map Zx.c),I m.Z2.ZD,I m.Z2.ZE,I m.Z2.ZF,I m.Z2.ZG,I m.Z2.ZH,L 2 (m.Z2.Steps.map Zx.c),I m.Z3.ZD,I m.Z3.ZE,I m.Z3.ZF,I m.Z3.ZG,I m.Z3.ZH,L 2 (m.Z3.Steps.map Zx.c),I m.Z4.ZD,I m.Z4.ZE,I m.Z4.ZF,I m.Z4.ZG,I m.Z4.ZH,L 2 (m.Z4.Steps.map Zx.c),I q.Zk,L 2 (q.Zb.map Ze.c),L 1 (cu.map ic),I cp,I cc.Mask,I cc.Zl,I cc.Zv,L 3 (cc.Zg.Steps.map Zj.c),I cd.Mask,I cd.Zl,I cd.Zv,L 3 (cd.Zg.Steps.map Zj.c),I cl.Mask,I cl.Zl,I cl.Zv,L 3 (cl.Zg.Steps.map Zj.c),I cp,I a,I v,L 3 (x.map Zj.c),I co.Mask,I co.Zl,I co.Zv,L 3 (co.Zg.Steps.map Zj.c),Bo cv,Bo cy,Bo cz,Bo true,Bo dc],.dead])=some r)else(some (.tup [],[WF m q cu cp cc cd cl cn co cv cy cz d dc,.arr 258 3 true (x.map Zj.c)])=some r))else(some (.tup [],[.box [I m.Z1.ZD,I m.Z1.ZE,I m.Z1.ZF,I m.Z1.ZG,I m.Z1.ZH,L 2 (m.Z1.Steps.map Zx.c),I m.Zz.ZD,I m.Zz.ZE,I m.Zz.ZF,I m.Zz.ZG,I m.Zz.ZH,L 2 (m.Zz.Steps.map Zx.c),I m.Z2.ZD,I m.Z2.ZE,I m.Z2.ZF,I m.Z2.ZG,I m.Z2.ZH,L 2 (m.Z2.Steps.map Zx.c),I m.Z3.ZD,I m.Z3.ZE,I m.Z3.ZF,I m.Z3.ZG,I m.Z3.ZH,L 2 (m.Z3.Steps.map Zx.c),I m.Z4.ZD,I m.Z4.ZE,I m.Z4.ZF,I m.Z4.ZG,I m.Z4.ZH,L 2 (m.Z4.Steps.map Zx.c),I q.Zk,L 2 (q.Zb.map Ze.c),L 1 (cu.map ic),I cp,I cc.Mask,I cc.Zl,I cc.Zv,L 3 (cc.Zg.Steps.map Zj.c),I cd.Mask,I cd.Zl,I cd.Zv,L 3 (cd.Zg.Steps.map Zj.c),I cl.Mask,I cl.Zl,I cl.Zv,L 3 (cl.Zg.Steps.map Zj.c),I cp,I a,I v,L 3 (x.map Zj.c),I co.Mask,I co.Zl,I co.Zv,L 3 (co.Zg.Steps.map Zj.c),Bo cv,Bo cy,Bo cz,Bo true,Bo dc],.dead])=some r))else(if(w (a+1))=4 then(if dc=true then(if v<co.Zv then(some (.tup [],[.box [I m.Z1.ZD,I m.Z1.ZE,I m.Z1.ZF,I m.Z1.ZG,I m.Z1.ZH,L 2 (m.Z1.Steps.map Zx.c),I m.Zz.ZD,I m.Zz.ZE,I m.Zz.ZF,I m.Zz.ZG,I m.Zz.ZH,L 2 (m.Zz.Steps.map Zx.c),I m.Z2.ZD,I m.Z2.ZE,I m.Z2.ZF,I m.Z2.ZG,I m.Z2.ZH,L 2 (m.Z2.Steps.map Zx.c),I m.Z3.ZD,I m.Z3.ZE,I m.Z3.ZF,I m.Z3.ZG,I m.Z3.ZH,L 2 (m.Z3.Steps.map Zx.c),I m.Z4.ZD,I m.Z4.ZE,I m.Z4.ZF,I m.Z4.ZG,I m.Z4.ZH,L 2 (m.Z4.Steps.map Zx.c),I q.Zk,L 2 (q.Zb.map Ze.c),L 1 (cu.map ic),I cp,I cc.Mask,I cc.Zl,I cc.Zv,L 3 (cc.Zg.Steps.map Zj.c),I cd.Mask,I cd.Zl,I cd.Zv,L 3 (cd.Zg.Steps.map Zj.c),I cl.Mask,I cl.Zl,I cl.Zv,L 3 (cl.Zg.Steps.map Zj.c),I cn.Mask,I cn.Zl,I cn.Zv,L 3 (cn.Zg.Steps.map Zj.c),I cp,I a,I v,L 3 (x.map Zj.c),Bo cv,Bo cy,Bo cz,Bo d,Bo true],.dead])=some r)else(some (.tup [],[WF m q cu cp cc cd cl cn co cv cy cz d dc,.arr 258 3 true (x.map Zj.c)])=some r))else(some (.tup [],[.box [I m.Z1.ZD,I m.Z1.ZE,I m.Z1.ZF,I m.Z1.ZG,I m.Z1.ZH,L 2 (m.Z1.Steps.map Zx.c),I m.Zz.ZD,I m.Zz.ZE,I m.Zz.ZF,I m.Zz.ZG,I m.Zz.ZH,L 2 (m.Zz.Steps.map Zx.c),I m.Z2.ZD,I m.Z2.ZE,I m.Z2.ZF,I m.Z2.ZG,I m.Z2.ZH,L 2 (m.Z2.Steps.map Zx.c),I m.Z3.ZD,I m.Z3.ZE,I m.Z3.ZF,I m.Z3.ZG,I m.Z3.ZH,L 2 (m.Z3.Steps.map Zx.c),I m.Z4.ZD,I m.Z4.ZE,I m.Z4.ZF,I m.Z4.ZG,I m.Z4.ZH,L 2 (m.Z4.Steps.map Zx.c),I q.Zk,L 2 (q.Zb.map Ze.c),L 1 (cu.map ic),I cp,I cc.Mask,I cc.Zl,I cc.Zv,L 3 (cc.Zg.Steps.map Zj.c),I cd.Mask,I cd.Zl,I cd.Zv,L 3 (cd.Zg.Steps.map Zj.c),I cl.Mask,I cl.Zl,I cl.Zv,L 3 (cl.Zg.Steps.map Zj.c),I cn.Mask,I cn.Zl,I cn.Zv,L 3 (cn.Zg.Steps.map Zj.c),I cp,I a,I v,L 3 (x.map Zj.c),Bo cv,Bo cy,Bo cz,Bo d,Bo true],.dead])=some r))else False))))))):Zaz m q cu cp cc cd cl cn co cv cy cz d dc x a=some r:=by
 unfold Zaz
 try simp only[lpz]
 refine W8 ZIP rfl ?_;obtain⟨v,q1,h⟩:=h;unfold Zdu at q1
 try simp[lpz]at q1
 by_cases q2:(w (a+1))=0
 .rw[Ya q2]at h;by_cases q3:cv=true
  .rw[Ya q3]at h;by_cases q4:v<cc.Zv
   .rw[Ya q4]at h;refine Yd ?_ h;clear h;simp +decide[*,U5,tI,tII,lpz]
   .rw[Yb q4]at h;refine Yd ?_ h;clear h;simp +decide[*,U5,tI,tII,lpz]
  .rw[Yb q3]at h;refine Yd ?_ h;clear h;simp +decide[*,U5,tI,tII,lpz]
 .rw[Yb q2]at h;replace q2:=eq_false q2;by_cases q5:(w (a+1))=1
  .rw[Ya q5]at h;by_cases q6:cy=true
   .rw[Ya q6]at h;by_cases q7:v<cd.Zv
    .rw[Ya q7]at h;refine Yd ?_ h;clear h;simp +decide[*,U5,tI,tII,lpz]
    .rw[Yb q7]at h;refine Yd ?_ h;clear h;simp +decide[*,U5,tI,tII,lpz]
   .rw[Yb q6]at h;refine Yd ?_ h;clear h;simp +decide[*,U5,tI,tII,lpz]
  .rw[Yb q5]at h;replace q5:=eq_false q5;by_cases q8:(w (a+1))=2
   .rw[Ya q8]at h;by_cases q9:cz=true
    .rw[Ya q9]at h;by_cases q10:v<cl.Zv
     .rw[Ya q10]at h;refine Yd ?_ h;clear h;simp +decide[*,U5,tI,tII,lpz]
     .rw[Yb q10]at h;refine Yd ?_ h;clear h;simp +decide[*,U5,tI,tII,lpz]
    .rw[Yb q9]at h;refine Yd ?_ h;clear h;simp +decide[*,U5,tI,tII,lpz]
   .rw[Yb q8]at h;replace q8:=eq_false q8;by_cases q11:(w (a+1))=3
    .rw[Ya q11]at h;by_cases q12:d=true
     .rw[Ya q12]at h;by_cases q13:v<cn.Zv
      .rw[Ya q13]at h;refine Yd ?_ h;clear h;simp +decide[*,U5,tI,tII,lpz]
      .rw[Yb q13]at h;refine Yd ?_ h;clear h;simp +decide[*,U5,tI,tII,lpz]
     .rw[Yb q12]at h;refine Yd ?_ h;clear h;simp +decide[*,U5,tI,tII,lpz]
    .rw[Yb q11]at h;replace q11:=eq_false q11;by_cases q14:(w (a+1))=4
     .rw[Ya q14]at h;by_cases q15:dc=true
      .rw[Ya q15]at h;by_cases q16:v<co.Zv
       .rw[Ya q16]at h;refine Yd ?_ h;clear h;simp +decide[*,U5,tI,tII,lpz]
       .rw[Yb q16]at h;refine Yd ?_ h;clear h;simp +decide[*,U5,tI,tII,lpz]
      .rw[Yb q15]at h;refine Yd ?_ h;clear h;simp +decide[*,U5,tI,tII,lpz]
     .rw[Yb q14]at h;replace q14:=eq_false q14;cases h
def ZL1:(iM Zdv λq out mask x r=>if x<mask then qL (r (Zdv q out mask (w (x+1)))) λk1=>if(andI x mask)=x then qB (Zak q x) (qB (Zak q (J4 mask x)) (qN out (r (Zdv q (out++[x]) mask (w (x+1))))) k1) k1 else k1 else qs3 out r)/\
 (iM ZjC λa a1 r=>qB (Zal a a1) (r (Zdv a ([]:V6) a1 1)) (KG r)):=by
 refine qu ?_
 and_intros
 all_goals(intros;unfold Im;(try simp only[Zdv,ZjC,Zak,Zf.c_def,Zal,lpz,mpl,dfs]);(try simp only[itb]);(try simp only[itf,gS,kk]))
 all_goals(repeat' first|refine exI λ_=>?_|refine anJ λ_ _=>?_|refine anI λ_=>?_|refine orE2 ?_ ?_|exact False.elim)
 all_goals(intro h;first|rw[Zr Zvr.eq_1]|refine run ZIQ rfl ?_)
 all_goals (refine Yd ?_ h;clear h;simp +decide[*,kk,tI,tII,Z6a,Zvs,Z6b])
abbrev ZzP:=uq ZL1
