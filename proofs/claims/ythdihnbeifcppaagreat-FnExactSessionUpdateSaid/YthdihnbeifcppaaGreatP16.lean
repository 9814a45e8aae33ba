/-
  Parts of the proofs for this seat: G7 G8 G9.
-/
import Derived.Test.YthdihnbeifcppaaGreatP13
set_option linter.all false
set_option maxRecDepth 100000
set_option maxHeartbeats 4000000
namespace Go.Proofs.YthdihnbeifcppaaGreat
open Go.AM
def ZFm:(((iM Zge λq sizes x x1 x2 r=>if x2<x1 then qG x x2 (λu1=>qB (ZV u1 0 4096) (r (Zge q sizes x x1 (w (x2+1)))) (qb false r))else qB (KG q) (qI (VJ q) (λu2=>qb (decide ((sizes.length:Int)=(w (u2+1)))) r)) (qb false r))/\
 (iM Zdh λa a1 r=>r (Zge a a1 a1 (a1.length:Int) 0)))/\
 ((iM Wy λa a1 a2 a3 r=>qB (W6 a) (qB (ZV a1 0 4096) (qB (ZV a2 0 4096) (qB (ZV a3 0 4096) (qI (Zda a a1 a2 a3) (λu5=>qi u5 r)) (qi 0 r)) (qi 0 r)) (qi 0 r)) (qi 0 r))/\
 (iM Wg λm info out sizes x x1 x2 r=>if x2<x1 then qG x x2 (λu1=>qH info x2 (λu2=>qG sizes u2.Mask (λu3=>qL (Zgj m info out u1 sizes x2) λk1=>qL (Zgk m info out u1 sizes x2) λk2=>if 0<=u2.Left then qH info u2.Left (λu4=>qG sizes u4.Mask (λu5=>if 0<=u2.Right then qH info u2.Right (λu6=>qG sizes u6.Mask (λu7=>r (k1 u5 u7 x x1 x2)))else r (k2 u5 0 x x1 x2 false)))else if 0<=u2.Right then qH info u2.Right (λu4=>qG sizes u4.Mask (λu5=>r (k1 u3 u5 x x1 x2)))else r (k2 u3 0 x x1 x2 false))))else qs3 out r)))/\
 (((iM Zb9 λa a1 a2 a3 r=>(Zao a1 a2=some (.tup [.t .nil,Bo false],[])/\QX r)\/(Zjz (Zao a1 a2) (λu1=>qB (Zdh a1 a3) (r (Wg a u1 ([]:V6) a3 a2.Steps (a2.Steps.length:Int) 0)) (QX r))))/\
 (iM Zgm λn x x1 x2 r=>if x2<x1 then qG x x2 (λu1=>r (Zgm (w (n+u1)) x x1 (w (x2+1))))else qi n r))/\
 ((iM Zgl λa r=>r (Zgm 0 a (a.length:Int) 0))/\
 (iM Zgn λa a1 a2 a3 r=>(qs2 (Jw a3) (λu1=>qI (Jx a a1 a2 u1) (λu2=>qi u2 r)))\/(Jw a3=some (.t .nil,[])/\qI (Zz7 a a1 a2) (λu1=>qi u1 r))))):=by
 refine qu ?_
 and_intros
 all_goals(intros;unfold Im;(try simp only[Zge,Zdh,Wy,Wg,Zb9,Zgm,Zgl,Zgn,ZV,KG,VJ,Zj.c_def,W6,Zda,Z0.c_def,Zao,Zg.c_def,Jw,Jx,Zz7,Za.c_def,Zgj,Zgk,lpz,mpl,dfs]);(try simp only[itb]);(try simp only[itf,gS,kk]))
 all_goals(repeat' first|refine exI λ_=>?_|refine anJ λ_ _=>?_|refine anI λ_=>?_|refine orE2 ?_ ?_|exact False.elim)
 all_goals(intro h;first|rw[Zn Zqc.eq_1]|refine run ZCI rfl ?_|refine run ZCJ rfl ?_|rw[Zn Zgh.eq_1]|refine run ZCK rfl ?_|rw[Zn Zqf.eq_1]|refine run ZCL rfl ?_|refine run ZCN rfl ?_)
 all_goals (refine Ye ?_ h;clear h;simp +decide[*,kk,tI,tII,Zqd,Zz2,Zz3,Zz4,Zgi,Zz5,Zqg,Zz6,Zz8])
abbrev Qh:=uq ZFm
def ZFn{m:Za}{cd:List Zt}{cl:V6}{x:Zh}{cc:V6}{i co cn:Int}{x1:List Zh}{x2 x3:Int}{r:V3}(h:(Q5 m=some (.bsl 1 5,[.box (m.c.map .t),.box [.ptr 0 0,.ptr 0 6,.ptr 0 12,.ptr 0 18,.ptr 0 24]])/\(if(w (x.Kind-1))=0 then(0<=i/\(∃(e2:Zt),cd[i.toNat]?=some e2/\(0<=e2.Mask/\(∃(e3:Int),cc[e2.Mask.toNat]?=some e3/\(∃(v:Int),Wy m.Scan co cn e3=some (I v,[])/\(cl.length+1<=68719476736/\(Wg m cd (cl++[v]) cc x1 x2 (w (x3+1))=some r)))))))else(if(w (x.Kind-1))=1 then(0<=i/\(∃(e5:Zt),cd[i.toNat]?=some e5/\(0<=e5.Mask/\(∃(e6:Int),cc[e5.Mask.toNat]?=some e6/\(∃(v1:Int),Wy m.Sort_ co cn e6=some (I v1,[])/\(cl.length+1<=68719476736/\(Wg m cd (cl++[v1]) cc x1 x2 (w (x3+1))=some r)))))))else(if(w (x.Kind-1))=2 then(0<=i/\(∃(e8:Zt),cd[i.toNat]?=some e8/\(0<=e8.Mask/\(∃(e9:Int),cc[e8.Mask.toNat]?=some e9/\(∃(v2:Int),Wy m.Hash co cn e9=some (I v2,[])/\(cl.length+1<=68719476736/\(Wg m cd (cl++[v2]) cc x1 x2 (w (x3+1))=some r)))))))else(if(w (x.Kind-1))=3 then(0<=i/\(∃(e11:Zt),cd[i.toNat]?=some e11/\(0<=e11.Mask/\(∃(e12:Int),cc[e11.Mask.toNat]?=some e12/\(∃(v3:Int),Wy m.Merge co cn e12=some (I v3,[])/\(cl.length+1<=68719476736/\(Wg m cd (cl++[v3]) cc x1 x2 (w (x3+1))=some r)))))))else(if(w (x.Kind-1))=4 then(0<=i/\(∃(e14:Zt),cd[i.toNat]?=some e14/\(0<=e14.Mask/\(∃(e15:Int),cc[e14.Mask.toNat]?=some e15/\(∃(v4:Int),Wy m.Nested co cn e15=some (I v4,[])/\(cl.length+1<=68719476736/\(Wg m cd (cl++[v4]) cc x1 x2 (w (x3+1))=some r)))))))else False))))))):Zgj m cd cl x cc i co cn x1 x2 x3=some r:=by
 unfold Zgj
 try simp only[lpz]
 rw[Ev_eq Zgg.eq_1];obtain⟨q1,h⟩:=h;unfold Q5 at q1
 try simp[lpz]at q1
 by_cases q2:(w (x.Kind-1))=0
 .rw[Ya q2]at h;obtain⟨q3,h⟩:=h;obtain⟨e2,q4,h⟩:=h;have gq4:=Wd q4;have kq4:=Wm q4;obtain⟨q5,h⟩:=h;obtain⟨e3,q6,h⟩:=h;have gq6:=Wd q6;have kq6:=Wm q6;obtain⟨v,q7,h⟩:=h;unfold Wy at q7
  try simp[lpz]at q7
  obtain⟨q8,h⟩:=h;have rq8:=Vw (b:=8) q8 (by omega);have sq8:=Vx q8
  try simp[*]at rq8
  try simp[*]at sq8
  refine Ye ?_ h;clear h;simp +decide[*,tI,tII,Wg,lpz]
 .rw[Yb q2]at h;replace q2:=eq_false q2;by_cases q9:(w (x.Kind-1))=1
  .rw[Ya q9]at h;obtain⟨q10,h⟩:=h;obtain⟨e5,q11,h⟩:=h;have gq11:=Wd q11;have kq11:=Wm q11;obtain⟨q12,h⟩:=h;obtain⟨e6,q13,h⟩:=h;have gq13:=Wd q13;have kq13:=Wm q13;obtain⟨v1,q14,h⟩:=h;unfold Wy at q14
   try simp[lpz]at q14
   obtain⟨q15,h⟩:=h;have rq15:=Vw (b:=8) q15 (by omega);have sq15:=Vx q15
   try simp[*]at rq15
   try simp[*]at sq15
   refine Ye ?_ h;clear h;simp +decide[*,tI,tII,Wg,lpz]
  .rw[Yb q9]at h;replace q9:=eq_false q9;by_cases q16:(w (x.Kind-1))=2
   .rw[Ya q16]at h;obtain⟨q17,h⟩:=h;obtain⟨e8,q18,h⟩:=h;have gq18:=Wd q18;have kq18:=Wm q18;obtain⟨q19,h⟩:=h;obtain⟨e9,q20,h⟩:=h;have gq20:=Wd q20;have kq20:=Wm q20;obtain⟨v2,q21,h⟩:=h;unfold Wy at q21
    try simp[lpz]at q21
    obtain⟨q22,h⟩:=h;have rq22:=Vw (b:=8) q22 (by omega);have sq22:=Vx q22
    try simp[*]at rq22
    try simp[*]at sq22
    refine Ye ?_ h;clear h;simp +decide[*,tI,tII,Wg,lpz]
   .rw[Yb q16]at h;replace q16:=eq_false q16;by_cases q23:(w (x.Kind-1))=3
    .rw[Ya q23]at h;obtain⟨q24,h⟩:=h;obtain⟨e11,q25,h⟩:=h;have gq25:=Wd q25;have kq25:=Wm q25;obtain⟨q26,h⟩:=h;obtain⟨e12,q27,h⟩:=h;have gq27:=Wd q27;have kq27:=Wm q27;obtain⟨v3,q28,h⟩:=h;unfold Wy at q28
     try simp[lpz]at q28
     obtain⟨q29,h⟩:=h;have rq29:=Vw (b:=8) q29 (by omega);have sq29:=Vx q29
     try simp[*]at rq29
     try simp[*]at sq29
     refine Ye ?_ h;clear h;simp +decide[*,tI,tII,Wg,lpz]
    .rw[Yb q23]at h;replace q23:=eq_false q23;by_cases q30:(w (x.Kind-1))=4
     .rw[Ya q30]at h;obtain⟨q31,h⟩:=h;obtain⟨e14,q32,h⟩:=h;have gq32:=Wd q32;have kq32:=Wm q32;obtain⟨q33,h⟩:=h;obtain⟨e15,q34,h⟩:=h;have gq34:=Wd q34;have kq34:=Wm q34;obtain⟨v4,q35,h⟩:=h;unfold Wy at q35
      try simp[lpz]at q35
      obtain⟨q36,h⟩:=h;have rq36:=Vw (b:=8) q36 (by omega);have sq36:=Vx q36
      try simp[*]at rq36
      try simp[*]at sq36
      refine Ye ?_ h;clear h;simp +decide[*,tI,tII,Wg,lpz]
     .rw[Yb q30]at h;replace q30:=eq_false q30;cases h
def ZFo{m:Za}{cd:List Zt}{cl:V6}{x:Zh}{cc:V6}{i co cn:Int}{x1:List Zh}{x2 x3:Int}{x4:Bool}{r:V3}(h:(Q5 m=some (.bsl 1 5,[.box (m.c.map .t),.box [.ptr 0 0,.ptr 0 6,.ptr 0 12,.ptr 0 18,.ptr 0 24]])/\(if(w (x.Kind-1))=0 then(0<=i/\(∃(e2:Zt),cd[i.toNat]?=some e2/\(0<=e2.Mask/\(∃(e3:Int),cc[e2.Mask.toNat]?=some e3/\(∃(v:Int),Wy m.Scan co cn e3=some (I v,[])/\(cl.length+1<=68719476736/\(Wg m cd (cl++[v]) cc x1 x2 (w (x3+1))=some r)))))))else(if(w (x.Kind-1))=1 then(0<=i/\(∃(e5:Zt),cd[i.toNat]?=some e5/\(0<=e5.Mask/\(∃(e6:Int),cc[e5.Mask.toNat]?=some e6/\(∃(v1:Int),Wy m.Sort_ co cn e6=some (I v1,[])/\(cl.length+1<=68719476736/\(Wg m cd (cl++[v1]) cc x1 x2 (w (x3+1))=some r)))))))else(if(w (x.Kind-1))=2 then(0<=i/\(∃(e8:Zt),cd[i.toNat]?=some e8/\(0<=e8.Mask/\(∃(e9:Int),cc[e8.Mask.toNat]?=some e9/\(∃(v2:Int),Wy m.Hash co cn e9=some (I v2,[])/\(cl.length+1<=68719476736/\(Wg m cd (cl++[v2]) cc x1 x2 (w (x3+1))=some r)))))))else(if(w (x.Kind-1))=3 then(0<=i/\(∃(e11:Zt),cd[i.toNat]?=some e11/\(0<=e11.Mask/\(∃(e12:Int),cc[e11.Mask.toNat]?=some e12/\(∃(v3:Int),Wy m.Merge co cn e12=some (I v3,[])/\(cl.length+1<=68719476736/\(Wg m cd (cl++[v3]) cc x1 x2 (w (x3+1))=some r)))))))else(if(w (x.Kind-1))=4 then(0<=i/\(∃(e14:Zt),cd[i.toNat]?=some e14/\(0<=e14.Mask/\(∃(e15:Int),cc[e14.Mask.toNat]?=some e15/\(∃(v4:Int),Wy m.Nested co cn e15=some (I v4,[])/\(cl.length+1<=68719476736/\(Wg m cd (cl++[v4]) cc x1 x2 (w (x3+1))=some r)))))))else False))))))):Zgk m cd cl x cc i co cn x1 x2 x3 x4=some r:=by
 unfold Zgk
 try simp only[lpz]
 rw[Ev_eq Zgg.eq_1];obtain⟨q1,h⟩:=h;unfold Q5 at q1
 try simp[lpz]at q1
 by_cases q2:(w (x.Kind-1))=0
 .rw[Ya q2]at h;obtain⟨q3,h⟩:=h;obtain⟨e2,q4,h⟩:=h;have gq4:=Wd q4;have kq4:=Wm q4;obtain⟨q5,h⟩:=h;obtain⟨e3,q6,h⟩:=h;have gq6:=Wd q6;have kq6:=Wm q6;obtain⟨v,q7,h⟩:=h;unfold Wy at q7
  try simp[lpz]at q7
  obtain⟨q8,h⟩:=h;have rq8:=Vw (b:=8) q8 (by omega);have sq8:=Vx q8
  try simp[*]at rq8
  try simp[*]at sq8
  refine Ye ?_ h;clear h;simp +decide[*,tI,tII,Wg,lpz]
 .rw[Yb q2]at h;replace q2:=eq_false q2;by_cases q9:(w (x.Kind-1))=1
  .rw[Ya q9]at h;obtain⟨q10,h⟩:=h;obtain⟨e5,q11,h⟩:=h;have gq11:=Wd q11;have kq11:=Wm q11;obtain⟨q12,h⟩:=h;obtain⟨e6,q13,h⟩:=h;have gq13:=Wd q13;have kq13:=Wm q13;obtain⟨v1,q14,h⟩:=h;unfold Wy at q14
   try simp[lpz]at q14
   obtain⟨q15,h⟩:=h;have rq15:=Vw (b:=8) q15 (by omega);have sq15:=Vx q15
   try simp[*]at rq15
   try simp[*]at sq15
   refine Ye ?_ h;clear h;simp +decide[*,tI,tII,Wg,lpz]
  .rw[Yb q9]at h;replace q9:=eq_false q9;by_cases q16:(w (x.Kind-1))=2
   .rw[Ya q16]at h;obtain⟨q17,h⟩:=h;obtain⟨e8,q18,h⟩:=h;have gq18:=Wd q18;have kq18:=Wm q18;obtain⟨q19,h⟩:=h;obtain⟨e9,q20,h⟩:=h;have gq20:=Wd q20;have kq20:=Wm q20;obtain⟨v2,q21,h⟩:=h;unfold Wy at q21
    try simp[lpz]at q21
    obtain⟨q22,h⟩:=h;have rq22:=Vw (b:=8) q22 (by omega);have sq22:=Vx q22
    try simp[*]at rq22
    try simp[*]at sq22
    refine Ye ?_ h;clear h;simp +decide[*,tI,tII,Wg,lpz]
   .rw[Yb q16]at h;replace q16:=eq_false q16;by_cases q23:(w (x.Kind-1))=3
    .rw[Ya q23]at h;obtain⟨q24,h⟩:=h;obtain⟨e11,q25,h⟩:=h;have gq25:=Wd q25;have kq25:=Wm q25;obtain⟨q26,h⟩:=h;obtain⟨e12,q27,h⟩:=h;have gq27:=Wd q27;have kq27:=Wm q27;obtain⟨v3,q28,h⟩:=h;unfold Wy at q28
     try simp[lpz]at q28
     obtain⟨q29,h⟩:=h;have rq29:=Vw (b:=8) q29 (by omega);have sq29:=Vx q29
     try simp[*]at rq29
     try simp[*]at sq29
     refine Ye ?_ h;clear h;simp +decide[*,tI,tII,Wg,lpz]
    .rw[Yb q23]at h;replace q23:=eq_false q23;by_cases q30:(w (x.Kind-1))=4
     .rw[Ya q30]at h;obtain⟨q31,h⟩:=h;obtain⟨e14,q32,h⟩:=h;have gq32:=Wd q32;have kq32:=Wm q32;obtain⟨q33,h⟩:=h;obtain⟨e15,q34,h⟩:=h;have gq34:=Wd q34;have kq34:=Wm q34;obtain⟨v4,q35,h⟩:=h;unfold Wy at q35
      try simp[lpz]at q35
      obtain⟨q36,h⟩:=h;have rq36:=Vw (b:=8) q36 (by omega);have sq36:=Vx q36
      try simp[*]at rq36
      try simp[*]at sq36
      refine Ye ?_ h;clear h;simp +decide[*,tI,tII,Wg,lpz]
     .rw[Yb q30]at h;replace q30:=eq_false q30;cases h
def ZFp{a:Za}{a1:Zj}{a2:Zg}{a3:V6}{r:V3}(h:((Zb9 a a1 a2 a3=some (.t .nil,[])/\(some (I (-1),[])=some r))\/(∃(v:V6),Zb9 a a1 a2 a3=some (.own 0,[.arr 3 1 true (v.map ic)])/\(v≠[]/\(∃(v1:Int),Zgl v=some (I v1,[])/\(some (I v1,[])=some r)))))):Jx a a1 a2 a3=some r:=by
 unfold Jx
 try simp only[lpz]
 refine run ZCM rfl ?_;rcases h with h|h
 .obtain⟨q1,h⟩:=h;unfold Zb9 at q1
  try simp[lpz]at q1
  refine Ye ?_ h;clear h;simp +decide[*,Zqh,tI,tII,lpz]
 .obtain⟨v,q2,h⟩:=h;unfold Zb9 at q2
  try simp[lpz]at q2
  obtain⟨q3,h⟩:=h;obtain⟨yq3,ysq3,eq3⟩:=List.exists_cons_of_ne_nil q3
  first|subst eq3|skip
  obtain⟨v1,q4,h⟩:=h;unfold Zgl at q4
  try simp[lpz]at q4
  refine Ye ?_ h;clear h;simp +decide[*,Zqh,tI,tII,lpz]
def ZFq:((iM Zdi λq out mask r=>qI (VJ q) (λu1=>if mask<=u1 then qB (Jv q mask) (qN out (r (Zdi q (out++[mask]) (w (mask+1))))) (r (Zdi q out (w (mask+1))))else qs3 out r))/\
 (iM Zgo λa r=>r (Zdi a ([]:V6) 1)))/\
 ((iM Zdk λout mask i r=>if i<4 then ¬i<0/\if(andI (shrI mask i) 1)=1 then qN out (r (Zdk (out++[i]) mask (w (i+1))))else r (Zdk out mask (w (i+1)))else qs3 out r)/\
 ((iM Zdj λa r=>qB (ZV a 0 15) (r (Zdk ([]:V6) a 0)) (QX r))/\
 (iM Zgp λa r=>KD ([(⟨1,a,0⟩:Zh)]) r))):=by
 refine qu ?_
 and_intros
 all_goals(intros;unfold Im;(try simp only[Zdi,Zgo,Zdk,Zdj,Zgp,VJ,Jv,Zj.c_def,ZV,lpz,mpl,dfs]);(try simp only[itb]);(try simp only[itf,gS,kk]))
 all_goals(repeat' first|refine exI λ_=>?_|refine anJ λ_ _=>?_|refine anI λ_=>?_|refine orE2 ?_ ?_|exact False.elim)
 all_goals(intro h;first|rw[Zn Zqi.eq_1]|refine run ZCO rfl ?_|rw[Zn Zqk.eq_1]|refine run ZCP rfl ?_|refine run ZCQ rfl ?_)
 all_goals (refine Ye ?_ h;clear h;simp +decide[*,kk,tI,tII,Zz9,Zqj,ZzA,ZzB,Zql,ZzC,ZzD])
abbrev ZbZ:=uq ZFq
def Uk{m:Za}{q:Zj}{cu:V6}{cp:Int}{cc cd cl cn co:Zb}{cv cy cz d dc:Bool}{x:List Zh}{a:Int}{r:V3}(h:(∃(v:Int),Jx m q (⟨x⟩:Zg) cu=some (I v,[])/\(if(w (a+1))=0 then(if cv=true then(if v<cc.Cost then(some (.tup [],[.box [I m.Scan.Fixed,I m.Scan.Zv,I m.Scan.Zw,I m.Scan.Zz,I m.Scan.Zx,L 2 (m.Scan.Steps.map Zd.c),I m.Sort_.Fixed,I m.Sort_.Zv,I m.Sort_.Zw,I m.Sort_.Zz,I m.Sort_.Zx,L 2 (m.Sort_.Steps.map Zd.c),I m.Hash.Fixed,I m.Hash.Zv,I m.Hash.Zw,I m.Hash.Zz,I m.Hash.Zx,L 2 (m.Hash.Steps.map Zd.c),I m.Merge.Fixed,I m.Merge.Zv,I m.Merge.Zw,I m.Merge.Zz,I m.Merge.Zx,L 2 (m.Merge.Steps.map Zd.c),I m.Nested.Fixed,I m.Nested.Zv,I m.Nested.Zw,I m.Nested.Zz,I m.Nested.Zx,L 2 (m.Nested.Steps.map Zd.c),I q.Zm,L 2 (q.Atoms.map Ze.c),L 1 (cu.map ic),I cp,I cp,I a,I v,L 3 (x.map Zh.c),I cd.Mask,I cd.Order,I cd.Cost,L 3 (cd.Zg.Steps.map Zh.c),I cl.Mask,I cl.Order,I cl.Cost,L 3 (cl.Zg.Steps.map Zh.c),I cn.Mask,I cn.Order,I cn.Cost,L 3 (cn.Zg.Steps.map Zh.c),I co.Mask,I co.Order,I co.Cost,L 3 (co.Zg.Steps.map Zh.c),Bo true,Bo cy,Bo cz,Bo d,Bo dc],.dead])=some r)else(some (.tup [],[We m q cu cp cc cd cl cn co cv cy cz d dc,.arr 277 3 true (x.map Zh.c)])=some r))else(some (.tup [],[.box [I m.Scan.Fixed,I m.Scan.Zv,I m.Scan.Zw,I m.Scan.Zz,I m.Scan.Zx,L 2 (m.Scan.Steps.map Zd.c),I m.Sort_.Fixed,I m.Sort_.Zv,I m.Sort_.Zw,I m.Sort_.Zz,I m.Sort_.Zx,L 2 (m.Sort_.Steps.map Zd.c),I m.Hash.Fixed,I m.Hash.Zv,I m.Hash.Zw,I m.Hash.Zz,I m.Hash.Zx,L 2 (m.Hash.Steps.map Zd.c),I m.Merge.Fixed,I m.Merge.Zv,I m.Merge.Zw,I m.Merge.Zz,I m.Merge.Zx,L 2 (m.Merge.Steps.map Zd.c),I m.Nested.Fixed,I m.Nested.Zv,I m.Nested.Zw,I m.Nested.Zz,I m.Nested.Zx,L 2 (m.Nested.Steps.map Zd.c),I q.Zm,L 2 (q.Atoms.map Ze.c),L 1 (cu.map ic),I cp,I cp,I a,I v,L 3 (x.map Zh.c),I cd.Mask,I cd.Order,I cd.Cost,L 3 (cd.Zg.Steps.map Zh.c),I cl.Mask,I cl.Order,I cl.Cost,L 3 (cl.Zg.Steps.map Zh.c),I cn.Mask,I cn.Order,I cn.Cost,L 3 (cn.Zg.Steps.map Zh.c),I co.Mask,I co.Order,I co.Cost,L 3 (co.Zg.Steps.map Zh.c),Bo true,Bo cy,Bo cz,Bo d,Bo dc],.dead])=some r))else(if(w (a+1))=1 then(if cy=true then(if v<cd.Cost then(some (.tup [],[.box [I m.Scan.Fixed,I m.Scan.Zv,I m.Scan.Zw,I m.Scan.Zz,I m.Scan.Zx,L 2 (m.Scan.Steps.map Zd.c),I m.Sort_.Fixed,I m.Sort_.Zv,I m.Sort_.Zw,I m.Sort_.Zz,I m.Sort_.Zx,L 2 (m.Sort_.Steps.map Zd.c),I m.Hash.Fixed,I m.Hash.Zv,I m.Hash.Zw,I m.Hash.Zz,I m.Hash.Zx,L 2 (m.Hash.Steps.map Zd.c),I m.Merge.Fixed,I m.Merge.Zv,I m.Merge.Zw,I m.Merge.Zz,I m.Merge.Zx,L 2 (m.Merge.Steps.map Zd.c),I m.Nested.Fixed,I m.Nested.Zv,I m.Nested.Zw,I m.Nested.Zz,I m.Nested.Zx,L 2 (m.Nested.Steps.map Zd.c),I q.Zm,L 2 (q.Atoms.map Ze.c),L 1 (cu.map ic),I cp,I cc.Mask,I cc.Order,I cc.Cost,L 3 (cc.Zg.Steps.map Zh.c),I cp,I a,I v,L 3 (x.map Zh.c),I cl.Mask,I cl.Order,I cl.Cost,L 3 (cl.Zg.Steps.map Zh.c),I cn.Mask,I cn.Order,I cn.Cost,L 3 (cn.Zg.Steps.map Zh.c),I co.Mask,I co.Order,I co.Cost,L 3 (co.Zg.Steps.map Zh.c),Bo cv,Bo true,Bo cz,Bo d,Bo dc],.dead])=some r)else(some (.tup [],[We m q cu cp cc cd cl cn co cv cy cz d dc,.arr 277 3 true (x.map Zh.c)])=some r))else(some (.tup [],[.box [I m.Scan.Fixed,I m.Scan.Zv,I m.Scan.Zw,I m.Scan.Zz,I m.Scan.Zx,L 2 (m.Scan.Steps.map Zd.c),I m.Sort_.Fixed,I m.Sort_.Zv,I m.Sort_.Zw,I m.Sort_.Zz,I m.Sort_.Zx,L 2 (m.Sort_.Steps.map Zd.c),I m.Hash.Fixed,I m.Hash.Zv,I m.Hash.Zw,I m.Hash.Zz,I m.Hash.Zx,L 2 (m.Hash.Steps.map Zd.c),I m.Merge.Fixed,I m.Merge.Zv,I m.Merge.Zw,I m.Merge.Zz,I m.Merge.Zx,L 2 (m.Merge.Steps.map Zd.c),I m.Nested.Fixed,I m.Nested.Zv,I m.Nested.Zw,I m.Nested.Zz,I m.Nested.Zx,L 2 (m.Nested.Steps.map Zd.c),I q.Zm,L 2 (q.Atoms.map Ze.c),L 1 (cu.map ic),I cp,I cc.Mask,I cc.Order,I cc.Cost,L 3 (cc.Zg.Steps.map Zh.c),I cp,I a,I v,L 3 (x.map Zh.c),I cl.Mask,I cl.Order,I cl.Cost,L 3 (cl.Zg.Steps.map Zh.c),I cn.Mask,I cn.Order,I cn.Cost,L 3 (cn.Zg.Steps.map Zh.c),I co.Mask,I co.Order,I co.Cost,L 3 (co.Zg.Steps.map Zh.c),Bo cv,Bo true,Bo cz,Bo d,Bo dc],.dead])=some r))else(if(w (a+1))=2 then(if cz=true then(if v<cl.Cost then(some (.tup [],[.box [I m.Scan.Fixed,I m.Scan.Zv,I m.Scan.Zw,I m.Scan.Zz,I m.Scan.Zx,L 2 (m.Scan.Steps.map Zd.c),I m.Sort_.Fixed,I m.Sort_.Zv,I m.Sort_.Zw,I m.Sort_.Zz,I m.Sort_.Zx,L 2 (m.Sort_.Steps.map Zd.c),I m.Hash.Fixed,I m.Hash.Zv,I m.Hash.Zw,I m.Hash.Zz,I m.Hash.Zx,L 2 (m.Hash.Steps.map Zd.c),I m.Merge.Fixed,I m.Merge.Zv,I m.Merge.Zw,I m.Merge.Zz,I m.Merge.Zx,L 2 (m.Merge.Steps.map Zd.c),I m.Nested.Fixed,I m.Nested.Zv,I m.Nested.Zw,I m.Nested.Zz,I m.Nested.Zx,L 2 (m.Nested.Steps.map Zd.c),I q.Zm,L 2 (q.Atoms.map Ze.c),L 1 (cu.map ic),I cp,I cc.Mask,I cc.Order,I cc.Cost,L 3 (cc.Zg.Steps.map Zh.c),I cd.Mask,I cd.Order,I cd.Cost,L 3 (cd.Zg.Steps.map Zh.c),I cp,I a,I v,L 3 (x.map Zh.c),I cn.Mask,I cn.Order,I cn.Cost,L 3 (cn.Zg.Steps.map Zh.c),I co.Mask,I co.Order,I co.Cost,L 3 (co.Zg.Steps.map Zh.c),Bo cv,Bo cy,Bo true,Bo d,Bo dc],.dead])=some r)else(some (.tup [],[We m q cu cp cc cd cl cn co cv cy cz d dc,.arr 277 3 true (x.map Zh.c)])=some r))else(some (.tup [],[.box [I m.Scan.Fixed,I m.Scan.Zv,I m.Scan.Zw,I m.Scan.Zz,I m.Scan.Zx,L 2 (m.Scan.Steps.map Zd.c),I m.Sort_.Fixed,I m.Sort_.Zv,I m.Sort_.Zw,I m.Sort_.Zz,I m.Sort_.Zx,L 2 (m.Sort_.Steps.map Zd.c),I m.Hash.Fixed,I m.Hash.Zv,I m.Hash.Zw,I m.Hash.Zz,I m.Hash.Zx,L 2 (m.Hash.Steps.map Zd.c),I m.Merge.Fixed,I m.Merge.Zv,I m.Merge.Zw,I m.Merge.Zz,I m.Merge.Zx,L 2 (m.Merge.Steps.map Zd.c),I m.Nested.Fixed,I m.Nested.Zv,I m.Nested.Zw,I m.Nested.Zz,I m.Nested.Zx,L 2 (m.Nested.Steps.map Zd.c),I q.Zm,L 2 (q.Atoms.map Ze.c),L 1 (cu.map ic),I cp,I cc.Mask,I cc.Order,I cc.Cost,L 3 (cc.Zg.Steps.map Zh.c),I cd.Mask,I cd.Order,I cd.Cost,L 3 (cd.Zg.Steps.map Zh.c),I cp,I a,I v,L 3 (x.map Zh.c),I cn.Mask,I cn.Order,I cn.Cost,L 3 (cn.Zg.Steps.map Zh.c),I co.Mask,I co.Order,I co.Cost,L 3 (co.Zg.Steps.map Zh.c),Bo cv,Bo cy,Bo true,Bo d,Bo dc],.dead])=some r))else(if(w (a+1))=3 then(if d=true then(if v<cn.Cost then(some (.tup [],[.box [I m.Scan.Fixed,I m.Scan.Zv,I m.Scan.Zw,I m.Scan.Zz,I m.Scan.Zx,L 2 (m.Scan.Steps.map Zd.c),I m.Sort_.Fixed,I m.Sort_.Zv,I m.Sort_.Zw,I m.Sort_.Zz,I m.Sort_.Zx,L 2 (m.Sort_.Steps.map Zd.c),I m.Hash.Fixed,I m.Hash.Zv,I m.Hash.Zw,I m.Hash.Zz,I m.Hash.Zx,L 2 (m.Hash.Steps.map Zd.c),I m.Merge.Fixed,I m.Merge.Zv,I m.Merge.Zw,I m.Merge.Zz,I m.Merge.Zx,L 2 (m.Merge.Steps.map Zd.c),I m.Nested.Fixed,I m.Nested.Zv,I m.Nested.Zw,I m.Nested.Zz,I m.Nested.Zx,L 2 (m.Nested.Steps.map Zd.c),I q.Zm,L 2 (q.Atoms.map Ze.c),L 1 (cu.map ic),I cp,I cc.Mask,I cc.Order,I cc.Cost,L 3 (cc.Zg.Steps.map Zh.c),I cd.Mask,I cd.Order,I cd.Cost,L 3 (cd.Zg.Steps.map Zh.c),I cl.Mask,I cl.Order,I cl.Cost,L 3 (cl.Zg.Steps.map Zh.c),I cp,I a,I v,L 3 (x.map Zh.c),I co.Mask,I co.Order,I co.Cost,L 3 (co.Zg.Steps.map Zh.c),Bo cv,Bo cy,Bo cz,Bo true,Bo dc],.dead])=some r)else(some (.tup [],[We m q cu cp cc cd cl cn co cv cy cz d dc,.arr 277 3 true (x.map Zh.c)])=some r))else(some (.tup [],[.box [I m.Scan.Fixed,I m.Scan.Zv,I m.Scan.Zw,I m.Scan.Zz,I m.Scan.Zx,L 2 (m.Scan.Steps.map Zd.c),I m.Sort_.Fixed,I m.Sort_.Zv,I m.Sort_.Zw,I m.Sort_.Zz,I m.Sort_.Zx,L 2 (m.Sort_.Steps.map Zd.c),I m.Hash.Fixed,I m.Hash.Zv,I m.Hash.Zw,I m.Hash.Zz,I m.Hash.Zx,L 2 (m.Hash.Steps.map Zd.c),I m.Merge.Fixed,I m.Merge.Zv,I m.Merge.Zw,I m.Merge.Zz,I m.Merge.Zx,L 2 (m.Merge.Steps.map Zd.c),I m.Nested.Fixed,I m.Nested.Zv,I m.Nested.Zw,I m.Nested.Zz,I m.Nested.Zx,L 2 (m.Nested.Steps.map Zd.c),I q.Zm,L 2 (q.Atoms.map Ze.c),L 1 (cu.map ic),I cp,I cc.Mask,I cc.Order,I cc.Cost,L 3 (cc.Zg.Steps.map Zh.c),I cd.Mask,I cd.Order,I cd.Cost,L 3 (cd.Zg.Steps.map Zh.c),I cl.Mask,I cl.Order,I cl.Cost,L 3 (cl.Zg.Steps.map Zh.c),I cp,I a,I v,L 3 (x.map Zh.c),I co.Mask,I co.Order,I co.Cost,L 3 (co.Zg.Steps.map Zh.c),Bo cv,Bo cy,Bo cz,Bo true,Bo dc],.dead])=some r))else(if(w (a+1))=4 then(if dc=true then(if v<co.Cost then(some (.tup [],[.box [I m.Scan.Fixed,I m.Scan.Zv,I m.Scan.Zw,I m.Scan.Zz,I m.Scan.Zx,L 2 (m.Scan.Steps.map Zd.c),I m.Sort_.Fixed,I m.Sort_.Zv,I m.Sort_.Zw,I m.Sort_.Zz,I m.Sort_.Zx,L 2 (m.Sort_.Steps.map Zd.c),I m.Hash.Fixed,I m.Hash.Zv,I m.Hash.Zw,I m.Hash.Zz,I m.Hash.Zx,L 2 (m.Hash.Steps.map Zd.c),I m.Merge.Fixed,I m.Merge.Zv,I m.Merge.Zw,I m.Merge.Zz,I m.Merge.Zx,L 2 (m.Merge.Steps.map Zd.c),I m.Nested.Fixed,I m.Nested.Zv,I m.Nested.Zw,I m.Nested.Zz,I m.Nested.Zx,L 2 (m.Nested.Steps.map Zd.c),I q.Zm,L 2 (q.Atoms.map Ze.c),L 1 (cu.map ic),I cp,I cc.Mask,I cc.Order,I cc.Cost,L 3 (cc.Zg.Steps.map Zh.c),I cd.Mask,I cd.Order,I cd.Cost,L 3 (cd.Zg.Steps.map Zh.c),I cl.Mask,I cl.Order,I cl.Cost,L 3 (cl.Zg.Steps.map Zh.c),I cn.Mask,I cn.Order,I cn.Cost,L 3 (cn.Zg.Steps.map Zh.c),I cp,I a,I v,L 3 (x.map Zh.c),Bo cv,Bo cy,Bo cz,Bo d,Bo true],.dead])=some r)else(some (.tup [],[We m q cu cp cc cd cl cn co cv cy cz d dc,.arr 277 3 true (x.map Zh.c)])=some r))else(some (.tup [],[.box [I m.Scan.Fixed,I m.Scan.Zv,I m.Scan.Zw,I m.Scan.Zz,I m.Scan.Zx,L 2 (m.Scan.Steps.map Zd.c),I m.Sort_.Fixed,I m.Sort_.Zv,I m.Sort_.Zw,I m.Sort_.Zz,I m.Sort_.Zx,L 2 (m.Sort_.Steps.map Zd.c),I m.Hash.Fixed,I m.Hash.Zv,I m.Hash.Zw,I m.Hash.Zz,I m.Hash.Zx,L 2 (m.Hash.Steps.map Zd.c),I m.Merge.Fixed,I m.Merge.Zv,I m.Merge.Zw,I m.Merge.Zz,I m.Merge.Zx,L 2 (m.Merge.Steps.map Zd.c),I m.Nested.Fixed,I m.Nested.Zv,I m.Nested.Zw,I m.Nested.Zz,I m.Nested.Zx,L 2 (m.Nested.Steps.map Zd.c),I q.Zm,L 2 (q.Atoms.map Ze.c),L 1 (cu.map ic),I cp,I cc.Mask,I cc.Order,I cc.Cost,L 3 (cc.Zg.Steps.map Zh.c),I cd.Mask,I cd.Order,I cd.Cost,L 3 (cd.Zg.Steps.map Zh.c),I cl.Mask,I cl.Order,I cl.Cost,L 3 (cl.Zg.Steps.map Zh.c),I cn.Mask,I cn.Order,I cn.Cost,L 3 (cn.Zg.Steps.map Zh.c),I cp,I a,I v,L 3 (x.map Zh.c),Bo cv,Bo cy,Bo cz,Bo d,Bo true],.dead])=some r))else False))))))):Jy m q cu cp cc cd cl cn co cv cy cz d dc x a=some r:=by
 unfold Jy
 try simp only[lpz]
 refine XR ZCR rfl ?_;obtain⟨v,q1,h⟩:=h;unfold Jx at q1
 try simp[lpz]at q1
 by_cases q2:(w (a+1))=0
 .rw[Ya q2]at h;by_cases q3:cv=true
  .rw[Ya q3]at h;by_cases q4:v<cc.Cost
   .rw[Ya q4]at h;refine Ye ?_ h;clear h;simp +decide[*,VK,tI,tII,lpz]
   .rw[Yb q4]at h;refine Ye ?_ h;clear h;simp +decide[*,VK,tI,tII,lpz]
  .rw[Yb q3]at h;refine Ye ?_ h;clear h;simp +decide[*,VK,tI,tII,lpz]
 .rw[Yb q2]at h;replace q2:=eq_false q2;by_cases q5:(w (a+1))=1
  .rw[Ya q5]at h;by_cases q6:cy=true
   .rw[Ya q6]at h;by_cases q7:v<cd.Cost
    .rw[Ya q7]at h;refine Ye ?_ h;clear h;simp +decide[*,VK,tI,tII,lpz]
    .rw[Yb q7]at h;refine Ye ?_ h;clear h;simp +decide[*,VK,tI,tII,lpz]
   .rw[Yb q6]at h;refine Ye ?_ h;clear h;simp +decide[*,VK,tI,tII,lpz]
  .rw[Yb q5]at h;replace q5:=eq_false q5;by_cases q8:(w (a+1))=2
   .rw[Ya q8]at h;by_cases q9:cz=true
    .rw[Ya q9]at h;by_cases q10:v<cl.Cost
     .rw[Ya q10]at h;refine Ye ?_ h;clear h;simp +decide[*,VK,tI,tII,lpz]
     .rw[Yb q10]at h;refine Ye ?_ h;clear h;simp +decide[*,VK,tI,tII,lpz]
    .rw[Yb q9]at h;refine Ye ?_ h;clear h;simp +decide[*,VK,tI,tII,lpz]
   .rw[Yb q8]at h;replace q8:=eq_false q8;by_cases q11:(w (a+1))=3
    .rw[Ya q11]at h;by_cases q12:d=true
     .rw[Ya q12]at h;by_cases q13:v<cn.Cost
      .rw[Ya q13]at h;refine Ye ?_ h;clear h;simp +decide[*,VK,tI,tII,lpz]
      .rw[Yb q13]at h;refine Ye ?_ h;clear h;simp +decide[*,VK,tI,tII,lpz]
     .rw[Yb q12]at h;refine Ye ?_ h;clear h;simp +decide[*,VK,tI,tII,lpz]
    .rw[Yb q11]at h;replace q11:=eq_false q11;by_cases q14:(w (a+1))=4
     .rw[Ya q14]at h;by_cases q15:dc=true
      .rw[Ya q15]at h;by_cases q16:v<co.Cost
       .rw[Ya q16]at h;refine Ye ?_ h;clear h;simp +decide[*,VK,tI,tII,lpz]
       .rw[Yb q16]at h;refine Ye ?_ h;clear h;simp +decide[*,VK,tI,tII,lpz]
      .rw[Yb q15]at h;refine Ye ?_ h;clear h;simp +decide[*,VK,tI,tII,lpz]
     .rw[Yb q14]at h;replace q14:=eq_false q14;cases h
def ZFr:(iM ZbA λq out mask x r=>if x<mask then qL (r (ZbA q out mask (w (x+1)))) λk1=>if(andI x mask)=x then qB (Jv q x) (qB (Jv q (KA mask x)) (qN out (r (ZbA q (out++[x]) mask (w (x+1))))) k1) k1 else k1 else qs3 out r)/\
 (iM Zgq λa a1 r=>qB (Zdg a a1) (r (ZbA a ([]:V6) a1 1)) (QX r)):=by
 refine qu ?_
 and_intros
 all_goals(intros;unfold Im;(try simp only[ZbA,Zgq,Jv,Zj.c_def,Zdg,lpz,mpl,dfs]);(try simp only[itb]);(try simp only[itf,gS,kk]))
 all_goals(repeat' first|refine exI λ_=>?_|refine anJ λ_ _=>?_|refine anI λ_=>?_|refine orE2 ?_ ?_|exact False.elim)
 all_goals(intro h;first|rw[Zn Zqm.eq_1]|refine run ZCS rfl ?_)
 all_goals (refine Ye ?_ h;clear h;simp +decide[*,kk,tI,tII,ZzE,Zqn,ZzF])
abbrev Zux:=uq ZFr
