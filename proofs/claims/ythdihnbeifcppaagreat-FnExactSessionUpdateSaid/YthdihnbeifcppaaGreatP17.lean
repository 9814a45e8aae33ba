/-
  Parts of the proofs for this seat: G10 G11 G12.
-/
import Derived.Test.YthdihnbeifcppaaGreatP13
set_option linter.all false
set_option maxRecDepth 100000
set_option maxHeartbeats 4000000
namespace Go.Proofs.YthdihnbeifcppaaGreat
open Go.AM
def ZFs:(((iM Zdl λMask Order Cost best x x1 x2 r=>if x2<x1 then qG x x2 (λu1=>if u1.Cost<best.Cost then r (Zdl Mask Order Cost u1 x x1 (w (x2+1)))else r (Zdl Mask Order Cost best x x1 (w (x2+1))))else r (some (.agg (best.c.map .t),[])))/\
 (iM ZbB λa r=>∃u1,a[0]?=some u1/\r (Zdl 0 0 0 u1 a (a.length:Int) 0)))/\
 ((iM KJ λa a1 a2 a3 r=>qs4 (Ka a) (λu1=>u1.length+a1.Steps.length<=68719476736/\u1.length+a1.Steps.length+1<=68719476736/\KD ((u1++a1.Steps)++[(⟨a2,0,a3⟩:Zh)]) r))/\
 (iM Zgt λm q sizes mask list0 list1 list2 list3 list4 some0 some1 some2 some3 some4 r=>r (XK m q sizes mask list0 list1 list2 list3 list4 some0 some1 some2 some3 some4 true ([]:List Zb) some0 some1 some2 some3 some4 0))))/\
 (((iM Jz λa a1 r=>qB (Zb7 a a1) (qs2 (KH a a1) (λu2=>qs3 u2 r)) (QX r))/\
 (iM ZbC λa a1 a2 r=>(qs2 (Jz a a1) (λu1=>(qs2 (Jz a a2) (λu2=>qs2 (Zan u1 u2) (λu3=>qs3 u3 r)))\/(Jz a a2=some (.t .nil,[])/\qs2 (ZzJ u1) (λu2=>qs3 u2 r))))\/(Jz a a1=some (.t .nil,[])/\((qs2 (Jz a a2) (λu1=>qs2 (ZzK u1) (λu2=>qs3 u2 r)))\/(Jz a a2=some (.t .nil,[])/\qs2 ZzL (λu1=>qs3 u1 r))))))/\
 ((iM Zkz λa a1 r=>qs4 (Ka a) (λu1=>qN u1 (KD (u1++[(⟨2,0,a1⟩:Zh)]) r)))/\
 ((iM Zgu λm q x sizes v x1 x2 x3 r=>if x3<x2 then qG x1 x3 (λu1=>qL (r (Zgu m q x sizes v x1 x2 (w (x3+1)))) λk1=>if u1.Order=v then qI (Jx m q (⟨x⟩:Zg) sizes) (λu2=>if u1.Cost<=u2 then r (some (.agg (u1.Zg.c.map .t),[]))else k1)else k1)else KD x r)/\
 (iM ZbD λa a1 a2 a3 a4 r=>∃(u1:Zb),ZbB a3=some (.agg (u1.c.map .t),[])/\if u1.Order=a4 then r (some (.agg (u1.Zg.c.map .t),[]))else qs4 (Zkz u1.Zg a4) (λu2=>r (Zgu a a1 u2 a2 a4 a3 (a3.length:Int) 0)))))):=by
 refine qu ?_
 and_intros
 all_goals(intros;unfold Im;(try simp only[Zdl,ZbB,KJ,Zgt,Jz,ZbC,Zkz,Zgu,ZbD,Ka,Zg.c_def,Zb7,KH,Zj.c_def,Zan,ZzJ,ZzK,ZzL,Jx,Za.c_def,Z0.c_def,Zb.c_def,XK,lpz,mpl,dfs]);(try simp only[itb]);(try simp only[itf,gS,kk]))
 all_goals(repeat' first|refine exI λ_=>?_|refine anJ λ_ _=>?_|refine anI λ_=>?_|refine orE2 ?_ ?_|exact False.elim)
 all_goals(intro h;first|rw[Zn Zgr.eq_1]|refine run Z21 rfl ?_|refine run ZCT rfl ?_|refine XR ZCU rfl ?_|refine run ZCV rfl ?_|refine run ZCW rfl ?_|refine run ZCX rfl ?_|rw[Zn Zqt.eq_1]|refine run ZCY rfl ?_)
 all_goals (refine Ye ?_ h;clear h;simp +decide[*,kk,tI,tII,Zqo,Zgs,Zqp,ZzG,ZzH,ZzI,ZzM,ZzN,Zqu,ZzO])
abbrev U1:=uq ZFs
def Kk{m:Za}{q:Zj}{cp:V6}{dd:Int}{cc cd cl cn co:Zb}{cu cv cy cz d fr:Bool}{dc:List Zb}{x0 x1 x2 x3 x4:Bool}{x:Int}{r:V3}(h:(if x<5 then(if x=0 then(if x0=true then(dc.length+1<=68719476736/\(XK m q cp dd cc cd cl cn co cu cv cy cz d false (dc++[cc]) true x1 x2 x3 x4 (w (x+1))=some r))else(XK m q cp dd cc cd cl cn co cu cv cy cz d fr dc false x1 x2 x3 x4 (w (x+1))=some r))else(if x=1 then(if x1=true then(dc.length+1<=68719476736/\(XK m q cp dd cc cd cl cn co cu cv cy cz d false (dc++[cd]) x0 true x2 x3 x4 (w (x+1))=some r))else(XK m q cp dd cc cd cl cn co cu cv cy cz d fr dc x0 false x2 x3 x4 (w (x+1))=some r))else(if x=2 then(if x2=true then(dc.length+1<=68719476736/\(XK m q cp dd cc cd cl cn co cu cv cy cz d false (dc++[cl]) x0 x1 true x3 x4 (w (x+1))=some r))else(XK m q cp dd cc cd cl cn co cu cv cy cz d fr dc x0 x1 false x3 x4 (w (x+1))=some r))else(if x=3 then(if x3=true then(dc.length+1<=68719476736/\(XK m q cp dd cc cd cl cn co cu cv cy cz d false (dc++[cn]) x0 x1 x2 true x4 (w (x+1))=some r))else(XK m q cp dd cc cd cl cn co cu cv cy cz d fr dc x0 x1 x2 false x4 (w (x+1))=some r))else(if x=4 then(if x4=true then(dc.length+1<=68719476736/\(XK m q cp dd cc cd cl cn co cu cv cy cz d false (dc++[co]) x0 x1 x2 x3 true (w (x+1))=some r))else(XK m q cp dd cc cd cl cn co cu cv cy cz d fr dc x0 x1 x2 x3 false (w (x+1))=some r))else False)))))else(some (.own 1,[We m q cp dd cc cd cl cn co cu cv cy cz d,.arr 287 4 fr (dc.map Zb.c)])=some r))):XK m q cp dd cc cd cl cn co cu cv cy cz d fr dc x0 x1 x2 x3 x4 x=some r:=by
 unfold XK
 try simp only[lpz]
 rw[Zn Zqq.eq_1];by_cases q1:x<5
 .rw[Ya q1]at h;by_cases q2:x=0
  .rw[Ya q2]at h;subst q2;by_cases q3:x0=true
   .rw[Ya q3]at h;obtain⟨q4,h⟩:=h;have rq4:=Vw (b:=48) q4 (by omega);have sq4:=Vx q4
    try simp[*]at rq4
    try simp[*]at sq4
    refine Ye ?_ h;clear h;simp +decide[*,tI,tII,XK,Kf,lpz]
   .rw[Yb q3]at h;refine Ye ?_ h;clear h;simp +decide[*,tI,tII,XK,Kf,lpz]
  .rw[Yb q2]at h;replace q2:=eq_false q2;by_cases q5:x=1
   .rw[Ya q5]at h;subst q5;by_cases q6:x1=true
    .rw[Ya q6]at h;obtain⟨q7,h⟩:=h;have rq7:=Vw (b:=48) q7 (by omega);have sq7:=Vx q7
     try simp[*]at rq7
     try simp[*]at sq7
     refine Ye ?_ h;clear h;simp +decide[*,tI,tII,XK,Kf,lpz]
    .rw[Yb q6]at h;refine Ye ?_ h;clear h;simp +decide[*,tI,tII,XK,Kf,lpz]
   .rw[Yb q5]at h;replace q5:=eq_false q5;by_cases q8:x=2
    .rw[Ya q8]at h;subst q8;by_cases q9:x2=true
     .rw[Ya q9]at h;obtain⟨q10,h⟩:=h;have rq10:=Vw (b:=48) q10 (by omega);have sq10:=Vx q10
      try simp[*]at rq10
      try simp[*]at sq10
      refine Ye ?_ h;clear h;simp +decide[*,tI,tII,XK,Kf,lpz]
     .rw[Yb q9]at h;refine Ye ?_ h;clear h;simp +decide[*,tI,tII,XK,Kf,lpz]
    .rw[Yb q8]at h;replace q8:=eq_false q8;by_cases q11:x=3
     .rw[Ya q11]at h;subst q11;by_cases q12:x3=true
      .rw[Ya q12]at h;obtain⟨q13,h⟩:=h;have rq13:=Vw (b:=48) q13 (by omega);have sq13:=Vx q13
       try simp[*]at rq13
       try simp[*]at sq13
       refine Ye ?_ h;clear h;simp +decide[*,tI,tII,XK,Kf,lpz]
      .rw[Yb q12]at h;refine Ye ?_ h;clear h;simp +decide[*,tI,tII,XK,Kf,lpz]
     .rw[Yb q11]at h;replace q11:=eq_false q11;by_cases q14:x=4
      .rw[Ya q14]at h;subst q14;by_cases q15:x4=true
       .rw[Ya q15]at h;obtain⟨q16,h⟩:=h;have rq16:=Vw (b:=48) q16 (by omega);have sq16:=Vx q16
        try simp[*]at rq16
        try simp[*]at sq16
        refine Ye ?_ h;clear h;simp +decide[*,tI,tII,XK,Kf,lpz]
       .rw[Yb q15]at h;refine Ye ?_ h;clear h;simp +decide[*,tI,tII,XK,Kf,lpz]
      .rw[Yb q14]at h;replace q14:=eq_false q14;cases h
 .rw[Yb q1]at h;refine Ye ?_ h;clear h;simp +decide[*,tI,tII,Zqr,lpz]
def ZFt:((iM Zap λm q fr table fr1 out x sizes x1 x2 r=>if x2<x1 then qG x x2 (λu1=>qL (⟨0,0,0,(⟨[]⟩:Zg)⟩:Zb) λk1=>qL (ZzQ m q fr table fr1 out) λk5=>qL (Zgq q u1) λk7=>qL (k7=some (.t .nil,[])/\r (k5 m q sizes u1 k1 k1 k1 k1 k1 false false false false false x sizes u1 x1 x2 0 0)) λk2=>qL (ZbE m q fr table fr1 out) λk6=>qL (k6 m q sizes u1 k1 k1 k1 k1 k1 false false false false false x) λk3=>(Zdj u1=some (.t .nil,[])/\(k2\/(qs2 k7 (λu2=>r (k3 u2 sizes u1 x1 x2 (u2.length:Int) 0)))))\/(qs2 (Zdj u1) (λu2=>if(u2.length:Int)=1 then ∃u3,u2[0]?=some u3/\qs4 (Zgp u3) (λu4=>qG q.Atoms u3 (λu5=>∃u6,u5.Vars[0]?=some u6/\(qL (Jy m q sizes u1 k1 k1 k1 k1 k1 false false false false false u4 u6) λk4=>(Jn k4 (λu7 u8 u9 u10 u11 u12 u13 u14 u15 u16 u17 u18 u19 u20=>(k7=some (.t .nil,[])/\r (k5 u7 u8 u9 u10 u11 u12 u13 u14 u15 u16 u17 u18 u19 u20 x sizes u1 x1 x2 0 0))\/(qs2 k7 (λu21=>r (k6 u7 u8 u9 u10 u11 u12 u13 u14 u15 u16 u17 u18 u19 u20 x u21 sizes u1 x1 x2 (u21.length:Int) 0)))))\/(Jo k4 (λu7 u8 u9 u10 u11 u12 u13 u14 u15 u16 u17 u18 u19 u20 u21=>(k7=some (.t .nil,[])/\r (k5 u7 u8 u9 u10 u11 u12 u13 u14 u15 u16 u17 u18 u19 u20 x sizes u1 x1 x2 0 0))\/(qs2 k7 (λu22=>r (k6 u7 u8 u9 u10 u11 u12 u13 u14 u15 u16 u17 u18 u19 u20 x u22 sizes u1 x1 x2 (u22.length:Int) 0))))))))else k2\/(qs2 k7 (λu3=>r (k3 u3 sizes u1 x1 x2 (u3.length:Int) 0))))))else r (Zgw fr1 out (out.length:Int) 0))/\
 (iM ZbE λm q fr table fr1 out m_1 q_1 sizes mask list0 list1 list2 list3 list4 some0 some1 some2 some3 some4 x x1 sizes1 mask1 x2 x3 x4 x5 r=>if x5<x4 then qG x1 x5 (λu1=>qG table u1 (λu2=>0<=(KA mask1 u1)/\∃u3,table[(KA mask1 u1).toNat]?=some u3/\∃(u4:Zb),ZbB u3=some (.agg (u4.c.map .t),[])/\∃(u5:Zb),ZbB u2=some (.agg (u5.c.map .t),[])/\qs4 (KJ u5.Zg u4.Zg 3 0) (λu6=>qL (Jy m_1 q_1 sizes mask list0 list1 list2 list3 list4 some0 some1 some2 some3 some4 u6 (-1)) λk1=>qL (Zdn m q fr table fr1 out) λk2=>(Jn k1 (λu7 u8 u9 u10 u11 u12 u13 u14 u15 u16 u17 u18 u19 u20=>r (k2 u7 u8 u9 u10 u11 u12 u13 u14 u15 u16 u17 u18 u19 u20 u4.Zg x x1 sizes1 mask1 u1 u2 u3 x2 x3 x4 x5 u2 (u2.length:Int) 0)))\/(Jo k1 (λu7 u8 u9 u10 u11 u12 u13 u14 u15 u16 u17 u18 u19 u20 u21=>r (k2 u7 u8 u9 u10 u11 u12 u13 u14 u15 u16 u17 u18 u19 u20 u4.Zg x x1 sizes1 mask1 u1 u2 u3 x2 x3 x4 x5 u2 (u2.length:Int) 0))))))else ∃u1,∃(u2:List Zb),Zgt m_1 q_1 sizes mask list0 list1 list2 list3 list4 some0 some1 some2 some3 some4=some (.own 1,[We m_1 q_1 sizes mask list0 list1 list2 list3 list4 some0 some1 some2 some3 some4,.arr 287 4 u1 (u2.map Zb.c)])/\qG table mask1 (λu3=>out.length+u2.length<=68719476736/\r (Zap m q (fr && u1) (table.set mask1.toNat u2) (fr1 && flat (u2.map Zb.c)) (out++u2) x sizes1 x2 (w (x3+1))))))/\
 ((iM Zgw λfr out x x1 r=>if x1<x then qG out x1 (λu1=>qs4 (Ka u1.Zg) (λu2=>r (Zgw fr (out.set x1.toNat (⟨u1.Mask,u1.Order,u1.Cost,(⟨u2⟩:Zg)⟩:Zb)) x (w (x1+1)))))else r (some (.own 0,[.arr 287 4 fr (out.map Zb.c)])))/\
 ((iM Zdn λm q fr table fr1 out m_1 q_1 sizes mask list0 list1 list2 list3 list4 some0 some1 some2 some3 some4 y x x1 sizes1 mask1 x2 left right x3 x4 x5 x6 x7 x8 x9 r=>if x9<x8 then qG x7 x9 (λu1=>qs4 (KJ u1.Zg y 5 0) (λu2=>qL (Jy m_1 q_1 sizes mask list0 list1 list2 list3 list4 some0 some1 some2 some3 some4 u2 u1.Order) λk1=>qL (Zdn m q fr table fr1 out) λk2=>(Jn k1 (λu3 u4 u5 u6 u7 u8 u9 u10 u11 u12 u13 u14 u15 u16=>r (k2 u3 u4 u5 u6 u7 u8 u9 u10 u11 u12 u13 u14 u15 u16 y x x1 sizes1 mask1 x2 left right x3 x4 x5 x6 x7 x8 (w (x9+1)))))\/(Jo k1 (λu3 u4 u5 u6 u7 u8 u9 u10 u11 u12 u13 u14 u15 u16 u17=>r (k2 u3 u4 u5 u6 u7 u8 u9 u10 u11 u12 u13 u14 u15 u16 y x x1 sizes1 mask1 x2 left right x3 x4 x5 x6 x7 x8 (w (x9+1)))))))else qs2 (ZbC q x2 (KA mask1 x2)) (λu1=>r (Zdo m q fr table fr1 out m_1 q_1 sizes mask list0 list1 list2 list3 list4 some0 some1 some2 some3 some4 x x1 u1 sizes1 mask1 left right x3 x4 x5 x6 (u1.length:Int) 0)))/\
 (iM Zdo λm q fr table fr1 out m_1 q_1 sizes mask list0 list1 list2 list3 list4 some0 some1 some2 some3 some4 x x1 x2 sizes1 mask1 left right x3 x4 x5 x6 x7 x8 r=>if x8<x7 then qG x2 x8 (λu1=>qL (Jy m_1 q_1 sizes mask list0 list1 list2 list3 list4 some0 some1 some2 some3 some4) λk1=>qL (Zdo m q fr table fr1 out) λk2=>qL (w (x8+1)) λk3=>qL (ZbD m q sizes1) λk5=>qL (k5 right u1) λk4=>(∃(u2:Zg),k5 left u1=some (.agg (u2.c.map .t),[])/\((∃(u3:Zg),k4=some (.agg (u3.c.map .t),[])/\qs4 (KJ u2 u3 4 u1) (λu4=>(Jn (k1 u4 u1) (λu5 u6 u7 u8 u9 u10 u11 u12 u13 u14 u15 u16 u17 u18=>r (k2 u5 u6 u7 u8 u9 u10 u11 u12 u13 u14 u15 u16 u17 u18 x x1 x2 sizes1 mask1 left right x3 x4 x5 x6 x7 k3)))\/(Jo (k1 u4 u1) (λu5 u6 u7 u8 u9 u10 u11 u12 u13 u14 u15 u16 u17 u18 u19=>r (k2 u5 u6 u7 u8 u9 u10 u11 u12 u13 u14 u15 u16 u17 u18 x x1 x2 sizes1 mask1 left right x3 x4 x5 x6 x7 k3)))))\/(qs4 k4 (λu3=>qs4 (KJ u2 (⟨u3⟩:Zg) 4 u1) (λu4=>(Jn (k1 u4 u1) (λu5 u6 u7 u8 u9 u10 u11 u12 u13 u14 u15 u16 u17 u18=>r (k2 u5 u6 u7 u8 u9 u10 u11 u12 u13 u14 u15 u16 u17 u18 x x1 x2 sizes1 mask1 left right x3 x4 x5 x6 x7 k3)))\/(Jo (k1 u4 u1) (λu5 u6 u7 u8 u9 u10 u11 u12 u13 u14 u15 u16 u17 u18 u19=>r (k2 u5 u6 u7 u8 u9 u10 u11 u12 u13 u14 u15 u16 u17 u18 x x1 x2 sizes1 mask1 left right x3 x4 x5 x6 x7 k3))))))))\/(qs4 (k5 left u1) (λu2=>(∃(u3:Zg),k4=some (.agg (u3.c.map .t),[])/\qs4 (KJ (⟨u2⟩:Zg) u3 4 u1) (λu4=>(Jn (k1 u4 u1) (λu5 u6 u7 u8 u9 u10 u11 u12 u13 u14 u15 u16 u17 u18=>r (k2 u5 u6 u7 u8 u9 u10 u11 u12 u13 u14 u15 u16 u17 u18 x x1 x2 sizes1 mask1 left right x3 x4 x5 x6 x7 k3)))\/(Jo (k1 u4 u1) (λu5 u6 u7 u8 u9 u10 u11 u12 u13 u14 u15 u16 u17 u18 u19=>r (k2 u5 u6 u7 u8 u9 u10 u11 u12 u13 u14 u15 u16 u17 u18 x x1 x2 sizes1 mask1 left right x3 x4 x5 x6 x7 k3)))))\/(qs4 k4 (λu3=>qs4 (KJ (⟨u2⟩:Zg) (⟨u3⟩:Zg) 4 u1) (λu4=>(Jn (k1 u4 u1) (λu5 u6 u7 u8 u9 u10 u11 u12 u13 u14 u15 u16 u17 u18=>r (k2 u5 u6 u7 u8 u9 u10 u11 u12 u13 u14 u15 u16 u17 u18 x x1 x2 sizes1 mask1 left right x3 x4 x5 x6 x7 k3)))\/(Jo (k1 u4 u1) (λu5 u6 u7 u8 u9 u10 u11 u12 u13 u14 u15 u16 u17 u18 u19=>r (k2 u5 u6 u7 u8 u9 u10 u11 u12 u13 u14 u15 u16 u17 u18 x x1 x2 sizes1 mask1 left right x3 x4 x5 x6 x7 k3)))))))))else r (ZbE m q fr table fr1 out m_1 q_1 sizes mask list0 list1 list2 list3 list4 some0 some1 some2 some3 some4 x x1 sizes1 mask1 x3 x4 x5 (w (x6+1)))))):=by
 refine qu ?_
 and_intros
 all_goals(intros;unfold Im;(try simp only[Zap,ZbE,Zgw,Zdn,Zdo,Zdj,Zgq,Zgp,Jy,Za.c_def,Z0.c_def,Zg.c_def,Zb.c_def,Zh.c_def,Zj.c_def,Z9n,ZbB,KJ,Zgt,Ka,ZbC,ZbD,ZzQ,lpz,Zk3,Zq3,Zk4,mpl,dfs]);(try simp only[itb]);(try simp only[itf,gS,kk]))
 all_goals(repeat' first|refine exI λ_=>?_|refine anJ λ_ _=>?_|refine anI λ_=>?_|refine orE2 ?_ ?_|exact False.elim)
 all_goals(intro h;first|rw[Zn Zk1.eq_1]|rw[Zn Zgv.eq_1]|rw[Zn Zq0.eq_1]|rw[Zn Zqv.eq_1]|rw[Zn Zqw.eq_1])
 all_goals (refine Ye ?_ h;clear h;simp +decide[*,kk,tI,tII,ZzP,Zq2,Zqz,Zqy,Zq1,Zqx,Zk0])
abbrev KM:=uq ZFt
def ZFu{a:Za}{a1:Zj}{a2:V6}{r:V3}(h:(∃(v:Bool),Ju a=some (Bo v,[])/\(if v=true then(∃(v1:Bool),Zdh a1 a2=some (Bo v1,[])/\(if v1=true then(∃(v2:Int),VJ a1=some (I v2,[])/\(0<=(w (v2+1))/\((w (v2+1))<=(w (v2+1))/\((w (v2+1)).toNat*24<=room/\((w (v2+1))<=140737488355328/\(∃(v3:V6),Zgo a1=some (.own 0,[.arr 3 1 true (v3.map ic)])/\(Zap a a1 true (List.replicate ((w (v2+1))).toNat ([])) true ([]:List Zb) v3 a2 (v3.length:Int) 0=some r)))))))else(some (.t .nil,[])=some r)))else(some (.t .nil,[])=some r)))):Zdm a a1 a2=some r:=by
 unfold Zdm
 try simp only[lpz]
 refine run ZCZ rfl ?_;obtain⟨v,q1,h⟩:=h;unfold Ju at q1
 try simp[lpz]at q1
 by_cases q2:v=true
 .rw[Ya q2]at h;obtain⟨v1,q3,h⟩:=h;unfold Zdh at q3
  try simp[lpz]at q3
  by_cases q4:v1=true
  .rw[Ya q4]at h;obtain⟨v2,q5,h⟩:=h;unfold VJ at q5
   try simp[lpz]at q5
   obtain⟨q6,h⟩:=h;obtain⟨q7,h⟩:=h;obtain⟨q8,h⟩:=h;have zq8:=q8;try simp[lpz]at zq8
   obtain⟨q9,h⟩:=h;obtain⟨v3,q10,h⟩:=h;unfold Zgo at q10
   try simp[lpz]at q10
   refine Ye ?_ h;clear h;simp +decide[*,Zk2,tI,tII,Zap,Zk3,lpz]
  .rw[Yb q4]at h;refine Ye ?_ h;clear h;simp +decide[*,Zk2,tI,tII,lpz]
 .rw[Yb q2]at h;refine Ye ?_ h;clear h;simp +decide[*,Zk2,tI,tII,lpz]
def ZFv:((iM Zdp λMask Order Cost best fr x x1 x2 r=>if x2<x1 then qG x x2 (λu1=>if u1.Cost<best.Cost then r (Zdp Mask Order Cost u1 fr x x1 (w (x2+1)))else r (Zdp Mask Order Cost best fr x x1 (w (x2+1))))else r (some (.agg (best.c.map .t),[.arr 287 4 fr (x.map Zb.c)])))/\
 ((iM Zk6 λfr x r=>∃u1,x[0]?=some u1/\r (Zdp 0 0 0 u1 fr x (x.length:Int) 0))/\
 (iM Zdq λMask Order Cost fr x mask x1 x2 x3 r=>if x3<x2 then qG x1 x3 (λu1=>if u1.Mask=mask then qN x (r (Zdq Mask Order Cost false (x++[u1]) mask x1 x2 (w (x3+1))))else r (Zdq Mask Order Cost fr x mask x1 x2 (w (x3+1))))else if(x.length:Int)=0 then Zj0 r else ∃(u1:Zb),Zk6 fr x=some (.agg (u1.c.map .t),[.arr 287 4 fr (x.map Zb.c)])/\qs4 (Ka u1.Zg) (λu2=>ZcG u1.Mask u1.Order u1.Cost u2 r))))/\
 ((iM Zgx λa a1 r=>r (Zdq 0 0 0 true ([]:List Zb) a1 a (a.length:Int) 0))/\
 ((iM Zgy λa a1 a2 r=>(Zdm a a1 a2=some (.t .nil,[])/\qI (VJ a1) (λu1=>(ZcH (Zq6 u1) (λu2 u3 u4=>r (some (.tup [.agg [I u2,I u3,I u4,.t .nil],Bo false],[]))))\/(ZcI (Zq6 u1) (λu2 u3 u4 u5=>ZcG u3 u4 u5 u2 r))))\/(∃u1,∃(u2:List Zb),Zdm a a1 a2=some (.own 0,[.arr 287 4 u1 (u2.map Zb.c)])/\qI (VJ a1) (λu3=>(ZcH (Zgx u2 u3) (λu4 u5 u6=>r (some (.tup [.agg [I u4,I u5,I u6,.t .nil],Bo false],[]))))\/(ZcI (Zgx u2 u3) (λu4 u5 u6 u7=>ZcG u5 u6 u7 u4 r)))))/\
 (iM Zgz λa a1 a2 r=>(ZcH (Zgy a a1 a2) (λu1 u2 u3=>qi (-1) r))\/(ZcI (Zgy a a1 a2) (λu1 u2 u3 u4=>qi u4 r))))):=by
 refine qu ?_
 and_intros
 all_goals(intros;unfold Im;(try simp only[Zdp,Zk6,Zdq,Zgx,Zgy,Zgz,Ka,Zg.c_def,Zb.c_def,Zdm,VJ,Zq6,Za.c_def,Z0.c_def,Zj.c_def,lpz,mpl,dfs]);(try simp only[itb]);(try simp only[itf,gS,kk]))
 all_goals(repeat' first|refine exI λ_=>?_|refine anJ λ_ _=>?_|refine anI λ_=>?_|refine orE2 ?_ ?_|exact False.elim)
 all_goals(intro h;first|rw[Zn Zgr.eq_1]|refine XR Z21 rfl ?_|rw[Zn Zq4.eq_1]|refine run ZDa rfl ?_|refine run ZDb rfl ?_|refine run ZDc rfl ?_)
 all_goals (refine Ye ?_ h;clear h;simp +decide[*,kk,tI,tII,Zqo,Zgs,Zqp,ZzR,Zq5,ZzS,ZzT,ZzU])
abbrev Za3:=uq ZFv
