/-
  Parts of the proofs for this seat: G16 G17 G18.
-/
import Derived.Test.YthpdbpfamhcgiaaGreatP13
import Derived.Test.YthpdbpfamhcgiaaGreatP14
set_option linter.all false
set_option maxRecDepth 100000
set_option maxHeartbeats 4000000
namespace Go.Proofs.YthpdbpfamhcgiaaGreat
open Go.AM
def ZL2:(((iM ZfA λMask Zl Zv best x x1 x2 r=>if x2<x1 then qG x x2 (λu1=>if u1.Zv<best.Zv then r (ZfA Mask Zl Zv u1 x x1 (w (x2+1)))else r (ZfA Mask Zl Zv best x x1 (w (x2+1))))else r (some (.agg (best.c.map .t),[])))/\
 (iM Zdw λa r=>∃u1,a[0]?=some u1/\r (ZfA 0 0 0 u1 a (a.length:Int) 0)))/\
 ((iM Za0 λa r=>qM a.Steps (J5 a.Steps r))/\
 ((iM JD λa a1 a2 a3 r=>qs7 (Za0 a) (λu1=>u1.length+a1.Steps.length<=68719476736/\u1.length+a1.Steps.length+1<=68719476736/\J5 ((u1++a1.Steps)++[(⟨a2,0,a3⟩:Zj)]) r))/\
 (iM ZjF λm q sizes mask list0 list1 list2 list3 list4 some0 some1 some2 some3 some4 r=>r (Wx m q sizes mask list0 list1 list2 list3 list4 some0 some1 some2 some3 some4 true ([]:List Zd) some0 some1 some2 some3 some4 0)))))/\
 (((iM Za1 λa a1 r=>qB (ZeV a a1) (qs2 (Ki a a1) (λu2=>qs3 u2 r)) (KG r))/\
 (iM Zdx λa a1 a2 r=>(qs2 (Za1 a a1) (λu1=>(qs2 (Za1 a a2) (λu2=>qs2 (Zbo u1 u2) (λu3=>qs3 u3 r)))\/(Za1 a a2=some (.t .nil,[])/\qs2 (Z6g u1) (λu2=>qs3 u2 r))))\/(Za1 a a1=some (.t .nil,[])/\((qs2 (Za1 a a2) (λu1=>qs2 (Z6h u1) (λu2=>qs3 u2 r)))\/(Za1 a a2=some (.t .nil,[])/\qs2 Z6i (λu1=>qs3 u1 r))))))/\
 ((iM ZnQ λa a1 r=>qs7 (Za0 a) (λu1=>qN u1 (J5 (u1++[(⟨2,0,a1⟩:Zj)]) r)))/\
 ((iM ZjG λm q x sizes v x1 x2 x3 r=>if x3<x2 then qG x1 x3 (λu1=>qL (r (ZjG m q x sizes v x1 x2 (w (x3+1)))) λk1=>if u1.Zl=v then qI (Zdu m q (⟨x⟩:Zg) sizes) (λu2=>if u1.Zv<=u2 then r (some (.agg (u1.Zg.c.map .t),[]))else k1)else k1)else J5 x r)/\
 (iM Zdy λa a1 a2 a3 a4 r=>∃(u1:Zd),Zdw a3=some (.agg (u1.c.map .t),[])/\if u1.Zl=a4 then r (some (.agg (u1.Zg.c.map .t),[]))else qs7 (ZnQ u1.Zg a4) (λu2=>r (ZjG a a1 u2 a2 a4 a3 (a3.length:Int) 0)))))):=by
 refine qu ?_
 and_intros
 all_goals(intros;unfold Im;(try simp only[ZfA,Zdw,Za0,JD,ZjF,Za1,Zdx,ZnQ,ZjG,Zdy,Zg.c_def,ZeV,Ki,Zf.c_def,Zbo,Z6g,Z6h,Z6i,Zdu,Zn.c_def,Z8.c_def,Zd.c_def,Wx,lpz,mpl,dfs]);(try simp only[itb]);(try simp only[itf,gS,kk]))
 all_goals(repeat' first|refine exI λ_=>?_|refine anJ λ_ _=>?_|refine anI λ_=>?_|refine orE2 ?_ ?_|exact False.elim)
 all_goals(intro h;first|rw[Zr ZjD.eq_1]|refine run Z8H rfl ?_|refine run ZIR rfl ?_|refine run ZIS rfl ?_|refine W8 ZIT rfl ?_|refine run ZIU rfl ?_|refine run ZIV rfl ?_|refine run ZIW rfl ?_|rw[Zr Zvy.eq_1]|refine run ZIX rfl ?_)
 all_goals (refine Yd ?_ h;clear h;simp +decide[*,kk,tI,tII,Zvt,ZjE,Zvu,Z6c,Z6d,Z6e,Z6f,Z6j,Z6k,Zvz,Z6l])
abbrev UY:=uq ZL2
def Jd{m:Zn}{q:Zf}{cp:V6}{dd:Int}{cc cd cl cn co:Zd}{cu cv cy cz d fr:Bool}{dc:List Zd}{x0 x1 x2 x3 x4:Bool}{x:Int}{r:V3}(h:(if x<5 then(if x=0 then(if x0=true then(dc.length+1<=68719476736/\(Wx m q cp dd cc cd cl cn co cu cv cy cz d false (dc++[cc]) true x1 x2 x3 x4 (w (x+1))=some r))else(Wx m q cp dd cc cd cl cn co cu cv cy cz d fr dc false x1 x2 x3 x4 (w (x+1))=some r))else(if x=1 then(if x1=true then(dc.length+1<=68719476736/\(Wx m q cp dd cc cd cl cn co cu cv cy cz d false (dc++[cd]) x0 true x2 x3 x4 (w (x+1))=some r))else(Wx m q cp dd cc cd cl cn co cu cv cy cz d fr dc x0 false x2 x3 x4 (w (x+1))=some r))else(if x=2 then(if x2=true then(dc.length+1<=68719476736/\(Wx m q cp dd cc cd cl cn co cu cv cy cz d false (dc++[cl]) x0 x1 true x3 x4 (w (x+1))=some r))else(Wx m q cp dd cc cd cl cn co cu cv cy cz d fr dc x0 x1 false x3 x4 (w (x+1))=some r))else(if x=3 then(if x3=true then(dc.length+1<=68719476736/\(Wx m q cp dd cc cd cl cn co cu cv cy cz d false (dc++[cn]) x0 x1 x2 true x4 (w (x+1))=some r))else(Wx m q cp dd cc cd cl cn co cu cv cy cz d fr dc x0 x1 x2 false x4 (w (x+1))=some r))else(if x=4 then(if x4=true then(dc.length+1<=68719476736/\(Wx m q cp dd cc cd cl cn co cu cv cy cz d false (dc++[co]) x0 x1 x2 x3 true (w (x+1))=some r))else(Wx m q cp dd cc cd cl cn co cu cv cy cz d fr dc x0 x1 x2 x3 false (w (x+1))=some r))else False)))))else(some (.own 1,[WF m q cp dd cc cd cl cn co cu cv cy cz d,.arr 328 4 fr (dc.map Zd.c)])=some r))):Wx m q cp dd cc cd cl cn co cu cv cy cz d fr dc x0 x1 x2 x3 x4 x=some r:=by
 unfold Wx
 try simp only[lpz]
 rw[Zr Zvv.eq_1];by_cases q1:x<5
 .rw[Ya q1]at h;by_cases q2:x=0
  .rw[Ya q2]at h;subst q2;by_cases q3:x0=true
   .rw[Ya q3]at h;obtain⟨q4,h⟩:=h;have rq4:=Vb (b:=48) q4 (by omega);have sq4:=Vc q4
    try simp[*]at rq4
    try simp[*]at sq4
    refine Yd ?_ h;clear h;simp +decide[*,tI,tII,Wx,KR,lpz]
   .rw[Yb q3]at h;refine Yd ?_ h;clear h;simp +decide[*,tI,tII,Wx,KR,lpz]
  .rw[Yb q2]at h;replace q2:=eq_false q2;by_cases q5:x=1
   .rw[Ya q5]at h;subst q5;by_cases q6:x1=true
    .rw[Ya q6]at h;obtain⟨q7,h⟩:=h;have rq7:=Vb (b:=48) q7 (by omega);have sq7:=Vc q7
     try simp[*]at rq7
     try simp[*]at sq7
     refine Yd ?_ h;clear h;simp +decide[*,tI,tII,Wx,KR,lpz]
    .rw[Yb q6]at h;refine Yd ?_ h;clear h;simp +decide[*,tI,tII,Wx,KR,lpz]
   .rw[Yb q5]at h;replace q5:=eq_false q5;by_cases q8:x=2
    .rw[Ya q8]at h;subst q8;by_cases q9:x2=true
     .rw[Ya q9]at h;obtain⟨q10,h⟩:=h;have rq10:=Vb (b:=48) q10 (by omega);have sq10:=Vc q10
      try simp[*]at rq10
      try simp[*]at sq10
      refine Yd ?_ h;clear h;simp +decide[*,tI,tII,Wx,KR,lpz]
     .rw[Yb q9]at h;refine Yd ?_ h;clear h;simp +decide[*,tI,tII,Wx,KR,lpz]
    .rw[Yb q8]at h;replace q8:=eq_false q8;by_cases q11:x=3
     .rw[Ya q11]at h;subst q11;by_cases q12:x3=true
      .rw[Ya q12]at h;obtain⟨q13,h⟩:=h;have rq13:=Vb (b:=48) q13 (by omega);have sq13:=Vc q13
       try simp[*]at rq13
       try simp[*]at sq13
       refine Yd ?_ h;clear h;simp +decide[*,tI,tII,Wx,KR,lpz]
      .rw[Yb q12]at h;refine Yd ?_ h;clear h;simp +decide[*,tI,tII,Wx,KR,lpz]
     .rw[Yb q11]at h;replace q11:=eq_false q11;by_cases q14:x=4
      .rw[Ya q14]at h;subst q14;by_cases q15:x4=true
       .rw[Ya q15]at h;obtain⟨q16,h⟩:=h;have rq16:=Vb (b:=48) q16 (by omega);have sq16:=Vc q16
        try simp[*]at rq16
        try simp[*]at sq16
        refine Yd ?_ h;clear h;simp +decide[*,tI,tII,Wx,KR,lpz]
       .rw[Yb q15]at h;refine Yd ?_ h;clear h;simp +decide[*,tI,tII,Wx,KR,lpz]
      .rw[Yb q14]at h;replace q14:=eq_false q14;cases h
 .rw[Yb q1]at h;refine Yd ?_ h;clear h;simp +decide[*,tI,tII,Zvw,lpz]
def ZL3:((iM Zb5 λm q fr table fr1 out x sizes x1 x2 r=>if x2<x1 then qG x x2 (λu1=>qL (⟨0,0,0,(⟨[]⟩:Zg)⟩:Zd) λk1=>qL (Z6n m q fr table fr1 out) λk5=>qL (ZjC q u1) λk7=>qL (k7=some (.t .nil,[])/\r (k5 m q sizes u1 k1 k1 k1 k1 k1 false false false false false x sizes u1 x1 x2 0 0)) λk2=>qL (Zdz m q fr table fr1 out) λk6=>qL (k6 m q sizes u1 k1 k1 k1 k1 k1 false false false false false x) λk3=>(Zf8 u1=some (.t .nil,[])/\(k2\/(qs2 k7 (λu2=>r (k3 u2 sizes u1 x1 x2 (u2.length:Int) 0)))))\/(qs2 (Zf8 u1) (λu2=>if(u2.length:Int)=1 then ∃u3,u2[0]?=some u3/\qs7 (Zj3 u3) (λu4=>qG q.Zb u3 (λu5=>∃u6,u5.Za[0]?=some u6/\(qL (Zaz m q sizes u1 k1 k1 k1 k1 k1 false false false false false u4 u6) λk4=>(Zad k4 (λu7 u8 u9 u10 u11 u12 u13 u14 u15 u16 u17 u18 u19 u20=>(k7=some (.t .nil,[])/\r (k5 u7 u8 u9 u10 u11 u12 u13 u14 u15 u16 u17 u18 u19 u20 x sizes u1 x1 x2 0 0))\/(qs2 k7 (λu21=>r (k6 u7 u8 u9 u10 u11 u12 u13 u14 u15 u16 u17 u18 u19 u20 x u21 sizes u1 x1 x2 (u21.length:Int) 0)))))\/(Zae k4 (λu7 u8 u9 u10 u11 u12 u13 u14 u15 u16 u17 u18 u19 u20 u21=>(k7=some (.t .nil,[])/\r (k5 u7 u8 u9 u10 u11 u12 u13 u14 u15 u16 u17 u18 u19 u20 x sizes u1 x1 x2 0 0))\/(qs2 k7 (λu22=>r (k6 u7 u8 u9 u10 u11 u12 u13 u14 u15 u16 u17 u18 u19 u20 x u22 sizes u1 x1 x2 (u22.length:Int) 0))))))))else k2\/(qs2 k7 (λu3=>r (k3 u3 sizes u1 x1 x2 (u3.length:Int) 0))))))else r (ZjI fr1 out (out.length:Int) 0))/\
 (iM Zdz λm q fr table fr1 out m_1 q_1 sizes mask list0 list1 list2 list3 list4 some0 some1 some2 some3 some4 x x1 sizes1 mask1 x2 x3 x4 x5 r=>if x5<x4 then qG x1 x5 (λu1=>qG table u1 (λu2=>0<=(J4 mask1 u1)/\∃u3,table[(J4 mask1 u1).toNat]?=some u3/\∃(u4:Zd),Zdw u3=some (.agg (u4.c.map .t),[])/\∃(u5:Zd),Zdw u2=some (.agg (u5.c.map .t),[])/\qs7 (JD u5.Zg u4.Zg 3 0) (λu6=>qL (Zaz m_1 q_1 sizes mask list0 list1 list2 list3 list4 some0 some1 some2 some3 some4 u6 (-1)) λk1=>qL (ZfC m q fr table fr1 out) λk2=>(Zad k1 (λu7 u8 u9 u10 u11 u12 u13 u14 u15 u16 u17 u18 u19 u20=>r (k2 u7 u8 u9 u10 u11 u12 u13 u14 u15 u16 u17 u18 u19 u20 u4.Zg x x1 sizes1 mask1 u1 u2 u3 x2 x3 x4 x5 u2 (u2.length:Int) 0)))\/(Zae k1 (λu7 u8 u9 u10 u11 u12 u13 u14 u15 u16 u17 u18 u19 u20 u21=>r (k2 u7 u8 u9 u10 u11 u12 u13 u14 u15 u16 u17 u18 u19 u20 u4.Zg x x1 sizes1 mask1 u1 u2 u3 x2 x3 x4 x5 u2 (u2.length:Int) 0))))))else ∃u1,∃(u2:List Zd),ZjF m_1 q_1 sizes mask list0 list1 list2 list3 list4 some0 some1 some2 some3 some4=some (.own 1,[WF m_1 q_1 sizes mask list0 list1 list2 list3 list4 some0 some1 some2 some3 some4,.arr 328 4 u1 (u2.map Zd.c)])/\qG table mask1 (λu3=>out.length+u2.length<=68719476736/\r (Zb5 m q (fr && u1) (table.set mask1.toNat u2) (fr1 && flat (u2.map Zd.c)) (out++u2) x sizes1 x2 (w (x3+1))))))/\
 ((iM ZjI λfr out x x1 r=>if x1<x then qG out x1 (λu1=>qs7 (Za0 u1.Zg) (λu2=>r (ZjI fr (out.set x1.toNat (⟨u1.Mask,u1.Zl,u1.Zv,(⟨u2⟩:Zg)⟩:Zd)) x (w (x1+1)))))else r (some (.own 0,[.arr 328 4 fr (out.map Zd.c)])))/\
 ((iM ZfC λm q fr table fr1 out m_1 q_1 sizes mask list0 list1 list2 list3 list4 some0 some1 some2 some3 some4 y x x1 sizes1 mask1 x2 left right x3 x4 x5 x6 x7 x8 x9 r=>if x9<x8 then qG x7 x9 (λu1=>qs7 (JD u1.Zg y 5 0) (λu2=>qL (Zaz m_1 q_1 sizes mask list0 list1 list2 list3 list4 some0 some1 some2 some3 some4 u2 u1.Zl) λk1=>qL (ZfC m q fr table fr1 out) λk2=>(Zad k1 (λu3 u4 u5 u6 u7 u8 u9 u10 u11 u12 u13 u14 u15 u16=>r (k2 u3 u4 u5 u6 u7 u8 u9 u10 u11 u12 u13 u14 u15 u16 y x x1 sizes1 mask1 x2 left right x3 x4 x5 x6 x7 x8 (w (x9+1)))))\/(Zae k1 (λu3 u4 u5 u6 u7 u8 u9 u10 u11 u12 u13 u14 u15 u16 u17=>r (k2 u3 u4 u5 u6 u7 u8 u9 u10 u11 u12 u13 u14 u15 u16 y x x1 sizes1 mask1 x2 left right x3 x4 x5 x6 x7 x8 (w (x9+1)))))))else qs2 (Zdx q x2 (J4 mask1 x2)) (λu1=>r (ZfD m q fr table fr1 out m_1 q_1 sizes mask list0 list1 list2 list3 list4 some0 some1 some2 some3 some4 x x1 u1 sizes1 mask1 left right x3 x4 x5 x6 (u1.length:Int) 0)))/\
 (iM ZfD λm q fr table fr1 out m_1 q_1 sizes mask list0 list1 list2 list3 list4 some0 some1 some2 some3 some4 x x1 x2 sizes1 mask1 left right x3 x4 x5 x6 x7 x8 r=>if x8<x7 then qG x2 x8 (λu1=>qL (Zaz m_1 q_1 sizes mask list0 list1 list2 list3 list4 some0 some1 some2 some3 some4) λk1=>qL (ZfD m q fr table fr1 out) λk2=>qL (w (x8+1)) λk3=>qL (Zdy m q sizes1) λk5=>qL (k5 right u1) λk4=>(∃(u2:Zg),k5 left u1=some (.agg (u2.c.map .t),[])/\((∃(u3:Zg),k4=some (.agg (u3.c.map .t),[])/\qs7 (JD u2 u3 4 u1) (λu4=>(Zad (k1 u4 u1) (λu5 u6 u7 u8 u9 u10 u11 u12 u13 u14 u15 u16 u17 u18=>r (k2 u5 u6 u7 u8 u9 u10 u11 u12 u13 u14 u15 u16 u17 u18 x x1 x2 sizes1 mask1 left right x3 x4 x5 x6 x7 k3)))\/(Zae (k1 u4 u1) (λu5 u6 u7 u8 u9 u10 u11 u12 u13 u14 u15 u16 u17 u18 u19=>r (k2 u5 u6 u7 u8 u9 u10 u11 u12 u13 u14 u15 u16 u17 u18 x x1 x2 sizes1 mask1 left right x3 x4 x5 x6 x7 k3)))))\/(qs7 k4 (λu3=>qs7 (JD u2 (⟨u3⟩:Zg) 4 u1) (λu4=>(Zad (k1 u4 u1) (λu5 u6 u7 u8 u9 u10 u11 u12 u13 u14 u15 u16 u17 u18=>r (k2 u5 u6 u7 u8 u9 u10 u11 u12 u13 u14 u15 u16 u17 u18 x x1 x2 sizes1 mask1 left right x3 x4 x5 x6 x7 k3)))\/(Zae (k1 u4 u1) (λu5 u6 u7 u8 u9 u10 u11 u12 u13 u14 u15 u16 u17 u18 u19=>r (k2 u5 u6 u7 u8 u9 u10 u11 u12 u13 u14 u15 u16 u17 u18 x x1 x2 sizes1 mask1 left right x3 x4 x5 x6 x7 k3))))))))\/(qs7 (k5 left u1) (λu2=>(∃(u3:Zg),k4=some (.agg (u3.c.map .t),[])/\qs7 (JD (⟨u2⟩:Zg) u3 4 u1) (λu4=>(Zad (k1 u4 u1) (λu5 u6 u7 u8 u9 u10 u11 u12 u13 u14 u15 u16 u17 u18=>r (k2 u5 u6 u7 u8 u9 u10 u11 u12 u13 u14 u15 u16 u17 u18 x x1 x2 sizes1 mask1 left right x3 x4 x5 x6 x7 k3)))\/(Zae (k1 u4 u1) (λu5 u6 u7 u8 u9 u10 u11 u12 u13 u14 u15 u16 u17 u18 u19=>r (k2 u5 u6 u7 u8 u9 u10 u11 u12 u13 u14 u15 u16 u17 u18 x x1 x2 sizes1 mask1 left right x3 x4 x5 x6 x7 k3)))))\/(qs7 k4 (λu3=>qs7 (JD (⟨u2⟩:Zg) (⟨u3⟩:Zg) 4 u1) (λu4=>(Zad (k1 u4 u1) (λu5 u6 u7 u8 u9 u10 u11 u12 u13 u14 u15 u16 u17 u18=>r (k2 u5 u6 u7 u8 u9 u10 u11 u12 u13 u14 u15 u16 u17 u18 x x1 x2 sizes1 mask1 left right x3 x4 x5 x6 x7 k3)))\/(Zae (k1 u4 u1) (λu5 u6 u7 u8 u9 u10 u11 u12 u13 u14 u15 u16 u17 u18 u19=>r (k2 u5 u6 u7 u8 u9 u10 u11 u12 u13 u14 u15 u16 u17 u18 x x1 x2 sizes1 mask1 left right x3 x4 x5 x6 x7 k3)))))))))else r (Zdz m q fr table fr1 out m_1 q_1 sizes mask list0 list1 list2 list3 list4 some0 some1 some2 some3 some4 x x1 sizes1 mask1 x3 x4 x5 (w (x6+1)))))):=by
 refine qu ?_
 and_intros
 all_goals(intros;unfold Im;(try simp only[Zb5,Zdz,ZjI,ZfC,ZfD,Zf8,ZjC,Zj3,Zaz,Zn.c_def,Z8.c_def,Zg.c_def,Zd.c_def,Zj.c_def,Zf.c_def,ZFe,Zdw,JD,ZjF,Za0,Zdx,Zdy,Z6n,lpz,ZnU,Zv8,ZnV,mpl,dfs]);(try simp only[itb]);(try simp only[itf,gS,kk]))
 all_goals(repeat' first|refine exI λ_=>?_|refine anJ λ_ _=>?_|refine anI λ_=>?_|refine orE2 ?_ ?_|exact False.elim)
 all_goals(intro h;first|rw[Zr ZnS.eq_1]|rw[Zr ZjH.eq_1]|rw[Zr Zv5.eq_1]|rw[Zr Zv0.eq_1]|rw[Zr Zv1.eq_1])
 all_goals (refine Yd ?_ h;clear h;simp +decide[*,kk,tI,tII,Z6m,Zv7,Zv4,Zv3,Zv6,Zv2,ZnR])
abbrev JJ:=uq ZL3
def ZL4{a:Zn}{a1:Zf}{a2:V6}{r:V3}(h:(∃(v:Bool),Zao a=some (Bo v,[])/\(if v=true then(∃(v1:Bool),Zds a1 a2=some (Bo v1,[])/\(if v1=true then(∃(v2:Int),Vd a1=some (I v2,[])/\(0<=(w (v2+1))/\((w (v2+1))<=(w (v2+1))/\((w (v2+1)).toNat*24<=room/\((w (v2+1))<=140737488355328/\(∃(v3:V6),Zdq a1=some (.own 0,[.arr 3 1 true (v3.map ic)])/\(Zb5 a a1 true (List.replicate ((w (v2+1))).toNat ([])) true ([]:List Zd) v3 a2 (v3.length:Int) 0=some r)))))))else(some (.t .nil,[])=some r)))else(some (.t .nil,[])=some r)))):ZfB a a1 a2=some r:=by
 unfold ZfB
 try simp only[lpz]
 refine run ZIY rfl ?_;obtain⟨v,q1,h⟩:=h;unfold Zao at q1
 try simp[lpz]at q1
 by_cases q2:v=true
 .rw[Ya q2]at h;obtain⟨v1,q3,h⟩:=h;unfold Zds at q3
  try simp[lpz]at q3
  by_cases q4:v1=true
  .rw[Ya q4]at h;obtain⟨v2,q5,h⟩:=h;unfold Vd at q5
   try simp[lpz]at q5
   obtain⟨q6,h⟩:=h;obtain⟨q7,h⟩:=h;obtain⟨q8,h⟩:=h;have zq8:=q8;try simp[lpz]at zq8
   obtain⟨q9,h⟩:=h;obtain⟨v3,q10,h⟩:=h;unfold Zdq at q10
   try simp[lpz]at q10
   refine Yd ?_ h;clear h;simp +decide[*,ZnT,tI,tII,Zb5,ZnU,lpz]
  .rw[Yb q4]at h;refine Yd ?_ h;clear h;simp +decide[*,ZnT,tI,tII,lpz]
 .rw[Yb q2]at h;refine Yd ?_ h;clear h;simp +decide[*,ZnT,tI,tII,lpz]
def ZL5:((iM ZfE λMask Zl Zv best fr x x1 x2 r=>if x2<x1 then qG x x2 (λu1=>if u1.Zv<best.Zv then r (ZfE Mask Zl Zv u1 fr x x1 (w (x2+1)))else r (ZfE Mask Zl Zv best fr x x1 (w (x2+1))))else r (some (.agg (best.c.map .t),[.arr 328 4 fr (x.map Zd.c)])))/\
 ((iM ZnX λfr x r=>∃u1,x[0]?=some u1/\r (ZfE 0 0 0 u1 fr x (x.length:Int) 0))/\
 (iM ZfF λMask Zl Zv fr x mask x1 x2 x3 r=>if x3<x2 then qG x1 x3 (λu1=>if u1.Mask=mask then qN x (r (ZfF Mask Zl Zv false (x++[u1]) mask x1 x2 (w (x3+1))))else r (ZfF Mask Zl Zv fr x mask x1 x2 (w (x3+1))))else if(x.length:Int)=0 then Zm9 r else ∃(u1:Zd),ZnX fr x=some (.agg (u1.c.map .t),[.arr 328 4 fr (x.map Zd.c)])/\qs7 (Za0 u1.Zg) (λu2=>ZeL u1.Mask u1.Zl u1.Zv u2 r))))/\
 ((iM ZjJ λa a1 r=>r (ZfF 0 0 0 true ([]:List Zd) a1 a (a.length:Int) 0))/\
 ((iM ZjK λa a1 a2 r=>(ZfB a a1 a2=some (.t .nil,[])/\qI (Vd a1) (λu1=>(Zc0 (ZvB u1) (λu2 u3 u4=>r (some (.tup [.agg [I u2,I u3,I u4,.t .nil],Bo false],[]))))\/(Zc1 (ZvB u1) (λu2 u3 u4 u5=>ZeL u3 u4 u5 u2 r))))\/(∃u1,∃(u2:List Zd),ZfB a a1 a2=some (.own 0,[.arr 328 4 u1 (u2.map Zd.c)])/\qI (Vd a1) (λu3=>(Zc0 (ZjJ u2 u3) (λu4 u5 u6=>r (some (.tup [.agg [I u4,I u5,I u6,.t .nil],Bo false],[]))))\/(Zc1 (ZjJ u2 u3) (λu4 u5 u6 u7=>ZeL u5 u6 u7 u4 r)))))/\
 (iM ZjL λa a1 a2 r=>(Zc0 (ZjK a a1 a2) (λu1 u2 u3=>qi (-1) r))\/(Zc1 (ZjK a a1 a2) (λu1 u2 u3 u4=>qi u4 r))))):=by
 refine qu ?_
 and_intros
 all_goals(intros;unfold Im;(try simp only[ZfE,ZnX,ZfF,ZjJ,ZjK,ZjL,Za0,Zg.c_def,Zd.c_def,ZfB,Vd,ZvB,Zn.c_def,Z8.c_def,Zf.c_def,lpz,mpl,dfs]);(try simp only[itb]);(try simp only[itf,gS,kk]))
 all_goals(repeat' first|refine exI λ_=>?_|refine anJ λ_ _=>?_|refine anI λ_=>?_|refine orE2 ?_ ?_|exact False.elim)
 all_goals(intro h;first|rw[Zr ZjD.eq_1]|refine W8 Z8H rfl ?_|rw[Zr Zv9.eq_1]|refine run ZIZ rfl ?_|refine run ZJa rfl ?_|refine run ZJb rfl ?_)
 all_goals (refine Yd ?_ h;clear h;simp +decide[*,kk,tI,tII,Zvt,ZjE,Zvu,Z6o,ZvA,Z6p,Z6q,Z6r])
abbrev ZbO:=uq ZL5
