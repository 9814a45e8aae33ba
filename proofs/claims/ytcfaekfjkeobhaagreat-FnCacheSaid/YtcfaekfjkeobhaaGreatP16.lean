/-
  Parts of the proofs for this seat: G16 G17 G18.
-/
import Derived.Test.YtcfaekfjkeobhaaGreatP11
set_option linter.unusedSectionVars false
set_option linter.unusedSimpArgs false
set_option linter.unusedVariables false
set_option maxRecDepth 100000
set_option maxHeartbeats 4000000
namespace Go.Proofs.YtcfaekfjkeobhaaGreat
open Go.AM
theorem Zh0:(((∀m cn cc cd x x1 x2 r,Im (Zb4 m cn cc cd x x1 x2=some r) (if x2<x1 then qG x x2 (λe1=>qH cn x2 (λe2=>qG cd e2.Mask (λe3=>if 0<=e2.Left then qH cn e2.Left (λe4=>qG cd e4.Mask (λe5=>if 0<=e2.Right then qH cn e2.Right (λe6=>qG cd e6.Mask (λe7=>Zoy m cn cc e1 cd x2 e5 e7 x x1 x2=some r))else Zoz m cn cc e1 cd x2 e5 0 x x1 x2 false=some r))else if 0<=e2.Right then qH cn e2.Right (λe8=>qG cd e8.Mask (λe9=>Zoy m cn cc e1 cd x2 e3 e9 x x1 x2=some r))else Zoz m cn cc e1 cd x2 e3 0 x x1 x2 false=some r)))else some (.own 0,[.arr 3 1 true (cc.map ic)])=some r))/\
 (∀a a1 a2 a3 r,Im (Zl9 a a1 a2 a3=some r) ((Zjy a1 a2=some (.tup [.t .nil,Bo false],[])/\some (.t .nil,[])=some r)\/(∃(v1:List Zi),Zjy a1 a2=some (.tup [.own 0,Bo true],[.arr 178 4 true (v1.map Zi.c)])/\qB (Zl8 a1 a3) (Zb4 a v1 ([]:List Int) a3 a2.Steps (a2.Steps.length:Int) 0=some r) (some (.t .nil,[])=some r)))))/\
 ((∀n x x1 x2 r,Im (Zs1 n x x1 x2=some r) (if x2<x1 then qG x x2 (λe1=>Zs1 (w (n+e1)) x x1 (w (x2+1))=some r)else qi n r))/\
 ((∀a r,Im (Zs0 a=some r) (Zs1 0 a (a.length:Int) 0=some r))/\
 (∀a a1 a2 a3 r,Im (Zs2 a a1 a2 a3=some r) ((qO 3 1 ic (Ziq a3) (λv=>qI (Zir a a1 a2 v) (λv1=>qi v1 r)))\/(Ziq a3=some (.t .nil,[])/\qI (Zbf3 a a1 a2) (λv2=>qi v2 r)))))))/\
 (((∀q cc cl r,Im (Zo0 q cc cl=some r) (qI (Zd3 q) (λv=>if cl<=v then qB (Zip q cl) (cc.length+1<=68719476736/\Zo0 q (cc++[cl]) (w (cl+1))=some r) (Zo0 q cc (w (cl+1))=some r)else some (.own 0,[.arr 3 1 true (cc.map ic)])=some r)))/\
 (∀a r,Im (Zs3 a=some r) (Zo0 a ([]:List Int) 1=some r)))/\
 ((∀cc cl i r,Im (Zo2 cc cl i=some r) (if i<4 then ¬i<0/\if(andI (shrI cl i) 1)=1 then cc.length+1<=68719476736/\Zo2 (cc++[i]) cl (w (i+1))=some r else Zo2 cc cl (w (i+1))=some r else some (.own 0,[.arr 3 1 true (cc.map ic)])=some r))/\
 ((∀a r,Im (Zo1 a=some r) (qB (Zba a 0 15) (Zo2 ([]:List Int) a 0=some r) (some (.t .nil,[])=some r)))/\
 (∀a r,Im (Zs4 a=some r) (some (.agg [.own 0],[.arr 162 3 true (([(⟨1,a,0⟩:Zb)]).map Zb.c)])=some r))))):=by
 and_intros
 all_goals(intros;unfold Im;(try simp only[Zb4,Zl9,Zs1,Zs0,Zs2,Zo0,Zs3,Zo2,Zo1,Zs4,Zjy,Zl8,Plan.c_def,Zc.c_def,Ziq,Zir,Zbf3,Ze.c_def,Zm.c_def,Zd3,Zip,Zba,Zoy,Zoz,mpl,dfs,qs]);(try simp only[itb]);(try simp only[itf,gS,kk]))
 all_goals(repeat' first|refine exI λ_=>?_|refine anJ λ_ _=>?_|refine anI λ_=>?_|refine orE2 ?_ ?_|exact False.elim)
 all_goals(intro h;first|rw[Zl Zsy.eq_1]|refine run Zbud rfl ?_|rw[Zl Z4j.eq_1]|refine run Zbue rfl ?_|refine run Zbug rfl ?_|rw[Zl Z4m.eq_1]|refine run Zbuh rfl ?_|rw[Zl Z4o.eq_1]|refine run Zbui rfl ?_|refine run Zbuj rfl ?_)
 all_goals (refine Yb ?_ h;clear h;simp +decide[*,kk,tI,tII,Zbf0,Zsz,Zbf1,Z4k,Zbf2,Zbf4,Zbf5,Z4n,Zbf6,Zbf7,Z4p,Zbf8,Zbf9])
abbrev Zbkf:=uq Zh0.1.1.1
abbrev Z6q:=uq Zh0.1.1.2
abbrev Zbkg:=uq Zh0.1.2.1
abbrev Zbzm:=uq Zh0.1.2.2.1
abbrev Zbzn:=uq Zh0.1.2.2.2
abbrev Zbkh:=uq Zh0.2.1.1
abbrev Zbzo:=uq Zh0.2.1.2
abbrev Zbki:=uq Zh0.2.2.1
abbrev Zbzp:=uq Zh0.2.2.2.1
abbrev Zbzq:=uq Zh0.2.2.2.2
theorem Zbzr{m:Ze}{cd:List Zi}{cl:List Int}{x:Zb}{cc:List Int}{i co cn:Int}{x1:List Zb}{x2 x3:Int}{r:AV×List Blk}(h:(Zhw m=some (.bsl 1 5,[.box (m.c.map .t),.box [.ptr 0 0,.ptr 0 6,.ptr 0 12,.ptr 0 18,.ptr 0 24]])/\(if(w (x.Kind-1))=0 then(0<=i/\(∃(e2:Zi),cd[i.toNat]?=some e2/\(0<=e2.Mask/\(∃(e3:Int),cc[e2.Mask.toNat]?=some e3/\(∃(v:Int),Zcl m.Scan co cn e3=some (I v,[])/\(cl.length+1<=68719476736/\(Zb4 m cd (cl++[v]) cc x1 x2 (w (x3+1))=some r)))))))else(if(w (x.Kind-1))=1 then(0<=i/\(∃(e5:Zi),cd[i.toNat]?=some e5/\(0<=e5.Mask/\(∃(e6:Int),cc[e5.Mask.toNat]?=some e6/\(∃(v1:Int),Zcl m.Sort_ co cn e6=some (I v1,[])/\(cl.length+1<=68719476736/\(Zb4 m cd (cl++[v1]) cc x1 x2 (w (x3+1))=some r)))))))else(if(w (x.Kind-1))=2 then(0<=i/\(∃(e8:Zi),cd[i.toNat]?=some e8/\(0<=e8.Mask/\(∃(e9:Int),cc[e8.Mask.toNat]?=some e9/\(∃(v2:Int),Zcl m.Hash co cn e9=some (I v2,[])/\(cl.length+1<=68719476736/\(Zb4 m cd (cl++[v2]) cc x1 x2 (w (x3+1))=some r)))))))else(if(w (x.Kind-1))=3 then(0<=i/\(∃(e11:Zi),cd[i.toNat]?=some e11/\(0<=e11.Mask/\(∃(e12:Int),cc[e11.Mask.toNat]?=some e12/\(∃(v3:Int),Zcl m.Merge co cn e12=some (I v3,[])/\(cl.length+1<=68719476736/\(Zb4 m cd (cl++[v3]) cc x1 x2 (w (x3+1))=some r)))))))else(if(w (x.Kind-1))=4 then(0<=i/\(∃(e14:Zi),cd[i.toNat]?=some e14/\(0<=e14.Mask/\(∃(e15:Int),cc[e14.Mask.toNat]?=some e15/\(∃(v4:Int),Zcl m.Nested co cn e15=some (I v4,[])/\(cl.length+1<=68719476736/\(Zb4 m cd (cl++[v4]) cc x1 x2 (w (x3+1))=some r)))))))else False))))))):Zoy m cd cl x cc i co cn x1 x2 x3=some r:=by
 unfold Zoy;rw[Zhn Zsx.eq_1];obtain⟨q1,h⟩:=h;unfold Zhw at q1
 try simp at q1
 by_cases q2:(w (x.Kind-1))=0
 .rw[if_pos q2]at h;obtain⟨q3,h⟩:=h;obtain⟨e2,q4,h⟩:=h;have gq4:=Zb9 q4;have kq4:=Zcg q4;obtain⟨q5,h⟩:=h;obtain⟨e3,q6,h⟩:=h;have gq6:=Zb9 q6;have kq6:=Zcg q6;obtain⟨v,q7,h⟩:=h;unfold Zcl at q7
  try simp at q7
  obtain⟨q8,h⟩:=h;have rq8:=Zem (b:=8) q8 (by omega);have sq8:=Zen q8
  try simp[*]at rq8
  try simp[*]at sq8
  refine Yb ?_ h;clear h;simp +decide[*,tI,tII,Zb4]
 .rw[if_neg q2]at h;replace q2:=eq_false q2;by_cases q9:(w (x.Kind-1))=1
  .rw[if_pos q9]at h;obtain⟨q10,h⟩:=h;obtain⟨e5,q11,h⟩:=h;have gq11:=Zb9 q11;have kq11:=Zcg q11;obtain⟨q12,h⟩:=h;obtain⟨e6,q13,h⟩:=h;have gq13:=Zb9 q13;have kq13:=Zcg q13;obtain⟨v1,q14,h⟩:=h;unfold Zcl at q14
   try simp at q14
   obtain⟨q15,h⟩:=h;have rq15:=Zem (b:=8) q15 (by omega);have sq15:=Zen q15
   try simp[*]at rq15
   try simp[*]at sq15
   refine Yb ?_ h;clear h;simp +decide[*,tI,tII,Zb4]
  .rw[if_neg q9]at h;replace q9:=eq_false q9;by_cases q16:(w (x.Kind-1))=2
   .rw[if_pos q16]at h;obtain⟨q17,h⟩:=h;obtain⟨e8,q18,h⟩:=h;have gq18:=Zb9 q18;have kq18:=Zcg q18;obtain⟨q19,h⟩:=h;obtain⟨e9,q20,h⟩:=h;have gq20:=Zb9 q20;have kq20:=Zcg q20;obtain⟨v2,q21,h⟩:=h;unfold Zcl at q21
    try simp at q21
    obtain⟨q22,h⟩:=h;have rq22:=Zem (b:=8) q22 (by omega);have sq22:=Zen q22
    try simp[*]at rq22
    try simp[*]at sq22
    refine Yb ?_ h;clear h;simp +decide[*,tI,tII,Zb4]
   .rw[if_neg q16]at h;replace q16:=eq_false q16;by_cases q23:(w (x.Kind-1))=3
    .rw[if_pos q23]at h;obtain⟨q24,h⟩:=h;obtain⟨e11,q25,h⟩:=h;have gq25:=Zb9 q25;have kq25:=Zcg q25;obtain⟨q26,h⟩:=h;obtain⟨e12,q27,h⟩:=h;have gq27:=Zb9 q27;have kq27:=Zcg q27;obtain⟨v3,q28,h⟩:=h;unfold Zcl at q28
     try simp at q28
     obtain⟨q29,h⟩:=h;have rq29:=Zem (b:=8) q29 (by omega);have sq29:=Zen q29
     try simp[*]at rq29
     try simp[*]at sq29
     refine Yb ?_ h;clear h;simp +decide[*,tI,tII,Zb4]
    .rw[if_neg q23]at h;replace q23:=eq_false q23;by_cases q30:(w (x.Kind-1))=4
     .rw[if_pos q30]at h;obtain⟨q31,h⟩:=h;obtain⟨e14,q32,h⟩:=h;have gq32:=Zb9 q32;have kq32:=Zcg q32;obtain⟨q33,h⟩:=h;obtain⟨e15,q34,h⟩:=h;have gq34:=Zb9 q34;have kq34:=Zcg q34;obtain⟨v4,q35,h⟩:=h;unfold Zcl at q35
      try simp at q35
      obtain⟨q36,h⟩:=h;have rq36:=Zem (b:=8) q36 (by omega);have sq36:=Zen q36
      try simp[*]at rq36
      try simp[*]at sq36
      refine Yb ?_ h;clear h;simp +decide[*,tI,tII,Zb4]
     .rw[if_neg q30]at h;replace q30:=eq_false q30;cases h
theorem Zbzs{m:Ze}{cd:List Zi}{cl:List Int}{x:Zb}{cc:List Int}{i co cn:Int}{x1:List Zb}{x2 x3:Int}{x4:Bool}{r:AV×List Blk}(h:(Zhw m=some (.bsl 1 5,[.box (m.c.map .t),.box [.ptr 0 0,.ptr 0 6,.ptr 0 12,.ptr 0 18,.ptr 0 24]])/\(if(w (x.Kind-1))=0 then(0<=i/\(∃(e2:Zi),cd[i.toNat]?=some e2/\(0<=e2.Mask/\(∃(e3:Int),cc[e2.Mask.toNat]?=some e3/\(∃(v:Int),Zcl m.Scan co cn e3=some (I v,[])/\(cl.length+1<=68719476736/\(Zb4 m cd (cl++[v]) cc x1 x2 (w (x3+1))=some r)))))))else(if(w (x.Kind-1))=1 then(0<=i/\(∃(e5:Zi),cd[i.toNat]?=some e5/\(0<=e5.Mask/\(∃(e6:Int),cc[e5.Mask.toNat]?=some e6/\(∃(v1:Int),Zcl m.Sort_ co cn e6=some (I v1,[])/\(cl.length+1<=68719476736/\(Zb4 m cd (cl++[v1]) cc x1 x2 (w (x3+1))=some r)))))))else(if(w (x.Kind-1))=2 then(0<=i/\(∃(e8:Zi),cd[i.toNat]?=some e8/\(0<=e8.Mask/\(∃(e9:Int),cc[e8.Mask.toNat]?=some e9/\(∃(v2:Int),Zcl m.Hash co cn e9=some (I v2,[])/\(cl.length+1<=68719476736/\(Zb4 m cd (cl++[v2]) cc x1 x2 (w (x3+1))=some r)))))))else(if(w (x.Kind-1))=3 then(0<=i/\(∃(e11:Zi),cd[i.toNat]?=some e11/\(0<=e11.Mask/\(∃(e12:Int),cc[e11.Mask.toNat]?=some e12/\(∃(v3:Int),Zcl m.Merge co cn e12=some (I v3,[])/\(cl.length+1<=68719476736/\(Zb4 m cd (cl++[v3]) cc x1 x2 (w (x3+1))=some r)))))))else(if(w (x.Kind-1))=4 then(0<=i/\(∃(e14:Zi),cd[i.toNat]?=some e14/\(0<=e14.Mask/\(∃(e15:Int),cc[e14.Mask.toNat]?=some e15/\(∃(v4:Int),Zcl m.Nested co cn e15=some (I v4,[])/\(cl.length+1<=68719476736/\(Zb4 m cd (cl++[v4]) cc x1 x2 (w (x3+1))=some r)))))))else False))))))):Zoz m cd cl x cc i co cn x1 x2 x3 x4=some r:=by
 unfold Zoz;rw[Zhn Zsx.eq_1];obtain⟨q1,h⟩:=h;unfold Zhw at q1
 try simp at q1
 by_cases q2:(w (x.Kind-1))=0
 .rw[if_pos q2]at h;obtain⟨q3,h⟩:=h;obtain⟨e2,q4,h⟩:=h;have gq4:=Zb9 q4;have kq4:=Zcg q4;obtain⟨q5,h⟩:=h;obtain⟨e3,q6,h⟩:=h;have gq6:=Zb9 q6;have kq6:=Zcg q6;obtain⟨v,q7,h⟩:=h;unfold Zcl at q7
  try simp at q7
  obtain⟨q8,h⟩:=h;have rq8:=Zem (b:=8) q8 (by omega);have sq8:=Zen q8
  try simp[*]at rq8
  try simp[*]at sq8
  refine Yb ?_ h;clear h;simp +decide[*,tI,tII,Zb4]
 .rw[if_neg q2]at h;replace q2:=eq_false q2;by_cases q9:(w (x.Kind-1))=1
  .rw[if_pos q9]at h;obtain⟨q10,h⟩:=h;obtain⟨e5,q11,h⟩:=h;have gq11:=Zb9 q11;have kq11:=Zcg q11;obtain⟨q12,h⟩:=h;obtain⟨e6,q13,h⟩:=h;have gq13:=Zb9 q13;have kq13:=Zcg q13;obtain⟨v1,q14,h⟩:=h;unfold Zcl at q14
   try simp at q14
   obtain⟨q15,h⟩:=h;have rq15:=Zem (b:=8) q15 (by omega);have sq15:=Zen q15
   try simp[*]at rq15
   try simp[*]at sq15
   refine Yb ?_ h;clear h;simp +decide[*,tI,tII,Zb4]
  .rw[if_neg q9]at h;replace q9:=eq_false q9;by_cases q16:(w (x.Kind-1))=2
   .rw[if_pos q16]at h;obtain⟨q17,h⟩:=h;obtain⟨e8,q18,h⟩:=h;have gq18:=Zb9 q18;have kq18:=Zcg q18;obtain⟨q19,h⟩:=h;obtain⟨e9,q20,h⟩:=h;have gq20:=Zb9 q20;have kq20:=Zcg q20;obtain⟨v2,q21,h⟩:=h;unfold Zcl at q21
    try simp at q21
    obtain⟨q22,h⟩:=h;have rq22:=Zem (b:=8) q22 (by omega);have sq22:=Zen q22
    try simp[*]at rq22
    try simp[*]at sq22
    refine Yb ?_ h;clear h;simp +decide[*,tI,tII,Zb4]
   .rw[if_neg q16]at h;replace q16:=eq_false q16;by_cases q23:(w (x.Kind-1))=3
    .rw[if_pos q23]at h;obtain⟨q24,h⟩:=h;obtain⟨e11,q25,h⟩:=h;have gq25:=Zb9 q25;have kq25:=Zcg q25;obtain⟨q26,h⟩:=h;obtain⟨e12,q27,h⟩:=h;have gq27:=Zb9 q27;have kq27:=Zcg q27;obtain⟨v3,q28,h⟩:=h;unfold Zcl at q28
     try simp at q28
     obtain⟨q29,h⟩:=h;have rq29:=Zem (b:=8) q29 (by omega);have sq29:=Zen q29
     try simp[*]at rq29
     try simp[*]at sq29
     refine Yb ?_ h;clear h;simp +decide[*,tI,tII,Zb4]
    .rw[if_neg q23]at h;replace q23:=eq_false q23;by_cases q30:(w (x.Kind-1))=4
     .rw[if_pos q30]at h;obtain⟨q31,h⟩:=h;obtain⟨e14,q32,h⟩:=h;have gq32:=Zb9 q32;have kq32:=Zcg q32;obtain⟨q33,h⟩:=h;obtain⟨e15,q34,h⟩:=h;have gq34:=Zb9 q34;have kq34:=Zcg q34;obtain⟨v4,q35,h⟩:=h;unfold Zcl at q35
      try simp at q35
      obtain⟨q36,h⟩:=h;have rq36:=Zem (b:=8) q36 (by omega);have sq36:=Zen q36
      try simp[*]at rq36
      try simp[*]at sq36
      refine Yb ?_ h;clear h;simp +decide[*,tI,tII,Zb4]
     .rw[if_neg q30]at h;replace q30:=eq_false q30;cases h
theorem Zbzt{a:Ze}{a1:Zc}{a2:Plan}{a3:List Int}{r:AV×List Blk}(h:((Zl9 a a1 a2 a3=some (.t .nil,[])/\(some (I (-1),[])=some r))\/(∃(v:List Int),Zl9 a a1 a2 a3=some (.own 0,[.arr 3 1 true (v.map ic)])/\(v≠[]/\(∃(v1:Int),Zs0 v=some (I v1,[])/\(some (I v1,[])=some r)))))):Zir a a1 a2 a3=some r:=by
 unfold Zir;refine run Zbuf rfl ?_;rcases h with h|h
 .obtain⟨q1,h⟩:=h;unfold Zl9 at q1
  try simp at q1
  refine Yb ?_ h;clear h;simp +decide[*,Z4l,tI,tII]
 .obtain⟨v,q2,h⟩:=h;unfold Zl9 at q2
  try simp at q2
  obtain⟨q3,h⟩:=h;obtain⟨yq3,ysq3,eq3⟩:=List.exists_cons_of_ne_nil q3
  first|subst eq3|skip
  obtain⟨v1,q4,h⟩:=h;unfold Zs0 at q4
  try simp at q4
  refine Yb ?_ h;clear h;simp +decide[*,Z4l,tI,tII]
theorem Zeu{m:Ze}{q:Zc}{cu:List Int}{cp:Int}{cc cd cl cn co:Za}{cv cy cz d dc:Bool}{x:List Zb}{a:Int}{r:AV×List Blk}(h:(∃(v:Int),Zir m q (⟨x⟩:Plan) cu=some (I v,[])/\(if(w (a+1))=0 then(if cv=true then(if v<cc.Cost then(some (.tup [],[.box [I m.Scan.Fixed,I m.Scan.Zq,I m.Scan.Zs,I m.Scan.Zu,I m.Scan.Zt,L 2 (m.Scan.Steps.map Zj.c),I m.Sort_.Fixed,I m.Sort_.Zq,I m.Sort_.Zs,I m.Sort_.Zu,I m.Sort_.Zt,L 2 (m.Sort_.Steps.map Zj.c),I m.Hash.Fixed,I m.Hash.Zq,I m.Hash.Zs,I m.Hash.Zu,I m.Hash.Zt,L 2 (m.Hash.Steps.map Zj.c),I m.Merge.Fixed,I m.Merge.Zq,I m.Merge.Zs,I m.Merge.Zu,I m.Merge.Zt,L 2 (m.Merge.Steps.map Zj.c),I m.Nested.Fixed,I m.Nested.Zq,I m.Nested.Zs,I m.Nested.Zu,I m.Nested.Zt,L 2 (m.Nested.Steps.map Zj.c),I q.Zf,L 2 (q.Atoms.map Atom.c),L 1 (cu.map ic),I cp,I cp,I a,I v,L 3 (x.map Zb.c),I cd.Mask,I cd.Order,I cd.Cost,L 3 (cd.Plan.Steps.map Zb.c),I cl.Mask,I cl.Order,I cl.Cost,L 3 (cl.Plan.Steps.map Zb.c),I cn.Mask,I cn.Order,I cn.Cost,L 3 (cn.Plan.Steps.map Zb.c),I co.Mask,I co.Order,I co.Cost,L 3 (co.Plan.Steps.map Zb.c),Bo true,Bo cy,Bo cz,Bo d,Bo dc],.dead])=some r)else(some (.tup [],[boxO m q cu cp cc cd cl cn co cv cy cz d dc,.arr 162 3 true (x.map Zb.c)])=some r))else(some (.tup [],[.box [I m.Scan.Fixed,I m.Scan.Zq,I m.Scan.Zs,I m.Scan.Zu,I m.Scan.Zt,L 2 (m.Scan.Steps.map Zj.c),I m.Sort_.Fixed,I m.Sort_.Zq,I m.Sort_.Zs,I m.Sort_.Zu,I m.Sort_.Zt,L 2 (m.Sort_.Steps.map Zj.c),I m.Hash.Fixed,I m.Hash.Zq,I m.Hash.Zs,I m.Hash.Zu,I m.Hash.Zt,L 2 (m.Hash.Steps.map Zj.c),I m.Merge.Fixed,I m.Merge.Zq,I m.Merge.Zs,I m.Merge.Zu,I m.Merge.Zt,L 2 (m.Merge.Steps.map Zj.c),I m.Nested.Fixed,I m.Nested.Zq,I m.Nested.Zs,I m.Nested.Zu,I m.Nested.Zt,L 2 (m.Nested.Steps.map Zj.c),I q.Zf,L 2 (q.Atoms.map Atom.c),L 1 (cu.map ic),I cp,I cp,I a,I v,L 3 (x.map Zb.c),I cd.Mask,I cd.Order,I cd.Cost,L 3 (cd.Plan.Steps.map Zb.c),I cl.Mask,I cl.Order,I cl.Cost,L 3 (cl.Plan.Steps.map Zb.c),I cn.Mask,I cn.Order,I cn.Cost,L 3 (cn.Plan.Steps.map Zb.c),I co.Mask,I co.Order,I co.Cost,L 3 (co.Plan.Steps.map Zb.c),Bo true,Bo cy,Bo cz,Bo d,Bo dc],.dead])=some r))else(if(w (a+1))=1 then(if cy=true then(if v<cd.Cost then(some (.tup [],[.box [I m.Scan.Fixed,I m.Scan.Zq,I m.Scan.Zs,I m.Scan.Zu,I m.Scan.Zt,L 2 (m.Scan.Steps.map Zj.c),I m.Sort_.Fixed,I m.Sort_.Zq,I m.Sort_.Zs,I m.Sort_.Zu,I m.Sort_.Zt,L 2 (m.Sort_.Steps.map Zj.c),I m.Hash.Fixed,I m.Hash.Zq,I m.Hash.Zs,I m.Hash.Zu,I m.Hash.Zt,L 2 (m.Hash.Steps.map Zj.c),I m.Merge.Fixed,I m.Merge.Zq,I m.Merge.Zs,I m.Merge.Zu,I m.Merge.Zt,L 2 (m.Merge.Steps.map Zj.c),I m.Nested.Fixed,I m.Nested.Zq,I m.Nested.Zs,I m.Nested.Zu,I m.Nested.Zt,L 2 (m.Nested.Steps.map Zj.c),I q.Zf,L 2 (q.Atoms.map Atom.c),L 1 (cu.map ic),I cp,I cc.Mask,I cc.Order,I cc.Cost,L 3 (cc.Plan.Steps.map Zb.c),I cp,I a,I v,L 3 (x.map Zb.c),I cl.Mask,I cl.Order,I cl.Cost,L 3 (cl.Plan.Steps.map Zb.c),I cn.Mask,I cn.Order,I cn.Cost,L 3 (cn.Plan.Steps.map Zb.c),I co.Mask,I co.Order,I co.Cost,L 3 (co.Plan.Steps.map Zb.c),Bo cv,Bo true,Bo cz,Bo d,Bo dc],.dead])=some r)else(some (.tup [],[boxO m q cu cp cc cd cl cn co cv cy cz d dc,.arr 162 3 true (x.map Zb.c)])=some r))else(some (.tup [],[.box [I m.Scan.Fixed,I m.Scan.Zq,I m.Scan.Zs,I m.Scan.Zu,I m.Scan.Zt,L 2 (m.Scan.Steps.map Zj.c),I m.Sort_.Fixed,I m.Sort_.Zq,I m.Sort_.Zs,I m.Sort_.Zu,I m.Sort_.Zt,L 2 (m.Sort_.Steps.map Zj.c),I m.Hash.Fixed,I m.Hash.Zq,I m.Hash.Zs,I m.Hash.Zu,I m.Hash.Zt,L 2 (m.Hash.Steps.map Zj.c),I m.Merge.Fixed,I m.Merge.Zq,I m.Merge.Zs,I m.Merge.Zu,I m.Merge.Zt,L 2 (m.Merge.Steps.map Zj.c),I m.Nested.Fixed,I m.Nested.Zq,I m.Nested.Zs,I m.Nested.Zu,I m.Nested.Zt,L 2 (m.Nested.Steps.map Zj.c),I q.Zf,L 2 (q.Atoms.map Atom.c),L 1 (cu.map ic),I cp,I cc.Mask,I cc.Order,I cc.Cost,L 3 (cc.Plan.Steps.map Zb.c),I cp,I a,I v,L 3 (x.map Zb.c),I cl.Mask,I cl.Order,I cl.Cost,L 3 (cl.Plan.Steps.map Zb.c),I cn.Mask,I cn.Order,I cn.Cost,L 3 (cn.Plan.Steps.map Zb.c),I co.Mask,I co.Order,I co.Cost,L 3 (co.Plan.Steps.map Zb.c),Bo cv,Bo true,Bo cz,Bo d,Bo dc],.dead])=some r))else(if(w (a+1))=2 then(if cz=true then(if v<cl.Cost then(some (.tup [],[.box [I m.Scan.Fixed,I m.Scan.Zq,I m.Scan.Zs,I m.Scan.Zu,I m.Scan.Zt,L 2 (m.Scan.Steps.map Zj.c),I m.Sort_.Fixed,I m.Sort_.Zq,I m.Sort_.Zs,I m.Sort_.Zu,I m.Sort_.Zt,L 2 (m.Sort_.Steps.map Zj.c),I m.Hash.Fixed,I m.Hash.Zq,I m.Hash.Zs,I m.Hash.Zu,I m.Hash.Zt,L 2 (m.Hash.Steps.map Zj.c),I m.Merge.Fixed,I m.Merge.Zq,I m.Merge.Zs,I m.Merge.Zu,I m.Merge.Zt,L 2 (m.Merge.Steps.map Zj.c),I m.Nested.Fixed,I m.Nested.Zq,I m.Nested.Zs,I m.Nested.Zu,I m.Nested.Zt,L 2 (m.Nested.Steps.map Zj.c),I q.Zf,L 2 (q.Atoms.map Atom.c),L 1 (cu.map ic),I cp,I cc.Mask,I cc.Order,I cc.Cost,L 3 (cc.Plan.Steps.map Zb.c),I cd.Mask,I cd.Order,I cd.Cost,L 3 (cd.Plan.Steps.map Zb.c),I cp,I a,I v,L 3 (x.map Zb.c),I cn.Mask,I cn.Order,I cn.Cost,L 3 (cn.Plan.Steps.map Zb.c),I co.Mask,I co.Order,I co.Cost,L 3 (co.Plan.Steps.map Zb.c),Bo cv,Bo cy,Bo true,Bo d,Bo dc],.dead])=some r)else(some (.tup [],[boxO m q cu cp cc cd cl cn co cv cy cz d dc,.arr 162 3 true (x.map Zb.c)])=some r))else(some (.tup [],[.box [I m.Scan.Fixed,I m.Scan.Zq,I m.Scan.Zs,I m.Scan.Zu,I m.Scan.Zt,L 2 (m.Scan.Steps.map Zj.c),I m.Sort_.Fixed,I m.Sort_.Zq,I m.Sort_.Zs,I m.Sort_.Zu,I m.Sort_.Zt,L 2 (m.Sort_.Steps.map Zj.c),I m.Hash.Fixed,I m.Hash.Zq,I m.Hash.Zs,I m.Hash.Zu,I m.Hash.Zt,L 2 (m.Hash.Steps.map Zj.c),I m.Merge.Fixed,I m.Merge.Zq,I m.Merge.Zs,I m.Merge.Zu,I m.Merge.Zt,L 2 (m.Merge.Steps.map Zj.c),I m.Nested.Fixed,I m.Nested.Zq,I m.Nested.Zs,I m.Nested.Zu,I m.Nested.Zt,L 2 (m.Nested.Steps.map Zj.c),I q.Zf,L 2 (q.Atoms.map Atom.c),L 1 (cu.map ic),I cp,I cc.Mask,I cc.Order,I cc.Cost,L 3 (cc.Plan.Steps.map Zb.c),I cd.Mask,I cd.Order,I cd.Cost,L 3 (cd.Plan.Steps.map Zb.c),I cp,I a,I v,L 3 (x.map Zb.c),I cn.Mask,I cn.Order,I cn.Cost,L 3 (cn.Plan.Steps.map Zb.c),I co.Mask,I co.Order,I co.Cost,L 3 (co.Plan.Steps.map Zb.c),Bo cv,Bo cy,Bo true,Bo d,Bo dc],.dead])=some r))else(if(w (a+1))=3 then(if d=true then(if v<cn.Cost then(some (.tup [],[.box [I m.Scan.Fixed,I m.Scan.Zq,I m.Scan.Zs,I m.Scan.Zu,I m.Scan.Zt,L 2 (m.Scan.Steps.map Zj.c),I m.Sort_.Fixed,I m.Sort_.Zq,I m.Sort_.Zs,I m.Sort_.Zu,I m.Sort_.Zt,L 2 (m.Sort_.Steps.map Zj.c),I m.Hash.Fixed,I m.Hash.Zq,I m.Hash.Zs,I m.Hash.Zu,I m.Hash.Zt,L 2 (m.Hash.Steps.map Zj.c),I m.Merge.Fixed,I m.Merge.Zq,I m.Merge.Zs,I m.Merge.Zu,I m.Merge.Zt,L 2 (m.Merge.Steps.map Zj.c),I m.Nested.Fixed,I m.Nested.Zq,I m.Nested.Zs,I m.Nested.Zu,I m.Nested.Zt,L 2 (m.Nested.Steps.map Zj.c),I q.Zf,L 2 (q.Atoms.map Atom.c),L 1 (cu.map ic),I cp,I cc.Mask,I cc.Order,I cc.Cost,L 3 (cc.Plan.Steps.map Zb.c),I cd.Mask,I cd.Order,I cd.Cost,L 3 (cd.Plan.Steps.map Zb.c),I cl.Mask,I cl.Order,I cl.Cost,L 3 (cl.Plan.Steps.map Zb.c),I cp,I a,I v,L 3 (x.map Zb.c),I co.Mask,I co.Order,I co.Cost,L 3 (co.Plan.Steps.map Zb.c),Bo cv,Bo cy,Bo cz,Bo true,Bo dc],.dead])=some r)else(some (.tup [],[boxO m q cu cp cc cd cl cn co cv cy cz d dc,.arr 162 3 true (x.map Zb.c)])=some r))else(some (.tup [],[.box [I m.Scan.Fixed,I m.Scan.Zq,I m.Scan.Zs,I m.Scan.Zu,I m.Scan.Zt,L 2 (m.Scan.Steps.map Zj.c),I m.Sort_.Fixed,I m.Sort_.Zq,I m.Sort_.Zs,I m.Sort_.Zu,I m.Sort_.Zt,L 2 (m.Sort_.Steps.map Zj.c),I m.Hash.Fixed,I m.Hash.Zq,I m.Hash.Zs,I m.Hash.Zu,I m.Hash.Zt,L 2 (m.Hash.Steps.map Zj.c),I m.Merge.Fixed,I m.Merge.Zq,I m.Merge.Zs,I m.Merge.Zu,I m.Merge.Zt,L 2 (m.Merge.Steps.map Zj.c),I m.Nested.Fixed,I m.Nested.Zq,I m.Nested.Zs,I m.Nested.Zu,I m.Nested.Zt,L 2 (m.Nested.Steps.map Zj.c),I q.Zf,L 2 (q.Atoms.map Atom.c),L 1 (cu.map ic),I cp,I cc.Mask,I cc.Order,I cc.Cost,L 3 (cc.Plan.Steps.map Zb.c),I cd.Mask,I cd.Order,I cd.Cost,L 3 (cd.Plan.Steps.map Zb.c),I cl.Mask,I cl.Order,I cl.Cost,L 3 (cl.Plan.Steps.map Zb.c),I cp,I a,I v,L 3 (x.map Zb.c),I co.Mask,I co.Order,I co.Cost,L 3 (co.Plan.Steps.map Zb.c),Bo cv,Bo cy,Bo cz,Bo true,Bo dc],.dead])=some r))else(if(w (a+1))=4 then(if dc=true then(if v<co.Cost then(some (.tup [],[.box [I m.Scan.Fixed,I m.Scan.Zq,I m.Scan.Zs,I m.Scan.Zu,I m.Scan.Zt,L 2 (m.Scan.Steps.map Zj.c),I m.Sort_.Fixed,I m.Sort_.Zq,I m.Sort_.Zs,I m.Sort_.Zu,I m.Sort_.Zt,L 2 (m.Sort_.Steps.map Zj.c),I m.Hash.Fixed,I m.Hash.Zq,I m.Hash.Zs,I m.Hash.Zu,I m.Hash.Zt,L 2 (m.Hash.Steps.map Zj.c),I m.Merge.Fixed,I m.Merge.Zq,I m.Merge.Zs,I m.Merge.Zu,I m.Merge.Zt,L 2 (m.Merge.Steps.map Zj.c),I m.Nested.Fixed,I m.Nested.Zq,I m.Nested.Zs,I m.Nested.Zu,I m.Nested.Zt,L 2 (m.Nested.Steps.map Zj.c),I q.Zf,L 2 (q.Atoms.map Atom.c),L 1 (cu.map ic),I cp,I cc.Mask,I cc.Order,I cc.Cost,L 3 (cc.Plan.Steps.map Zb.c),I cd.Mask,I cd.Order,I cd.Cost,L 3 (cd.Plan.Steps.map Zb.c),I cl.Mask,I cl.Order,I cl.Cost,L 3 (cl.Plan.Steps.map Zb.c),I cn.Mask,I cn.Order,I cn.Cost,L 3 (cn.Plan.Steps.map Zb.c),I cp,I a,I v,L 3 (x.map Zb.c),Bo cv,Bo cy,Bo cz,Bo d,Bo true],.dead])=some r)else(some (.tup [],[boxO m q cu cp cc cd cl cn co cv cy cz d dc,.arr 162 3 true (x.map Zb.c)])=some r))else(some (.tup [],[.box [I m.Scan.Fixed,I m.Scan.Zq,I m.Scan.Zs,I m.Scan.Zu,I m.Scan.Zt,L 2 (m.Scan.Steps.map Zj.c),I m.Sort_.Fixed,I m.Sort_.Zq,I m.Sort_.Zs,I m.Sort_.Zu,I m.Sort_.Zt,L 2 (m.Sort_.Steps.map Zj.c),I m.Hash.Fixed,I m.Hash.Zq,I m.Hash.Zs,I m.Hash.Zu,I m.Hash.Zt,L 2 (m.Hash.Steps.map Zj.c),I m.Merge.Fixed,I m.Merge.Zq,I m.Merge.Zs,I m.Merge.Zu,I m.Merge.Zt,L 2 (m.Merge.Steps.map Zj.c),I m.Nested.Fixed,I m.Nested.Zq,I m.Nested.Zs,I m.Nested.Zu,I m.Nested.Zt,L 2 (m.Nested.Steps.map Zj.c),I q.Zf,L 2 (q.Atoms.map Atom.c),L 1 (cu.map ic),I cp,I cc.Mask,I cc.Order,I cc.Cost,L 3 (cc.Plan.Steps.map Zb.c),I cd.Mask,I cd.Order,I cd.Cost,L 3 (cd.Plan.Steps.map Zb.c),I cl.Mask,I cl.Order,I cl.Cost,L 3 (cl.Plan.Steps.map Zb.c),I cn.Mask,I cn.Order,I cn.Cost,L 3 (cn.Plan.Steps.map Zb.c),I cp,I a,I v,L 3 (x.map Zb.c),Bo cv,Bo cy,Bo cz,Bo d,Bo true],.dead])=some r))else False))))))):Zc6 m q cu cp cc cd cl cn co cv cy cz d dc x a=some r:=by
 unfold Zc6;refine runM Zbuk rfl ?_;obtain⟨v,q1,h⟩:=h;unfold Zir at q1
 try simp at q1
 by_cases q2:(w (a+1))=0
 .rw[if_pos q2]at h;by_cases q3:cv=true
  .rw[if_pos q3]at h;by_cases q4:v<cc.Cost
   .rw[if_pos q4]at h;refine Yb ?_ h;clear h;simp +decide[*,Zd4,tI,tII]
   .rw[if_neg q4]at h;refine Yb ?_ h;clear h;simp +decide[*,Zd4,tI,tII]
  .rw[if_neg q3]at h;refine Yb ?_ h;clear h;simp +decide[*,Zd4,tI,tII]
 .rw[if_neg q2]at h;replace q2:=eq_false q2;by_cases q5:(w (a+1))=1
  .rw[if_pos q5]at h;by_cases q6:cy=true
   .rw[if_pos q6]at h;by_cases q7:v<cd.Cost
    .rw[if_pos q7]at h;refine Yb ?_ h;clear h;simp +decide[*,Zd4,tI,tII]
    .rw[if_neg q7]at h;refine Yb ?_ h;clear h;simp +decide[*,Zd4,tI,tII]
   .rw[if_neg q6]at h;refine Yb ?_ h;clear h;simp +decide[*,Zd4,tI,tII]
  .rw[if_neg q5]at h;replace q5:=eq_false q5;by_cases q8:(w (a+1))=2
   .rw[if_pos q8]at h;by_cases q9:cz=true
    .rw[if_pos q9]at h;by_cases q10:v<cl.Cost
     .rw[if_pos q10]at h;refine Yb ?_ h;clear h;simp +decide[*,Zd4,tI,tII]
     .rw[if_neg q10]at h;refine Yb ?_ h;clear h;simp +decide[*,Zd4,tI,tII]
    .rw[if_neg q9]at h;refine Yb ?_ h;clear h;simp +decide[*,Zd4,tI,tII]
   .rw[if_neg q8]at h;replace q8:=eq_false q8;by_cases q11:(w (a+1))=3
    .rw[if_pos q11]at h;by_cases q12:d=true
     .rw[if_pos q12]at h;by_cases q13:v<cn.Cost
      .rw[if_pos q13]at h;refine Yb ?_ h;clear h;simp +decide[*,Zd4,tI,tII]
      .rw[if_neg q13]at h;refine Yb ?_ h;clear h;simp +decide[*,Zd4,tI,tII]
     .rw[if_neg q12]at h;refine Yb ?_ h;clear h;simp +decide[*,Zd4,tI,tII]
    .rw[if_neg q11]at h;replace q11:=eq_false q11;by_cases q14:(w (a+1))=4
     .rw[if_pos q14]at h;by_cases q15:dc=true
      .rw[if_pos q15]at h;by_cases q16:v<co.Cost
       .rw[if_pos q16]at h;refine Yb ?_ h;clear h;simp +decide[*,Zd4,tI,tII]
       .rw[if_neg q16]at h;refine Yb ?_ h;clear h;simp +decide[*,Zd4,tI,tII]
      .rw[if_neg q15]at h;refine Yb ?_ h;clear h;simp +decide[*,Zd4,tI,tII]
     .rw[if_neg q14]at h;replace q14:=eq_false q14;cases h
theorem Zbkj:(∀q cc c x r,Im (Zis q cc c x=some r) (if x<c then if(andI x c)=x then qB (Zip q x) (qB (Zip q (Zhm c x)) (cc.length+1<=68719476736/\Zis q (cc++[x]) c (w (x+1))=some r) (Zis q cc c (w (x+1))=some r)) (Zis q cc c (w (x+1))=some r)else Zis q cc c (w (x+1))=some r else some (.own 0,[.arr 3 1 true (cc.map ic)])=some r))/\
 (∀a a1 r,Im (Zga a a1=some r) (qB (Zl3 a a1) (Zis a ([]:List Int) a1 1=some r) (some (.t .nil,[])=some r))):=by
 and_intros
 all_goals(intros;unfold Im;(try simp only[Zis,Zga,Zip,Zc.c_def,Zl3,mpl,dfs,qs]);(try simp only[itb]);(try simp only[itf,gS,kk]))
 all_goals(repeat' first|refine exI λ_=>?_|refine anJ λ_ _=>?_|refine anI λ_=>?_|refine orE2 ?_ ?_|exact False.elim)
 all_goals(intro h;first|rw[Zl Z4q.eq_1]|refine run Zbul rfl ?_)
 all_goals (refine Yb ?_ h;clear h;simp +decide[*,kk,tI,tII,Zbga,Z4r,Zbgb])
abbrev Zbkk:=uq Zbkj.1
abbrev Zbzu:=uq Zbkj.2
theorem Ziz:(((∀cy cd cv best x x1 x2 r,Im (Zo3 cy cd cv best x x1 x2=some r) (if x2<x1 then qG x x2 (λe1=>if e1.Cost<best.Cost then Zo3 cy cd cv e1 x x1 (w (x2+1))=some r else Zo3 cy cd cv best x x1 (w (x2+1))=some r)else some (.agg (best.c.map .t),[])=some r))/\
 (∀a r,Im (Zma a=some r) (∃e1,a[0]?=some e1/\Zo3 0 0 0 e1 a (a.length:Int) 0=some r)))/\
 ((∀a a1 a2 a3 r,Im (Zhx a a1 a2 a3=some r) (∃(v1:List Zb),Zdx a=some (.agg [.own 0],[.arr 162 3 true (v1.map Zb.c)])/\v1.length+a1.Steps.length<=68719476736/\v1.length+a1.Steps.length+1<=68719476736/\some (.agg [.own 0],[.arr 162 3 true (((v1++a1.Steps)++[(⟨a2,0,a3⟩:Zb)]).map Zb.c)])=some r))/\
 (∀m q cc dn cz d dc dd dl cl cn co cp cu r,Im (Zs7 m q cc dn cz d dc dd dl cl cn co cp cu=some r) (Zbx m q cc dn cz d dc dd dl cl cn co cp cu true ([]:List Za) cl cn co cp cu 0=some r))))/\
 (((∀a a1 r,Im (Zit a a1=some r) (qB (Zor a a1) (qO 3 1 ic (Zhv a a1) (λv2=>some (.own 0,[.arr 3 1 true (v2.map ic)])=some r)) (some (.t .nil,[])=some r)))/\
 (∀a a1 a2 r,Im (Zmb a a1 a2=some r) ((qO 3 1 ic (Zit a a1) (λv1=>(qO 3 1 ic (Zit a a2) (λv2=>qO 3 1 ic (Zjx v1 v2) (λv3=>some (.own 0,[.arr 3 1 true (v3.map ic)])=some r)))\/(Zit a a2=some (.t .nil,[])/\qO 3 1 ic (Zbgf v1) (λv4=>some (.own 0,[.arr 3 1 true (v4.map ic)])=some r))))\/(Zit a a1=some (.t .nil,[])/\((qO 3 1 ic (Zit a a2) (λv5=>qO 3 1 ic (Zbgg v5) (λv6=>some (.own 0,[.arr 3 1 true (v6.map ic)])=some r)))\/(Zit a a2=some (.t .nil,[])/\qO 3 1 ic Zbgh (λv7=>some (.own 0,[.arr 3 1 true (v7.map ic)])=some r)))))))/\
 ((∀a a1 r,Im (Zxt a a1=some r) (∃(v1:List Zb),Zdx a=some (.agg [.own 0],[.arr 162 3 true (v1.map Zb.c)])/\v1.length+1<=68719476736/\some (.agg [.own 0],[.arr 162 3 true ((v1++[(⟨2,0,a1⟩:Zb)]).map Zb.c)])=some r))/\
 ((∀m q x cc v x1 x2 x3 r,Im (Zo4 m q x cc v x1 x2 x3=some r) (if x3<x2 then qG x1 x3 (λe1=>if e1.Order=v then qI (Zir m q (⟨x⟩:Plan) cc) (λv2=>if e1.Cost<=v2 then some (.agg (e1.Plan.c.map .t),[])=some r else Zo4 m q x cc v x1 x2 (w (x3+1))=some r)else Zo4 m q x cc v x1 x2 (w (x3+1))=some r)else some (.agg [.own 0],[.arr 162 3 true (x.map Zb.c)])=some r))/\
 (∀a a1 a2 a3 a4 r,Im (Zgb a a1 a2 a3 a4=some r) (qA Za.c (Zma a3) (λv1=>if v1.Order=a4 then some (.agg (v1.Plan.c.map .t),[])=some r else ∃(v2:List Zb),Zxt v1.Plan a4=some (.agg [.own 0],[.arr 162 3 true (v2.map Zb.c)])/\Zo4 a a1 v2 a2 a4 a3 (a3.length:Int) 0=some r)))))):=by
 and_intros
 all_goals(intros;unfold Im;(try simp only[Zo3,Zma,Zhx,Zs7,Zit,Zmb,Zxt,Zo4,Zgb,Zdx,Plan.c_def,Zor,Zhv,Zc.c_def,Zjx,Zbgf,Zbgg,Zbgh,Zir,Ze.c_def,Zm.c_def,Za.c_def,Zbx,mpl,dfs,qs]);(try simp only[itb]);(try simp only[itf,gS,kk]))
 all_goals(repeat' first|refine exI λ_=>?_|refine anJ λ_ _=>?_|refine anI λ_=>?_|refine orE2 ?_ ?_|exact False.elim)
 all_goals(intro h;first|rw[Zl Zs5.eq_1]|refine run Zbhw rfl ?_|refine run Zbum rfl ?_|refine runM Zbun rfl ?_|refine run Zbuo rfl ?_|refine run Zbup rfl ?_|refine run Zbuq rfl ?_|rw[Zl Z4w.eq_1]|refine run Zbur rfl ?_)
 all_goals (refine Yb ?_ h;clear h;simp +decide[*,kk,tI,tII,Z4s,Zs6,Z4t,Zbgc,Zbgd,Zbge,Zbgi,Zbgj,Z4x,Zbgk])
abbrev Zbkl:=uq Ziz.1.1.1
abbrev Zbzv:=uq Ziz.1.1.2
abbrev Zbzw:=uq Ziz.1.2.1
abbrev Zbzx:=uq Ziz.1.2.2
abbrev Zbzy:=uq Ziz.2.1.1
abbrev Zbzz:=uq Ziz.2.1.2
abbrev Zbz0:=uq Ziz.2.2.1
abbrev Zyl:=uq Ziz.2.2.2.1
abbrev Zbkm:=uq Ziz.2.2.2.2
theorem Zg5{m:Ze}{q:Zc}{cp:List Int}{dd:Int}{cc cd cl cn co:Za}{cu cv cy cz d fr:Bool}{dc:List Za}{x0 x1 x2 x3 x4:Bool}{x:Int}{r:AV×List Blk}(h:(if x<5 then(if x=0 then(if x0=true then(dc.length+1<=68719476736/\(Zbx m q cp dd cc cd cl cn co cu cv cy cz d false (dc++[cc]) true x1 x2 x3 x4 (w (x+1))=some r))else(Zbx m q cp dd cc cd cl cn co cu cv cy cz d fr dc false x1 x2 x3 x4 (w (x+1))=some r))else(if x=1 then(if x1=true then(dc.length+1<=68719476736/\(Zbx m q cp dd cc cd cl cn co cu cv cy cz d false (dc++[cd]) x0 true x2 x3 x4 (w (x+1))=some r))else(Zbx m q cp dd cc cd cl cn co cu cv cy cz d fr dc x0 false x2 x3 x4 (w (x+1))=some r))else(if x=2 then(if x2=true then(dc.length+1<=68719476736/\(Zbx m q cp dd cc cd cl cn co cu cv cy cz d false (dc++[cl]) x0 x1 true x3 x4 (w (x+1))=some r))else(Zbx m q cp dd cc cd cl cn co cu cv cy cz d fr dc x0 x1 false x3 x4 (w (x+1))=some r))else(if x=3 then(if x3=true then(dc.length+1<=68719476736/\(Zbx m q cp dd cc cd cl cn co cu cv cy cz d false (dc++[cn]) x0 x1 x2 true x4 (w (x+1))=some r))else(Zbx m q cp dd cc cd cl cn co cu cv cy cz d fr dc x0 x1 x2 false x4 (w (x+1))=some r))else(if x=4 then(if x4=true then(dc.length+1<=68719476736/\(Zbx m q cp dd cc cd cl cn co cu cv cy cz d false (dc++[co]) x0 x1 x2 x3 true (w (x+1))=some r))else(Zbx m q cp dd cc cd cl cn co cu cv cy cz d fr dc x0 x1 x2 x3 false (w (x+1))=some r))else False)))))else(some (.own 1,[boxO m q cp dd cc cd cl cn co cu cv cy cz d,.arr 126 4 fr (dc.map Za.c)])=some r))):Zbx m q cp dd cc cd cl cn co cu cv cy cz d fr dc x0 x1 x2 x3 x4 x=some r:=by
 unfold Zbx;rw[Zl Z4u.eq_1];by_cases q1:x<5
 .rw[if_pos q1]at h;by_cases q2:x=0
  .rw[if_pos q2]at h;subst q2;by_cases q3:x0=true
   .rw[if_pos q3]at h;obtain⟨q4,h⟩:=h;have rq4:=Zem (b:=48) q4 (by omega);have sq4:=Zen q4
    try simp[*]at rq4
    try simp[*]at sq4
    refine Yb ?_ h;clear h;simp +decide[*,tI,tII,Zbx,Zg3]
   .rw[if_neg q3]at h;refine Yb ?_ h;clear h;simp +decide[*,tI,tII,Zbx,Zg3]
  .rw[if_neg q2]at h;replace q2:=eq_false q2;by_cases q5:x=1
   .rw[if_pos q5]at h;subst q5;by_cases q6:x1=true
    .rw[if_pos q6]at h;obtain⟨q7,h⟩:=h;have rq7:=Zem (b:=48) q7 (by omega);have sq7:=Zen q7
     try simp[*]at rq7
     try simp[*]at sq7
     refine Yb ?_ h;clear h;simp +decide[*,tI,tII,Zbx,Zg3]
    .rw[if_neg q6]at h;refine Yb ?_ h;clear h;simp +decide[*,tI,tII,Zbx,Zg3]
   .rw[if_neg q5]at h;replace q5:=eq_false q5;by_cases q8:x=2
    .rw[if_pos q8]at h;subst q8;by_cases q9:x2=true
     .rw[if_pos q9]at h;obtain⟨q10,h⟩:=h;have rq10:=Zem (b:=48) q10 (by omega);have sq10:=Zen q10
      try simp[*]at rq10
      try simp[*]at sq10
      refine Yb ?_ h;clear h;simp +decide[*,tI,tII,Zbx,Zg3]
     .rw[if_neg q9]at h;refine Yb ?_ h;clear h;simp +decide[*,tI,tII,Zbx,Zg3]
    .rw[if_neg q8]at h;replace q8:=eq_false q8;by_cases q11:x=3
     .rw[if_pos q11]at h;subst q11;by_cases q12:x3=true
      .rw[if_pos q12]at h;obtain⟨q13,h⟩:=h;have rq13:=Zem (b:=48) q13 (by omega);have sq13:=Zen q13
       try simp[*]at rq13
       try simp[*]at sq13
       refine Yb ?_ h;clear h;simp +decide[*,tI,tII,Zbx,Zg3]
      .rw[if_neg q12]at h;refine Yb ?_ h;clear h;simp +decide[*,tI,tII,Zbx,Zg3]
     .rw[if_neg q11]at h;replace q11:=eq_false q11;by_cases q14:x=4
      .rw[if_pos q14]at h;subst q14;by_cases q15:x4=true
       .rw[if_pos q15]at h;obtain⟨q16,h⟩:=h;have rq16:=Zem (b:=48) q16 (by omega);have sq16:=Zen q16
        try simp[*]at rq16
        try simp[*]at sq16
        refine Yb ?_ h;clear h;simp +decide[*,tI,tII,Zbx,Zg3]
       .rw[if_neg q15]at h;refine Yb ?_ h;clear h;simp +decide[*,tI,tII,Zbx,Zg3]
      .rw[if_neg q14]at h;replace q14:=eq_false q14;cases h
 .rw[if_neg q1]at h;refine Yb ?_ h;clear h;simp +decide[*,tI,tII,Z4v]
end Go.Proofs.YtcfaekfjkeobhaaGreat
