/-
  Parts of the proofs for this seat: G13 G14 G15.
-/
import Derived.Test.YtgbipcfdgfjplaaGreatP11
set_option linter.unusedSectionVars false
set_option linter.unusedSimpArgs false
set_option linter.unusedVariables false
set_option maxRecDepth 100000
set_option maxHeartbeats 4000000
namespace Go.Proofs.YtgbipcfdgfjplaaGreat
open Go.AM
theorem Zde{x:Zm}{x1 x2:Int}{r:XR}(h:(if x2<x1 then(if x2=0 then(∃(v:Bool),XV x.Scan=some (Bo v,[])/\(if v=true then((X5 x.Scan=some (.tup [.t .nil,.t .nil,Bo false],[])/\(∃(v1:XS),VG=some (.own 0,[.arr 42 1 true (v1.map isc)])/\(KJ x v1 (w (1+x2)) x1 x2 (v1.length:Int) 0=some r)))\/(∃(v2:WA) (v3:WA),X5 x.Scan=some (.tup [L 1 (v3.map ic),.own 0,Bo true],[.arr 3 1 true (v2.map ic)])/\(some (.tup [I (w (1+x2)),L 1 (v3.map ic),.own 0],[.arr 3 1 true (v2.map ic)])=some r)))else(some (.tup [I (w (1+x2)),.t .nil,.t .nil],[])=some r)))else(if x2=1 then(∃(v4:Bool),XV x.Sort_=some (Bo v4,[])/\(if v4=true then((X5 x.Sort_=some (.tup [.t .nil,.t .nil,Bo false],[])/\(∃(v5:XS),VG=some (.own 0,[.arr 42 1 true (v5.map isc)])/\(KK x v5 (w (1+x2)) x1 x2 (v5.length:Int) 0=some r)))\/(∃(v6:WA) (v7:WA),X5 x.Sort_=some (.tup [L 1 (v7.map ic),.own 0,Bo true],[.arr 3 1 true (v6.map ic)])/\(some (.tup [I (w (1+x2)),L 1 (v7.map ic),.own 0],[.arr 3 1 true (v6.map ic)])=some r)))else(some (.tup [I (w (1+x2)),.t .nil,.t .nil],[])=some r)))else(if x2=2 then(∃(v8:Bool),XV x.Hash=some (Bo v8,[])/\(if v8=true then((X5 x.Hash=some (.tup [.t .nil,.t .nil,Bo false],[])/\(∃(v9:XS),VG=some (.own 0,[.arr 42 1 true (v9.map isc)])/\(KL x v9 (w (1+x2)) x1 x2 (v9.length:Int) 0=some r)))\/(∃(v10:WA) (v11:WA),X5 x.Hash=some (.tup [L 1 (v11.map ic),.own 0,Bo true],[.arr 3 1 true (v10.map ic)])/\(some (.tup [I (w (1+x2)),L 1 (v11.map ic),.own 0],[.arr 3 1 true (v10.map ic)])=some r)))else(some (.tup [I (w (1+x2)),.t .nil,.t .nil],[])=some r)))else(if x2=3 then(∃(v12:Bool),XV x.Merge=some (Bo v12,[])/\(if v12=true then((X5 x.Merge=some (.tup [.t .nil,.t .nil,Bo false],[])/\(∃(v13:XS),VG=some (.own 0,[.arr 42 1 true (v13.map isc)])/\(KM x v13 (w (1+x2)) x1 x2 (v13.length:Int) 0=some r)))\/(∃(v14:WA) (v15:WA),X5 x.Merge=some (.tup [L 1 (v15.map ic),.own 0,Bo true],[.arr 3 1 true (v14.map ic)])/\(some (.tup [I (w (1+x2)),L 1 (v15.map ic),.own 0],[.arr 3 1 true (v14.map ic)])=some r)))else(some (.tup [I (w (1+x2)),.t .nil,.t .nil],[])=some r)))else(if x2=4 then(∃(v16:Bool),XV x.Nested=some (Bo v16,[])/\(if v16=true then((X5 x.Nested=some (.tup [.t .nil,.t .nil,Bo false],[])/\(∃(v17:XS),VG=some (.own 0,[.arr 42 1 true (v17.map isc)])/\(KN x v17 (w (1+x2)) x1 x2 (v17.length:Int) 0=some r)))\/(∃(v18:WA) (v19:WA),X5 x.Nested=some (.tup [L 1 (v19.map ic),.own 0,Bo true],[.arr 3 1 true (v18.map ic)])/\(some (.tup [I (w (1+x2)),L 1 (v19.map ic),.own 0],[.arr 3 1 true (v18.map ic)])=some r)))else(some (.tup [I (w (1+x2)),.t .nil,.t .nil],[])=some r)))else False)))))else(some (.tup [I 0,.t .nil,.t .nil],[])=some r))):Xh x x1 x2=some r:=by
 unfold Xh;rw[Zl KG.eq_1];by_cases q1:x2<x1
 .rw[Ya q1]at h;by_cases q2:x2=0
  .rw[Ya q2]at h;subst q2;obtain⟨v,q3,h⟩:=h;unfold XV at q3
   try simp at q3
   by_cases q4:v=true
   .rw[Ya q4]at h;rcases h with h|h
    .obtain⟨q5,h⟩:=h;unfold X5 at q5
     try simp at q5
     obtain⟨v1,q6,h⟩:=h;unfold VG at q6
     try simp at q6
     refine Yc ?_ h;clear h;simp +decide[*,tI,tII,KJ]
    .obtain⟨v2,v3,q7,h⟩:=h;unfold X5 at q7
     try simp at q7
     refine Yc ?_ h;clear h;simp +decide[*,tI,tII]
   .rw[Yb q4]at h;refine Yc ?_ h;clear h;simp +decide[*,tI,tII]
  .rw[Yb q2]at h;replace q2:=eq_false q2;by_cases q8:x2=1
   .rw[Ya q8]at h;subst q8;obtain⟨v4,q9,h⟩:=h;unfold XV at q9
    try simp at q9
    by_cases q10:v4=true
    .rw[Ya q10]at h;rcases h with h|h
     .obtain⟨q11,h⟩:=h;unfold X5 at q11
      try simp at q11
      obtain⟨v5,q12,h⟩:=h;unfold VG at q12
      try simp at q12
      refine Yc ?_ h;clear h;simp +decide[*,tI,tII,KK]
     .obtain⟨v6,v7,q13,h⟩:=h;unfold X5 at q13
      try simp at q13
      refine Yc ?_ h;clear h;simp +decide[*,tI,tII]
    .rw[Yb q10]at h;refine Yc ?_ h;clear h;simp +decide[*,tI,tII]
   .rw[Yb q8]at h;replace q8:=eq_false q8;by_cases q14:x2=2
    .rw[Ya q14]at h;subst q14;obtain⟨v8,q15,h⟩:=h;unfold XV at q15
     try simp at q15
     by_cases q16:v8=true
     .rw[Ya q16]at h;rcases h with h|h
      .obtain⟨q17,h⟩:=h;unfold X5 at q17
       try simp at q17
       obtain⟨v9,q18,h⟩:=h;unfold VG at q18
       try simp at q18
       refine Yc ?_ h;clear h;simp +decide[*,tI,tII,KL]
      .obtain⟨v10,v11,q19,h⟩:=h;unfold X5 at q19
       try simp at q19
       refine Yc ?_ h;clear h;simp +decide[*,tI,tII]
     .rw[Yb q16]at h;refine Yc ?_ h;clear h;simp +decide[*,tI,tII]
    .rw[Yb q14]at h;replace q14:=eq_false q14;by_cases q20:x2=3
     .rw[Ya q20]at h;subst q20;obtain⟨v12,q21,h⟩:=h;unfold XV at q21
      try simp at q21
      by_cases q22:v12=true
      .rw[Ya q22]at h;rcases h with h|h
       .obtain⟨q23,h⟩:=h;unfold X5 at q23
        try simp at q23
        obtain⟨v13,q24,h⟩:=h;unfold VG at q24
        try simp at q24
        refine Yc ?_ h;clear h;simp +decide[*,tI,tII,KM]
       .obtain⟨v14,v15,q25,h⟩:=h;unfold X5 at q25
        try simp at q25
        refine Yc ?_ h;clear h;simp +decide[*,tI,tII]
      .rw[Yb q22]at h;refine Yc ?_ h;clear h;simp +decide[*,tI,tII]
     .rw[Yb q20]at h;replace q20:=eq_false q20;by_cases q26:x2=4
      .rw[Ya q26]at h;subst q26;obtain⟨v16,q27,h⟩:=h;unfold XV at q27
       try simp at q27
       by_cases q28:v16=true
       .rw[Ya q28]at h;rcases h with h|h
        .obtain⟨q29,h⟩:=h;unfold X5 at q29
         try simp at q29
         obtain⟨v17,q30,h⟩:=h;unfold VG at q30
         try simp at q30
         refine Yc ?_ h;clear h;simp +decide[*,tI,tII,KN]
        .obtain⟨v18,v19,q31,h⟩:=h;unfold X5 at q31
         try simp at q31
         refine Yc ?_ h;clear h;simp +decide[*,tI,tII]
       .rw[Yb q28]at h;refine Yc ?_ h;clear h;simp +decide[*,tI,tII]
      .rw[Yb q26]at h;replace q26:=eq_false q26;cases h
 .rw[Yb q1]at h;refine Yc ?_ h;clear h;simp +decide[*,tI,tII,KH]
theorem WL:((((∀o x cc x1 x2 x3 x4 r,Im (KJ o x cc x1 x2 x3 x4=some r) (if x4<x3 then qG x x4 (λe1=>qI (UK o.Scan e1) (λv3=>if v3<1 then some (.tup [I cc,L 1 (e1.map ic),.t .nil],[])=some r else KJ o x cc x1 x2 x3 (w (x4+1))=some r))else Xh o x1 (w (x2+1))=some r))/\
 (∀o x cc x1 x2 x3 x4 r,Im (KK o x cc x1 x2 x3 x4=some r) (if x4<x3 then qG x x4 (λe1=>qI (UK o.Sort_ e1) (λv3=>if v3<1 then some (.tup [I cc,L 1 (e1.map ic),.t .nil],[])=some r else KK o x cc x1 x2 x3 (w (x4+1))=some r))else Xh o x1 (w (x2+1))=some r)))/\
 ((∀o x cc x1 x2 x3 x4 r,Im (KL o x cc x1 x2 x3 x4=some r) (if x4<x3 then qG x x4 (λe1=>qI (UK o.Hash e1) (λv3=>if v3<1 then some (.tup [I cc,L 1 (e1.map ic),.t .nil],[])=some r else KL o x cc x1 x2 x3 (w (x4+1))=some r))else Xh o x1 (w (x2+1))=some r))/\
 (∀o x cc x1 x2 x3 x4 r,Im (KM o x cc x1 x2 x3 x4=some r) (if x4<x3 then qG x x4 (λe1=>qI (UK o.Merge e1) (λv3=>if v3<1 then some (.tup [I cc,L 1 (e1.map ic),.t .nil],[])=some r else KM o x cc x1 x2 x3 (w (x4+1))=some r))else Xh o x1 (w (x2+1))=some r))))/\
 (((∀o x cc x1 x2 x3 x4 r,Im (KN o x cc x1 x2 x3 x4=some r) (if x4<x3 then qG x x4 (λe1=>qI (UK o.Nested e1) (λv3=>if v3<1 then some (.tup [I cc,L 1 (e1.map ic),.t .nil],[])=some r else KN o x cc x1 x2 x3 (w (x4+1))=some r))else Xh o x1 (w (x2+1))=some r))/\
 (∀a r,Im (Zc3 a=some r) (VE a=some (.bsl 1 5,[.box (a.c.map .t),.box [.ptr 0 0,.ptr 0 6,.ptr 0 12,.ptr 0 18,.ptr 0 24]])/\Xh a 5 0=some r)))/\
 ((∀a r,Im (QR a=some r) ((∃(v:WA),∃v1,∃(v2:WA),Zc3 a=some (.tup [I v1,L 1 (v2.map ic),.own 0],[.arr 3 1 true (v.map ic)])/\qb (decide (v1=0)) r)\/(∃v3,Zc3 a=some (.tup [I v3,.t .nil,.t .nil],[])/\qb (decide (v3=0)) r)\/(∃v4,∃(v5:WA),Zc3 a=some (.tup [I v4,L 1 (v5.map ic),.t .nil],[])/\qb (decide (v4=0)) r)))/\
 (∀cd x x1 x2 r,Im (Zc4 cd x x1 x2=some r) (if x2<x1 then qG x x2 (λe1=>if 3<=e1.Kind then cd.length+1<=68719476736/\Zc4 (cd++[x2]) x x1 (w (x2+1))=some r else Zc4 cd x x1 (w (x2+1))=some r)else some (.own 0,[.arr 3 1 true (cd.map ic)])=some r)))))/\
 ((((∀a r,Im (Zfr a=some r) (Zc4 ([]:WA) a.Steps (a.Steps.length:Int) 0=some r))/\
 (∀a a1 a2 r,Im (Zi2 a a1 a2=some r) (qG a1 a2 (λe1=>if a.Mask=e1.Mask then qV (ZC a.Size 0 4096) (λv3=>qb v3 r)else qb false r))))/\
 ((∀s f f1 x x1 r,Im (Zft s f f1 x x1=some r) (if x1<x then qG s x1 (λe1=>qB (Zi2 e1 f f1) (qi x1 r) (Zft s f f1 x (w (x1+1))=some r))else qi (-1) r))/\
 (∀a a1 a2 r,Im (Zfs a a1 a2=some r) (Zft a a1 a2 (a.length:Int) 0=some r))))/\
 (((∀n c r,Im (Zfu n c=some r) (qI (UJ c) (λv=>if n<=v then qi c r else Zfu n (w (c+1))=some r)))/\
 (∀a r,Im (Ut a=some r) (qB (ZC a 0 4096) (Zfu a 0=some r) (qi (-1) r))))/\
 ((∀a r,Im (Wk a=some r) (qI (Ut a) (λv=>qI (UJ v) (λv3=>qi v3 r))))/\
 ((∀a a1 a2 a3 r,Im (X6 a a1 a2 a3=some r) (qB (XV a) (qB (ZC a1 0 4096) (qB (ZC a2 0 4096) (qB (ZC a3 0 4096) (qI (KE a a1 a2 a3) (λv6=>qi v6 r)) (qi 0 r)) (qi 0 r)) (qi 0 r)) (qi 0 r)))/\
 (∀a a1 r,Im (QS a a1=some r) (qI (Wk a1) (λv=>if v<0 then qi (-1) r else qI (X6 a.Scan v 0 v) (λv3=>qi v3 r)))))))):=by
 and_intros
 all_goals(intros;unfold Im;(try simp only[KJ,KK,KL,KM,KN,Zc3,QR,Zc4,Zfr,Zi2,Zft,Zfs,Zfu,Ut,Wk,X6,QS,UK,Zr.c_def,VE,Zm.c_def,ZC,Zd.c_def,Za.c_def,UJ,XV,KE,Xh,mpl,dfs,qs]);(try simp only[itb]);(try simp only[itf,gS,kk]))
 all_goals(repeat' first|refine exI λ_=>?_|refine anJ λ_ _=>?_|refine anI λ_=>?_|refine orE2 ?_ ?_|exact False.elim)
 all_goals(intro h;first|rw[Zl Za1.eq_1]|refine run Z59 rfl ?_|refine run Z5A rfl ?_|rw[Zl Zn7.eq_1]|refine run Z5B rfl ?_|refine run Z5C rfl ?_|rw[Zl ZnA.eq_1]|refine run Z5D rfl ?_|rw[Zl ZnC.eq_1]|refine run Z5E rfl ?_|refine run Z5F rfl ?_|refine run Z5G rfl ?_|refine run Z5H rfl ?_)
 all_goals (refine Yc ?_ h;clear h;simp +decide[*,kk,tI,tII,Za2,Zvo,Zvp,Zvq,Zn8,Zvr,Zvs,ZnB,Zvt,Zvv,Zvw,Zvx,Zvy])
abbrev Zyr:=uq WL.1.1.1.1
abbrev Zys:=uq WL.1.1.1.2
abbrev Zyt:=uq WL.1.1.2.1
abbrev Zyu:=uq WL.1.1.2.2
abbrev Zyv:=uq WL.1.2.1.1
abbrev Z8h:=uq WL.1.2.1.2
abbrev Z8i:=uq WL.1.2.2.1
abbrev Zyw:=uq WL.1.2.2.2
abbrev Z8j:=uq WL.2.1.1.1
abbrev Z8k:=uq WL.2.1.1.2
abbrev Zyx:=uq WL.2.1.2.1
abbrev Z8l:=uq WL.2.1.2.2
abbrev Jd:=uq WL.2.2.1.1
abbrev Z8m:=uq WL.2.2.1.2
abbrev Z8n:=uq WL.2.2.2.1
abbrev Z8o:=uq WL.2.2.2.2.1
abbrev Z8p:=uq WL.2.2.2.2.2
theorem Z8q{a:Zm}{a1 a2:Int}{r:XR}(h:(∃(v:Bool),ZC a1 3 5=some (Bo v,[])/\(if v=true then(∃(v1:Bool),ZC a2 0 4096=some (Bo v1,[])/\(if v1=true then(∃(v2:Bool),QR a=some (Bo v2,[])/\(if v2=true then(∃(v3:Int),QS a a2=some (I v3,[])/\(VE a=some (.bsl 1 5,[.box (a.c.map .t),.box [.ptr 0 0,.ptr 0 6,.ptr 0 12,.ptr 0 18,.ptr 0 24]])/\(if(w (a1-1))=0 then(∃(v4:Int),Wk a2=some (I v4,[])/\(∃(v5:Int),X6 a.Scan 0 0 v4=some (I v5,[])/\(some (Bo (decide (v3<=v5)),[])=some r)))else(if(w (a1-1))=1 then(∃(v6:Int),Wk a2=some (I v6,[])/\(∃(v7:Int),X6 a.Sort_ 0 0 v6=some (I v7,[])/\(some (Bo (decide (v3<=v7)),[])=some r)))else(if(w (a1-1))=2 then(∃(v8:Int),Wk a2=some (I v8,[])/\(∃(v9:Int),X6 a.Hash 0 0 v8=some (I v9,[])/\(some (Bo (decide (v3<=v9)),[])=some r)))else(if(w (a1-1))=3 then(∃(v10:Int),Wk a2=some (I v10,[])/\(∃(v11:Int),X6 a.Merge 0 0 v10=some (I v11,[])/\(some (Bo (decide (v3<=v11)),[])=some r)))else(if(w (a1-1))=4 then(∃(v12:Int),Wk a2=some (I v12,[])/\(∃(v13:Int),X6 a.Nested 0 0 v12=some (I v13,[])/\(some (Bo (decide (v3<=v13)),[])=some r)))else False)))))))else(some (Bo false,[])=some r)))else(some (Bo false,[])=some r)))else(some (Bo false,[])=some r)))):Zfv a a1 a2=some r:=by
 unfold Zfv;refine run Z5I rfl ?_;obtain⟨v,q1,h⟩:=h;unfold ZC at q1
 try simp at q1
 by_cases q2:v=true
 .rw[Ya q2]at h;obtain⟨v1,q3,h⟩:=h;unfold ZC at q3
  try simp at q3
  by_cases q4:v1=true
  .rw[Ya q4]at h;obtain⟨v2,q5,h⟩:=h;unfold QR at q5
   try simp at q5
   by_cases q6:v2=true
   .rw[Ya q6]at h;obtain⟨v3,q7,h⟩:=h;unfold QS at q7
    try simp at q7
    obtain⟨q8,h⟩:=h;unfold VE at q8
    try simp at q8
    by_cases q9:(w (a1-1))=0
    .rw[Ya q9]at h;obtain⟨v4,q10,h⟩:=h;unfold Wk at q10
     try simp at q10
     obtain⟨v5,q11,h⟩:=h;unfold X6 at q11
     try simp at q11
     refine Yc ?_ h;clear h;simp +decide[*,QT,tI,tII]
    .rw[Yb q9]at h;replace q9:=eq_false q9;by_cases q12:(w (a1-1))=1
     .rw[Ya q12]at h;obtain⟨v6,q13,h⟩:=h;unfold Wk at q13
      try simp at q13
      obtain⟨v7,q14,h⟩:=h;unfold X6 at q14
      try simp at q14
      refine Yc ?_ h;clear h;simp +decide[*,QT,tI,tII]
     .rw[Yb q12]at h;replace q12:=eq_false q12;by_cases q15:(w (a1-1))=2
      .rw[Ya q15]at h;obtain⟨v8,q16,h⟩:=h;unfold Wk at q16
       try simp at q16
       obtain⟨v9,q17,h⟩:=h;unfold X6 at q17
       try simp at q17
       refine Yc ?_ h;clear h;simp +decide[*,QT,tI,tII]
      .rw[Yb q15]at h;replace q15:=eq_false q15;by_cases q18:(w (a1-1))=3
       .rw[Ya q18]at h;obtain⟨v10,q19,h⟩:=h;unfold Wk at q19
        try simp at q19
        obtain⟨v11,q20,h⟩:=h;unfold X6 at q20
        try simp at q20
        refine Yc ?_ h;clear h;simp +decide[*,QT,tI,tII]
       .rw[Yb q18]at h;replace q18:=eq_false q18;by_cases q21:(w (a1-1))=4
        .rw[Ya q21]at h;obtain⟨v12,q22,h⟩:=h;unfold Wk at q22
         try simp at q22
         obtain⟨v13,q23,h⟩:=h;unfold X6 at q23
         try simp at q23
         refine Yc ?_ h;clear h;simp +decide[*,QT,tI,tII]
        .rw[Yb q21]at h;replace q21:=eq_false q21;cases h
   .rw[Yb q6]at h;refine Yc ?_ h;clear h;simp +decide[*,QT,tI,tII]
  .rw[Yb q4]at h;refine Yc ?_ h;clear h;simp +decide[*,QT,tI,tII]
 .rw[Yb q2]at h;refine Yc ?_ h;clear h;simp +decide[*,QT,tI,tII]
theorem WM:((((∀cp cv r,Im (Zfw cp cv=some r) (qG cp cv (λe1=>if 0<=e1.Left then Zfw cp e1.Left=some r else qi cv r)))/\
 (∀a a1 r,Im (Zi3 a a1=some r) (Zfw a a1=some r)))/\
 ((∀a a1 a2 r,Im (Zfx a a1 a2=some r) (if a1<a2 then qI (Zi3 a a2) (λv=>qb (decide (v<=a1)) r)else qb false r))/\
 (∀a a1 a2 r,Im (ZnG a a1 a2=some r) (qV (Zfx a1 a2 a) (λv=>qb v r)))))/\
 (((∀s f f1 x x1 r,Im (Zfy s f f1 x x1=some r) (if x1<x then qG s x1 (λe1=>qB (ZnG e1 f f1) (qi x1 r) (Zfy s f f1 x (w (x1+1))=some r))else qi (-1) r))/\
 (∀a a1 a2 r,Im (ZnI a a1 a2=some r) (Zfy a a1 a2 (a.length:Int) 0=some r)))/\
 ((∀a a1 a2 r,Im (Zi6 a a1 a2=some r) (qI (ZnI a a1 a2) (λv=>qb (decide (0<=v)) r)))/\
 (∀m p x cc x1 cd x2 x3 r,Im (Za4 m p x cc x1 cd x2 x3=some r) (if x3<x2 then qG x1 x3 (λe1=>qI (Zfs cd x e1) (λv1=>if 0<=v1 then qG p.Steps e1 (λe3=>qH cd v1 (λe4=>qB (Zfv m e3.Kind e4.Size) (cc.length+1<=68719476736/\Za4 m p x (cc++[e1]) x1 cd x2 (w (x3+1))=some r) (Za4 m p x cc x1 cd x2 (w (x3+1))=some r)))else Za4 m p x cc x1 cd x2 (w (x3+1))=some r))else Za5 x cc ([]:WA) (cc.length:Int) 0=some r)))))/\
 ((((∀x cc co x1 x2 r,Im (Za5 x cc co x1 x2=some r) (if x2<x1 then qG cc x2 (λe1=>qB (Zi6 cc x e1) (Za5 x cc co x1 (w (x2+1))=some r) (co.length+1<=68719476736/\Za5 x cc (co++[e1]) x1 (w (x2+1))=some r))else some (.own 0,[.arr 3 1 true (co.map ic)])=some r))/\
 (∀a a1 a2 a3 r,Im (QU a a1 a2 a3=some r) ((QM a1 a2=some (.tup [.t .nil,Bo false],[])/\some (.t .nil,[])=some r)\/(∃(v1:List Za),QM a1 a2=some (.tup [.own 0,Bo true],[.arr 113 4 true (v1.map Za.c)])/\qB (QR a) (qO 3 1 ic (Zfr a2) (λv2=>Za4 a a2 v1 ([]:WA) v2 a3 (v2.length:Int) 0=some r)) (some (.t .nil,[])=some r)))))/\
 ((∀a a1 a2 r,Im (QV a a1 a2=some r) (qG a1 a2 (λe1=>qI (Wk (e1.Rows.length:Int)) (λv1=>qH a a2 (λe3=>if 0<=e3.Left then qH a1 e3.Left (λe4=>qI (Wk (e4.Rows.length:Int)) (λv3=>if 0<=e3.Right then qH a1 e3.Right (λe6=>qI (Wk (e6.Rows.length:Int)) (λv4=>some (.tup [I v3,I v4,I v1],[])=some r))else some (.tup [I v3,I 0,I v1],[])=some r))else if 0<=e3.Right then qH a1 e3.Right (λe8=>qI (Wk (e8.Rows.length:Int)) (λv5=>some (.tup [I v1,I v5,I v1],[])=some r))else some (.tup [I v1,I 0,I v1],[])=some r)))))/\
 (∀a a1 a2 r,Im (ZnO a a1 a2=some r) (qV (Zfx a1 a2 a) (λv=>qb v r)))))/\
 (((∀s f f1 x x1 r,Im (Zfz s f f1 x x1=some r) (if x1<x then qG s x1 (λe1=>qB (ZnO e1 f f1) (qi x1 r) (Zfz s f f1 x (w (x1+1))=some r))else qi (-1) r))/\
 (∀a a1 a2 r,Im (ZnP a a1 a2=some r) (Zfz a a1 a2 (a.length:Int) 0=some r)))/\
 ((∀a a1 a2 r,Im (Za7 a a1 a2=some r) (qI (ZnP a a1 a2) (λv=>qb (decide (0<=v)) r)))/\
 ((∀o cu cn cl k r,Im (Zf0 o cu cn cl k=some r) (if k<=7 then qI (UJ k) (λv=>qI (KE o cu cn v) (λv1=>if v1<=cl then Zf0 o cu cn cl (w (k+1))=some r else qi k r))else qi k r))/\
 (∀a a1 a2 a3 r,Im (X1 a a1 a2 a3=some r) (Zf0 a a1 a2 a3 0=some r)))))):=by
 and_intros
 all_goals(intros;unfold Im;(try simp only[Zfw,Zi3,Zfx,ZnG,Zfy,ZnI,Zi6,Za4,Za5,QU,QV,ZnO,Zfz,ZnP,Za7,Zf0,X1,Za.c_def,Zfs,Zfv,Zd.c_def,Zm.c_def,Zr.c_def,QM,QR,Zfr,Zo.c_def,Ze.c_def,Wk,UJ,KE,mpl,dfs,qs]);(try simp only[itb]);(try simp only[itf,gS,kk]))
 all_goals(repeat' first|refine exI λ_=>?_|refine anJ λ_ _=>?_|refine anI λ_=>?_|refine orE2 ?_ ?_|exact False.elim)
 all_goals(intro h;first|rw[Zl ZnE.eq_1]|refine run Z5J rfl ?_|refine run Z5K rfl ?_|refine run Z5L rfl ?_|rw[Zl Zi4.eq_1]|refine run Z5M rfl ?_|refine run Z5N rfl ?_|rw[Zl ZnJ.eq_1]|rw[Zl ZnK.eq_1]|refine run Z5O rfl ?_|refine run Z5P rfl ?_|refine run Z5R rfl ?_|rw[Zl ZnR.eq_1]|refine run Z5S rfl ?_)
 all_goals (refine Yc ?_ h;clear h;simp +decide[*,kk,tI,tII,ZnF,Zvz,Zv0,Zv1,Zi5,Zv2,Zv3,Zv4,ZnM,Zv5,ZnL,Zv6,Zv9,Zv7,Zv8,ZvA,ZnS,ZvB])
abbrev Z8r:=uq WM.1.1.1.1
abbrev Z8s:=uq WM.1.1.1.2
abbrev Z8t:=uq WM.1.1.2.1
abbrev Z8u:=uq WM.1.1.2.2
abbrev Zyy:=uq WM.1.2.1.1
abbrev Z8v:=uq WM.1.2.1.2
abbrev Z8w:=uq WM.1.2.2.1
abbrev Zyz:=uq WM.1.2.2.2
abbrev Zy0:=uq WM.2.1.1.1
abbrev Z8x:=uq WM.2.1.1.2
abbrev Z8y:=uq WM.2.1.2.1
abbrev Z8z:=uq WM.2.1.2.2
abbrev Zy1:=uq WM.2.2.1.1
abbrev Z80:=uq WM.2.2.1.2
abbrev Z81:=uq WM.2.2.2.1
abbrev Zy2:=uq WM.2.2.2.2.1
abbrev Z82:=uq WM.2.2.2.2.2
theorem Z83{a:Zm}{a1:Zo}{a2:List Za}{a3:List Zb}{a4:Int}{r:XR}(h:(∃(v:Int) (v1:Int) (v2:Int),QV a2 a3 a4=some (.tup [I v,I v1,I v2],[])/\(VE a=some (.bsl 1 5,[.box (a.c.map .t),.box [.ptr 0 0,.ptr 0 6,.ptr 0 12,.ptr 0 18,.ptr 0 24]])/\(0<=a4/\(∃(e3:Zj),a1.Steps[a4.toNat]?=some e3/\(if(w (e3.Kind-1))=0 then(∃(v3:Int),X6 a.Scan v v1 v2=some (I v3,[])/\(some (I v3,[])=some r))else(if(w (e3.Kind-1))=1 then(∃(v4:Int),X6 a.Sort_ v v1 v2=some (I v4,[])/\(some (I v4,[])=some r))else(if(w (e3.Kind-1))=2 then(∃(v5:Int),X6 a.Hash v v1 v2=some (I v5,[])/\(some (I v5,[])=some r))else(if(w (e3.Kind-1))=3 then(∃(v6:Int),X6 a.Merge v v1 v2=some (I v6,[])/\(some (I v6,[])=some r))else(if(w (e3.Kind-1))=4 then(∃(v7:Int),X6 a.Nested v v1 v2=some (I v7,[])/\(some (I v7,[])=some r))else False)))))))))):Za6 a a1 a2 a3 a4=some r:=by
 unfold Za6;refine run Z5Q rfl ?_;obtain⟨v,v1,v2,q1,h⟩:=h;unfold QV at q1
 try simp at q1
 obtain⟨q2,h⟩:=h;unfold VE at q2
 try simp at q2
 obtain⟨q3,h⟩:=h;obtain⟨e3,q4,h⟩:=h;have gq4:=Xv q4;have kq4:=Xz q4;by_cases q5:(w (e3.Kind-1))=0
 .rw[Ya q5]at h;obtain⟨v3,q6,h⟩:=h;unfold X6 at q6
  try simp at q6
  refine Yc ?_ h;clear h;simp +decide[*,Zc5,tI,tII]
 .rw[Yb q5]at h;replace q5:=eq_false q5;by_cases q7:(w (e3.Kind-1))=1
  .rw[Ya q7]at h;obtain⟨v4,q8,h⟩:=h;unfold X6 at q8
   try simp at q8
   refine Yc ?_ h;clear h;simp +decide[*,Zc5,tI,tII]
  .rw[Yb q7]at h;replace q7:=eq_false q7;by_cases q9:(w (e3.Kind-1))=2
   .rw[Ya q9]at h;obtain⟨v5,q10,h⟩:=h;unfold X6 at q10
    try simp at q10
    refine Yc ?_ h;clear h;simp +decide[*,Zc5,tI,tII]
   .rw[Yb q9]at h;replace q9:=eq_false q9;by_cases q11:(w (e3.Kind-1))=3
    .rw[Ya q11]at h;obtain⟨v6,q12,h⟩:=h;unfold X6 at q12
     try simp at q12
     refine Yc ?_ h;clear h;simp +decide[*,Zc5,tI,tII]
    .rw[Yb q11]at h;replace q11:=eq_false q11;by_cases q13:(w (e3.Kind-1))=4
     .rw[Ya q13]at h;obtain⟨v7,q14,h⟩:=h;unfold X6 at q14
      try simp at q14
      refine Yc ?_ h;clear h;simp +decide[*,Zc5,tI,tII]
     .rw[Yb q13]at h;replace q13:=eq_false q13;cases h
theorem Zjh:((∀x cc done x1 x2 x3 r,Im (Qr x cc done x1 x2 x3=some r) (if x3<x2 then qG x1 x3 (λe1=>if done=true then if e1.Mask=x.Mask then Qr x cc true x1 x2 (w (x3+1))=some r else cc.length+1<=68719476736/\Qr x (cc++[e1]) true x1 x2 (w (x3+1))=some r else if x.Mask<=e1.Mask then cc.length+1<=68719476736/\if e1.Mask=x.Mask then Qr x (cc++[x]) true x1 x2 (w (x3+1))=some r else cc.length+1+1<=68719476736/\Qr x ((cc++[x])++[e1]) true x1 x2 (w (x3+1))=some r else if e1.Mask=x.Mask then Qr x cc false x1 x2 (w (x3+1))=some r else cc.length+1<=68719476736/\Qr x (cc++[e1]) false x1 x2 (w (x3+1))=some r)else if done=true then some (.own 0,[.arr 52 2 true (cc.map Zd.c)])=some r else cc.length+1<=68719476736/\some (.own 0,[.arr 52 2 true ((cc++[x]).map Zd.c)])=some r))/\
 (∀a a1 r,Im (UL a a1=some r) (Qr a1 ([]:List Zd) false a (a.length:Int) 0=some r)))/\
 ((∀a r,Im (Zi7 a=some r) (qO 42 1 isc (K8 a) (λv=>∃(v1:XS),ZnV v=some (.tup [],[.arr 42 1 true (v1.map isc)])/\∃(v2:XS),ZnW v1=some (.own 1,[.dead,.arr 42 1 true (v2.map isc)])/\some (.own 0,[.arr 42 1 true (v2.map isc)])=some r)))/\
 (∀a r,Im (UM a=some r) (qB (Ua a) (qO 3 1 ic (VZ a.Vars) (λv1=>qO 42 1 isc (Zi7 a.Rows) (λv2=>some (.tup [.agg [.own 0,.own 1],Bo true],[.arr 3 1 true (v1.map ic),.arr 42 1 true (v2.map isc)])=some r))) (some (.tup [.agg [.t .nil,.t .nil],Bo false],[])=some r)))):=by
 and_intros
 all_goals(intros;unfold Im;(try simp only[Qr,UL,Zi7,UM,K8,ZnV,ZnW,Ua,VZ,Zb.c_def,mpl,dfs,qs]);(try simp only[itb]);(try simp only[itf,gS,kk]))
 all_goals(repeat' first|refine exI λ_=>?_|refine anJ λ_ _=>?_|refine anI λ_=>?_|refine orE2 ?_ ?_|exact False.elim)
 all_goals(intro h;first|rw[Zl ZnT.eq_1]|refine run Z5T rfl ?_|refine run Z5U rfl ?_|refine run Z5V rfl ?_)
 all_goals (refine Yc ?_ h;clear h;simp +decide[*,kk,tI,tII,ZvC,ZvD,ZnU,ZvE,ZvF,ZvG])
abbrev Zy3:=uq Zjh.1.1
abbrev Z84:=uq Zjh.1.2
abbrev Z85:=uq Zjh.2.1
abbrev Z86:=uq Zjh.2.2
end Go.Proofs.YtgbipcfdgfjplaaGreat
