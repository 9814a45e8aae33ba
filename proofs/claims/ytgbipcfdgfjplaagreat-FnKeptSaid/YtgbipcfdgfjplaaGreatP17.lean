/-
  Parts of the proofs for this seat: G16 G17 G18.
-/
import Derived.Test.YtgbipcfdgfjplaaGreatP11
set_option linter.unusedSectionVars false
set_option linter.unusedSimpArgs false
set_option linter.unusedVariables false
set_option maxRecDepth 100000
set_option maxHeartbeats 4000000
namespace Go.Proofs.YtgbipcfdgfjplaaGreat
open Go.AM
theorem Zy4{m:Zm}{p:Zo}{cv:Bool}{cu cp:Int}{x:List Zd}{x1:List Za}{fr:Bool}{l:List Zb}{co:WA}{cn:Bool}{cl cd cc:Int}{x2:List Zj}{x3 x4:Int}{r:XR}(h:(if x4<x3 then(0<=x4/\(∃(e1:Zj),x2[x4.toNat]?=some e1/\(∃(v:Bool),Za7 co x1 x4=some (Bo v,[])/\(if v=true then(UN m p cv cu cp x x1 fr l co cn cl cd cc x2 x3 (w (x4+1))=some r)else(∃(v1:Bool),VY co x4=some (Bo v1,[])/\(∃(e4:Zb),l[x4.toNat]?=some e4/\(∃(v2:Int) (v3:Int) (v4:Int),QV x1 l x4=some (.tup [I v2,I v3,I v4],[])/\(∃(v5:Int),Za6 m p x1 l x4=some (I v5,[])/\(if v1=true then(∃(v6:Int),QS m (e4.Rows.length:Int)=some (I v6,[])/\(if(w (cc-cl))<v6 then(if 3<=e1.Kind then(some (.tup [.agg [Bo cn,I cc,I cd,L 3 (([]:List Zg).map Zg.c),L 1 (([]:WA).map ic),L 1 (([]:XS).map isc)],L 2 (x.map Zd.c),Bo true],[])=some r)else(some (.tup [.agg [Bo cn,I cc,I cd,L 3 (([]:List Zg).map Zg.c),L 1 (([]:WA).map ic),L 1 (([]:XS).map isc)],L 2 (x.map Zd.c),Bo true],[])=some r))else(if 3<=e1.Kind then(∃(e8:Za),x1[x4.toNat]?=some e8/\(∃(v7:Int),Ut (e4.Rows.length:Int)=some (I v7,[])/\(∃(v8:List Zd),UL x (⟨e8.Mask,(e4.Rows.length:Int)⟩:Zd)=some (.own 0,[.arr 52 2 true (v8.map Zd.c)])/\(if(v8.length:Int)<=8 then(X2 m p cv cu cp v8 x1 fr l co cn (w (cl+v6)) (w (cd+1)) ([(⟨e8.Mask,v7,true⟩:Zg)]) cc x2 x3 (w (x4+1))=some r)else(X2 m p cv cu cp x x1 fr l co cn (w (cl+v6)) (w (cd+1)) ([(⟨e8.Mask,v7,true⟩:Zg)]) cc x2 x3 (w (x4+1))=some r)))))else(UN m p cv cu cp x x1 fr l co cn (w (cl+v6)) (w (cd+1)) cc x2 x3 (w (x4+1))=some r))))else(if(w (cc-cl))<v5 then(if 3<=e1.Kind then(VE m=some (.bsl 1 5,[.box (m.c.map .t),.box [.ptr 0 0,.ptr 0 6,.ptr 0 12,.ptr 0 18,.ptr 0 24]])/\(if(w (e1.Kind-1))=0 then(∃(v9:Int),X1 m.Scan v2 v3 (w (cc-cl))=some (I v9,[])/\(∃(e13:Za),x1[x4.toNat]?=some e13/\(some (.tup [.agg [Bo cn,I cc,I cd,L 3 (([(⟨e13.Mask,v9,false⟩:Zg)]).map Zg.c),L 1 (([]:WA).map ic),L 1 (([]:XS).map isc)],L 2 (x.map Zd.c),Bo true],[])=some r)))else(if(w (e1.Kind-1))=1 then(∃(v10:Int),X1 m.Sort_ v2 v3 (w (cc-cl))=some (I v10,[])/\(∃(e15:Za),x1[x4.toNat]?=some e15/\(some (.tup [.agg [Bo cn,I cc,I cd,L 3 (([(⟨e15.Mask,v10,false⟩:Zg)]).map Zg.c),L 1 (([]:WA).map ic),L 1 (([]:XS).map isc)],L 2 (x.map Zd.c),Bo true],[])=some r)))else(if(w (e1.Kind-1))=2 then(∃(v11:Int),X1 m.Hash v2 v3 (w (cc-cl))=some (I v11,[])/\(∃(e17:Za),x1[x4.toNat]?=some e17/\(some (.tup [.agg [Bo cn,I cc,I cd,L 3 (([(⟨e17.Mask,v11,false⟩:Zg)]).map Zg.c),L 1 (([]:WA).map ic),L 1 (([]:XS).map isc)],L 2 (x.map Zd.c),Bo true],[])=some r)))else(if(w (e1.Kind-1))=3 then(∃(v12:Int),X1 m.Merge v2 v3 (w (cc-cl))=some (I v12,[])/\(∃(e19:Za),x1[x4.toNat]?=some e19/\(some (.tup [.agg [Bo cn,I cc,I cd,L 3 (([(⟨e19.Mask,v12,false⟩:Zg)]).map Zg.c),L 1 (([]:WA).map ic),L 1 (([]:XS).map isc)],L 2 (x.map Zd.c),Bo true],[])=some r)))else(if(w (e1.Kind-1))=4 then(∃(v13:Int),X1 m.Nested v2 v3 (w (cc-cl))=some (I v13,[])/\(∃(e21:Za),x1[x4.toNat]?=some e21/\(some (.tup [.agg [Bo cn,I cc,I cd,L 3 (([(⟨e21.Mask,v13,false⟩:Zg)]).map Zg.c),L 1 (([]:WA).map ic),L 1 (([]:XS).map isc)],L 2 (x.map Zd.c),Bo true],[])=some r)))else False))))))else(some (.tup [.agg [Bo cn,I cc,I cd,L 3 (([]:List Zg).map Zg.c),L 1 (([]:WA).map ic),L 1 (([]:XS).map isc)],L 2 (x.map Zd.c),Bo true],[])=some r))else(if 3<=e1.Kind then(∃(e22:Za),x1[x4.toNat]?=some e22/\(∃(v14:Int),Ut (e4.Rows.length:Int)=some (I v14,[])/\(∃(v15:List Zd),UL x (⟨e22.Mask,(e4.Rows.length:Int)⟩:Zd)=some (.own 0,[.arr 52 2 true (v15.map Zd.c)])/\(if(v15.length:Int)<=8 then(X2 m p cv cu cp v15 x1 fr l co cn (w (cl+v5)) (w (cd+1)) ([(⟨e22.Mask,v14,true⟩:Zg)]) cc x2 x3 (w (x4+1))=some r)else(X2 m p cv cu cp x x1 fr l co cn (w (cl+v5)) (w (cd+1)) ([(⟨e22.Mask,v14,true⟩:Zg)]) cc x2 x3 (w (x4+1))=some r)))))else(UN m p cv cu cp x x1 fr l co cn (w (cl+v5)) (w (cd+1)) cc x2 x3 (w (x4+1))=some r))))))))))))else(0<=(w ((l.length:Int)-1))/\(∃(e25:Zb),l[(w ((l.length:Int)-1)).toNat]?=some e25/\((∃(v16:WA) (v17:XS),UM e25=some (.tup [.agg [.own 0,.own 1],Bo true],[.arr 3 1 true (v16.map ic),.arr 42 1 true (v17.map isc)])/\(some (.tup [.agg [Bo true,I cl,I cd,L 3 (([]:List Zg).map Zg.c),L 1 (v16.map ic),L 1 (v17.map isc)],L 2 (x.map Zd.c),Bo true],[])=some r))\/(UM e25=some (.tup [.agg [.t .nil,.t .nil],Bo false],[])/\(some (.tup [.agg [Bo true,I cl,I cd,L 3 (([]:List Zg).map Zg.c),L 1 (([]:WA).map ic),L 1 (([]:XS).map isc)],L 2 (x.map Zd.c),Bo true],[])=some r))))))):UN m p cv cu cp x x1 fr l co cn cl cd cc x2 x3 x4=some r:=by
 unfold UN;rw[Zl Zc7.eq_1];by_cases q1:x4<x3
 .rw[Ya q1]at h;obtain⟨q2,h⟩:=h;obtain⟨e1,q3,h⟩:=h;have gq3:=Xv q3;have kq3:=Xz q3;obtain⟨v,q4,h⟩:=h;unfold Za7 at q4
  try simp at q4
  by_cases q5:v=true
  .rw[Ya q5]at h;refine Yc ?_ h;clear h;simp +decide[*,tI,tII,UN,Vu]
  .rw[Yb q5]at h;obtain⟨v1,q6,h⟩:=h;unfold VY at q6
   try simp at q6
   obtain⟨e4,q7,h⟩:=h;have gq7:=Xv q7;have kq7:=Xz q7;obtain⟨v2,v3,v4,q8,h⟩:=h;unfold QV at q8
   try simp at q8
   obtain⟨v5,q9,h⟩:=h;unfold Za6 at q9
   try simp at q9
   by_cases q10:v1=true
   .rw[Ya q10]at h;obtain⟨v6,q11,h⟩:=h;unfold QS at q11
    try simp at q11
    by_cases q12:(w (cc-cl))<v6
    .rw[Ya q12]at h;by_cases q13:3<=e1.Kind
     .rw[Ya q13]at h;refine Yc ?_ h;clear h;simp +decide[*,tI,tII,WJ,Xl]
     .rw[Yb q13]at h;refine Yc ?_ h;clear h;simp +decide[*,tI,tII,WJ,Xl]
    .rw[Yb q12]at h;by_cases q14:3<=e1.Kind
     .rw[Ya q14]at h;obtain⟨e8,q15,h⟩:=h;have gq15:=Xv q15;have kq15:=Xz q15;obtain⟨v7,q16,h⟩:=h;unfold Ut at q16
      try simp at q16
      obtain⟨v8,q17,h⟩:=h;unfold UL at q17
      try simp at q17
      by_cases q18:(v8.length:Int)<=8
      .rw[Ya q18]at h;have zq18:=eq_true q18;try simp only[Ycu,Ycv,Ycw,Ycx,Yc6,Yf,Ycy,Yck]at zq18
       refine Yc ?_ h;clear h;simp +decide[*,tI,tII,X2,Vu,Xl]
      .rw[Yb q18]at h;have zq18:=eq_false q18;try simp only[Ycu,Ycv,Ycw,Ycx,Yc6,Yf,Ycy,Yck]at zq18
       refine Yc ?_ h;clear h;simp +decide[*,tI,tII,X2,Vu,Xl]
     .rw[Yb q14]at h;refine Yc ?_ h;clear h;simp +decide[*,tI,tII,UN,Vu,Xl]
   .rw[Yb q10]at h;by_cases q19:(w (cc-cl))<v5
    .rw[Ya q19]at h;by_cases q20:3<=e1.Kind
     .rw[Ya q20]at h;obtain⟨q21,h⟩:=h;unfold VE at q21
      try simp at q21
      by_cases q22:(w (e1.Kind-1))=0
      .rw[Ya q22]at h;obtain⟨v9,q23,h⟩:=h;unfold X1 at q23
       try simp at q23
       obtain⟨e13,q24,h⟩:=h;have gq24:=Xv q24;have kq24:=Xz q24;refine Yc ?_ h;clear h;simp +decide[*,tI,tII,WJ,Xl]
      .rw[Yb q22]at h;replace q22:=eq_false q22;by_cases q25:(w (e1.Kind-1))=1
       .rw[Ya q25]at h;obtain⟨v10,q26,h⟩:=h;unfold X1 at q26
        try simp at q26
        obtain⟨e15,q27,h⟩:=h;have gq27:=Xv q27;have kq27:=Xz q27;refine Yc ?_ h;clear h;simp +decide[*,tI,tII,WJ,Xl]
       .rw[Yb q25]at h;replace q25:=eq_false q25;by_cases q28:(w (e1.Kind-1))=2
        .rw[Ya q28]at h;obtain⟨v11,q29,h⟩:=h;unfold X1 at q29
         try simp at q29
         obtain⟨e17,q30,h⟩:=h;have gq30:=Xv q30;have kq30:=Xz q30;refine Yc ?_ h;clear h;simp +decide[*,tI,tII,WJ,Xl]
        .rw[Yb q28]at h;replace q28:=eq_false q28;by_cases q31:(w (e1.Kind-1))=3
         .rw[Ya q31]at h;obtain⟨v12,q32,h⟩:=h;unfold X1 at q32
          try simp at q32
          obtain⟨e19,q33,h⟩:=h;have gq33:=Xv q33;have kq33:=Xz q33;refine Yc ?_ h;clear h;simp +decide[*,tI,tII,WJ,Xl]
         .rw[Yb q31]at h;replace q31:=eq_false q31;by_cases q34:(w (e1.Kind-1))=4
          .rw[Ya q34]at h;obtain⟨v13,q35,h⟩:=h;unfold X1 at q35
           try simp at q35
           obtain⟨e21,q36,h⟩:=h;have gq36:=Xv q36;have kq36:=Xz q36;refine Yc ?_ h;clear h;simp +decide[*,tI,tII,WJ,Xl]
          .rw[Yb q34]at h;replace q34:=eq_false q34;cases h
     .rw[Yb q20]at h;refine Yc ?_ h;clear h;simp +decide[*,tI,tII,WJ,Xl]
    .rw[Yb q19]at h;by_cases q37:3<=e1.Kind
     .rw[Ya q37]at h;obtain⟨e22,q38,h⟩:=h;have gq38:=Xv q38;have kq38:=Xz q38;obtain⟨v14,q39,h⟩:=h;unfold Ut at q39
      try simp at q39
      obtain⟨v15,q40,h⟩:=h;unfold UL at q40
      try simp at q40
      by_cases q41:(v15.length:Int)<=8
      .rw[Ya q41]at h;have zq41:=eq_true q41;try simp only[Ycu,Ycv,Ycw,Ycx,Yc6,Yf,Ycy,Yck]at zq41
       refine Yc ?_ h;clear h;simp +decide[*,tI,tII,X2,Vu,Xl]
      .rw[Yb q41]at h;have zq41:=eq_false q41;try simp only[Ycu,Ycv,Ycw,Ycx,Yc6,Yf,Ycy,Yck]at zq41
       refine Yc ?_ h;clear h;simp +decide[*,tI,tII,X2,Vu,Xl]
     .rw[Yb q37]at h;refine Yc ?_ h;clear h;simp +decide[*,tI,tII,UN,Vu,Xl]
 .rw[Yb q1]at h;obtain⟨q42,h⟩:=h;have zq42:=q42;try simp at zq42
  obtain⟨e25,q43,h⟩:=h;have gq43:=Xv q43;have kq43:=Xz q43;rcases h with h|h
  .obtain⟨v16,v17,q44,h⟩:=h;unfold UM at q44
   try simp at q44
   refine Yc ?_ h;clear h;simp +decide[*,tI,tII,KO]
  .obtain⟨q45,h⟩:=h;unfold UM at q45
   try simp at q45
   refine Yc ?_ h;clear h;simp +decide[*,tI,tII,KO]
theorem Zy5{m:Zm}{p:Zo}{cv:Bool}{cu cp:Int}{x:List Zd}{x1:List Za}{fr:Bool}{l:List Zb}{co:WA}{cn:Bool}{cl cd:Int}{x2:List Zg}{cc:Int}{x3:List Zj}{x4 x5:Int}{r:XR}(h:(if x5<x4 then(0<=x5/\(∃(e1:Zj),x3[x5.toNat]?=some e1/\(∃(v:Bool),Za7 co x1 x5=some (Bo v,[])/\(if v=true then(X2 m p cv cu cp x x1 fr l co cn cl cd x2 cc x3 x4 (w (x5+1))=some r)else(∃(v1:Bool),VY co x5=some (Bo v1,[])/\(∃(e4:Zb),l[x5.toNat]?=some e4/\(∃(v2:Int) (v3:Int) (v4:Int),QV x1 l x5=some (.tup [I v2,I v3,I v4],[])/\(∃(v5:Int),Za6 m p x1 l x5=some (I v5,[])/\(if v1=true then(∃(v6:Int),QS m (e4.Rows.length:Int)=some (I v6,[])/\(if(w (cc-cl))<v6 then(if 3<=e1.Kind then(some (.tup [.agg [Bo cn,I cc,I cd,L 3 (x2.map Zg.c),L 1 (([]:WA).map ic),L 1 (([]:XS).map isc)],L 2 (x.map Zd.c),Bo true],[])=some r)else(some (.tup [.agg [Bo cn,I cc,I cd,L 3 (x2.map Zg.c),L 1 (([]:WA).map ic),L 1 (([]:XS).map isc)],L 2 (x.map Zd.c),Bo true],[])=some r))else(if 3<=e1.Kind then(∃(e8:Za),x1[x5.toNat]?=some e8/\(∃(v7:Int),Ut (e4.Rows.length:Int)=some (I v7,[])/\(x2.length+1<=68719476736/\(∃(v8:List Zd),UL x (⟨e8.Mask,(e4.Rows.length:Int)⟩:Zd)=some (.own 0,[.arr 52 2 true (v8.map Zd.c)])/\(if(v8.length:Int)<=8 then(X2 m p cv cu cp v8 x1 fr l co cn (w (cl+v6)) (w (cd+1)) (x2++[(⟨e8.Mask,v7,true⟩:Zg)]) cc x3 x4 (w (x5+1))=some r)else(X2 m p cv cu cp x x1 fr l co cn (w (cl+v6)) (w (cd+1)) (x2++[(⟨e8.Mask,v7,true⟩:Zg)]) cc x3 x4 (w (x5+1))=some r))))))else(X2 m p cv cu cp x x1 fr l co cn (w (cl+v6)) (w (cd+1)) x2 cc x3 x4 (w (x5+1))=some r))))else(if(w (cc-cl))<v5 then(if 3<=e1.Kind then(VE m=some (.bsl 1 5,[.box (m.c.map .t),.box [.ptr 0 0,.ptr 0 6,.ptr 0 12,.ptr 0 18,.ptr 0 24]])/\(if(w (e1.Kind-1))=0 then(∃(v9:Int),X1 m.Scan v2 v3 (w (cc-cl))=some (I v9,[])/\(∃(e13:Za),x1[x5.toNat]?=some e13/\(x2.length+1<=68719476736/\(some (.tup [.agg [Bo cn,I cc,I cd,L 3 ((x2++[(⟨e13.Mask,v9,false⟩:Zg)]).map Zg.c),L 1 (([]:WA).map ic),L 1 (([]:XS).map isc)],L 2 (x.map Zd.c),Bo true],[])=some r))))else(if(w (e1.Kind-1))=1 then(∃(v10:Int),X1 m.Sort_ v2 v3 (w (cc-cl))=some (I v10,[])/\(∃(e15:Za),x1[x5.toNat]?=some e15/\(x2.length+1<=68719476736/\(some (.tup [.agg [Bo cn,I cc,I cd,L 3 ((x2++[(⟨e15.Mask,v10,false⟩:Zg)]).map Zg.c),L 1 (([]:WA).map ic),L 1 (([]:XS).map isc)],L 2 (x.map Zd.c),Bo true],[])=some r))))else(if(w (e1.Kind-1))=2 then(∃(v11:Int),X1 m.Hash v2 v3 (w (cc-cl))=some (I v11,[])/\(∃(e17:Za),x1[x5.toNat]?=some e17/\(x2.length+1<=68719476736/\(some (.tup [.agg [Bo cn,I cc,I cd,L 3 ((x2++[(⟨e17.Mask,v11,false⟩:Zg)]).map Zg.c),L 1 (([]:WA).map ic),L 1 (([]:XS).map isc)],L 2 (x.map Zd.c),Bo true],[])=some r))))else(if(w (e1.Kind-1))=3 then(∃(v12:Int),X1 m.Merge v2 v3 (w (cc-cl))=some (I v12,[])/\(∃(e19:Za),x1[x5.toNat]?=some e19/\(x2.length+1<=68719476736/\(some (.tup [.agg [Bo cn,I cc,I cd,L 3 ((x2++[(⟨e19.Mask,v12,false⟩:Zg)]).map Zg.c),L 1 (([]:WA).map ic),L 1 (([]:XS).map isc)],L 2 (x.map Zd.c),Bo true],[])=some r))))else(if(w (e1.Kind-1))=4 then(∃(v13:Int),X1 m.Nested v2 v3 (w (cc-cl))=some (I v13,[])/\(∃(e21:Za),x1[x5.toNat]?=some e21/\(x2.length+1<=68719476736/\(some (.tup [.agg [Bo cn,I cc,I cd,L 3 ((x2++[(⟨e21.Mask,v13,false⟩:Zg)]).map Zg.c),L 1 (([]:WA).map ic),L 1 (([]:XS).map isc)],L 2 (x.map Zd.c),Bo true],[])=some r))))else False))))))else(some (.tup [.agg [Bo cn,I cc,I cd,L 3 (x2.map Zg.c),L 1 (([]:WA).map ic),L 1 (([]:XS).map isc)],L 2 (x.map Zd.c),Bo true],[])=some r))else(if 3<=e1.Kind then(∃(e22:Za),x1[x5.toNat]?=some e22/\(∃(v14:Int),Ut (e4.Rows.length:Int)=some (I v14,[])/\(x2.length+1<=68719476736/\(∃(v15:List Zd),UL x (⟨e22.Mask,(e4.Rows.length:Int)⟩:Zd)=some (.own 0,[.arr 52 2 true (v15.map Zd.c)])/\(if(v15.length:Int)<=8 then(X2 m p cv cu cp v15 x1 fr l co cn (w (cl+v5)) (w (cd+1)) (x2++[(⟨e22.Mask,v14,true⟩:Zg)]) cc x3 x4 (w (x5+1))=some r)else(X2 m p cv cu cp x x1 fr l co cn (w (cl+v5)) (w (cd+1)) (x2++[(⟨e22.Mask,v14,true⟩:Zg)]) cc x3 x4 (w (x5+1))=some r))))))else(X2 m p cv cu cp x x1 fr l co cn (w (cl+v5)) (w (cd+1)) x2 cc x3 x4 (w (x5+1))=some r))))))))))))else(0<=(w ((l.length:Int)-1))/\(∃(e25:Zb),l[(w ((l.length:Int)-1)).toNat]?=some e25/\((∃(v16:WA) (v17:XS),UM e25=some (.tup [.agg [.own 0,.own 1],Bo true],[.arr 3 1 true (v16.map ic),.arr 42 1 true (v17.map isc)])/\(some (.tup [.agg [Bo true,I cl,I cd,L 3 (x2.map Zg.c),L 1 (v16.map ic),L 1 (v17.map isc)],L 2 (x.map Zd.c),Bo true],[])=some r))\/(UM e25=some (.tup [.agg [.t .nil,.t .nil],Bo false],[])/\(some (.tup [.agg [Bo true,I cl,I cd,L 3 (x2.map Zg.c),L 1 (([]:WA).map ic),L 1 (([]:XS).map isc)],L 2 (x.map Zd.c),Bo true],[])=some r))))))):X2 m p cv cu cp x x1 fr l co cn cl cd x2 cc x3 x4 x5=some r:=by
 unfold X2;rw[Zl Zc7.eq_1];by_cases q1:x5<x4
 .rw[Ya q1]at h;obtain⟨q2,h⟩:=h;obtain⟨e1,q3,h⟩:=h;have gq3:=Xv q3;have kq3:=Xz q3;obtain⟨v,q4,h⟩:=h;unfold Za7 at q4
  try simp at q4
  by_cases q5:v=true
  .rw[Ya q5]at h;refine Yc ?_ h;clear h;simp +decide[*,tI,tII,X2,Vu]
  .rw[Yb q5]at h;obtain⟨v1,q6,h⟩:=h;unfold VY at q6
   try simp at q6
   obtain⟨e4,q7,h⟩:=h;have gq7:=Xv q7;have kq7:=Xz q7;obtain⟨v2,v3,v4,q8,h⟩:=h;unfold QV at q8
   try simp at q8
   obtain⟨v5,q9,h⟩:=h;unfold Za6 at q9
   try simp at q9
   by_cases q10:v1=true
   .rw[Ya q10]at h;obtain⟨v6,q11,h⟩:=h;unfold QS at q11
    try simp at q11
    by_cases q12:(w (cc-cl))<v6
    .rw[Ya q12]at h;by_cases q13:3<=e1.Kind
     .rw[Ya q13]at h;refine Yc ?_ h;clear h;simp +decide[*,tI,tII,WJ,Xl]
     .rw[Yb q13]at h;refine Yc ?_ h;clear h;simp +decide[*,tI,tII,WJ,Xl]
    .rw[Yb q12]at h;by_cases q14:3<=e1.Kind
     .rw[Ya q14]at h;obtain⟨e8,q15,h⟩:=h;have gq15:=Xv q15;have kq15:=Xz q15;obtain⟨v7,q16,h⟩:=h;unfold Ut at q16
      try simp at q16
      obtain⟨q17,h⟩:=h;have rq17:=roomA (b:=24) q17 (by omega);have sq17:=roomB q17
      try simp[*]at rq17
      try simp[*]at sq17
      obtain⟨v8,q18,h⟩:=h;unfold UL at q18
      try simp at q18
      by_cases q19:(v8.length:Int)<=8
      .rw[Ya q19]at h;have zq19:=eq_true q19;try simp only[Ycu,Ycv,Ycw,Ycx,Yc6,Yf,Ycy,Yck]at zq19
       refine Yc ?_ h;clear h;simp +decide[*,tI,tII,X2,Vu,Xl]
      .rw[Yb q19]at h;have zq19:=eq_false q19;try simp only[Ycu,Ycv,Ycw,Ycx,Yc6,Yf,Ycy,Yck]at zq19
       refine Yc ?_ h;clear h;simp +decide[*,tI,tII,X2,Vu,Xl]
     .rw[Yb q14]at h;refine Yc ?_ h;clear h;simp +decide[*,tI,tII,X2,Vu,Xl]
   .rw[Yb q10]at h;by_cases q20:(w (cc-cl))<v5
    .rw[Ya q20]at h;by_cases q21:3<=e1.Kind
     .rw[Ya q21]at h;obtain⟨q22,h⟩:=h;unfold VE at q22
      try simp at q22
      by_cases q23:(w (e1.Kind-1))=0
      .rw[Ya q23]at h;obtain⟨v9,q24,h⟩:=h;unfold X1 at q24
       try simp at q24
       obtain⟨e13,q25,h⟩:=h;have gq25:=Xv q25;have kq25:=Xz q25;obtain⟨q26,h⟩:=h;have rq26:=roomA (b:=24) q26 (by omega);have sq26:=roomB q26
       try simp[*]at rq26
       try simp[*]at sq26
       refine Yc ?_ h;clear h;simp +decide[*,tI,tII,WJ,Xl]
      .rw[Yb q23]at h;replace q23:=eq_false q23;by_cases q27:(w (e1.Kind-1))=1
       .rw[Ya q27]at h;obtain⟨v10,q28,h⟩:=h;unfold X1 at q28
        try simp at q28
        obtain⟨e15,q29,h⟩:=h;have gq29:=Xv q29;have kq29:=Xz q29;obtain⟨q30,h⟩:=h;have rq30:=roomA (b:=24) q30 (by omega);have sq30:=roomB q30
        try simp[*]at rq30
        try simp[*]at sq30
        refine Yc ?_ h;clear h;simp +decide[*,tI,tII,WJ,Xl]
       .rw[Yb q27]at h;replace q27:=eq_false q27;by_cases q31:(w (e1.Kind-1))=2
        .rw[Ya q31]at h;obtain⟨v11,q32,h⟩:=h;unfold X1 at q32
         try simp at q32
         obtain⟨e17,q33,h⟩:=h;have gq33:=Xv q33;have kq33:=Xz q33;obtain⟨q34,h⟩:=h;have rq34:=roomA (b:=24) q34 (by omega);have sq34:=roomB q34
         try simp[*]at rq34
         try simp[*]at sq34
         refine Yc ?_ h;clear h;simp +decide[*,tI,tII,WJ,Xl]
        .rw[Yb q31]at h;replace q31:=eq_false q31;by_cases q35:(w (e1.Kind-1))=3
         .rw[Ya q35]at h;obtain⟨v12,q36,h⟩:=h;unfold X1 at q36
          try simp at q36
          obtain⟨e19,q37,h⟩:=h;have gq37:=Xv q37;have kq37:=Xz q37;obtain⟨q38,h⟩:=h;have rq38:=roomA (b:=24) q38 (by omega);have sq38:=roomB q38
          try simp[*]at rq38
          try simp[*]at sq38
          refine Yc ?_ h;clear h;simp +decide[*,tI,tII,WJ,Xl]
         .rw[Yb q35]at h;replace q35:=eq_false q35;by_cases q39:(w (e1.Kind-1))=4
          .rw[Ya q39]at h;obtain⟨v13,q40,h⟩:=h;unfold X1 at q40
           try simp at q40
           obtain⟨e21,q41,h⟩:=h;have gq41:=Xv q41;have kq41:=Xz q41;obtain⟨q42,h⟩:=h;have rq42:=roomA (b:=24) q42 (by omega);have sq42:=roomB q42
           try simp[*]at rq42
           try simp[*]at sq42
           refine Yc ?_ h;clear h;simp +decide[*,tI,tII,WJ,Xl]
          .rw[Yb q39]at h;replace q39:=eq_false q39;cases h
     .rw[Yb q21]at h;refine Yc ?_ h;clear h;simp +decide[*,tI,tII,WJ,Xl]
    .rw[Yb q20]at h;by_cases q43:3<=e1.Kind
     .rw[Ya q43]at h;obtain⟨e22,q44,h⟩:=h;have gq44:=Xv q44;have kq44:=Xz q44;obtain⟨v14,q45,h⟩:=h;unfold Ut at q45
      try simp at q45
      obtain⟨q46,h⟩:=h;have rq46:=roomA (b:=24) q46 (by omega);have sq46:=roomB q46
      try simp[*]at rq46
      try simp[*]at sq46
      obtain⟨v15,q47,h⟩:=h;unfold UL at q47
      try simp at q47
      by_cases q48:(v15.length:Int)<=8
      .rw[Ya q48]at h;have zq48:=eq_true q48;try simp only[Ycu,Ycv,Ycw,Ycx,Yc6,Yf,Ycy,Yck]at zq48
       refine Yc ?_ h;clear h;simp +decide[*,tI,tII,X2,Vu,Xl]
      .rw[Yb q48]at h;have zq48:=eq_false q48;try simp only[Ycu,Ycv,Ycw,Ycx,Yc6,Yf,Ycy,Yck]at zq48
       refine Yc ?_ h;clear h;simp +decide[*,tI,tII,X2,Vu,Xl]
     .rw[Yb q43]at h;refine Yc ?_ h;clear h;simp +decide[*,tI,tII,X2,Vu,Xl]
 .rw[Yb q1]at h;obtain⟨q49,h⟩:=h;have zq49:=q49;try simp at zq49
  obtain⟨e25,q50,h⟩:=h;have gq50:=Xv q50;have kq50:=Xz q50;rcases h with h|h
  .obtain⟨v16,v17,q51,h⟩:=h;unfold UM at q51
   try simp at q51
   refine Yc ?_ h;clear h;simp +decide[*,tI,tII,KO]
  .obtain⟨q52,h⟩:=h;unfold UM at q52
   try simp at q52
   refine Yc ?_ h;clear h;simp +decide[*,tI,tII,KO]
theorem Z87:∀a a1 a2 a3 a4 a5 r,Im (Za8 a a1 a2 a3 a4 a5=some r) (a5.length<=68719476736/\((Zay a1 a2 a3=some (.tup [.t .nil,.t .nil,Bo false],[])/\some (.tup [.agg [Bo false,I 0,I 0,L 3 (([]:List Zg).map Zg.c),L 1 (([]:WA).map ic),L 1 (([]:XS).map isc)],L 2 (a5.map Zd.c),Bo false],[])=some r)\/(∃(v:List Za),∃v1,∃(v2:List Zb),Zay a1 a2 a3=some (.tup [.own 0,.own 1,Bo true],[.arr 113 4 true (v.map Za.c),.arr 102 2 v1 (v2.map Zb.c)])/\qB (QR a) (qB (ZC a4 0 1000000000000) (if 8<(a5.length:Int)then some (.tup [.agg [Bo false,I 0,I 0,L 3 (([]:List Zg).map Zg.c),L 1 (([]:WA).map ic),L 1 (([]:XS).map isc)],L 2 (a5.map Zd.c),Bo false],[])=some r else(QU a a2 a3 a5=some (.t .nil,[])/\ZvI a a3 false 0 0 a5 v v1 v2 false 0 0 a4 a3.Steps (a3.Steps.length:Int) 0=some r)\/(qO 3 1 ic (QU a a2 a3 a5) (λv3=>UN a a3 false 0 0 a5 v v1 v2 v3 false 0 0 a4 a3.Steps (a3.Steps.length:Int) 0=some r))) (some (.tup [.agg [Bo false,I 0,I 0,L 3 (([]:List Zg).map Zg.c),L 1 (([]:WA).map ic),L 1 (([]:XS).map isc)],L 2 (a5.map Zd.c),Bo false],[])=some r)) (some (.tup [.agg [Bo false,I 0,I 0,L 3 (([]:List Zg).map Zg.c),L 1 (([]:WA).map ic),L 1 (([]:XS).map isc)],L 2 (a5.map Zd.c),Bo false],[])=some r)))):=by
 all_goals(intros;unfold Im;(try simp only[Za8,Zay,QR,ZC,QU,Zn.c_def,Zd.c_def,Zm.c_def,Zr.c_def,Zo.c_def,Ze.c_def,ZvI,UN,mpl,dfs,qs]);(try simp only[itb]);(try simp only[itf,gS,kk]))
 all_goals(repeat' first|refine exI λ_=>?_|refine anJ λ_ _=>?_|refine anI λ_=>?_|refine orE2 ?_ ?_|exact False.elim)
 all_goals(intro h;first|refine run Z5W rfl ?_)
 all_goals (refine Yc ?_ h;clear h;simp +decide[*,kk,tI,tII,ZvH])
abbrev Zp5:=uq Z87
theorem W5:((((∀a v k r,Im (Zf3 a v k=some r) (if k<(a.Vars.length:Int)then qG a.Vars k (λe1=>if e1=v then qi k r else Zf3 a v (w (k+1))=some r)else qi (-1) r))/\
 (∀a a1 r,Im (Zf2 a a1=some r) (Zf3 a a1 0=some r)))/\
 ((∀q cc c x i k r,Im (Zoa q cc c x i k=some r) (if k<0 then ZvL q cc c x ([]:WA) i k 0=some r else some (.tup [.agg [.own 0,.t .nil],Bo true],[.arr 3 1 true (x.map ic)])=some r))/\
 (∀q cc c x x1 i k r,Im (Zob q cc c x x1 i k=some r) (if k<(x.length:Int)then Zf7 q cc c x x1 ([]:WA) i k 0=some r else some (.tup [.agg [.own 0,.t .nil],Bo true],[.arr 3 1 true (x1.map ic)])=some r))))/\
 (((∀q cc c x x1 cl i k j r,Im (Zf7 q cc c x x1 cl i k j=some r) (if j<(x1.length:Int)then qG x k (λe1=>qG q.Atoms i (λe2=>qG x1 j (λe3=>qI (Zf2 e2 e3) (λv2=>qG e1 v2 (λe5=>cl.length+1<=68719476736/\Zf7 q cc c x x1 (cl++[e5]) i k (w (j+1))=some r)))))else ZaA q cc c x x1 ([cl]) i (w (k+1))=some r))/\
 (∀q cc c x x1 x2 i k r,Im (ZaA q cc c x x1 x2 i k=some r) (if k<(x.length:Int)then Zf8 q cc c x x1 x2 ([]:WA) i k 0=some r else some (.tup [.agg [.own 0,.own 1],Bo true],[.arr 3 1 true (x1.map ic),.arr 42 1 true (x2.map isc)])=some r)))/\
 ((∀q cc c x x1 x2 cl i k j r,Im (Zf8 q cc c x x1 x2 cl i k j=some r) (if j<(x1.length:Int)then qG x k (λe1=>qG q.Atoms i (λe2=>qG x1 j (λe3=>qI (Zf2 e2 e3) (λv2=>qG e1 v2 (λe5=>cl.length+1<=68719476736/\Zf8 q cc c x x1 x2 (cl++[e5]) i k (w (j+1))=some r)))))else x2.length+1<=68719476736/\ZaA q cc c x x1 (x2++[cl]) i (w (k+1))=some r))/\
 ((∀a a1 a2 r,Im (Za9 a a1 a2=some r) (qB (QL a a1) (qB (ZB a2 0 (w ((a1.Atoms.length:Int)-1))) (qG a1.Atoms a2 (λe3=>(∃v2 v3 v4,UF a e3.Name=some (.tup [.agg [.t (.str v2),I v3,.t .nil],Bo v4],[])/\¬a2<0/\qO 3 1 ic (UE a1 (shlI 1 a2)) (λv5=>Zoa a1 v2 v3 v5 a2 0=some r))\/(∃(v6:XS),∃v7,∃v8,UF a e3.Name=some (.tup [.agg [.t (.str v7),I v8,.own 0],Bo true],[.arr 42 1 true (v6.map isc)])/\¬a2<0/\qO 3 1 ic (UE a1 (shlI 1 a2)) (λv9=>Zob a1 v7 v8 v6 v9 a2 0=some r)))) (some (.tup [.agg [.t .nil,.t .nil],Bo false],[])=some r)) (some (.tup [.agg [.t .nil,.t .nil],Bo false],[])=some r)))/\
 (∀l v i r,Im (Zf9 l v i=some r) (if i<(l.length:Int)then qG l i (λe1=>if e1=v then qi i r else Zf9 l v (w (i+1))=some r)else qi (-1) r))))))/\
 ((((∀a a1 r,Im (VH a a1=some r) (Zf9 a a1 0=some r))/\
 (∀s i r,Im (Zc9 s i=some r) (if i<(s.Vars.length:Int)then qG s.Vars i (λe1=>qB (ZB e1 0 3) (if 0<i then 0<=(w (i-1))/\∃e3,s.Vars[(w (i-1)).toNat]?=some e3/\if e1<=e3 then qb false r else Zc9 s (w (i+1))=some r else Zc9 s (w (i+1))=some r) (qb false r))else ZfB s 0=some r)))/\
 ((∀s i r,Im (ZfB s i=some r) (if i<(s.Rows.length:Int)then qG s.Rows i (λe1=>qB (ZbX e1 (s.Vars.length:Int)) (ZfB s (w (i+1))=some r) (qb false r))else qb (decide ((s.Rows.length:Int)<=4096)) r))/\
 (∀a r,Im (Uu a=some r) (Zc9 a 0=some r))))/\
 (((∀s x x1 cd r,Im (ZfC s x x1 cd=some r) (if cd<=9 then ZfD s x x1 cd 0=some r else some (.tup [.agg [.own 0,.t .nil],Bo true],[.arr 3 1 true (x.map ic)])=some r))/\
 (∀s x x1 cd i r,Im (ZfD s x x1 cd i=some r) (if i<(s.Rows.length:Int)then qG s.Rows i (λe1=>qG e1 x1 (λe2=>if e2=cd then e1.length<=68719476736/\KR s x ([e1]) x1 cd (w (i+1))=some r else ZfD s x x1 cd (w (i+1))=some r))else ZfC s x x1 (w (cd+1))=some r)))/\
 ((∀s x x1 x2 cd i r,Im (KR s x x1 x2 cd i=some r) (if i<(s.Rows.length:Int)then qG s.Rows i (λe1=>qG e1 x2 (λe2=>if e2=cd then e1.length<=68719476736/\x1.length+1<=68719476736/\KR s x (x1++[e1]) x2 cd (w (i+1))=some r else KR s x x1 x2 cd (w (i+1))=some r))else ZiA s x x1 x2 (w (cd+1))=some r))/\
 ((∀s x x1 x2 cd r,Im (ZiA s x x1 x2 cd=some r) (if cd<=9 then KR s x x1 x2 cd 0=some r else some (.tup [.agg [.own 0,.own 1],Bo true],[.arr 3 1 true (x.map ic),.arr 42 1 true (x1.map isc)])=some r))/\
 (∀a a1 r,Im (ZaB a a1=some r) (qI (VH a.Vars a1) (λv1=>qB (Uu a) (if v1<0 then some (.tup [.agg [.t .nil,.t .nil],Bo false],[])=some r else a.Vars.length<=68719476736/\ZfC a a.Vars v1 0=some r) (some (.tup [.agg [.t .nil,.t .nil],Bo false],[])=some r)))))))):=by
 and_intros
 all_goals(intros;unfold Im;(try simp only[Zf3,Zf2,Zoa,Zob,Zf7,ZaA,Zf8,Za9,Zf9,VH,Zc9,ZfB,Uu,ZfC,ZfD,KR,ZiA,ZaB,Zc.c_def,QL,ZB,UF,UE,Zn.c_def,Ze.c_def,ZbX,Zb.c_def,ZvL,mpl,dfs,qs]);(try simp only[itb]);(try simp only[itf,gS,kk]))
 all_goals(repeat' first|refine exI λ_=>?_|refine anJ λ_ _=>?_|refine anI λ_=>?_|refine orE2 ?_ ?_|exact False.elim)
 all_goals(intro h;first|rw[Zl ZnY.eq_1]|refine run Z5X rfl ?_|rw[Zl KP.eq_1]|rw[Zl Zf4.eq_1]|refine run Z5Y rfl ?_|rw[Zl Zod.eq_1]|refine run Z5Z rfl ?_|rw[Zl Zof.eq_1]|rw[Zl Zog.eq_1]|refine run Z6a rfl ?_|rw[Zl ZcB.eq_1]|rw[Zl Zi8.eq_1]|refine run Z6b rfl ?_)
 all_goals (refine Yc ?_ h;clear h;simp +decide[*,kk,tI,tII,ZnZ,ZvJ,KQ,Zf6,Zf5,ZvK,Zoe,ZvM,Zoi,Zoh,ZvN,ZcC,ZvO,Zi9,ZvP])
abbrev Zy6:=uq W5.1.1.1.1
abbrev Z88:=uq W5.1.1.1.2
abbrev Z89:=uq W5.1.1.2.1
abbrev Z8A:=uq W5.1.1.2.2
abbrev Zy7:=uq W5.1.2.1.1
abbrev Zy8:=uq W5.1.2.1.2
abbrev Zy9:=uq W5.1.2.2.1
abbrev Z8B:=uq W5.1.2.2.2.1
abbrev ZyA:=uq W5.1.2.2.2.2
abbrev Z8C:=uq W5.2.1.1.1
abbrev ZyB:=uq W5.2.1.1.2
abbrev ZyC:=uq W5.2.1.2.1
abbrev Z8D:=uq W5.2.1.2.2
abbrev ZyD:=uq W5.2.2.1.1
abbrev ZyE:=uq W5.2.2.1.2
abbrev Zji:=uq W5.2.2.2.1
abbrev ZyF:=uq W5.2.2.2.2.1
abbrev Z8E:=uq W5.2.2.2.2.2
theorem Zdf:((∀c a b v r,Im (ZaC c a b v=some r) (if v<4 then qB (VX a v) (c.length+1<=68719476736/\ZaC (c++[v]) a b (w (v+1))=some r) (qB (VX b v) (c.length+1<=68719476736/\ZaC (c++[v]) a b (w (v+1))=some r) (ZaC c a b (w (v+1))=some r))else some (.own 0,[.arr 3 1 true (c.map ic)])=some r))/\
 ((∀a a1 r,Im (KT a a1=some r) (ZaC ([]:WA) a a1 0=some r))/\
 (∀a x b y i r,Im (ZcD a x b y i=some r) (if i<(a.length:Int)then qG a i (λe1=>qI (VH b e1) (λv1=>if 0<=v1 then qH x i (λe3=>qH y v1 (λe4=>if e3=e4 then ZcD a x b y (w (i+1))=some r else qb false r))else ZcD a x b y (w (i+1))=some r))else qb true r))))/\
 ((∀a a1 a2 a3 r,Im (Xs a a1 a2 a3=some r) (ZcD a a1 a2 a3 0=some r))/\
 ((∀cd cc a x b y i r,Im (ZcE cd cc a x b y i=some r) (if i<(cc.length:Int)then qG cc i (λe1=>qI (VH a e1) (λv1=>if 0<=v1 then qH x v1 (λe3=>cd.length+1<=68719476736/\ZcE (cd++[e3]) cc a x b y (w (i+1))=some r)else qI (VH b e1) (λv2=>qG y v2 (λe5=>cd.length+1<=68719476736/\ZcE (cd++[e5]) cc a x b y (w (i+1))=some r))))else some (.own 0,[.arr 3 1 true (cd.map ic)])=some r))/\
 (∀a a1 a2 a3 a4 r,Im (Xt a a1 a2 a3 a4=some r) (ZcE ([]:WA) a a1 a2 a3 a4 0=some r)))):=by
 and_intros
 all_goals(intros;unfold Im;(try simp only[ZaC,KT,ZcD,Xs,ZcE,Xt,VX,VH,mpl,dfs,qs]);(try simp only[itb]);(try simp only[itf,gS,kk]))
 all_goals(repeat' first|refine exI λ_=>?_|refine anJ λ_ _=>?_|refine anI λ_=>?_|refine orE2 ?_ ?_|exact False.elim)
 all_goals(intro h;first|rw[Zl Zoj.eq_1]|refine run Z6c rfl ?_|rw[Zl Zom.eq_1]|refine run Z6d rfl ?_|rw[Zl Zoo.eq_1]|refine run Z6e rfl ?_)
 all_goals (refine Yc ?_ h;clear h;simp +decide[*,kk,tI,tII,ZvQ,Zok,ZvR,Zon,ZvS,ZvT,Zop,ZvU])
abbrev ZyG:=uq Zdf.1.1
abbrev Z8F:=uq Zdf.1.2.1
abbrev ZyH:=uq Zdf.1.2.2
abbrev Z8G:=uq Zdf.2.1
abbrev ZyI:=uq Zdf.2.2.1
abbrev Z8H:=uq Zdf.2.2.2
theorem UW:(((∀a b x cd only x1 cc c i r,Im (ZcF a b x cd only x1 cc c i=some r) (if i<cc then UQ a b x cd only x1 cc c i 0=some r else some (.agg [.own 0,.t .nil],[.arr 3 1 true (x.map ic)])=some r))/\
 (∀a b x cd only x1 cc c i k r,Im (UQ a b x cd only x1 cc c i k=some r) (if k<c then 0<=(if(w ((a.Rows.length:Int)-1))<i then(w ((a.Rows.length:Int)-1))else i)/\∃e1,a.Rows[(if(w ((a.Rows.length:Int)-1))<i then(w ((a.Rows.length:Int)-1))else i).toNat]?=some e1/\0<=(if(w ((b.Rows.length:Int)-1))<k then(w ((b.Rows.length:Int)-1))else k)/\∃e2,b.Rows[(if(w ((b.Rows.length:Int)-1))<k then(w ((b.Rows.length:Int)-1))else k).toNat]?=some e2/\if cd=true then qG a.Rows k (λe3=>qG b.Rows i (λe4=>if only<0 then qB (Xs a.Vars e3 b.Vars e4) (qO 3 1 ic (Xt x a.Vars e3 b.Vars e4) (λv4=>XW a b x ([v4]) true only x1 cc c i (w (k+1))=some r)) (UQ a b x true only x1 cc c i (w (k+1))=some r)else qG e3 x1 (λe7=>if e7=only then qB (Xs a.Vars e3 b.Vars e4) (qO 3 1 ic (Xt x a.Vars e3 b.Vars e4) (λv10=>XW a b x ([v10]) true only x1 cc c i (w (k+1))=some r)) (UQ a b x true only x1 cc c i (w (k+1))=some r)else UQ a b x true only x1 cc c i (w (k+1))=some r)))else if only<0 then qB (Xs a.Vars e1 b.Vars e2) (qO 3 1 ic (Xt x a.Vars e1 b.Vars e2) (λv11=>XW a b x ([v11]) false only x1 cc c i (w (k+1))=some r)) (UQ a b x false only x1 cc c i (w (k+1))=some r)else qG e1 x1 (λe12=>if e12=only then qB (Xs a.Vars e1 b.Vars e2) (qO 3 1 ic (Xt x a.Vars e1 b.Vars e2) (λv12=>XW a b x ([v12]) false only x1 cc c i (w (k+1))=some r)) (UQ a b x false only x1 cc c i (w (k+1))=some r)else UQ a b x false only x1 cc c i (w (k+1))=some r)else ZcF a b x cd only x1 cc c (w (i+1))=some r)))/\
 ((∀a b x x1 cd only x2 cc c i k r,Im (XW a b x x1 cd only x2 cc c i k=some r) (if k<c then if(x1.length:Int)<=4096 then 0<=(if(w ((a.Rows.length:Int)-1))<i then(w ((a.Rows.length:Int)-1))else i)/\∃e1,a.Rows[(if(w ((a.Rows.length:Int)-1))<i then(w ((a.Rows.length:Int)-1))else i).toNat]?=some e1/\0<=(if(w ((b.Rows.length:Int)-1))<k then(w ((b.Rows.length:Int)-1))else k)/\∃e2,b.Rows[(if(w ((b.Rows.length:Int)-1))<k then(w ((b.Rows.length:Int)-1))else k).toNat]?=some e2/\if cd=true then qG a.Rows k (λe3=>qG b.Rows i (λe4=>if only<0 then qB (Xs a.Vars e3 b.Vars e4) (qO 3 1 ic (Xt x a.Vars e3 b.Vars e4) (λv4=>x1.length+1<=68719476736/\XW a b x (x1++[v4]) true only x2 cc c i (w (k+1))=some r)) (XW a b x x1 true only x2 cc c i (w (k+1))=some r)else qG e3 x2 (λe7=>if e7=only then qB (Xs a.Vars e3 b.Vars e4) (qO 3 1 ic (Xt x a.Vars e3 b.Vars e4) (λv10=>x1.length+1<=68719476736/\XW a b x (x1++[v10]) true only x2 cc c i (w (k+1))=some r)) (XW a b x x1 true only x2 cc c i (w (k+1))=some r)else XW a b x x1 true only x2 cc c i (w (k+1))=some r)))else if only<0 then qB (Xs a.Vars e1 b.Vars e2) (qO 3 1 ic (Xt x a.Vars e1 b.Vars e2) (λv11=>x1.length+1<=68719476736/\XW a b x (x1++[v11]) false only x2 cc c i (w (k+1))=some r)) (XW a b x x1 false only x2 cc c i (w (k+1))=some r)else qG e1 x2 (λe12=>if e12=only then qB (Xs a.Vars e1 b.Vars e2) (qO 3 1 ic (Xt x a.Vars e1 b.Vars e2) (λv12=>x1.length+1<=68719476736/\XW a b x (x1++[v12]) false only x2 cc c i (w (k+1))=some r)) (XW a b x x1 false only x2 cc c i (w (k+1))=some r)else XW a b x x1 false only x2 cc c i (w (k+1))=some r)else ZcG a b x x1 cd only x2 cc c (w (i+1))=some r else ZcG a b x x1 cd only x2 cc c (w (i+1))=some r))/\
 ((∀a b x x1 cd only x2 cc c i r,Im (ZcG a b x x1 cd only x2 cc c i=some r) (if i<cc then XW a b x x1 cd only x2 cc c i 0=some r else some (.agg [.own 0,.own 1],[.arr 3 1 true (x.map ic),.arr 42 1 true (x1.map isc)])=some r))/\
 (∀x a a1 a2 a3 a4 r,Im (Uv x a a1 a2 a3 a4=some r) (qI (VH a.Vars a3) (λv=>if a2=true then ZcF a a1 x true a4 v (a1.Rows.length:Int) (a.Rows.length:Int) 0=some r else ZcF a a1 x false a4 v (a.Rows.length:Int) (a1.Rows.length:Int) 0=some r))))))/\
 (((∀x r,Im (ZcH x=some r) (some (.tup [.agg [.own 0,.t .nil],Bo true],[.arr 3 1 true (x.map ic)])=some r))/\
 ((∀x x1 r,Im (Qs x x1=some r) (if 4096<(x1.length:Int)then some (.tup [.agg [.t .nil,.t .nil],Bo false],[.arr 3 1 true (x.map ic),.arr 42 1 true (x1.map isc)])=some r else some (.tup [.agg [.own 0,.own 1],Bo true],[.arr 3 1 true (x.map ic),.arr 42 1 true (x1.map isc)])=some r))/\
 (∀a a1 r,Im (ZaG a a1=some r) (qB (Uu a) (qB (Uu a1) (qO 3 1 ic (KT a.Vars a1.Vars) (λv1=>(∃(v2:WA),Uv v1 a a1 true 0 (-1)=some (.agg [.own 0,.t .nil],[.arr 3 1 true (v2.map ic)])/\∃(v3:WA),ZcH v2=some (.tup [.agg [.own 0,.t .nil],Bo true],[.arr 3 1 true (v3.map ic)])/\some (.tup [.agg [.own 0,.t .nil],Bo true],[.arr 3 1 true (v3.map ic)])=some r)\/(∃(v4:WA) (v5:XS),Uv v1 a a1 true 0 (-1)=some (.agg [.own 0,.own 1],[.arr 3 1 true (v4.map ic),.arr 42 1 true (v5.map isc)])/\((∃(v6:WA) (v7:XS),Qs v4 v5=some (.tup [.agg [.t .nil,.t .nil],Bo false],[.arr 3 1 true (v6.map ic),.arr 42 1 true (v7.map isc)])/\some (.tup [.agg [.t .nil,.t .nil],Bo false],[])=some r)\/(∃(v8:WA) (v9:XS),Qs v4 v5=some (.tup [.agg [.own 0,.own 1],Bo true],[.arr 3 1 true (v8.map ic),.arr 42 1 true (v9.map isc)])/\some (.tup [.agg [.own 0,.own 1],Bo true],[.arr 3 1 true (v8.map ic),.arr 42 1 true (v9.map isc)])=some r))))) (some (.tup [.agg [.t .nil,.t .nil],Bo false],[])=some r)) (some (.tup [.agg [.t .nil,.t .nil],Bo false],[])=some r)))))/\
 ((∀a a1 r,Im (ZaH a a1=some r) (qB (Uu a) (qB (Uu a1) (qO 3 1 ic (KT a.Vars a1.Vars) (λv1=>(∃(v2:WA),Uv v1 a a1 false 0 (-1)=some (.agg [.own 0,.t .nil],[.arr 3 1 true (v2.map ic)])/\∃(v3:WA),ZcH v2=some (.tup [.agg [.own 0,.t .nil],Bo true],[.arr 3 1 true (v3.map ic)])/\some (.tup [.agg [.own 0,.t .nil],Bo true],[.arr 3 1 true (v3.map ic)])=some r)\/(∃(v4:WA) (v5:XS),Uv v1 a a1 false 0 (-1)=some (.agg [.own 0,.own 1],[.arr 3 1 true (v4.map ic),.arr 42 1 true (v5.map isc)])/\((∃(v6:WA) (v7:XS),Qs v4 v5=some (.tup [.agg [.t .nil,.t .nil],Bo false],[.arr 3 1 true (v6.map ic),.arr 42 1 true (v7.map isc)])/\some (.tup [.agg [.t .nil,.t .nil],Bo false],[])=some r)\/(∃(v8:WA) (v9:XS),Qs v4 v5=some (.tup [.agg [.own 0,.own 1],Bo true],[.arr 3 1 true (v8.map ic),.arr 42 1 true (v9.map isc)])/\some (.tup [.agg [.own 0,.own 1],Bo true],[.arr 3 1 true (v8.map ic),.arr 42 1 true (v9.map isc)])=some r))))) (some (.tup [.agg [.t .nil,.t .nil],Bo false],[])=some r)) (some (.tup [.agg [.t .nil,.t .nil],Bo false],[])=some r)))/\
 ((∀s x i r,Im (ZfE s x i=some r) (if i<(s.Rows.length:Int)then 0<=(w (i-1))/\∃e1,s.Rows[(w (i-1)).toNat]?=some e1/\qG e1 x (λe2=>qG s.Rows i (λe3=>qH e3 x (λe4=>if e4<e2 then qb false r else ZfE s x (w (i+1))=some r)))else qb true r))/\
 (∀a a1 r,Im (ZcI a a1=some r) (qI (VH a.Vars a1) (λv=>qB (Uu a) (if v<0 then qb false r else ZfE a v 1=some r) (qb false r))))))):=by
 and_intros
 all_goals(intros;unfold Im;(try simp only[ZcF,UQ,XW,ZcG,Uv,ZcH,Qs,ZaG,ZaH,ZfE,ZcI,Xs,Xt,VH,Uu,KT,Zb.c_def,mpl,dfs,qs]);(try simp only[itb]);(try simp only[itf,gS,kk]))
 all_goals(repeat' first|refine exI λ_=>?_|refine anJ λ_ _=>?_|refine anI λ_=>?_|refine orE2 ?_ ?_|exact False.elim)
 all_goals(intro h;first|rw[Zl UO.eq_1]|rw[Zl ZaE.eq_1]|refine ZR ZwF rfl ?_|refine ZR Z6f rfl ?_|refine run Z6g rfl ?_|refine run Z6h rfl ?_|rw[Zl Zou.eq_1]|refine run Z6i rfl ?_)
 all_goals (refine Yc ?_ h;clear h;simp +decide[*,kk,tI,tII,UP,Zoq,ZaF,Zos,Zor,ZvV,ZvW,ZvX,Zov,ZvY])
abbrev ZyJ:=uq UW.1.1.1
abbrev ZyK:=uq UW.1.1.2
abbrev ZyL:=uq UW.1.2.1
abbrev ZyM:=uq UW.1.2.2.1
abbrev Zp6:=uq UW.1.2.2.2
abbrev Zp7:=uq UW.2.1.1
abbrev Z8I:=uq UW.2.1.2.1
abbrev Z8J:=uq UW.2.1.2.2
abbrev Z8K:=uq UW.2.2.1
abbrev Zp8:=uq UW.2.2.2.1
abbrev Z8L:=uq UW.2.2.2.2
end Go.Proofs.YtgbipcfdgfjplaaGreat
