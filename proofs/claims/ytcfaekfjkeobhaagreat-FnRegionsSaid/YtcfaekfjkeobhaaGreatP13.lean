/-
  Parts of the proofs for this seat: G12 G13 G14 G15.
-/
import Derived.Test.YtcfaekfjkeobhaaGreatP9
set_option linter.unusedSectionVars false
set_option linter.unusedSimpArgs false
set_option linter.unusedVariables false
set_option maxRecDepth 100000
set_option maxHeartbeats 4000000
namespace Go.Proofs.YtcfaekfjkeobhaaGreat
open Go.AM
theorem Zn9{x:Zd}{x1 x2:Int}{r:AV×List Blk}(h:(if x2<x1 then(if x2=0 then(∃(v:Bool),Zcr x.Scan=some (Bo v,[])/\(if v=true then((Zci x.Scan=some (.tup [.t .nil,.t .nil,Bo false],[])/\(∃(v1:List (List Int)),Zem=some (.own 0,[.arr 35 1 true (v1.map isc)])/\(Zjf x v1 (w (1+x2)) x1 x2 (v1.length:Int) 0=some r)))\/(∃(v2:List Int) (v3:List Int),Zci x.Scan=some (.tup [L 1 (v3.map ic),.own 0,Bo true],[.arr 3 1 true (v2.map ic)])/\(some (.tup [I (w (1+x2)),L 1 (v3.map ic),.own 0],[.arr 3 1 true (v2.map ic)])=some r)))else(some (.tup [I (w (1+x2)),.t .nil,.t .nil],[])=some r)))else(if x2=1 then(∃(v4:Bool),Zcr x.Sort_=some (Bo v4,[])/\(if v4=true then((Zci x.Sort_=some (.tup [.t .nil,.t .nil,Bo false],[])/\(∃(v5:List (List Int)),Zem=some (.own 0,[.arr 35 1 true (v5.map isc)])/\(Zjg x v5 (w (1+x2)) x1 x2 (v5.length:Int) 0=some r)))\/(∃(v6:List Int) (v7:List Int),Zci x.Sort_=some (.tup [L 1 (v7.map ic),.own 0,Bo true],[.arr 3 1 true (v6.map ic)])/\(some (.tup [I (w (1+x2)),L 1 (v7.map ic),.own 0],[.arr 3 1 true (v6.map ic)])=some r)))else(some (.tup [I (w (1+x2)),.t .nil,.t .nil],[])=some r)))else(if x2=2 then(∃(v8:Bool),Zcr x.Hash=some (Bo v8,[])/\(if v8=true then((Zci x.Hash=some (.tup [.t .nil,.t .nil,Bo false],[])/\(∃(v9:List (List Int)),Zem=some (.own 0,[.arr 35 1 true (v9.map isc)])/\(Zjh x v9 (w (1+x2)) x1 x2 (v9.length:Int) 0=some r)))\/(∃(v10:List Int) (v11:List Int),Zci x.Hash=some (.tup [L 1 (v11.map ic),.own 0,Bo true],[.arr 3 1 true (v10.map ic)])/\(some (.tup [I (w (1+x2)),L 1 (v11.map ic),.own 0],[.arr 3 1 true (v10.map ic)])=some r)))else(some (.tup [I (w (1+x2)),.t .nil,.t .nil],[])=some r)))else(if x2=3 then(∃(v12:Bool),Zcr x.Merge=some (Bo v12,[])/\(if v12=true then((Zci x.Merge=some (.tup [.t .nil,.t .nil,Bo false],[])/\(∃(v13:List (List Int)),Zem=some (.own 0,[.arr 35 1 true (v13.map isc)])/\(Zji x v13 (w (1+x2)) x1 x2 (v13.length:Int) 0=some r)))\/(∃(v14:List Int) (v15:List Int),Zci x.Merge=some (.tup [L 1 (v15.map ic),.own 0,Bo true],[.arr 3 1 true (v14.map ic)])/\(some (.tup [I (w (1+x2)),L 1 (v15.map ic),.own 0],[.arr 3 1 true (v14.map ic)])=some r)))else(some (.tup [I (w (1+x2)),.t .nil,.t .nil],[])=some r)))else(if x2=4 then(∃(v16:Bool),Zcr x.Nested=some (Bo v16,[])/\(if v16=true then((Zci x.Nested=some (.tup [.t .nil,.t .nil,Bo false],[])/\(∃(v17:List (List Int)),Zem=some (.own 0,[.arr 35 1 true (v17.map isc)])/\(Zjj x v17 (w (1+x2)) x1 x2 (v17.length:Int) 0=some r)))\/(∃(v18:List Int) (v19:List Int),Zci x.Nested=some (.tup [L 1 (v19.map ic),.own 0,Bo true],[.arr 3 1 true (v18.map ic)])/\(some (.tup [I (w (1+x2)),L 1 (v19.map ic),.own 0],[.arr 3 1 true (v18.map ic)])=some r)))else(some (.tup [I (w (1+x2)),.t .nil,.t .nil],[])=some r)))else False)))))else(some (.tup [I 0,.t .nil,.t .nil],[])=some r))):Zbw x x1 x2=some r:=by
 unfold Zbw;rw[Zl Zjd.eq_1];by_cases q1:x2<x1
 .rw[if_pos q1]at h;by_cases q2:x2=0
  .rw[if_pos q2]at h;subst q2;obtain⟨v,q3,h⟩:=h;unfold Zcr at q3
   try simp at q3
   by_cases q4:v=true
   .rw[if_pos q4]at h;rcases h with h|h
    .obtain⟨q5,h⟩:=h;unfold Zci at q5
     try simp at q5
     obtain⟨v1,q6,h⟩:=h;unfold Zem at q6
     try simp at q6
     refine Ya ?_ h;clear h;simp +decide[*,tI,tII,Zjf]
    .obtain⟨v2,v3,q7,h⟩:=h;unfold Zci at q7
     try simp at q7
     refine Ya ?_ h;clear h;simp +decide[*,tI,tII]
   .rw[if_neg q4]at h;refine Ya ?_ h;clear h;simp +decide[*,tI,tII]
  .rw[if_neg q2]at h;replace q2:=eq_false q2;by_cases q8:x2=1
   .rw[if_pos q8]at h;subst q8;obtain⟨v4,q9,h⟩:=h;unfold Zcr at q9
    try simp at q9
    by_cases q10:v4=true
    .rw[if_pos q10]at h;rcases h with h|h
     .obtain⟨q11,h⟩:=h;unfold Zci at q11
      try simp at q11
      obtain⟨v5,q12,h⟩:=h;unfold Zem at q12
      try simp at q12
      refine Ya ?_ h;clear h;simp +decide[*,tI,tII,Zjg]
     .obtain⟨v6,v7,q13,h⟩:=h;unfold Zci at q13
      try simp at q13
      refine Ya ?_ h;clear h;simp +decide[*,tI,tII]
    .rw[if_neg q10]at h;refine Ya ?_ h;clear h;simp +decide[*,tI,tII]
   .rw[if_neg q8]at h;replace q8:=eq_false q8;by_cases q14:x2=2
    .rw[if_pos q14]at h;subst q14;obtain⟨v8,q15,h⟩:=h;unfold Zcr at q15
     try simp at q15
     by_cases q16:v8=true
     .rw[if_pos q16]at h;rcases h with h|h
      .obtain⟨q17,h⟩:=h;unfold Zci at q17
       try simp at q17
       obtain⟨v9,q18,h⟩:=h;unfold Zem at q18
       try simp at q18
       refine Ya ?_ h;clear h;simp +decide[*,tI,tII,Zjh]
      .obtain⟨v10,v11,q19,h⟩:=h;unfold Zci at q19
       try simp at q19
       refine Ya ?_ h;clear h;simp +decide[*,tI,tII]
     .rw[if_neg q16]at h;refine Ya ?_ h;clear h;simp +decide[*,tI,tII]
    .rw[if_neg q14]at h;replace q14:=eq_false q14;by_cases q20:x2=3
     .rw[if_pos q20]at h;subst q20;obtain⟨v12,q21,h⟩:=h;unfold Zcr at q21
      try simp at q21
      by_cases q22:v12=true
      .rw[if_pos q22]at h;rcases h with h|h
       .obtain⟨q23,h⟩:=h;unfold Zci at q23
        try simp at q23
        obtain⟨v13,q24,h⟩:=h;unfold Zem at q24
        try simp at q24
        refine Ya ?_ h;clear h;simp +decide[*,tI,tII,Zji]
       .obtain⟨v14,v15,q25,h⟩:=h;unfold Zci at q25
        try simp at q25
        refine Ya ?_ h;clear h;simp +decide[*,tI,tII]
      .rw[if_neg q22]at h;refine Ya ?_ h;clear h;simp +decide[*,tI,tII]
     .rw[if_neg q20]at h;replace q20:=eq_false q20;by_cases q26:x2=4
      .rw[if_pos q26]at h;subst q26;obtain⟨v16,q27,h⟩:=h;unfold Zcr at q27
       try simp at q27
       by_cases q28:v16=true
       .rw[if_pos q28]at h;rcases h with h|h
        .obtain⟨q29,h⟩:=h;unfold Zci at q29
         try simp at q29
         obtain⟨v17,q30,h⟩:=h;unfold Zem at q30
         try simp at q30
         refine Ya ?_ h;clear h;simp +decide[*,tI,tII,Zjj]
        .obtain⟨v18,v19,q31,h⟩:=h;unfold Zci at q31
         try simp at q31
         refine Ya ?_ h;clear h;simp +decide[*,tI,tII]
       .rw[if_neg q28]at h;refine Ya ?_ h;clear h;simp +decide[*,tI,tII]
      .rw[if_neg q26]at h;replace q26:=eq_false q26;cases h
 .rw[if_neg q1]at h;refine Ya ?_ h;clear h;simp +decide[*,tI,tII,Zje]
theorem Zfa:(((∀o x cc x1 x2 x3 x4 r,Im (Zjf o x cc x1 x2 x3 x4=some r) (if x4<x3 then qG x x4 (λe1=>qI (Zfu o.Scan e1) (λv3=>if v3<1 then some (.tup [I cc,L 1 (e1.map ic),.t .nil],[])=some r else Zjf o x cc x1 x2 x3 (w (x4+1))=some r))else Zbw o x1 (w (x2+1))=some r))/\
 ((∀o x cc x1 x2 x3 x4 r,Im (Zjg o x cc x1 x2 x3 x4=some r) (if x4<x3 then qG x x4 (λe1=>qI (Zfu o.Sort_ e1) (λv3=>if v3<1 then some (.tup [I cc,L 1 (e1.map ic),.t .nil],[])=some r else Zjg o x cc x1 x2 x3 (w (x4+1))=some r))else Zbw o x1 (w (x2+1))=some r))/\
 (∀o x cc x1 x2 x3 x4 r,Im (Zjh o x cc x1 x2 x3 x4=some r) (if x4<x3 then qG x x4 (λe1=>qI (Zfu o.Hash e1) (λv3=>if v3<1 then some (.tup [I cc,L 1 (e1.map ic),.t .nil],[])=some r else Zjh o x cc x1 x2 x3 (w (x4+1))=some r))else Zbw o x1 (w (x2+1))=some r))))/\
 ((∀o x cc x1 x2 x3 x4 r,Im (Zji o x cc x1 x2 x3 x4=some r) (if x4<x3 then qG x x4 (λe1=>qI (Zfu o.Merge e1) (λv3=>if v3<1 then some (.tup [I cc,L 1 (e1.map ic),.t .nil],[])=some r else Zji o x cc x1 x2 x3 (w (x4+1))=some r))else Zbw o x1 (w (x2+1))=some r))/\
 ((∀o x cc x1 x2 x3 x4 r,Im (Zjj o x cc x1 x2 x3 x4=some r) (if x4<x3 then qG x x4 (λe1=>qI (Zfu o.Nested e1) (λv3=>if v3<1 then some (.tup [I cc,L 1 (e1.map ic),.t .nil],[])=some r else Zjj o x cc x1 x2 x3 (w (x4+1))=some r))else Zbw o x1 (w (x2+1))=some r))/\
 (∀a r,Im (Zno a=some r) (Zg6 a=some (.bsl 1 5,[.box (a.c.map .t),.box [.ptr 0 0,.ptr 0 6,.ptr 0 12,.ptr 0 18,.ptr 0 24]])/\Zbw a 5 0=some r)))))/\
 (((∀a r,Im (Znp a=some r) ((∃(v:List Int),∃v1,∃(v2:List Int),Zno a=some (.tup [I v1,L 1 (v2.map ic),.own 0],[.arr 3 1 true (v.map ic)])/\qb (decide (v1=0)) r)\/(∃v3,Zno a=some (.tup [I v3,.t .nil,.t .nil],[])/\qb (decide (v3=0)) r)\/(∃v4,∃(v5:List Int),Zno a=some (.tup [I v4,L 1 (v5.map ic),.t .nil],[])/\qb (decide (v4=0)) r)))/\
 ((∀a a1 a2 r,Im (Zle a a1 a2=some r) (qB (Znj a1 a2) (qI (Zdz a1) (λv3=>qB (Zla a1 v3) (qV (Znp a) (λv6=>qb v6 r)) (qb false r))) (qb false r)))/\
 (∀cn cd x x1 x2 r,Im (Zlf cn cd x x1 x2=some r) (if x2<x1 then qG x x2 (λe1=>qI (Zjb e1) (λv3=>cn.length+1<=68719476736/\Zlf (cn++[v3]) cd x x1 (w (x2+1))=some r))else qB (Zk3 cd) (some (.own 0,[.arr 3 1 true (cn.map ic)])=some r) (some (.t .nil,[])=some r)))))/\
 (((∀a r,Im (Zh7 a=some r) (Zlf ([]:List Int) a a (a.length:Int) 0=some r))/\
 (∀q cl x x1 x2 r,Im (Zq8 q cl x x1 x2=some r) (if x2<x1 then qG x x2 (λe1=>qB (Zbj e1 0 4096) (Zq8 q cl x x1 (w (x2+1))=some r) (qb false r))else qB (Zgh q) (qI (Zdz q) (λv6=>qb (decide ((cl.length:Int)=(w (v6+1)))) r)) (qb false r))))/\
 ((∀a a1 r,Im (Zlg a a1=some r) (Zq8 a a1 a1 (a1.length:Int) 0=some r))/\
 (∀a a1 a2 a3 r,Im (Zck a a1 a2 a3=some r) (qB (Zcr a) (qB (Zbj a1 0 4096) (qB (Zbj a2 0 4096) (qB (Zbj a3 0 4096) (qI (Znm a a1 a2 a3) (λv7=>qi v7 r)) (qi 0 r)) (qi 0 r)) (qi 0 r)) (qi 0 r)))))):=by
 and_intros
 all_goals(intros;unfold Im;(try simp only[Zjf,Zjg,Zjh,Zji,Zjj,Zno,Znp,Zle,Zlf,Zh7,Zq8,Zlg,Zck,Zfu,Zj.c_def,Zg6,Zd.c_def,Znj,Zdz,Zla,Box.c_def,Plan.c_def,Zc.c_def,Region.c_def,Zjb,Zk3,Zbj,Zgh,Zcr,Znm,Zbw,mpl,dfs,qs]);(try simp only[itb]);(try simp only[itf,gS,kk]))
 all_goals(repeat' first|refine exI λ_=>?_|refine anJ λ_ _=>?_|refine anI λ_=>?_|refine orE2 ?_ ?_|exact False.elim)
 all_goals(intro h;first|rw[Zl Zlc.eq_1]|refine run Zbo0 rfl ?_|refine run Zbo1 rfl ?_|refine run Zbo2 rfl ?_|rw[Zl Z1a.eq_1]|refine run Zbo3 rfl ?_|rw[Zl Z1c.eq_1]|refine run Zbo4 rfl ?_|refine run Zbo5 rfl ?_)
 all_goals (refine Ya ?_ h;clear h;simp +decide[*,kk,tI,tII,Zld,Zbbx,Zbby,Zbbz,Z1b,Zbb0,Z1d,Zbb1,Zbb2])
abbrev Zbfo:=uq Zfa.1.1.1
abbrev Zbfp:=uq Zfa.1.1.2.1
abbrev Zbfq:=uq Zfa.1.1.2.2
abbrev Zbfr:=uq Zfa.1.2.1
abbrev Zbfs:=uq Zfa.1.2.2.1
abbrev Zbs1:=uq Zfa.1.2.2.2
abbrev Zbs2:=uq Zfa.2.1.1
abbrev Zbs3:=uq Zfa.2.1.2.1
abbrev Z3d:=uq Zfa.2.1.2.2
abbrev Zbft:=uq Zfa.2.2.1.1
abbrev Zbfu:=uq Zfa.2.2.1.2
abbrev Zbs4:=uq Zfa.2.2.2.1
abbrev Zbs5:=uq Zfa.2.2.2.2
theorem Zhb:(((∀m cn cc cd x x1 x2 r,Im (Zb5 m cn cc cd x x1 x2=some r) (if x2<x1 then qG x x2 (λe1=>qH cn x2 (λe2=>qG cd e2.Mask (λe3=>if 0<=e2.Left then qH cn e2.Left (λe4=>qG cd e4.Mask (λe5=>if 0<=e2.Right then qH cn e2.Right (λe6=>qG cd e6.Mask (λe7=>Znq m cn cc e1 cd x2 e5 e7 x x1 x2=some r))else Znr m cn cc e1 cd x2 e5 0 x x1 x2 false=some r))else if 0<=e2.Right then qH cn e2.Right (λe8=>qG cd e8.Mask (λe9=>Znq m cn cc e1 cd x2 e3 e9 x x1 x2=some r))else Znr m cn cc e1 cd x2 e3 0 x x1 x2 false=some r)))else some (.own 0,[.arr 3 1 true (cc.map ic)])=some r))/\
 (∀a a1 a2 a3 r,Im (Zlh a a1 a2 a3=some r) ((Zi9 a1 a2=some (.tup [.t .nil,Bo false],[])/\some (.t .nil,[])=some r)\/(∃(v1:List Zf),Zi9 a1 a2=some (.tup [.own 0,Bo true],[.arr 178 4 true (v1.map Zf.c)])/\qB (Zlg a1 a3) (Zb5 a v1 ([]:List Int) a3 a2.Steps (a2.Steps.length:Int) 0=some r) (some (.t .nil,[])=some r)))))/\
 ((∀n x x1 x2 r,Im (Zrd n x x1 x2=some r) (if x2<x1 then qG x x2 (λe1=>Zrd (w (n+e1)) x x1 (w (x2+1))=some r)else qi n r))/\
 ((∀a r,Im (Zrc a=some r) (Zrd 0 a (a.length:Int) 0=some r))/\
 (∀a a1 a2 a3 r,Im (Zns a a1 a2 a3=some r) ((qO 3 1 ic (Zh7 a3) (λv=>qI (Zh8 a a1 a2 v) (λv1=>qi v1 r)))\/(Zh7 a3=some (.t .nil,[])/\qI (Zbb6 a a1 a2) (λv2=>qi v2 r)))))))/\
 (((∀q cc cl r,Im (Znt q cc cl=some r) (qI (Zdz q) (λv=>if cl<=v then qB (Zh5 q cl) (cc.length+1<=68719476736/\Znt q (cc++[cl]) (w (cl+1))=some r) (Znt q cc (w (cl+1))=some r)else some (.own 0,[.arr 3 1 true (cc.map ic)])=some r)))/\
 (∀a r,Im (Zre a=some r) (Znt a ([]:List Int) 1=some r)))/\
 ((∀cc cl i r,Im (Znv cc cl i=some r) (if i<4 then ¬i<0/\if(andI (shrI cl i) 1)=1 then cc.length+1<=68719476736/\Znv (cc++[i]) cl (w (i+1))=some r else Znv cc cl (w (i+1))=some r else some (.own 0,[.arr 3 1 true (cc.map ic)])=some r))/\
 ((∀a r,Im (Znu a=some r) (qB (Zbj a 0 15) (Znv ([]:List Int) a 0=some r) (some (.t .nil,[])=some r)))/\
 (∀a r,Im (Zrf a=some r) (some (.agg [.own 0],[.arr 162 3 true (([(⟨1,a,0⟩:Zb)]).map Zb.c)])=some r))))):=by
 and_intros
 all_goals(intros;unfold Im;(try simp only[Zb5,Zlh,Zrd,Zrc,Zns,Znt,Zre,Znv,Znu,Zrf,Zi9,Zlg,Plan.c_def,Zc.c_def,Zh7,Zh8,Zbb6,Zd.c_def,Zj.c_def,Zdz,Zh5,Zbj,Znq,Znr,mpl,dfs,qs]);(try simp only[itb]);(try simp only[itf,gS,kk]))
 all_goals(repeat' first|refine exI λ_=>?_|refine anJ λ_ _=>?_|refine anI λ_=>?_|refine orE2 ?_ ?_|exact False.elim)
 all_goals(intro h;first|rw[Zl Zra.eq_1]|refine run Zbo6 rfl ?_|rw[Zl Z1e.eq_1]|refine run Zbo7 rfl ?_|refine run Zbo9 rfl ?_|rw[Zl Z1h.eq_1]|refine run Zbpa rfl ?_|rw[Zl Z1j.eq_1]|refine run Zbpb rfl ?_|refine run Zbpc rfl ?_)
 all_goals (refine Ya ?_ h;clear h;simp +decide[*,kk,tI,tII,Zbb3,Zrb,Zbb4,Z1f,Zbb5,Zbb7,Zbb8,Z1i,Zbb9,Zbca,Z1k,Zbcb,Zbcc])
abbrev Zbfv:=uq Zhb.1.1.1
abbrev Z3e:=uq Zhb.1.1.2
abbrev Zbfw:=uq Zhb.1.2.1
abbrev Zbs6:=uq Zhb.1.2.2.1
abbrev Zbs7:=uq Zhb.1.2.2.2
abbrev Zbfx:=uq Zhb.2.1.1
abbrev Zbs8:=uq Zhb.2.1.2
abbrev Zbfy:=uq Zhb.2.2.1
abbrev Zbs9:=uq Zhb.2.2.2.1
abbrev Zbta:=uq Zhb.2.2.2.2
theorem Zbtb{m:Zd}{cd:List Zf}{cl:List Int}{x:Zb}{cc:List Int}{i co cn:Int}{x1:List Zb}{x2 x3:Int}{r:AV×List Blk}(h:(Zg6 m=some (.bsl 1 5,[.box (m.c.map .t),.box [.ptr 0 0,.ptr 0 6,.ptr 0 12,.ptr 0 18,.ptr 0 24]])/\(if(w (x.Kind-1))=0 then(0<=i/\(∃(e2:Zf),cd[i.toNat]?=some e2/\(0<=e2.Mask/\(∃(e3:Int),cc[e2.Mask.toNat]?=some e3/\(∃(v:Int),Zck m.Scan co cn e3=some (I v,[])/\(cl.length+1<=68719476736/\(Zb5 m cd (cl++[v]) cc x1 x2 (w (x3+1))=some r)))))))else(if(w (x.Kind-1))=1 then(0<=i/\(∃(e5:Zf),cd[i.toNat]?=some e5/\(0<=e5.Mask/\(∃(e6:Int),cc[e5.Mask.toNat]?=some e6/\(∃(v1:Int),Zck m.Sort_ co cn e6=some (I v1,[])/\(cl.length+1<=68719476736/\(Zb5 m cd (cl++[v1]) cc x1 x2 (w (x3+1))=some r)))))))else(if(w (x.Kind-1))=2 then(0<=i/\(∃(e8:Zf),cd[i.toNat]?=some e8/\(0<=e8.Mask/\(∃(e9:Int),cc[e8.Mask.toNat]?=some e9/\(∃(v2:Int),Zck m.Hash co cn e9=some (I v2,[])/\(cl.length+1<=68719476736/\(Zb5 m cd (cl++[v2]) cc x1 x2 (w (x3+1))=some r)))))))else(if(w (x.Kind-1))=3 then(0<=i/\(∃(e11:Zf),cd[i.toNat]?=some e11/\(0<=e11.Mask/\(∃(e12:Int),cc[e11.Mask.toNat]?=some e12/\(∃(v3:Int),Zck m.Merge co cn e12=some (I v3,[])/\(cl.length+1<=68719476736/\(Zb5 m cd (cl++[v3]) cc x1 x2 (w (x3+1))=some r)))))))else(if(w (x.Kind-1))=4 then(0<=i/\(∃(e14:Zf),cd[i.toNat]?=some e14/\(0<=e14.Mask/\(∃(e15:Int),cc[e14.Mask.toNat]?=some e15/\(∃(v4:Int),Zck m.Nested co cn e15=some (I v4,[])/\(cl.length+1<=68719476736/\(Zb5 m cd (cl++[v4]) cc x1 x2 (w (x3+1))=some r)))))))else False))))))):Znq m cd cl x cc i co cn x1 x2 x3=some r:=by
 unfold Znq;rw[Zir Zq9.eq_1];obtain⟨q1,h⟩:=h;unfold Zg6 at q1
 try simp at q1
 by_cases q2:(w (x.Kind-1))=0
 .rw[if_pos q2]at h;obtain⟨q3,h⟩:=h;obtain⟨e2,q4,h⟩:=h;have gq4:=Zb9 q4;have kq4:=Zcf q4;obtain⟨q5,h⟩:=h;obtain⟨e3,q6,h⟩:=h;have gq6:=Zb9 q6;have kq6:=Zcf q6;obtain⟨v,q7,h⟩:=h;unfold Zck at q7
  try simp at q7
  obtain⟨q8,h⟩:=h;have rq8:=Zeh (b:=8) q8 (by omega);have sq8:=Zei q8
  try simp[*]at rq8
  try simp[*]at sq8
  refine Ya ?_ h;clear h;simp +decide[*,tI,tII,Zb5]
 .rw[if_neg q2]at h;replace q2:=eq_false q2;by_cases q9:(w (x.Kind-1))=1
  .rw[if_pos q9]at h;obtain⟨q10,h⟩:=h;obtain⟨e5,q11,h⟩:=h;have gq11:=Zb9 q11;have kq11:=Zcf q11;obtain⟨q12,h⟩:=h;obtain⟨e6,q13,h⟩:=h;have gq13:=Zb9 q13;have kq13:=Zcf q13;obtain⟨v1,q14,h⟩:=h;unfold Zck at q14
   try simp at q14
   obtain⟨q15,h⟩:=h;have rq15:=Zeh (b:=8) q15 (by omega);have sq15:=Zei q15
   try simp[*]at rq15
   try simp[*]at sq15
   refine Ya ?_ h;clear h;simp +decide[*,tI,tII,Zb5]
  .rw[if_neg q9]at h;replace q9:=eq_false q9;by_cases q16:(w (x.Kind-1))=2
   .rw[if_pos q16]at h;obtain⟨q17,h⟩:=h;obtain⟨e8,q18,h⟩:=h;have gq18:=Zb9 q18;have kq18:=Zcf q18;obtain⟨q19,h⟩:=h;obtain⟨e9,q20,h⟩:=h;have gq20:=Zb9 q20;have kq20:=Zcf q20;obtain⟨v2,q21,h⟩:=h;unfold Zck at q21
    try simp at q21
    obtain⟨q22,h⟩:=h;have rq22:=Zeh (b:=8) q22 (by omega);have sq22:=Zei q22
    try simp[*]at rq22
    try simp[*]at sq22
    refine Ya ?_ h;clear h;simp +decide[*,tI,tII,Zb5]
   .rw[if_neg q16]at h;replace q16:=eq_false q16;by_cases q23:(w (x.Kind-1))=3
    .rw[if_pos q23]at h;obtain⟨q24,h⟩:=h;obtain⟨e11,q25,h⟩:=h;have gq25:=Zb9 q25;have kq25:=Zcf q25;obtain⟨q26,h⟩:=h;obtain⟨e12,q27,h⟩:=h;have gq27:=Zb9 q27;have kq27:=Zcf q27;obtain⟨v3,q28,h⟩:=h;unfold Zck at q28
     try simp at q28
     obtain⟨q29,h⟩:=h;have rq29:=Zeh (b:=8) q29 (by omega);have sq29:=Zei q29
     try simp[*]at rq29
     try simp[*]at sq29
     refine Ya ?_ h;clear h;simp +decide[*,tI,tII,Zb5]
    .rw[if_neg q23]at h;replace q23:=eq_false q23;by_cases q30:(w (x.Kind-1))=4
     .rw[if_pos q30]at h;obtain⟨q31,h⟩:=h;obtain⟨e14,q32,h⟩:=h;have gq32:=Zb9 q32;have kq32:=Zcf q32;obtain⟨q33,h⟩:=h;obtain⟨e15,q34,h⟩:=h;have gq34:=Zb9 q34;have kq34:=Zcf q34;obtain⟨v4,q35,h⟩:=h;unfold Zck at q35
      try simp at q35
      obtain⟨q36,h⟩:=h;have rq36:=Zeh (b:=8) q36 (by omega);have sq36:=Zei q36
      try simp[*]at rq36
      try simp[*]at sq36
      refine Ya ?_ h;clear h;simp +decide[*,tI,tII,Zb5]
     .rw[if_neg q30]at h;replace q30:=eq_false q30;cases h
theorem Zbtc{m:Zd}{cd:List Zf}{cl:List Int}{x:Zb}{cc:List Int}{i co cn:Int}{x1:List Zb}{x2 x3:Int}{x4:Bool}{r:AV×List Blk}(h:(Zg6 m=some (.bsl 1 5,[.box (m.c.map .t),.box [.ptr 0 0,.ptr 0 6,.ptr 0 12,.ptr 0 18,.ptr 0 24]])/\(if(w (x.Kind-1))=0 then(0<=i/\(∃(e2:Zf),cd[i.toNat]?=some e2/\(0<=e2.Mask/\(∃(e3:Int),cc[e2.Mask.toNat]?=some e3/\(∃(v:Int),Zck m.Scan co cn e3=some (I v,[])/\(cl.length+1<=68719476736/\(Zb5 m cd (cl++[v]) cc x1 x2 (w (x3+1))=some r)))))))else(if(w (x.Kind-1))=1 then(0<=i/\(∃(e5:Zf),cd[i.toNat]?=some e5/\(0<=e5.Mask/\(∃(e6:Int),cc[e5.Mask.toNat]?=some e6/\(∃(v1:Int),Zck m.Sort_ co cn e6=some (I v1,[])/\(cl.length+1<=68719476736/\(Zb5 m cd (cl++[v1]) cc x1 x2 (w (x3+1))=some r)))))))else(if(w (x.Kind-1))=2 then(0<=i/\(∃(e8:Zf),cd[i.toNat]?=some e8/\(0<=e8.Mask/\(∃(e9:Int),cc[e8.Mask.toNat]?=some e9/\(∃(v2:Int),Zck m.Hash co cn e9=some (I v2,[])/\(cl.length+1<=68719476736/\(Zb5 m cd (cl++[v2]) cc x1 x2 (w (x3+1))=some r)))))))else(if(w (x.Kind-1))=3 then(0<=i/\(∃(e11:Zf),cd[i.toNat]?=some e11/\(0<=e11.Mask/\(∃(e12:Int),cc[e11.Mask.toNat]?=some e12/\(∃(v3:Int),Zck m.Merge co cn e12=some (I v3,[])/\(cl.length+1<=68719476736/\(Zb5 m cd (cl++[v3]) cc x1 x2 (w (x3+1))=some r)))))))else(if(w (x.Kind-1))=4 then(0<=i/\(∃(e14:Zf),cd[i.toNat]?=some e14/\(0<=e14.Mask/\(∃(e15:Int),cc[e14.Mask.toNat]?=some e15/\(∃(v4:Int),Zck m.Nested co cn e15=some (I v4,[])/\(cl.length+1<=68719476736/\(Zb5 m cd (cl++[v4]) cc x1 x2 (w (x3+1))=some r)))))))else False))))))):Znr m cd cl x cc i co cn x1 x2 x3 x4=some r:=by
 unfold Znr;rw[Zir Zq9.eq_1];obtain⟨q1,h⟩:=h;unfold Zg6 at q1
 try simp at q1
 by_cases q2:(w (x.Kind-1))=0
 .rw[if_pos q2]at h;obtain⟨q3,h⟩:=h;obtain⟨e2,q4,h⟩:=h;have gq4:=Zb9 q4;have kq4:=Zcf q4;obtain⟨q5,h⟩:=h;obtain⟨e3,q6,h⟩:=h;have gq6:=Zb9 q6;have kq6:=Zcf q6;obtain⟨v,q7,h⟩:=h;unfold Zck at q7
  try simp at q7
  obtain⟨q8,h⟩:=h;have rq8:=Zeh (b:=8) q8 (by omega);have sq8:=Zei q8
  try simp[*]at rq8
  try simp[*]at sq8
  refine Ya ?_ h;clear h;simp +decide[*,tI,tII,Zb5]
 .rw[if_neg q2]at h;replace q2:=eq_false q2;by_cases q9:(w (x.Kind-1))=1
  .rw[if_pos q9]at h;obtain⟨q10,h⟩:=h;obtain⟨e5,q11,h⟩:=h;have gq11:=Zb9 q11;have kq11:=Zcf q11;obtain⟨q12,h⟩:=h;obtain⟨e6,q13,h⟩:=h;have gq13:=Zb9 q13;have kq13:=Zcf q13;obtain⟨v1,q14,h⟩:=h;unfold Zck at q14
   try simp at q14
   obtain⟨q15,h⟩:=h;have rq15:=Zeh (b:=8) q15 (by omega);have sq15:=Zei q15
   try simp[*]at rq15
   try simp[*]at sq15
   refine Ya ?_ h;clear h;simp +decide[*,tI,tII,Zb5]
  .rw[if_neg q9]at h;replace q9:=eq_false q9;by_cases q16:(w (x.Kind-1))=2
   .rw[if_pos q16]at h;obtain⟨q17,h⟩:=h;obtain⟨e8,q18,h⟩:=h;have gq18:=Zb9 q18;have kq18:=Zcf q18;obtain⟨q19,h⟩:=h;obtain⟨e9,q20,h⟩:=h;have gq20:=Zb9 q20;have kq20:=Zcf q20;obtain⟨v2,q21,h⟩:=h;unfold Zck at q21
    try simp at q21
    obtain⟨q22,h⟩:=h;have rq22:=Zeh (b:=8) q22 (by omega);have sq22:=Zei q22
    try simp[*]at rq22
    try simp[*]at sq22
    refine Ya ?_ h;clear h;simp +decide[*,tI,tII,Zb5]
   .rw[if_neg q16]at h;replace q16:=eq_false q16;by_cases q23:(w (x.Kind-1))=3
    .rw[if_pos q23]at h;obtain⟨q24,h⟩:=h;obtain⟨e11,q25,h⟩:=h;have gq25:=Zb9 q25;have kq25:=Zcf q25;obtain⟨q26,h⟩:=h;obtain⟨e12,q27,h⟩:=h;have gq27:=Zb9 q27;have kq27:=Zcf q27;obtain⟨v3,q28,h⟩:=h;unfold Zck at q28
     try simp at q28
     obtain⟨q29,h⟩:=h;have rq29:=Zeh (b:=8) q29 (by omega);have sq29:=Zei q29
     try simp[*]at rq29
     try simp[*]at sq29
     refine Ya ?_ h;clear h;simp +decide[*,tI,tII,Zb5]
    .rw[if_neg q23]at h;replace q23:=eq_false q23;by_cases q30:(w (x.Kind-1))=4
     .rw[if_pos q30]at h;obtain⟨q31,h⟩:=h;obtain⟨e14,q32,h⟩:=h;have gq32:=Zb9 q32;have kq32:=Zcf q32;obtain⟨q33,h⟩:=h;obtain⟨e15,q34,h⟩:=h;have gq34:=Zb9 q34;have kq34:=Zcf q34;obtain⟨v4,q35,h⟩:=h;unfold Zck at q35
      try simp at q35
      obtain⟨q36,h⟩:=h;have rq36:=Zeh (b:=8) q36 (by omega);have sq36:=Zei q36
      try simp[*]at rq36
      try simp[*]at sq36
      refine Ya ?_ h;clear h;simp +decide[*,tI,tII,Zb5]
     .rw[if_neg q30]at h;replace q30:=eq_false q30;cases h
theorem Zbtd{a:Zd}{a1:Zc}{a2:Plan}{a3:List Int}{r:AV×List Blk}(h:((Zlh a a1 a2 a3=some (.t .nil,[])/\(some (I (-1),[])=some r))\/(∃(v:List Int),Zlh a a1 a2 a3=some (.own 0,[.arr 3 1 true (v.map ic)])/\(v≠[]/\(∃(v1:Int),Zrc v=some (I v1,[])/\(some (I v1,[])=some r)))))):Zh8 a a1 a2 a3=some r:=by
 unfold Zh8;refine run Zbo8 rfl ?_;rcases h with h|h
 .obtain⟨q1,h⟩:=h;unfold Zlh at q1
  try simp at q1
  refine Ya ?_ h;clear h;simp +decide[*,Z1g,tI,tII]
 .obtain⟨v,q2,h⟩:=h;unfold Zlh at q2
  try simp at q2
  obtain⟨q3,h⟩:=h;obtain⟨yq3,ysq3,eq3⟩:=List.exists_cons_of_ne_nil q3
  first|subst eq3|skip
  obtain⟨v1,q4,h⟩:=h;unfold Zrc at q4
  try simp at q4
  refine Ya ?_ h;clear h;simp +decide[*,Z1g,tI,tII]
theorem Zeo{m:Zd}{q:Zc}{cu:List Int}{cp:Int}{cc cd cl cn co:Za}{cv cy cz d dc:Bool}{x:List Zb}{a:Int}{r:AV×List Blk}(h:(∃(v:Int),Zh8 m q (⟨x⟩:Plan) cu=some (I v,[])/\(if(w (a+1))=0 then(if cv=true then(if v<cc.Cost then(some (.tup [],[.box [I m.Scan.Fixed,I m.Scan.Zo,I m.Scan.Zq,I m.Scan.Zs,I m.Scan.Zr,L 2 (m.Scan.Steps.map Zi.c),I m.Sort_.Fixed,I m.Sort_.Zo,I m.Sort_.Zq,I m.Sort_.Zs,I m.Sort_.Zr,L 2 (m.Sort_.Steps.map Zi.c),I m.Hash.Fixed,I m.Hash.Zo,I m.Hash.Zq,I m.Hash.Zs,I m.Hash.Zr,L 2 (m.Hash.Steps.map Zi.c),I m.Merge.Fixed,I m.Merge.Zo,I m.Merge.Zq,I m.Merge.Zs,I m.Merge.Zr,L 2 (m.Merge.Steps.map Zi.c),I m.Nested.Fixed,I m.Nested.Zo,I m.Nested.Zq,I m.Nested.Zs,I m.Nested.Zr,L 2 (m.Nested.Steps.map Zi.c),I q.Ze,L 2 (q.Atoms.map Atom.c),L 1 (cu.map ic),I cp,I cp,I a,I v,L 3 (x.map Zb.c),I cd.Mask,I cd.Order,I cd.Cost,L 3 (cd.Plan.Steps.map Zb.c),I cl.Mask,I cl.Order,I cl.Cost,L 3 (cl.Plan.Steps.map Zb.c),I cn.Mask,I cn.Order,I cn.Cost,L 3 (cn.Plan.Steps.map Zb.c),I co.Mask,I co.Order,I co.Cost,L 3 (co.Plan.Steps.map Zb.c),Bo true,Bo cy,Bo cz,Bo d,Bo dc],.dead])=some r)else(some (.tup [],[boxO m q cu cp cc cd cl cn co cv cy cz d dc,.arr 162 3 true (x.map Zb.c)])=some r))else(some (.tup [],[.box [I m.Scan.Fixed,I m.Scan.Zo,I m.Scan.Zq,I m.Scan.Zs,I m.Scan.Zr,L 2 (m.Scan.Steps.map Zi.c),I m.Sort_.Fixed,I m.Sort_.Zo,I m.Sort_.Zq,I m.Sort_.Zs,I m.Sort_.Zr,L 2 (m.Sort_.Steps.map Zi.c),I m.Hash.Fixed,I m.Hash.Zo,I m.Hash.Zq,I m.Hash.Zs,I m.Hash.Zr,L 2 (m.Hash.Steps.map Zi.c),I m.Merge.Fixed,I m.Merge.Zo,I m.Merge.Zq,I m.Merge.Zs,I m.Merge.Zr,L 2 (m.Merge.Steps.map Zi.c),I m.Nested.Fixed,I m.Nested.Zo,I m.Nested.Zq,I m.Nested.Zs,I m.Nested.Zr,L 2 (m.Nested.Steps.map Zi.c),I q.Ze,L 2 (q.Atoms.map Atom.c),L 1 (cu.map ic),I cp,I cp,I a,I v,L 3 (x.map Zb.c),I cd.Mask,I cd.Order,I cd.Cost,L 3 (cd.Plan.Steps.map Zb.c),I cl.Mask,I cl.Order,I cl.Cost,L 3 (cl.Plan.Steps.map Zb.c),I cn.Mask,I cn.Order,I cn.Cost,L 3 (cn.Plan.Steps.map Zb.c),I co.Mask,I co.Order,I co.Cost,L 3 (co.Plan.Steps.map Zb.c),Bo true,Bo cy,Bo cz,Bo d,Bo dc],.dead])=some r))else(if(w (a+1))=1 then(if cy=true then(if v<cd.Cost then(some (.tup [],[.box [I m.Scan.Fixed,I m.Scan.Zo,I m.Scan.Zq,I m.Scan.Zs,I m.Scan.Zr,L 2 (m.Scan.Steps.map Zi.c),I m.Sort_.Fixed,I m.Sort_.Zo,I m.Sort_.Zq,I m.Sort_.Zs,I m.Sort_.Zr,L 2 (m.Sort_.Steps.map Zi.c),I m.Hash.Fixed,I m.Hash.Zo,I m.Hash.Zq,I m.Hash.Zs,I m.Hash.Zr,L 2 (m.Hash.Steps.map Zi.c),I m.Merge.Fixed,I m.Merge.Zo,I m.Merge.Zq,I m.Merge.Zs,I m.Merge.Zr,L 2 (m.Merge.Steps.map Zi.c),I m.Nested.Fixed,I m.Nested.Zo,I m.Nested.Zq,I m.Nested.Zs,I m.Nested.Zr,L 2 (m.Nested.Steps.map Zi.c),I q.Ze,L 2 (q.Atoms.map Atom.c),L 1 (cu.map ic),I cp,I cc.Mask,I cc.Order,I cc.Cost,L 3 (cc.Plan.Steps.map Zb.c),I cp,I a,I v,L 3 (x.map Zb.c),I cl.Mask,I cl.Order,I cl.Cost,L 3 (cl.Plan.Steps.map Zb.c),I cn.Mask,I cn.Order,I cn.Cost,L 3 (cn.Plan.Steps.map Zb.c),I co.Mask,I co.Order,I co.Cost,L 3 (co.Plan.Steps.map Zb.c),Bo cv,Bo true,Bo cz,Bo d,Bo dc],.dead])=some r)else(some (.tup [],[boxO m q cu cp cc cd cl cn co cv cy cz d dc,.arr 162 3 true (x.map Zb.c)])=some r))else(some (.tup [],[.box [I m.Scan.Fixed,I m.Scan.Zo,I m.Scan.Zq,I m.Scan.Zs,I m.Scan.Zr,L 2 (m.Scan.Steps.map Zi.c),I m.Sort_.Fixed,I m.Sort_.Zo,I m.Sort_.Zq,I m.Sort_.Zs,I m.Sort_.Zr,L 2 (m.Sort_.Steps.map Zi.c),I m.Hash.Fixed,I m.Hash.Zo,I m.Hash.Zq,I m.Hash.Zs,I m.Hash.Zr,L 2 (m.Hash.Steps.map Zi.c),I m.Merge.Fixed,I m.Merge.Zo,I m.Merge.Zq,I m.Merge.Zs,I m.Merge.Zr,L 2 (m.Merge.Steps.map Zi.c),I m.Nested.Fixed,I m.Nested.Zo,I m.Nested.Zq,I m.Nested.Zs,I m.Nested.Zr,L 2 (m.Nested.Steps.map Zi.c),I q.Ze,L 2 (q.Atoms.map Atom.c),L 1 (cu.map ic),I cp,I cc.Mask,I cc.Order,I cc.Cost,L 3 (cc.Plan.Steps.map Zb.c),I cp,I a,I v,L 3 (x.map Zb.c),I cl.Mask,I cl.Order,I cl.Cost,L 3 (cl.Plan.Steps.map Zb.c),I cn.Mask,I cn.Order,I cn.Cost,L 3 (cn.Plan.Steps.map Zb.c),I co.Mask,I co.Order,I co.Cost,L 3 (co.Plan.Steps.map Zb.c),Bo cv,Bo true,Bo cz,Bo d,Bo dc],.dead])=some r))else(if(w (a+1))=2 then(if cz=true then(if v<cl.Cost then(some (.tup [],[.box [I m.Scan.Fixed,I m.Scan.Zo,I m.Scan.Zq,I m.Scan.Zs,I m.Scan.Zr,L 2 (m.Scan.Steps.map Zi.c),I m.Sort_.Fixed,I m.Sort_.Zo,I m.Sort_.Zq,I m.Sort_.Zs,I m.Sort_.Zr,L 2 (m.Sort_.Steps.map Zi.c),I m.Hash.Fixed,I m.Hash.Zo,I m.Hash.Zq,I m.Hash.Zs,I m.Hash.Zr,L 2 (m.Hash.Steps.map Zi.c),I m.Merge.Fixed,I m.Merge.Zo,I m.Merge.Zq,I m.Merge.Zs,I m.Merge.Zr,L 2 (m.Merge.Steps.map Zi.c),I m.Nested.Fixed,I m.Nested.Zo,I m.Nested.Zq,I m.Nested.Zs,I m.Nested.Zr,L 2 (m.Nested.Steps.map Zi.c),I q.Ze,L 2 (q.Atoms.map Atom.c),L 1 (cu.map ic),I cp,I cc.Mask,I cc.Order,I cc.Cost,L 3 (cc.Plan.Steps.map Zb.c),I cd.Mask,I cd.Order,I cd.Cost,L 3 (cd.Plan.Steps.map Zb.c),I cp,I a,I v,L 3 (x.map Zb.c),I cn.Mask,I cn.Order,I cn.Cost,L 3 (cn.Plan.Steps.map Zb.c),I co.Mask,I co.Order,I co.Cost,L 3 (co.Plan.Steps.map Zb.c),Bo cv,Bo cy,Bo true,Bo d,Bo dc],.dead])=some r)else(some (.tup [],[boxO m q cu cp cc cd cl cn co cv cy cz d dc,.arr 162 3 true (x.map Zb.c)])=some r))else(some (.tup [],[.box [I m.Scan.Fixed,I m.Scan.Zo,I m.Scan.Zq,I m.Scan.Zs,I m.Scan.Zr,L 2 (m.Scan.Steps.map Zi.c),I m.Sort_.Fixed,I m.Sort_.Zo,I m.Sort_.Zq,I m.Sort_.Zs,I m.Sort_.Zr,L 2 (m.Sort_.Steps.map Zi.c),I m.Hash.Fixed,I m.Hash.Zo,I m.Hash.Zq,I m.Hash.Zs,I m.Hash.Zr,L 2 (m.Hash.Steps.map Zi.c),I m.Merge.Fixed,I m.Merge.Zo,I m.Merge.Zq,I m.Merge.Zs,I m.Merge.Zr,L 2 (m.Merge.Steps.map Zi.c),I m.Nested.Fixed,I m.Nested.Zo,I m.Nested.Zq,I m.Nested.Zs,I m.Nested.Zr,L 2 (m.Nested.Steps.map Zi.c),I q.Ze,L 2 (q.Atoms.map Atom.c),L 1 (cu.map ic),I cp,I cc.Mask,I cc.Order,I cc.Cost,L 3 (cc.Plan.Steps.map Zb.c),I cd.Mask,I cd.Order,I cd.Cost,L 3 (cd.Plan.Steps.map Zb.c),I cp,I a,I v,L 3 (x.map Zb.c),I cn.Mask,I cn.Order,I cn.Cost,L 3 (cn.Plan.Steps.map Zb.c),I co.Mask,I co.Order,I co.Cost,L 3 (co.Plan.Steps.map Zb.c),Bo cv,Bo cy,Bo true,Bo d,Bo dc],.dead])=some r))else(if(w (a+1))=3 then(if d=true then(if v<cn.Cost then(some (.tup [],[.box [I m.Scan.Fixed,I m.Scan.Zo,I m.Scan.Zq,I m.Scan.Zs,I m.Scan.Zr,L 2 (m.Scan.Steps.map Zi.c),I m.Sort_.Fixed,I m.Sort_.Zo,I m.Sort_.Zq,I m.Sort_.Zs,I m.Sort_.Zr,L 2 (m.Sort_.Steps.map Zi.c),I m.Hash.Fixed,I m.Hash.Zo,I m.Hash.Zq,I m.Hash.Zs,I m.Hash.Zr,L 2 (m.Hash.Steps.map Zi.c),I m.Merge.Fixed,I m.Merge.Zo,I m.Merge.Zq,I m.Merge.Zs,I m.Merge.Zr,L 2 (m.Merge.Steps.map Zi.c),I m.Nested.Fixed,I m.Nested.Zo,I m.Nested.Zq,I m.Nested.Zs,I m.Nested.Zr,L 2 (m.Nested.Steps.map Zi.c),I q.Ze,L 2 (q.Atoms.map Atom.c),L 1 (cu.map ic),I cp,I cc.Mask,I cc.Order,I cc.Cost,L 3 (cc.Plan.Steps.map Zb.c),I cd.Mask,I cd.Order,I cd.Cost,L 3 (cd.Plan.Steps.map Zb.c),I cl.Mask,I cl.Order,I cl.Cost,L 3 (cl.Plan.Steps.map Zb.c),I cp,I a,I v,L 3 (x.map Zb.c),I co.Mask,I co.Order,I co.Cost,L 3 (co.Plan.Steps.map Zb.c),Bo cv,Bo cy,Bo cz,Bo true,Bo dc],.dead])=some r)else(some (.tup [],[boxO m q cu cp cc cd cl cn co cv cy cz d dc,.arr 162 3 true (x.map Zb.c)])=some r))else(some (.tup [],[.box [I m.Scan.Fixed,I m.Scan.Zo,I m.Scan.Zq,I m.Scan.Zs,I m.Scan.Zr,L 2 (m.Scan.Steps.map Zi.c),I m.Sort_.Fixed,I m.Sort_.Zo,I m.Sort_.Zq,I m.Sort_.Zs,I m.Sort_.Zr,L 2 (m.Sort_.Steps.map Zi.c),I m.Hash.Fixed,I m.Hash.Zo,I m.Hash.Zq,I m.Hash.Zs,I m.Hash.Zr,L 2 (m.Hash.Steps.map Zi.c),I m.Merge.Fixed,I m.Merge.Zo,I m.Merge.Zq,I m.Merge.Zs,I m.Merge.Zr,L 2 (m.Merge.Steps.map Zi.c),I m.Nested.Fixed,I m.Nested.Zo,I m.Nested.Zq,I m.Nested.Zs,I m.Nested.Zr,L 2 (m.Nested.Steps.map Zi.c),I q.Ze,L 2 (q.Atoms.map Atom.c),L 1 (cu.map ic),I cp,I cc.Mask,I cc.Order,I cc.Cost,L 3 (cc.Plan.Steps.map Zb.c),I cd.Mask,I cd.Order,I cd.Cost,L 3 (cd.Plan.Steps.map Zb.c),I cl.Mask,I cl.Order,I cl.Cost,L 3 (cl.Plan.Steps.map Zb.c),I cp,I a,I v,L 3 (x.map Zb.c),I co.Mask,I co.Order,I co.Cost,L 3 (co.Plan.Steps.map Zb.c),Bo cv,Bo cy,Bo cz,Bo true,Bo dc],.dead])=some r))else(if(w (a+1))=4 then(if dc=true then(if v<co.Cost then(some (.tup [],[.box [I m.Scan.Fixed,I m.Scan.Zo,I m.Scan.Zq,I m.Scan.Zs,I m.Scan.Zr,L 2 (m.Scan.Steps.map Zi.c),I m.Sort_.Fixed,I m.Sort_.Zo,I m.Sort_.Zq,I m.Sort_.Zs,I m.Sort_.Zr,L 2 (m.Sort_.Steps.map Zi.c),I m.Hash.Fixed,I m.Hash.Zo,I m.Hash.Zq,I m.Hash.Zs,I m.Hash.Zr,L 2 (m.Hash.Steps.map Zi.c),I m.Merge.Fixed,I m.Merge.Zo,I m.Merge.Zq,I m.Merge.Zs,I m.Merge.Zr,L 2 (m.Merge.Steps.map Zi.c),I m.Nested.Fixed,I m.Nested.Zo,I m.Nested.Zq,I m.Nested.Zs,I m.Nested.Zr,L 2 (m.Nested.Steps.map Zi.c),I q.Ze,L 2 (q.Atoms.map Atom.c),L 1 (cu.map ic),I cp,I cc.Mask,I cc.Order,I cc.Cost,L 3 (cc.Plan.Steps.map Zb.c),I cd.Mask,I cd.Order,I cd.Cost,L 3 (cd.Plan.Steps.map Zb.c),I cl.Mask,I cl.Order,I cl.Cost,L 3 (cl.Plan.Steps.map Zb.c),I cn.Mask,I cn.Order,I cn.Cost,L 3 (cn.Plan.Steps.map Zb.c),I cp,I a,I v,L 3 (x.map Zb.c),Bo cv,Bo cy,Bo cz,Bo d,Bo true],.dead])=some r)else(some (.tup [],[boxO m q cu cp cc cd cl cn co cv cy cz d dc,.arr 162 3 true (x.map Zb.c)])=some r))else(some (.tup [],[.box [I m.Scan.Fixed,I m.Scan.Zo,I m.Scan.Zq,I m.Scan.Zs,I m.Scan.Zr,L 2 (m.Scan.Steps.map Zi.c),I m.Sort_.Fixed,I m.Sort_.Zo,I m.Sort_.Zq,I m.Sort_.Zs,I m.Sort_.Zr,L 2 (m.Sort_.Steps.map Zi.c),I m.Hash.Fixed,I m.Hash.Zo,I m.Hash.Zq,I m.Hash.Zs,I m.Hash.Zr,L 2 (m.Hash.Steps.map Zi.c),I m.Merge.Fixed,I m.Merge.Zo,I m.Merge.Zq,I m.Merge.Zs,I m.Merge.Zr,L 2 (m.Merge.Steps.map Zi.c),I m.Nested.Fixed,I m.Nested.Zo,I m.Nested.Zq,I m.Nested.Zs,I m.Nested.Zr,L 2 (m.Nested.Steps.map Zi.c),I q.Ze,L 2 (q.Atoms.map Atom.c),L 1 (cu.map ic),I cp,I cc.Mask,I cc.Order,I cc.Cost,L 3 (cc.Plan.Steps.map Zb.c),I cd.Mask,I cd.Order,I cd.Cost,L 3 (cd.Plan.Steps.map Zb.c),I cl.Mask,I cl.Order,I cl.Cost,L 3 (cl.Plan.Steps.map Zb.c),I cn.Mask,I cn.Order,I cn.Cost,L 3 (cn.Plan.Steps.map Zb.c),I cp,I a,I v,L 3 (x.map Zb.c),Bo cv,Bo cy,Bo cz,Bo d,Bo true],.dead])=some r))else False))))))):Zc3 m q cu cp cc cd cl cn co cv cy cz d dc x a=some r:=by
 unfold Zc3;refine runM Zbpd rfl ?_;obtain⟨v,q1,h⟩:=h;unfold Zh8 at q1
 try simp at q1
 by_cases q2:(w (a+1))=0
 .rw[if_pos q2]at h;by_cases q3:cv=true
  .rw[if_pos q3]at h;by_cases q4:v<cc.Cost
   .rw[if_pos q4]at h;refine Ya ?_ h;clear h;simp +decide[*,Zd0,tI,tII]
   .rw[if_neg q4]at h;refine Ya ?_ h;clear h;simp +decide[*,Zd0,tI,tII]
  .rw[if_neg q3]at h;refine Ya ?_ h;clear h;simp +decide[*,Zd0,tI,tII]
 .rw[if_neg q2]at h;replace q2:=eq_false q2;by_cases q5:(w (a+1))=1
  .rw[if_pos q5]at h;by_cases q6:cy=true
   .rw[if_pos q6]at h;by_cases q7:v<cd.Cost
    .rw[if_pos q7]at h;refine Ya ?_ h;clear h;simp +decide[*,Zd0,tI,tII]
    .rw[if_neg q7]at h;refine Ya ?_ h;clear h;simp +decide[*,Zd0,tI,tII]
   .rw[if_neg q6]at h;refine Ya ?_ h;clear h;simp +decide[*,Zd0,tI,tII]
  .rw[if_neg q5]at h;replace q5:=eq_false q5;by_cases q8:(w (a+1))=2
   .rw[if_pos q8]at h;by_cases q9:cz=true
    .rw[if_pos q9]at h;by_cases q10:v<cl.Cost
     .rw[if_pos q10]at h;refine Ya ?_ h;clear h;simp +decide[*,Zd0,tI,tII]
     .rw[if_neg q10]at h;refine Ya ?_ h;clear h;simp +decide[*,Zd0,tI,tII]
    .rw[if_neg q9]at h;refine Ya ?_ h;clear h;simp +decide[*,Zd0,tI,tII]
   .rw[if_neg q8]at h;replace q8:=eq_false q8;by_cases q11:(w (a+1))=3
    .rw[if_pos q11]at h;by_cases q12:d=true
     .rw[if_pos q12]at h;by_cases q13:v<cn.Cost
      .rw[if_pos q13]at h;refine Ya ?_ h;clear h;simp +decide[*,Zd0,tI,tII]
      .rw[if_neg q13]at h;refine Ya ?_ h;clear h;simp +decide[*,Zd0,tI,tII]
     .rw[if_neg q12]at h;refine Ya ?_ h;clear h;simp +decide[*,Zd0,tI,tII]
    .rw[if_neg q11]at h;replace q11:=eq_false q11;by_cases q14:(w (a+1))=4
     .rw[if_pos q14]at h;by_cases q15:dc=true
      .rw[if_pos q15]at h;by_cases q16:v<co.Cost
       .rw[if_pos q16]at h;refine Ya ?_ h;clear h;simp +decide[*,Zd0,tI,tII]
       .rw[if_neg q16]at h;refine Ya ?_ h;clear h;simp +decide[*,Zd0,tI,tII]
      .rw[if_neg q15]at h;refine Ya ?_ h;clear h;simp +decide[*,Zd0,tI,tII]
     .rw[if_neg q14]at h;replace q14:=eq_false q14;cases h
theorem Zbfz:(∀q cc c x r,Im (Zh9 q cc c x=some r) (if x<c then if(andI x c)=x then qB (Zh5 q x) (qB (Zh5 q (Zgy c x)) (cc.length+1<=68719476736/\Zh9 q (cc++[x]) c (w (x+1))=some r) (Zh9 q cc c (w (x+1))=some r)) (Zh9 q cc c (w (x+1))=some r)else Zh9 q cc c (w (x+1))=some r else some (.own 0,[.arr 3 1 true (cc.map ic)])=some r))/\
 (∀a a1 r,Im (Zfw a a1=some r) (qB (Zla a a1) (Zh9 a ([]:List Int) a1 1=some r) (some (.t .nil,[])=some r))):=by
 and_intros
 all_goals(intros;unfold Im;(try simp only[Zh9,Zfw,Zh5,Zc.c_def,Zla,mpl,dfs,qs]);(try simp only[itb]);(try simp only[itf,gS,kk]))
 all_goals(repeat' first|refine exI λ_=>?_|refine anJ λ_ _=>?_|refine anI λ_=>?_|refine orE2 ?_ ?_|exact False.elim)
 all_goals(intro h;first|rw[Zl Z1l.eq_1]|refine run Zbpe rfl ?_)
 all_goals (refine Ya ?_ h;clear h;simp +decide[*,kk,tI,tII,Zbcd,Z1m,Zbce])
abbrev Zbf0:=uq Zbfz.1
abbrev Zbte:=uq Zbfz.2
theorem Zhc:(((∀cy cd cv best x x1 x2 r,Im (Znw cy cd cv best x x1 x2=some r) (if x2<x1 then qG x x2 (λe1=>if e1.Cost<best.Cost then Znw cy cd cv e1 x x1 (w (x2+1))=some r else Znw cy cd cv best x x1 (w (x2+1))=some r)else some (.agg (best.c.map .t),[])=some r))/\
 (∀a r,Im (Zli a=some r) (∃e1,a[0]?=some e1/\Znw 0 0 0 e1 a (a.length:Int) 0=some r)))/\
 ((∀a r,Im (Zfx a=some r) (a.Steps.length<=68719476736/\some (.agg [.own 0],[.arr 162 3 true (a.Steps.map Zb.c)])=some r))/\
 ((∀a a1 a2 a3 r,Im (Zg7 a a1 a2 a3=some r) (∃(v1:List Zb),Zfx a=some (.agg [.own 0],[.arr 162 3 true (v1.map Zb.c)])/\v1.length+a1.Steps.length<=68719476736/\v1.length+a1.Steps.length+1<=68719476736/\some (.agg [.own 0],[.arr 162 3 true (((v1++a1.Steps)++[(⟨a2,0,a3⟩:Zb)]).map Zb.c)])=some r))/\
 (∀m q cc dn cz d dc dd dl cl cn co cp cu r,Im (Zri m q cc dn cz d dc dd dl cl cn co cp cu=some r) (Zbx m q cc dn cz d dc dd dl cl cn co cp cu true ([]:List Za) cl cn co cp cu 0=some r)))))/\
 (((∀a a1 r,Im (Zia a a1=some r) (qB (Zk8 a a1) (qO 3 1 ic (Zg5 a a1) (λv2=>some (.own 0,[.arr 3 1 true (v2.map ic)])=some r)) (some (.t .nil,[])=some r)))/\
 (∀a a1 a2 r,Im (Zlj a a1 a2=some r) ((qO 3 1 ic (Zia a a1) (λv1=>(qO 3 1 ic (Zia a a2) (λv2=>qO 3 1 ic (Zi8 v1 v2) (λv3=>some (.own 0,[.arr 3 1 true (v3.map ic)])=some r)))\/(Zia a a2=some (.t .nil,[])/\qO 3 1 ic (Zbcj v1) (λv4=>some (.own 0,[.arr 3 1 true (v4.map ic)])=some r))))\/(Zia a a1=some (.t .nil,[])/\((qO 3 1 ic (Zia a a2) (λv5=>qO 3 1 ic (Zbck v5) (λv6=>some (.own 0,[.arr 3 1 true (v6.map ic)])=some r)))\/(Zia a a2=some (.t .nil,[])/\qO 3 1 ic Zbcl (λv7=>some (.own 0,[.arr 3 1 true (v7.map ic)])=some r)))))))/\
 ((∀a a1 r,Im (Zvi a a1=some r) (∃(v1:List Zb),Zfx a=some (.agg [.own 0],[.arr 162 3 true (v1.map Zb.c)])/\v1.length+1<=68719476736/\some (.agg [.own 0],[.arr 162 3 true ((v1++[(⟨2,0,a1⟩:Zb)]).map Zb.c)])=some r))/\
 ((∀m q x cc v x1 x2 x3 r,Im (Znx m q x cc v x1 x2 x3=some r) (if x3<x2 then qG x1 x3 (λe1=>if e1.Order=v then qI (Zh8 m q (⟨x⟩:Plan) cc) (λv2=>if e1.Cost<=v2 then some (.agg (e1.Plan.c.map .t),[])=some r else Znx m q x cc v x1 x2 (w (x3+1))=some r)else Znx m q x cc v x1 x2 (w (x3+1))=some r)else some (.agg [.own 0],[.arr 162 3 true (x.map Zb.c)])=some r))/\
 (∀a a1 a2 a3 a4 r,Im (Zfy a a1 a2 a3 a4=some r) (qA Za.c (Zli a3) (λv1=>if v1.Order=a4 then some (.agg (v1.Plan.c.map .t),[])=some r else ∃(v2:List Zb),Zvi v1.Plan a4=some (.agg [.own 0],[.arr 162 3 true (v2.map Zb.c)])/\Znx a a1 v2 a2 a4 a3 (a3.length:Int) 0=some r)))))):=by
 and_intros
 all_goals(intros;unfold Im;(try simp only[Znw,Zli,Zfx,Zg7,Zri,Zia,Zlj,Zvi,Znx,Zfy,Plan.c_def,Zk8,Zg5,Zc.c_def,Zi8,Zbcj,Zbck,Zbcl,Zh8,Zd.c_def,Zj.c_def,Za.c_def,Zbx,mpl,dfs,qs]);(try simp only[itb]);(try simp only[itf,gS,kk]))
 all_goals(repeat' first|refine exI λ_=>?_|refine anJ λ_ _=>?_|refine anI λ_=>?_|refine orE2 ?_ ?_|exact False.elim)
 all_goals(intro h;first|rw[Zl Zrg.eq_1]|refine run Zbdj rfl ?_|refine run Zbpf rfl ?_|refine run Zbpg rfl ?_|refine runM Zbph rfl ?_|refine run Zbpi rfl ?_|refine run Zbpj rfl ?_|refine run Zbpk rfl ?_|rw[Zl Z1r.eq_1]|refine run Zbpl rfl ?_)
 all_goals (refine Ya ?_ h;clear h;simp +decide[*,kk,tI,tII,Z1n,Zrh,Z1o,Zbcf,Zbcg,Zbch,Zbci,Zbcm,Zbcn,Z1s,Zbco])
abbrev Zbf1:=uq Zhc.1.1.1
abbrev Zbtf:=uq Zhc.1.1.2
abbrev Zbf2:=uq Zhc.1.2.1
abbrev Zbtg:=uq Zhc.1.2.2.1
abbrev Zbth:=uq Zhc.1.2.2.2
abbrev Zbti:=uq Zhc.2.1.1
abbrev Zbtj:=uq Zhc.2.1.2
abbrev Zbtk:=uq Zhc.2.2.1
abbrev Zv1:=uq Zhc.2.2.2.1
abbrev Zbf3:=uq Zhc.2.2.2.2
theorem Zgj{m:Zd}{q:Zc}{cp:List Int}{dd:Int}{cc cd cl cn co:Za}{cu cv cy cz d fr:Bool}{dc:List Za}{x0 x1 x2 x3 x4:Bool}{x:Int}{r:AV×List Blk}(h:(if x<5 then(if x=0 then(if x0=true then(dc.length+1<=68719476736/\(Zbx m q cp dd cc cd cl cn co cu cv cy cz d false (dc++[cc]) true x1 x2 x3 x4 (w (x+1))=some r))else(Zbx m q cp dd cc cd cl cn co cu cv cy cz d fr dc false x1 x2 x3 x4 (w (x+1))=some r))else(if x=1 then(if x1=true then(dc.length+1<=68719476736/\(Zbx m q cp dd cc cd cl cn co cu cv cy cz d false (dc++[cd]) x0 true x2 x3 x4 (w (x+1))=some r))else(Zbx m q cp dd cc cd cl cn co cu cv cy cz d fr dc x0 false x2 x3 x4 (w (x+1))=some r))else(if x=2 then(if x2=true then(dc.length+1<=68719476736/\(Zbx m q cp dd cc cd cl cn co cu cv cy cz d false (dc++[cl]) x0 x1 true x3 x4 (w (x+1))=some r))else(Zbx m q cp dd cc cd cl cn co cu cv cy cz d fr dc x0 x1 false x3 x4 (w (x+1))=some r))else(if x=3 then(if x3=true then(dc.length+1<=68719476736/\(Zbx m q cp dd cc cd cl cn co cu cv cy cz d false (dc++[cn]) x0 x1 x2 true x4 (w (x+1))=some r))else(Zbx m q cp dd cc cd cl cn co cu cv cy cz d fr dc x0 x1 x2 false x4 (w (x+1))=some r))else(if x=4 then(if x4=true then(dc.length+1<=68719476736/\(Zbx m q cp dd cc cd cl cn co cu cv cy cz d false (dc++[co]) x0 x1 x2 x3 true (w (x+1))=some r))else(Zbx m q cp dd cc cd cl cn co cu cv cy cz d fr dc x0 x1 x2 x3 false (w (x+1))=some r))else False)))))else(some (.own 1,[boxO m q cp dd cc cd cl cn co cu cv cy cz d,.arr 126 4 fr (dc.map Za.c)])=some r))):Zbx m q cp dd cc cd cl cn co cu cv cy cz d fr dc x0 x1 x2 x3 x4 x=some r:=by
 unfold Zbx;rw[Zl Z1p.eq_1];by_cases q1:x<5
 .rw[if_pos q1]at h;by_cases q2:x=0
  .rw[if_pos q2]at h;subst q2;by_cases q3:x0=true
   .rw[if_pos q3]at h;obtain⟨q4,h⟩:=h;have rq4:=Zeh (b:=48) q4 (by omega);have sq4:=Zei q4
    try simp[*]at rq4
    try simp[*]at sq4
    refine Ya ?_ h;clear h;simp +decide[*,tI,tII,Zbx,Zgi]
   .rw[if_neg q3]at h;refine Ya ?_ h;clear h;simp +decide[*,tI,tII,Zbx,Zgi]
  .rw[if_neg q2]at h;replace q2:=eq_false q2;by_cases q5:x=1
   .rw[if_pos q5]at h;subst q5;by_cases q6:x1=true
    .rw[if_pos q6]at h;obtain⟨q7,h⟩:=h;have rq7:=Zeh (b:=48) q7 (by omega);have sq7:=Zei q7
     try simp[*]at rq7
     try simp[*]at sq7
     refine Ya ?_ h;clear h;simp +decide[*,tI,tII,Zbx,Zgi]
    .rw[if_neg q6]at h;refine Ya ?_ h;clear h;simp +decide[*,tI,tII,Zbx,Zgi]
   .rw[if_neg q5]at h;replace q5:=eq_false q5;by_cases q8:x=2
    .rw[if_pos q8]at h;subst q8;by_cases q9:x2=true
     .rw[if_pos q9]at h;obtain⟨q10,h⟩:=h;have rq10:=Zeh (b:=48) q10 (by omega);have sq10:=Zei q10
      try simp[*]at rq10
      try simp[*]at sq10
      refine Ya ?_ h;clear h;simp +decide[*,tI,tII,Zbx,Zgi]
     .rw[if_neg q9]at h;refine Ya ?_ h;clear h;simp +decide[*,tI,tII,Zbx,Zgi]
    .rw[if_neg q8]at h;replace q8:=eq_false q8;by_cases q11:x=3
     .rw[if_pos q11]at h;subst q11;by_cases q12:x3=true
      .rw[if_pos q12]at h;obtain⟨q13,h⟩:=h;have rq13:=Zeh (b:=48) q13 (by omega);have sq13:=Zei q13
       try simp[*]at rq13
       try simp[*]at sq13
       refine Ya ?_ h;clear h;simp +decide[*,tI,tII,Zbx,Zgi]
      .rw[if_neg q12]at h;refine Ya ?_ h;clear h;simp +decide[*,tI,tII,Zbx,Zgi]
     .rw[if_neg q11]at h;replace q11:=eq_false q11;by_cases q14:x=4
      .rw[if_pos q14]at h;subst q14;by_cases q15:x4=true
       .rw[if_pos q15]at h;obtain⟨q16,h⟩:=h;have rq16:=Zeh (b:=48) q16 (by omega);have sq16:=Zei q16
        try simp[*]at rq16
        try simp[*]at sq16
        refine Ya ?_ h;clear h;simp +decide[*,tI,tII,Zbx,Zgi]
       .rw[if_neg q15]at h;refine Ya ?_ h;clear h;simp +decide[*,tI,tII,Zbx,Zgi]
      .rw[if_neg q14]at h;replace q14:=eq_false q14;cases h
 .rw[if_neg q1]at h;refine Ya ?_ h;clear h;simp +decide[*,tI,tII,Z1q]
end Go.Proofs.YtcfaekfjkeobhaaGreat
