/-
  Parts of the proofs for this seat: G4 G5 G6 G7.
-/
import Derived.Test.YtcfaekfjkeobhaaGreatP9
set_option linter.unusedSectionVars false
set_option linter.unusedSimpArgs false
set_option linter.unusedVariables false
set_option maxRecDepth 100000
set_option maxHeartbeats 4000000
namespace Go.Proofs.YtcfaekfjkeobhaaGreat
open Go.AM
theorem Zdd:((((∀c q x i r,Im (Zuc c q x i=some r) (qI (Zch q) (λv1=>if i<=v1 then if(andI i (w (i-1)))=0 then if 0<i then ∃(v3:Zh),∃v4,Zbg c 3=some (I v4,[.box (v3.c.map .t)])/\Zda v3 q ([v4]) ([v4]) x (w (i+1))=some r else Zda c q ([0]) ([0]) x (w (i+1))=some r else if 0<i then qB (Zft q i) (∃(v7:Zh),∃v8,Zbg c 3=some (I v8,[.box (v7.c.map .t)])/\if x<3 then ∃(v9:Zh),∃v10,Zc2 v7 4=some (Bo v10,[.box (v9.c.map .t)])/\if v10=true then Zda v9 q ([v8]) ([v8]) x (w (i+1))=some r else ∃(v11:Zh),∃v12,Zbg v9 3=some (I v12,[.box (v11.c.map .t)])/\Zda v11 q ([v8]) ([(w ((w (v8+1))+v12))]) (w (x+1)) (w (i+1))=some r else Zda v7 q ([v8]) ([v8]) x (w (i+1))=some r) (Zda c q ([0]) ([0]) x (w (i+1))=some r)else Zda c q ([0]) ([0]) x (w (i+1))=some r else ∃(v13:Zh),∃v14,Zc2 c 20=some (Bo v14,[.box (v13.c.map .t)])/\if v14=true then ∃(v15:Zh),∃(v16:List Int),∃v17,Zdw v13 ([(-1),7,8])=some (I v17,[.box (v15.c.map .t),.arr 3 1 true (v16.map ic)])/\False else some (.agg [L 1 (([]:List Int).map ic),L 1 (([]:List Int).map ic)],[.box (v13.c.map .t)])=some r)))/\
 (∀c q x x1 x2 i r,Im (Zda c q x x1 x2 i=some r) (qI (Zch q) (λv1=>if i<=v1 then if(andI i (w (i-1)))=0 then if 0<i then ∃(v3:Zh),∃v4,Zbg c 3=some (I v4,[.box (v3.c.map .t)])/\x.length+1<=68719476736/\x1.length+1<=68719476736/\Zda v3 q (x++[v4]) (x1++[v4]) x2 (w (i+1))=some r else x.length+1<=68719476736/\x1.length+1<=68719476736/\Zda c q (x++[0]) (x1++[0]) x2 (w (i+1))=some r else if 0<i then qB (Zft q i) (∃(v7:Zh),∃v8,Zbg c 3=some (I v8,[.box (v7.c.map .t)])/\if x2<3 then ∃(v9:Zh),∃v10,Zc2 v7 4=some (Bo v10,[.box (v9.c.map .t)])/\if v10=true then x.length+1<=68719476736/\x1.length+1<=68719476736/\Zda v9 q (x++[v8]) (x1++[v8]) x2 (w (i+1))=some r else ∃(v11:Zh),∃v12,Zbg v9 3=some (I v12,[.box (v11.c.map .t)])/\x.length+1<=68719476736/\x1.length+1<=68719476736/\Zda v11 q (x++[v8]) (x1++[(w ((w (v8+1))+v12))]) (w (x2+1)) (w (i+1))=some r else x.length+1<=68719476736/\x1.length+1<=68719476736/\Zda v7 q (x++[v8]) (x1++[v8]) x2 (w (i+1))=some r) (x.length+1<=68719476736/\x1.length+1<=68719476736/\Zda c q (x++[0]) (x1++[0]) x2 (w (i+1))=some r)else x.length+1<=68719476736/\x1.length+1<=68719476736/\Zda c q (x++[0]) (x1++[0]) x2 (w (i+1))=some r else ∃(v13:Zh),∃v14,Zc2 c 20=some (Bo v14,[.box (v13.c.map .t)])/\if v14=true then ∃(v15:Zh),∃(v16:List Int),∃v17,Zdw v13 ([(-1),7,8])=some (I v17,[.box (v15.c.map .t),.arr 3 1 true (v16.map ic)])/\∃e9,x1[0]?=some e9/\some (.agg [L 1 (x.map ic),L 1 ((x1.set 0 v17).map ic)],[.box (v15.c.map .t)])=some r else some (.agg [L 1 (x.map ic),L 1 (x1.map ic)],[.box (v13.c.map .t)])=some r))))/\
 ((∀x a r,Im (Zp5 x a=some r) (Zuc x a 0 0=some r))/\
 (∀c b l i r,Im (Zp7 c b l i=some r) (if i<(b.Low.length:Int)then if i<(b.High.length:Int)then qG b.Low i (λe1=>qH b.High i (λe2=>∃(v5:Zh),∃v6,Zbg c (if 1<(w ((w (e2-e1))+1))then(w ((w (e2-e1))+1))else 1)=some (I v6,[.box (v5.c.map .t)])/\l.length+1<=68719476736/\Zp7 v5 b (l++[(w (e1+v6))]) (w (i+1))=some r))else Zp8 c b l i false=some r else Zp8 c b l i false=some r))))/\
 (((∀c b l i x r,Im (Zp8 c b l i x=some r) (if 0<(l.length:Int)then ∃(v1:Zh),∃v2,Zc2 c 8=some (Bo v2,[.box (v1.c.map .t)])/\if v2=true then ∃(v3:Zh),∃v4,Zbg v1 (l.length:Int)=some (I v4,[.box (v3.c.map .t)])/\∃(v5:Zh),∃v6,Zbg v3 9=some (I v6,[.box (v5.c.map .t)])/\qG l v4 (λe4=>some (L 1 ((l.set v4.toNat v6).map ic),[.box (v5.c.map .t)])=some r)else some (L 1 (l.map ic),[.box (v1.c.map .t)])=some r else some (L 1 (l.map ic),[.box (c.c.map .t)])=some r))/\
 (∀x a r,Im (Zp6 x a=some r) (Zp7 x a ([]:List Int) 0=some r)))/\
 ((∀q cc cd m r,Im (Zht q cc cd m=some r) (if m<cd then if(andI m cd)=m then qB (Zhr q m) (qB (Zhr q (w (cd-m))) (cc.length+1<=68719476736/\Zht q (cc++[m]) cd (w (m+1))=some r) (Zht q cc cd (w (m+1))=some r)) (Zht q cc cd (w (m+1))=some r)else Zht q cc cd (w (m+1))=some r else some (.own 0,[.arr 3 1 true (cc.map ic)])=some r))/\
 ((∀a a1 r,Im (Zhs a a1=some r) (qB (Zft a a1) (Zht a ([]:List Int) a1 1=some r) (some (.own 0,[.arr 3 1 true (([]:List Int).map ic)])=some r)))/\
 (∀cc cd i r,Im (Zmt cc cd i=some r) (if i<4 then qB (Zbv cd 0 15) (¬i<0/\if(andI (shrI cd i) 1)=1 then cc.length+1<=68719476736/\Zmt (cc++[i]) cd (w (i+1))=some r else Zmt cc cd (w (i+1))=some r) (some (.own 0,[.arr 3 1 true (cc.map ic)])=some r)else some (.own 0,[.arr 3 1 true (cc.map ic)])=some r))))))/\
 ((((∀a r,Im (Zkp a=some r) (Zmt ([]:List Int) a 0=some r))/\
 (∀a r,Im (Zix a=some r) (some (.agg [.own 0],[.arr 162 3 true (([(⟨1,a,0⟩:Zb)]).map Zb.c)])=some r)))/\
 ((∀a a1 a2 a3 r,Im (Zcw a a1 a2 a3=some r) (a.Steps.length<=68719476736/\a.Steps.length+a1.Steps.length<=68719476736/\a.Steps.length+a1.Steps.length+1<=68719476736/\some (.agg [.own 0],[.arr 162 3 true (((a.Steps++a1.Steps)++[(⟨a2,0,a3⟩:Zb)]).map Zb.c)])=some r))/\
 (∀cc cl v r,Im (Zmu cc cl v=some r) (if v<4 then ¬v<0/\if(andI (shrI cl v) 1)=1 then cc.length+1<=68719476736/\Zmu (cc++[v]) cl (w (v+1))=some r else Zmu cc cl (w (v+1))=some r else some (.own 0,[.arr 3 1 true (cc.map ic)])=some r))))/\
 (((∀a r,Im (Zy8 a=some r) (Zmu ([]:List Int) a 0=some r))/\
 (∀a a1 r,Im (Zp9 a a1=some r) (qB (Zmr a a1) (qI (Zek a a1) (λv3=>qO 3 1 ic (Zy8 v3) (λv5=>some (.own 0,[.arr 3 1 true (v5.map ic)])=some r))) (some (.own 0,[.arr 3 1 true (([]:List Int).map ic)])=some r))))/\
 ((∀cc x y i r,Im (Zmv cc x y i=some r) (if i<(x.length:Int)then qG x i (λe1=>qB (Zkj y e1) (cc.length+1<=68719476736/\Zmv (cc++[e1]) x y (w (i+1))=some r) (Zmv cc x y (w (i+1))=some r))else some (.own 0,[.arr 3 1 true (cc.map ic)])=some r))/\
 ((∀a a1 a2 r,Im (Zhu a a1 a2=some r) (qO 3 1 ic (Zp9 a a1) (λv1=>qO 3 1 ic (Zp9 a a2) (λv3=>Zmv ([]:List Int) v1 v3 0=some r))))/\
 (∀a a1 r,Im (Zkq a a1=some r) (qB (Zbv a1 0 3) (¬a1<0/\qb (decide ((andI (shrI a a1) 1)=1)) r) (qb false r))))))):=by
 and_intros
 all_goals(intros;unfold Im;(try simp only[Zuc,Zda,Zp5,Zp7,Zp6,Zht,Zhs,Zmt,Zkp,Zix,Zcw,Zmu,Zy8,Zp9,Zmv,Zhu,Zkq,Zch,Zbg,Zft,Zc2,Zdw,Zh.c_def,Zc.c_def,Zhr,Zbv,Zmr,Zek,Zkj,Zp8,mpl,dfs,qs]);(try simp only[itb]);(try simp only[itf,gS,kk]))
 all_goals(repeat' first|refine exI λ_=>?_|refine anJ λ_ _=>?_|refine anI λ_=>?_|refine orE2 ?_ ?_|exact False.elim)
 all_goals(intro h;first|rw[Zl Zua.eq_1]|refine runM Zbmm rfl ?_|rw[Zl Zy1.eq_1]|rw[Zir Zud.eq_1]|refine runM Zbmn rfl ?_|rw[Zl Zy2.eq_1]|refine run Zbmo rfl ?_|rw[Zl Zy4.eq_1]|refine run Zbmp rfl ?_|refine run Zbmq rfl ?_|refine run Zbmr rfl ?_|rw[Zl Zy6.eq_1]|refine run Zbms rfl ?_|refine run Zbmt rfl ?_|rw[Zl Zy9.eq_1]|refine run Zbmu rfl ?_|refine run Zbmv rfl ?_)
 all_goals (refine Ya ?_ h;clear h;simp +decide[*,kk,tI,tII,Z8x,Z8y,Zub,Z8z,Z80,Z81,Z82,Zy3,Z83,Z84,Zy5,Z85,Z86,Z87,Z88,Zy7,Z89,Z9a,Z9b,Zza,Z9c,Z9d])
abbrev Zbqv:=uq Zdd.1.1.1.1
abbrev Zic:=uq Zdd.1.1.1.2
abbrev Zbqw:=uq Zdd.1.1.2.1
abbrev Z2y:=uq Zdd.1.1.2.2
abbrev Z2z:=uq Zdd.1.2.1.1
abbrev Zbqx:=uq Zdd.1.2.1.2
abbrev Zbd5:=uq Zdd.1.2.2.1
abbrev Zbd6:=uq Zdd.1.2.2.2.1
abbrev Zbd7:=uq Zdd.1.2.2.2.2
abbrev Zbqy:=uq Zdd.2.1.1.1
abbrev Zbqz:=uq Zdd.2.1.1.2
abbrev Zbq0:=uq Zdd.2.1.2.1
abbrev Zbd8:=uq Zdd.2.1.2.2
abbrev Zbq1:=uq Zdd.2.2.1.1
abbrev Zbq2:=uq Zdd.2.2.1.2
abbrev Zbd9:=uq Zdd.2.2.2.1
abbrev Zbq3:=uq Zdd.2.2.2.2.1
abbrev Zbq4:=uq Zdd.2.2.2.2.2
theorem Zr9{q:Zc}{x:Zb}{x1:Zf}{cc:List Zf}{c:List Int}{n x2:Int}{x3:Bool}{r:AV×List Blk}(h:(if x3=true then(if x.Atom=0 then(if n<2 then(some (.tup [.agg [I 0,I 0,I 0,I 0],I (-1)],[])=some r)else(0<=(w (n-2))/\(∃(e1:Int),c[(w (n-2)).toNat]?=some e1/\(0<=e1/\(∃(e2:Zf),cc[e1.toNat]?=some e2/\(0<=(w (n-1))/\(∃(e3:Int),c[(w (n-1)).toNat]?=some e3/\(0<=e3/\(∃(e4:Zf),cc[e3.toNat]?=some e4/\(∃(v:Int),Zek q e2.Mask=some (I v,[])/\(∃(v1:Int),Zek q e4.Mask=some (I v1,[])/\(if(andI e2.Mask e4.Mask)=0 then(if(andI v v1)=0 then(some (.tup [.agg [I 0,I 0,I 0,I 0],I (-1)],[])=some r)else(if x.Kind=4 then(Ziy q x x1 e2 e4 (⟨(orI e2.Mask e4.Mask),(-1),e1,e3⟩:Zf) (andI v v1) false=some r)else(if x.Order=0 then(if x.Kind=5 then(Zmw q x x1 e2 e4 (⟨(orI e2.Mask e4.Mask),e2.Order,e1,e3⟩:Zf) (andI v v1)=some r)else(Ziy q x x1 e2 e4 (⟨(orI e2.Mask e4.Mask),(-1),e1,e3⟩:Zf) (andI v v1) false=some r))else(some (.tup [.agg [I 0,I 0,I 0,I 0],I (-1)],[])=some r))))else(some (.tup [.agg [I 0,I 0,I 0,I 0],I (-1)],[])=some r)))))))))))))else(some (.tup [.agg [I 0,I 0,I 0,I 0],I (-1)],[])=some r))else(some (.tup [.agg [I 0,I 0,I 0,I 0],I (-1)],[])=some r))):Zks q x x1 cc c n x2 x3=some r:=by
 unfold Zks;rw[Zir Zuf.eq_1];by_cases q1:x3=true
 .rw[if_pos q1]at h;by_cases q2:x.Atom=0
  .rw[if_pos q2]at h;replace q2:=eq_true q2;by_cases q3:n<2
   .rw[if_pos q3]at h;refine Ya ?_ h;clear h;simp +decide[*,tI,tII]
   .rw[if_neg q3]at h;obtain⟨q4,h⟩:=h;obtain⟨e1,q5,h⟩:=h;have gq5:=Zb9 q5;have kq5:=Zcf q5;obtain⟨q6,h⟩:=h;obtain⟨e2,q7,h⟩:=h;have gq7:=Zb9 q7;have kq7:=Zcf q7;obtain⟨q8,h⟩:=h;obtain⟨e3,q9,h⟩:=h;have gq9:=Zb9 q9;have kq9:=Zcf q9;obtain⟨q10,h⟩:=h;obtain⟨e4,q11,h⟩:=h;have gq11:=Zb9 q11;have kq11:=Zcf q11;obtain⟨v,q12,h⟩:=h;unfold Zek at q12
    try simp at q12
    obtain⟨v1,q13,h⟩:=h;unfold Zek at q13
    try simp at q13
    by_cases q14:(andI e2.Mask e4.Mask)=0
    .rw[if_pos q14]at h;replace q14:=eq_true q14;by_cases q15:(andI v v1)=0
     .rw[if_pos q15]at h;replace q15:=eq_true q15;refine Ya ?_ h;clear h;simp +decide[*,tI,tII]
     .rw[if_neg q15]at h;replace q15:=eq_false q15;by_cases q16:x.Kind=4
      .rw[if_pos q16]at h;replace q16:=eq_true q16;have q17:(x.Kind=5)=False:=eq_false (by intro hh;simp_all);refine Ya ?_ h;clear h;simp +decide[*,tI,tII,Ziy]
      .rw[if_neg q16]at h;replace q16:=eq_false q16;by_cases q18:x.Order=0
       .rw[if_pos q18]at h;replace q18:=eq_true q18;by_cases q19:x.Kind=5
        .rw[if_pos q19]at h;replace q19:=eq_true q19;refine Ya ?_ h;clear h;simp +decide[*,tI,tII,Zmw]
        .rw[if_neg q19]at h;replace q19:=eq_false q19;refine Ya ?_ h;clear h;simp +decide[*,tI,tII,Ziy]
       .rw[if_neg q18]at h;replace q18:=eq_false q18;refine Ya ?_ h;clear h;simp +decide[*,tI,tII]
    .rw[if_neg q14]at h;replace q14:=eq_false q14;refine Ya ?_ h;clear h;simp +decide[*,tI,tII]
  .rw[if_neg q2]at h;replace q2:=eq_false q2;refine Ya ?_ h;clear h;simp +decide[*,tI,tII]
 .rw[if_neg q1]at h;refine Ya ?_ h;clear h;simp +decide[*,tI,tII]
theorem Zd2:((((∀x x1 x2 a b y v r,Im (Zmw x x1 x2 a b y v=some r) (if x1.Kind=4 then qB (Zkq v x1.Order) (if a.Order=x1.Order then if b.Order=x1.Order then some (.tup [.agg [I y.Mask,I x1.Order,I y.Left,I y.Right],I 2],[])=some r else some (.tup [.agg [I 0,I 0,I 0,I 0],I (-1)],[])=some r else some (.tup [.agg [I 0,I 0,I 0,I 0],I (-1)],[])=some r) (some (.tup [.agg [I 0,I 0,I 0,I 0],I (-1)],[])=some r)else some (.tup [.agg (y.c.map .t),I 2],[])=some r))/\
 (∀x x1 x2 a b y v x3 r,Im (Ziy x x1 x2 a b y v x3=some r) (if x1.Kind=4 then qB (Zkq v x1.Order) (if a.Order=x1.Order then if b.Order=x1.Order then some (.tup [.agg [I y.Mask,I x1.Order,I y.Left,I y.Right],I 2],[])=some r else some (.tup [.agg [I 0,I 0,I 0,I 0],I (-1)],[])=some r else some (.tup [.agg [I 0,I 0,I 0,I 0],I (-1)],[])=some r) (some (.tup [.agg [I 0,I 0,I 0,I 0],I (-1)],[])=some r)else some (.tup [.agg (y.c.map .t),I 2],[])=some r)))/\
 ((∀a a1 a2 a3 r,Im (Zkr a a1 a2 a3=some r) (if a1.Kind=1 then qB (Zbv a1.Atom 0 (w ((a.Atoms.length:Int)-1))) (if a1.Order=0 then ¬a1.Atom<0/\qG a.Atoms a1.Atom (λe2=>∃e3,e2.Vars[0]?=some e3/\some (.tup [.agg [I (shlI 1 a1.Atom),I e3,I (-1),I (-1)],I 0],[])=some r)else some (.tup [.agg [I 0,I 0,I 0,I 0],I (-1)],[])=some r) (some (.tup [.agg [I 0,I 0,I 0,I 0],I (-1)],[])=some r)else if a1.Kind=2 then if a1.Atom=0 then if(a3.length:Int)<1 then some (.tup [.agg [I 0,I 0,I 0,I 0],I (-1)],[])=some r else 0<=(w ((a3.length:Int)-1))/\∃e4,a3[(w ((a3.length:Int)-1)).toNat]?=some e4/\qG a2 e4 (λe5=>if e5.Order=a1.Order then some (.tup [.agg [I 0,I 0,I 0,I 0],I (-1)],[])=some r else qI (Zek a e5.Mask) (λv7=>qB (Zkq v7 a1.Order) (some (.tup [.agg [I e5.Mask,I a1.Order,I e4,I (-1)],I 1],[])=some r) (some (.tup [.agg [I 0,I 0,I 0,I 0],I (-1)],[])=some r)))else some (.tup [.agg [I 0,I 0,I 0,I 0],I (-1)],[])=some r else if a1.Kind=3 then Zks a a1 (⟨0,0,0,0⟩:Zf) a2 a3 (a3.length:Int) a1.Kind true=some r else if a1.Kind=4 then Zks a a1 (⟨0,0,0,0⟩:Zf) a2 a3 (a3.length:Int) a1.Kind true=some r else if a1.Kind=5 then if a1.Atom=0 then if(a3.length:Int)<2 then some (.tup [.agg [I 0,I 0,I 0,I 0],I (-1)],[])=some r else 0<=(w ((a3.length:Int)-2))/\∃e8,a3[(w ((a3.length:Int)-2)).toNat]?=some e8/\qG a2 e8 (λe9=>0<=(w ((a3.length:Int)-1))/\∃e10,a3[(w ((a3.length:Int)-1)).toNat]?=some e10/\qG a2 e10 (λe11=>qI (Zek a e9.Mask) (λv16=>qI (Zek a e11.Mask) (λv17=>if(andI e9.Mask e11.Mask)=0 then if(andI v16 v17)=0 then some (.tup [.agg [I 0,I 0,I 0,I 0],I (-1)],[])=some r else if a1.Order=0 then Zmw a a1 (⟨0,0,0,0⟩:Zf) e9 e11 (⟨(orI e9.Mask e11.Mask),e9.Order,e8,e10⟩:Zf) (andI v16 v17)=some r else some (.tup [.agg [I 0,I 0,I 0,I 0],I (-1)],[])=some r else some (.tup [.agg [I 0,I 0,I 0,I 0],I (-1)],[])=some r))))else some (.tup [.agg [I 0,I 0,I 0,I 0],I (-1)],[])=some r else some (.tup [.agg [I 0,I 0,I 0,I 0],I (-1)],[])=some r))/\
 (∀q p cd cc i r,Im (Zqa q p cd cc i=some r) (if i<(p.Steps.length:Int)then qG p.Steps i (λe1=>∃(v3:Zf),∃v4,Zkr q e1 cd cc=some (.tup [.agg (v3.c.map .t),I v4],[])/\if v4<0 then some (.tup [.own 0,Bo false],[.arr 178 4 true (([]:List Zf).map Zf.c)])=some r else cd.length+1<=68719476736/\0<=(w ((cc.length:Int)-v4))/\(w ((cc.length:Int)-v4)).toNat<=cc.length/\(w ((cc.length:Int)-v4)).toNat<=68719476736/\(w ((cc.length:Int)-v4)).toNat+1<=68719476736/\Zqa q p (cd++[v3]) ((cc.take ((w ((cc.length:Int)-v4)).toNat))++[i]) (w (i+1))=some r)else if(cc.length:Int)=1 then some (.tup [.own 0,Bo true],[.arr 178 4 true (cd.map Zf.c)])=some r else some (.tup [.own 0,Bo false],[.arr 178 4 true (([]:List Zf).map Zf.c)])=some r))))/\
 (((∀a a1 r,Im (Ziz a a1=some r) (qB (Zej a) (qB (Zbv (a1.Steps.length:Int) 1 14) (Zqa a a1 ([]:List Zf) ([]:List Int) 0=some r) (some (.tup [.own 0,Bo false],[.arr 178 4 true (([]:List Zf).map Zf.c)])=some r)) (some (.tup [.own 0,Bo false],[.arr 178 4 true (([]:List Zf).map Zf.c)])=some r)))/\
 (∀a a1 r,Im (Zmx a a1=some r) (∃(v1:List Zf),∃v2,Ziz a a1=some (.tup [.own 0,Bo v2],[.arr 178 4 true (v1.map Zf.c)])/\if v2=true then 0<=(w ((v1.length:Int)-1))/\∃e2,v1[(w ((v1.length:Int)-1)).toNat]?=some e2/\qi e2.Order r else qi (-1) r)))/\
 ((∀a a1 r,Im (Zhv a a1=some r) (a.Steps.length<=68719476736/\a.Steps.length+1<=68719476736/\some (.agg [.own 0],[.arr 162 3 true ((a.Steps++[(⟨2,0,a1⟩:Zb)]).map Zb.c)])=some r))/\
 (∀x a a1 r,Im (Zge x a a1=some r) (qO 3 1 ic (Zhs a a1) (λv1=>if(v1.length:Int)=0 then qO 3 1 ic (Zkp a1) (λv3=>if(v3.length:Int)=0 then ∃(v5:List Zb),Zix 0=some (.agg [.own 0],[.arr 162 3 true (v5.map Zb.c)])/\some (.agg [L 3 (v5.map Zb.c)],[.box (x.c.map .t)])=some r else ∃e4,v3[0]?=some e4/\∃(v6:List Zb),Zix e4=some (.agg [.own 0],[.arr 162 3 true (v6.map Zb.c)])/\some (.agg [L 3 (v6.map Zb.c)],[.box (x.c.map .t)])=some r)else ∃(v7:Zh),∃v8,Zbg x (v1.length:Int)=some (I v8,[.box (v7.c.map .t)])/\qG v1 v8 (λe7=>∃(v9:Zh) (v10:Plan),Zge v7 a e7=some (.agg (v10.c.map .t),[.box (v9.c.map .t)])/\∃(v11:Zh) (v12:Plan),Zge v9 a (w (a1-e7))=some (.agg (v12.c.map .t),[.box (v11.c.map .t)])/\∃(v13:Zh),∃v14,Zbg v11 3=some (I v14,[.box (v13.c.map .t)])/\if v14=0 then ∃(v15:List Zb),Zcw v10 v12 3 0=some (.agg [.own 0],[.arr 162 3 true (v15.map Zb.c)])/\some (.agg [L 3 (v15.map Zb.c)],[.box (v13.c.map .t)])=some r else if v14=1 then ∃(v16:List Zb),Zcw v10 v12 5 0=some (.agg [.own 0],[.arr 162 3 true (v16.map Zb.c)])/\some (.agg [L 3 (v16.map Zb.c)],[.box (v13.c.map .t)])=some r else qO 3 1 ic (Zhu a e7 (w (a1-e7))) (λv17=>∃(v18:Zh),∃v19,Zbg v13 (v17.length:Int)=some (I v19,[.box (v18.c.map .t)])/\qG v17 v19 (λe15=>qI (Zmx a v10) (λv20=>if v20=e15 then qI (Zmx a v12) (λv21=>if v21=e15 then ∃(v22:List Zb),Zcw v10 v12 4 e15=some (.agg [.own 0],[.arr 162 3 true (v22.map Zb.c)])/\some (.agg [L 3 (v22.map Zb.c)],[.box (v18.c.map .t)])=some r else ∃(v23:List Zb),Zhv v12 e15=some (.agg [.own 0],[.arr 162 3 true (v23.map Zb.c)])/\∃(v24:List Zb),Zcw v10 (⟨v23⟩:Plan) 4 e15=some (.agg [.own 0],[.arr 162 3 true (v24.map Zb.c)])/\some (.agg [L 3 (v24.map Zb.c)],[.box (v18.c.map .t)])=some r)else ∃(v25:List Zb),Zhv v10 e15=some (.agg [.own 0],[.arr 162 3 true (v25.map Zb.c)])/\qI (Zmx a v12) (λv26=>if v26=e15 then ∃(v27:List Zb),Zcw (⟨v25⟩:Plan) v12 4 e15=some (.agg [.own 0],[.arr 162 3 true (v27.map Zb.c)])/\some (.agg [L 3 (v27.map Zb.c)],[.box (v18.c.map .t)])=some r else ∃(v28:List Zb),Zhv v12 e15=some (.agg [.own 0],[.arr 162 3 true (v28.map Zb.c)])/\∃(v29:List Zb),Zcw (⟨v25⟩:Plan) (⟨v28⟩:Plan) 4 e15=some (.agg [.own 0],[.arr 162 3 true (v29.map Zb.c)])/\some (.agg [L 3 (v29.map Zb.c)],[.box (v18.c.map .t)])=some r)))))))))))/\
 ((((∀l i r,Im (Zqb l i=some r) (if i<(l.length:Int)then qG l i (λe1=>qB (Zbv e1 0 7) (Zqb l (w (i+1))=some r) (qb false r))else qb (decide ((l.length:Int)<=16)) r))/\
 (∀a r,Im (Zkt a=some r) (Zqb a 0=some r)))/\
 ((∀k n i r,Im (Zmy k n i=some r) (if i<k then Zmy k (if 1<(w (n*4))then(w (n*4))else 1) (w (i+1))=some r else qi n r))/\
 (∀a r,Im (Zi0 a=some r) (qB (Zbv a 0 7) (Zmy a 0 0=some r) (qi (-1) r)))))/\
 (((∀cl l i r,Im (Zqc cl l i=some r) (if i<(l.length:Int)then qB (Zkt l) (qG l i (λe2=>qI (Zi0 e2) (λv5=>cl.length+1<=68719476736/\Zqc (cl++[v5]) l (w (i+1))=some r))) (some (.own 0,[.arr 3 1 true (cl.map ic)])=some r)else some (.own 0,[.arr 3 1 true (cl.map ic)])=some r))/\
 (∀a r,Im (Zhw a=some r) (Zqc ([]:List Int) a 0=some r)))/\
 ((∀a a1 r,Im (Ze8 a a1=some r) (if a1=1 then some (.agg (a.Scan.c.map .t),[])=some r else if a1=2 then some (.agg (a.Sort_.c.map .t),[])=some r else if a1=3 then some (.agg (a.Hash.c.map .t),[])=some r else if a1=4 then some (.agg (a.Merge.c.map .t),[])=some r else some (.agg (a.Nested.c.map .t),[])=some r))/\
 (∀a r,Im (Zg4 a=some r) (qV (Zbv a (-99) 99) (λv1=>qb v1 r)))))):=by
 and_intros
 all_goals(intros;unfold Im;(try simp only[Zkr,Zqa,Ziz,Zmx,Zhv,Zge,Zqb,Zkt,Zmy,Zi0,Zqc,Zhw,Ze8,Zg4,Zkq,Zbv,Zek,Zc.c_def,Zb.c_def,Zf.c_def,Zej,Plan.c_def,Zhs,Zkp,Zix,Zbg,Zcw,Zhu,Zh.c_def,Zks,Zmw,Ziy,mpl,dfs,qs]);(try simp only[itb]);(try simp only[itf,gS,kk]))
 all_goals(repeat' first|refine exI λ_=>?_|refine anJ λ_ _=>?_|refine anI λ_=>?_|refine orE2 ?_ ?_|exact False.elim)
 all_goals(intro h;first|rw[Zir Zue.eq_1]|refine run Zbmw rfl ?_|rw[Zl Zzb.eq_1]|refine run Zbmx rfl ?_|refine run Zbmy rfl ?_|refine run Zbmz rfl ?_|refine runM Zbm0 rfl ?_|rw[Zl Zzd.eq_1]|refine run Zbm1 rfl ?_|rw[Zl Zzf.eq_1]|refine run Zbm2 rfl ?_|rw[Zl Zzh.eq_1]|refine run Zbm3 rfl ?_|refine run Zbm4 rfl ?_|refine run Zbm5 rfl ?_)
 all_goals (refine Ya ?_ h;clear h;simp +decide[*,kk,tI,tII,Z9e,Z9f,Zuf,Zzc,Z9g,Z9h,Z9i,Z9l,Z9j,Z9k,Zze,Z9m,Zzg,Z9n,Zzi,Z9o,Z9p,Z9q])
abbrev Zbq5:=uq Zd2.1.1.1.1
abbrev Z20:=uq Zd2.1.1.1.2
abbrev Zg9:=uq Zd2.1.1.2.1
abbrev Zbea:=uq Zd2.1.1.2.2
abbrev Zbq6:=uq Zd2.1.2.1.1
abbrev Zbeb:=uq Zd2.1.2.1.2
abbrev Zbq7:=uq Zd2.1.2.2.1
abbrev Zjn:=uq Zd2.1.2.2.2
abbrev Zbec:=uq Zd2.2.1.1.1
abbrev Zbq8:=uq Zd2.2.1.1.2
abbrev Zbq9:=uq Zd2.2.1.2.1
abbrev Zbra:=uq Zd2.2.1.2.2
abbrev Z21:=uq Zd2.2.2.1.1
abbrev Zbed:=uq Zd2.2.2.1.2
abbrev Zbrb:=uq Zd2.2.2.2.1
abbrev Zbrc:=uq Zd2.2.2.2.2
theorem Zde:((((∀o i r,Im (Zkv o i=some r) (if i<(o.Steps.length:Int)then qG o.Steps i (λe1=>qB (Zbv e1.From 1 8192) (qB (Zg4 e1.Add) (if 0<i then 0<=(w (i-1))/\∃e4,o.Steps[(w (i-1)).toNat]?=some e4/\if e1.From<=e4.From then qb false r else Zkv o (w (i+1))=some r else Zkv o (w (i+1))=some r) (qb false r)) (qb false r))else qb true r))/\
 (∀a r,Im (Zku a=some r) (qB (Zg4 a.Fixed) (qB (Zg4 a.Zo) (qB (Zg4 a.Zq) (qB (Zg4 a.Zs) (qB (Zg4 a.Zr) (if 4<(a.Steps.length:Int)then qb false r else Zkv a 0=some r) (qb false r)) (qb false r)) (qb false r)) (qb false r)) (qb false r))))/\
 ((∀o l cd n i r,Im (Zkw o l cd n i=some r) (if i<(o.Steps.length:Int)then qG o.Steps i (λe1=>if e1.From<=(w (l+cd))then Zkw o l cd (w (n+e1.Add)) (w (i+1))=some r else Zkw o l cd n (w (i+1))=some r)else qi n r))/\
 (∀a a1 a2 a3 r,Im (Zdx a a1 a2 a3=some r) (qB (Zku a) (qB (Zbv a1 0 4096) (qB (Zbv a2 0 4096) (qB (Zbv a3 0 4096) (Zkw a a1 a2 (w ((w ((w ((w (a.Fixed+(w (a.Zo*a1))))+(w (a.Zq*a2))))+(w (a.Zs*a3))))+(w ((w (a.Zr*a1))*a2)))) 0=some r) (qi 0 r)) (qi 0 r)) (qi 0 r)) (qi 0 r)))))/\
 (((∀a a1 r,Im (Zmz a a1=some r) (∃e1,a1[0]?=some e1/\qI (Zi0 e1) (λv3=>∃e3,a1[1]?=some e3/\qI (Zi0 e3) (λv7=>∃e5,a1[2]?=some e5/\qI (Zi0 e5) (λv8=>qI (Zdx a v3 v7 v8) (λv9=>qi v9 r))))))/\
 (∀o a r,Im (Zm2 o a=some r) (if a<=7 then Zm3 o a 0=some r else some (.tup [.own 0,.own 1,Bo false],[.arr 3 1 true (([]:List Int).map ic),.arr 3 1 true (([]:List Int).map ic)])=some r)))/\
 ((∀o a b r,Im (Zm3 o a b=some r) (if b<=7 then Zm4 o a b 0=some r else Zm2 o (w (a+1))=some r))/\
 ((∀o a b e r,Im (Zm4 o a b e=some r) (if e<=7 then Zhx o ([a,b,e]) a b e 0=some r else Zm3 o a (w (b+1))=some r))/\
 (∀o x a b e k r,Im (Zhx o x a b e k=some r) (if k<3 then x.length<=68719476736/\qG x k (λe1=>if(w (e1+1))<=7 then qI (Zmz o (x.set k.toNat (w (e1+1)))) (λv3=>qI (Zmz o x) (λv4=>if v3<v4 then some (.tup [.own 0,.own 1,Bo true],[.arr 3 1 true (x.map ic),.arr 3 1 true ((x.set k.toNat (w (e1+1))).map ic)])=some r else Zhx o x a b e (w (k+1))=some r))else Zhx o x a b e (w (k+1))=some r)else Zm4 o a b (w (e+1))=some r))))))/\
 ((((∀a r,Im (Zui a=some r) (qB (Zku a) (Zm2 a 0=some r) (some (.tup [.own 0,.own 1,Bo false],[.arr 3 1 true (([]:List Int).map ic),.arr 3 1 true (([]:List Int).map ic)])=some r)))/\
 (∀o a r,Im (Zm5 o a=some r) (if a<=7 then Zm6 o a 0=some r else some (.own 0,[.arr 3 1 true (([]:List Int).map ic)])=some r)))/\
 ((∀o a b r,Im (Zm6 o a b=some r) (if b<=7 then Zqh o a b 0=some r else Zm5 o (w (a+1))=some r))/\
 (∀o a b e r,Im (Zqh o a b e=some r) (if e<=7 then qI (Zmz o ([a,b,e])) (λv=>if v<1 then some (.own 0,[.arr 3 1 true (([a,b,e]).map ic)])=some r else Zqh o a b (w (e+1))=some r)else Zm6 o a (w (b+1))=some r))))/\
 (((∀a r,Im (Zul a=some r) (Zm5 a 0=some r))/\
 (∀m k r,Im (Zm7 m k=some r) (if k<=5 then qA Zj.c (Ze8 m k) (λv=>qB (Zku v) (∃(v4:List Int),∃(v5:List Int),∃v6,Zui v=some (.tup [.own 0,.own 1,Bo v6],[.arr 3 1 true (v4.map ic),.arr 3 1 true (v5.map ic)])/\if v6=true then some (.tup [I k,.own 0,.own 1],[.arr 3 1 true (v4.map ic),.arr 3 1 true (v5.map ic)])=some r else qO 3 1 ic (Zul v) (λv7=>if 0<(v7.length:Int)then some (.tup [I k,.own 0,.own 1],[.arr 3 1 true (v7.map ic),.arr 3 1 true (([]:List Int).map ic)])=some r else Zm7 m (w (k+1))=some r)) (some (.tup [I k,.own 0,.own 1],[.arr 3 1 true (([]:List Int).map ic),.arr 3 1 true (([]:List Int).map ic)])=some r))else some (.tup [I 0,.own 0,.own 1],[.arr 3 1 true (([]:List Int).map ic),.arr 3 1 true (([]:List Int).map ic)])=some r)))/\
 ((∀a r,Im (Zzt a=some r) (Zm7 a 1=some r))/\
 ((∀a r,Im (Zhy a=some r) (∃(v:List Int),∃(v1:List Int),∃v2,Zzt a=some (.tup [I v2,.own 0,.own 1],[.arr 3 1 true (v.map ic),.arr 3 1 true (v1.map ic)])/\qb (decide (v2=0)) r))/\
 (∀cc i r,Im (Zm8 cc i=some r) (if i<(cc.length:Int)then qG cc i (λe1=>qB (Zbv e1 0 4096) (Zm8 cc (w (i+1))=some r) (qb false r))else qb true r)))))):=by
 and_intros
 all_goals(intros;unfold Im;(try simp only[Zkv,Zku,Zkw,Zdx,Zmz,Zm2,Zm3,Zm4,Zhx,Zui,Zm5,Zm6,Zqh,Zul,Zm7,Zzt,Zhy,Zm8,Zbv,Zg4,Zj.c_def,Zi0,Ze8,Zd.c_def,mpl,dfs,qs]);(try simp only[itb]);(try simp only[itf,gS,kk]))
 all_goals(repeat' first|refine exI λ_=>?_|refine anJ λ_ _=>?_|refine anI λ_=>?_|refine orE2 ?_ ?_|exact False.elim)
 all_goals(intro h;first|rw[Zl Zzj.eq_1]|refine run Zbm6 rfl ?_|rw[Zl Zzl.eq_1]|refine run Zbm7 rfl ?_|refine run Zbm8 rfl ?_|rw[Zl Zm0.eq_1]|rw[Zl Zqd.eq_1]|rw[Zl Zug.eq_1]|rw[Zl Zzn.eq_1]|refine run Zbm9 rfl ?_|rw[Zl Zqf.eq_1]|rw[Zl Zuj.eq_1]|rw[Zl Zzp.eq_1]|refine run Zbna rfl ?_|rw[Zl Zzr.eq_1]|refine run Zbnb rfl ?_|refine run Zbnc rfl ?_|rw[Zl Zzu.eq_1])
 all_goals (refine Ya ?_ h;clear h;simp +decide[*,kk,tI,tII,Zzk,Z9r,Z9s,Zzm,Z9t,Z9u,Zm1,Zqe,Zuh,Zzo,Z9v,Zqg,Zuk,Zzq,Z9w,Zzs,Z9x,Z9y,Zzv])
abbrev Zbee:=uq Zde.1.1.1.1
abbrev Zbrd:=uq Zde.1.1.1.2
abbrev Zbef:=uq Zde.1.1.2.1
abbrev Zbre:=uq Zde.1.1.2.2
abbrev Zbrf:=uq Zde.1.2.1.1
abbrev Zbeg:=uq Zde.1.2.1.2
abbrev Zbeh:=uq Zde.1.2.2.1
abbrev Zbei:=uq Zde.1.2.2.2.1
abbrev Zbej:=uq Zde.1.2.2.2.2
abbrev Zbrg:=uq Zde.2.1.1.1
abbrev Zbek:=uq Zde.2.1.1.2
abbrev Zbel:=uq Zde.2.1.2.1
abbrev Z22:=uq Zde.2.1.2.2
abbrev Zbrh:=uq Zde.2.2.1.1
abbrev Zbem:=uq Zde.2.2.1.2
abbrev Zbri:=uq Zde.2.2.2.1
abbrev Zbrj:=uq Zde.2.2.2.2.1
abbrev Zben:=uq Zde.2.2.2.2.2
theorem Zha:(((∀a a1 r,Im (Zkx a a1=some r) (qB (Zej a) (qI (Zch a) (λv1=>if(a1.length:Int)=(w (v1+1))then Zm8 a1 0=some r else qb false r)) (qb false r)))/\
 (∀q cl co m r,Im (Zm9 q cl co m=some r) (if m<=co then qB (Zhr q m) (cl.length+1<=68719476736/\Zm9 q (cl++[m]) co (w (m+1))=some r) (Zm9 q cl co (w (m+1))=some r)else some (.own 0,[.arr 3 1 true (cl.map ic)])=some r)))/\
 ((∀a r,Im (Zum a=some r) (qI (Zch a) (λv=>Zm9 a ([]:List Int) v 1=some r)))/\
 ((∀q cl cc i r,Im (Zi1 q cl cc i=some r) (if i<(cc.length:Int)then qG cc i (λe1=>qO 3 1 ic (Zhs q e1) (λv1=>Zuq q cl cc e1 v1 i 0=some r))else some (.own 0,[.arr 220 3 true (cl.map Z2.c)])=some r))/\
 (∀q cl cc cd x i k r,Im (Zuq q cl cc cd x i k=some r) (if k<(x.length:Int)then qG x k (λe1=>qG cc i (λe2=>qO 3 1 ic (Zhu q e1 (w (e2-e1))) (λv2=>Zqk q cl cc cd x ([v2]) i (w (k+1))=some r)))else cl.length+1<=68719476736/\Zi1 q (cl++[(⟨cd,x,[]⟩:Z2)]) cc (w (i+1))=some r)))))/\
 (((∀q cl cc cd x x1 i k r,Im (Zqk q cl cc cd x x1 i k=some r) (if k<(x.length:Int)then qG x k (λe1=>qG cc i (λe2=>qO 3 1 ic (Zhu q e1 (w (e2-e1))) (λv2=>x1.length+1<=68719476736/\Zqk q cl cc cd x (x1++[v2]) i (w (k+1))=some r)))else cl.length+1<=68719476736/\Zi1 q (cl++[(⟨cd,x,x1⟩:Z2)]) cc (w (i+1))=some r))/\
 (∀a r,Im (Zhz a=some r) (qO 3 1 ic (Zum a) (λv=>Zi1 a ([]:List Z2) v 0=some r))))/\
 ((∀l cd cn i r,Im (Zi2 l cd cn i=some r) (if i<(l.length:Int)then qG l i (λe1=>if e1.Mask=cd then if cn<0 then Zi2 l cd i (w (i+1))=some r else qG l cn (λe2=>if e1.Cost<e2.Cost then Zi2 l cd i (w (i+1))=some r else Zi2 l cd cn (w (i+1))=some r)else Zi2 l cd cn (w (i+1))=some r)else qi cn r))/\
 ((∀a a1 r,Im (Zh0 a a1=some r) (Zi2 a a1 (-1) 0=some r))/\
 (∀x x1 a a1 a2 a3 a4 a5 r,Im (Zky x x1 a a1 a2 a3 a4 a5=some r) (qA Zj.c (Ze8 a a3) (λv=>qG x a1.Mask (λe2=>qG x a2.Mask (λe3=>0<=(orI a1.Mask a2.Mask)/\∃e4,x[(orI a1.Mask a2.Mask).toNat]?=some e4/\qI (Zdx v e2 e3 e4) (λv3=>0<=(w (a5+1))/\∃e6,x1[(w (a5+1)).toNat]?=some e6/\if e6.Mask=0 then ∃(v4:List Zb),Zcw a1.Plan a2.Plan a3 a4=some (.agg [.own 0],[.arr 162 3 true (v4.map Zb.c)])/\some (.tup [],[.arr 3 1 true (x.map ic),.arr 126 4 true ((x1.set ((w (a5+1)).toNat) (⟨(orI a1.Mask a2.Mask),a5,(w ((w (a1.Cost+a2.Cost))+v3)),(⟨v4⟩:Plan)⟩:Za)).map Za.c)])=some r else if(w ((w (a1.Cost+a2.Cost))+v3))<e6.Cost then ∃(v5:List Zb),Zcw a1.Plan a2.Plan a3 a4=some (.agg [.own 0],[.arr 162 3 true (v5.map Zb.c)])/\some (.tup [],[.arr 3 1 true (x.map ic),.arr 126 4 true ((x1.set ((w (a5+1)).toNat) (⟨(orI a1.Mask a2.Mask),a5,(w ((w (a1.Cost+a2.Cost))+v3)),(⟨v5⟩:Plan)⟩:Za)).map Za.c)])=some r else some (.tup [],[.arr 3 1 true (x.map ic),.arr 126 4 true (x1.map Za.c)])=some r))))))))):=by
 and_intros
 all_goals(intros;unfold Im;(try simp only[Zkx,Zm9,Zum,Zi1,Zuq,Zqk,Zhz,Zi2,Zh0,Zky,Zej,Zch,Zc.c_def,Zhr,Zhs,Zhu,Ze8,Zdx,Zcw,Zd.c_def,Zj.c_def,Plan.c_def,Zm8,mpl,dfs,qs]);(try simp only[itb]);(try simp only[itf,gS,kk]))
 all_goals(repeat' first|refine exI λ_=>?_|refine anJ λ_ _=>?_|refine anI λ_=>?_|refine orE2 ?_ ?_|exact False.elim)
 all_goals(intro h;first|refine run Zbnd rfl ?_|rw[Zl Zzw.eq_1]|refine run Zbne rfl ?_|rw[Zl Zqi.eq_1]|rw[Zl Zun.eq_1]|refine run Zbnf rfl ?_|rw[Zl Zzy.eq_1]|refine run Zbng rfl ?_|refine runM Zbdi rfl ?_)
 all_goals (refine Ya ?_ h;clear h;simp +decide[*,kk,tI,tII,Z9z,Z90,Zzx,Z91,Zqj,Zup,Zuo,Z92,Z93,Zzz,Z94,Zz0])
abbrev Zbrk:=uq Zha.1.1.1
abbrev Zbeo:=uq Zha.1.1.2
abbrev Zbrl:=uq Zha.1.2.1
abbrev Zbep:=uq Zha.1.2.2.1
abbrev Zbrm:=uq Zha.1.2.2.2
abbrev Zbeq:=uq Zha.2.1.1
abbrev Zbrn:=uq Zha.2.1.2
abbrev Zber:=uq Zha.2.2.1
abbrev Zbro:=uq Zha.2.2.2.1
abbrev Zbrp:=uq Zha.2.2.2.2
theorem Zn7:((∀l cu cp i r,Im (Znb l cu cp i=some r) (if i<(l.length:Int)then qG l i (λe1=>if e1.Mask=cu then if e1.Order=cp then qi i r else Znb l cu cp (w (i+1))=some r else Znb l cu cp (w (i+1))=some r)else qi (-1) r))/\
 ((∀a a1 a2 r,Im (Zna a a1 a2=some r) (Znb a a1 a2 0=some r))/\
 (∀x x1 x2 a a1 cc cn cd a2 a3 a4 r,Im (Zql x x1 x2 a a1 cc cn cd a2 a3 a4=some r) (qA Zj.c (Ze8 a a2) (λv=>qG x a1.Mask (λe2=>qG x cc (λe3=>0<=(orI a1.Mask cc)/\∃e4,x[(orI a1.Mask cc).toNat]?=some e4/\qI (Zdx v e2 e3 e4) (λv2=>0<=(w (a4+1))/\∃e6,x1[(w (a4+1)).toNat]?=some e6/\if e6.Mask=0 then ∃(v3:List Zb),Zcw a1.Plan (⟨x2⟩:Plan) a2 a3=some (.agg [.own 0],[.arr 162 3 true (v3.map Zb.c)])/\some (.tup [],[.arr 3 1 true (x.map ic),.arr 126 4 true ((x1.set ((w (a4+1)).toNat) (⟨(orI a1.Mask cc),a4,(w ((w (a1.Cost+cd))+v2)),(⟨v3⟩:Plan)⟩:Za)).map Za.c),.arr 162 3 true (x2.map Zb.c)])=some r else if(w ((w (a1.Cost+cd))+v2))<e6.Cost then ∃(v4:List Zb),Zcw a1.Plan (⟨x2⟩:Plan) a2 a3=some (.agg [.own 0],[.arr 162 3 true (v4.map Zb.c)])/\some (.tup [],[.arr 3 1 true (x.map ic),.arr 126 4 true ((x1.set ((w (a4+1)).toNat) (⟨(orI a1.Mask cc),a4,(w ((w (a1.Cost+cd))+v2)),(⟨v4⟩:Plan)⟩:Za)).map Za.c),.arr 162 3 true (x2.map Zb.c)])=some r else some (.tup [],[.arr 3 1 true (x.map ic),.arr 126 4 true (x1.map Za.c),.arr 162 3 true (x2.map Zb.c)])=some r))))))))/\
 ((∀x x1 x2 a cc cn cd a1 a2 a3 a4 r,Im (Zqm x x1 x2 a cc cn cd a1 a2 a3 a4=some r) (qA Zj.c (Ze8 a a2) (λv=>qG x cc (λe2=>qG x a1.Mask (λe3=>0<=(orI cc a1.Mask)/\∃e4,x[(orI cc a1.Mask).toNat]?=some e4/\qI (Zdx v e2 e3 e4) (λv2=>0<=(w (a4+1))/\∃e6,x1[(w (a4+1)).toNat]?=some e6/\if e6.Mask=0 then ∃(v3:List Zb),Zcw (⟨x2⟩:Plan) a1.Plan a2 a3=some (.agg [.own 0],[.arr 162 3 true (v3.map Zb.c)])/\some (.tup [],[.arr 3 1 true (x.map ic),.arr 126 4 true ((x1.set ((w (a4+1)).toNat) (⟨(orI cc a1.Mask),a4,(w ((w (cd+a1.Cost))+v2)),(⟨v3⟩:Plan)⟩:Za)).map Za.c),.arr 162 3 true (x2.map Zb.c)])=some r else if(w ((w (cd+a1.Cost))+v2))<e6.Cost then ∃(v4:List Zb),Zcw (⟨x2⟩:Plan) a1.Plan a2 a3=some (.agg [.own 0],[.arr 162 3 true (v4.map Zb.c)])/\some (.tup [],[.arr 3 1 true (x.map ic),.arr 126 4 true ((x1.set ((w (a4+1)).toNat) (⟨(orI cc a1.Mask),a4,(w ((w (cd+a1.Cost))+v2)),(⟨v4⟩:Plan)⟩:Za)).map Za.c),.arr 162 3 true (x2.map Zb.c)])=some r else some (.tup [],[.arr 3 1 true (x.map ic),.arr 126 4 true (x1.map Za.c),.arr 162 3 true (x2.map Zb.c)])=some r))))))/\
 ((∀x x1 x2 x3 a cc cn cd cl cv co a1 a2 a3 r,Im (Zqn x x1 x2 x3 a cc cn cd cl cv co a1 a2 a3=some r) (qA Zj.c (Ze8 a a1) (λv=>qG x cc (λe2=>qG x cl (λe3=>0<=(orI cc cl)/\∃e4,x[(orI cc cl).toNat]?=some e4/\qI (Zdx v e2 e3 e4) (λv2=>0<=(w (a3+1))/\∃e6,x1[(w (a3+1)).toNat]?=some e6/\if e6.Mask=0 then ∃(v3:List Zb),Zcw (⟨x2⟩:Plan) (⟨x3⟩:Plan) a1 a2=some (.agg [.own 0],[.arr 162 3 true (v3.map Zb.c)])/\some (.tup [],[.arr 3 1 true (x.map ic),.arr 126 4 true ((x1.set ((w (a3+1)).toNat) (⟨(orI cc cl),a3,(w ((w (cd+co))+v2)),(⟨v3⟩:Plan)⟩:Za)).map Za.c),.arr 162 3 true (x2.map Zb.c),.arr 162 3 true (x3.map Zb.c)])=some r else if(w ((w (cd+co))+v2))<e6.Cost then ∃(v4:List Zb),Zcw (⟨x2⟩:Plan) (⟨x3⟩:Plan) a1 a2=some (.agg [.own 0],[.arr 162 3 true (v4.map Zb.c)])/\some (.tup [],[.arr 3 1 true (x.map ic),.arr 126 4 true ((x1.set ((w (a3+1)).toNat) (⟨(orI cc cl),a3,(w ((w (cd+co))+v2)),(⟨v4⟩:Plan)⟩:Za)).map Za.c),.arr 162 3 true (x2.map Zb.c),.arr 162 3 true (x3.map Zb.c)])=some r else some (.tup [],[.arr 3 1 true (x.map ic),.arr 126 4 true (x1.map Za.c),.arr 162 3 true (x2.map Zb.c),.arr 162 3 true (x3.map Zb.c)])=some r))))))/\
 (∀x fr x1 a a1 a2 r,Im (Zgf x fr x1 a a1 a2=some r) (qI (Zh0 x1 a1) (λv=>qG x1 v (λe2=>qG x a1 (λe3=>qI (Zdx a.Sort_ e3 0 e3) (λv1=>qI (Zna x1 a1 a2) (λv2=>if 0<=v2 then qH x1 v2 (λe6=>if e6.Cost<=(w (e2.Cost+v1))then some (.agg (e6.c.map .t),[.arr 3 1 true (x.map ic),.arr 126 4 fr (x1.map Za.c)])=some r else ∃(v3:List Zb),Zhv e2.Plan a2=some (.agg [.own 0],[.arr 162 3 true (v3.map Zb.c)])/\some (.agg [I a1,I a2,I (w (e2.Cost+v1)),.own 2],[.arr 3 1 true (x.map ic),.arr 126 4 fr (x1.map Za.c),.arr 162 3 true (v3.map Zb.c)])=some r)else ∃(v4:List Zb),Zhv e2.Plan a2=some (.agg [.own 0],[.arr 162 3 true (v4.map Zb.c)])/\some (.agg [I a1,I a2,I (w (e2.Cost+v1)),.own 2],[.arr 3 1 true (x.map ic),.arr 126 4 fr (x1.map Za.c),.arr 162 3 true (v4.map Zb.c)])=some r))))))))):=by
 and_intros
 all_goals(intros;unfold Im;(try simp only[Znb,Zna,Zql,Zqm,Zqn,Zgf,Ze8,Zdx,Zcw,Zd.c_def,Zj.c_def,Plan.c_def,Zh0,Zhv,Za.c_def,mpl,dfs,qs]);(try simp only[itb]);(try simp only[itf,gS,kk]))
 all_goals(repeat' first|refine exI λ_=>?_|refine anJ λ_ _=>?_|refine anI λ_=>?_|refine orE2 ?_ ?_|exact False.elim)
 all_goals(intro h;first|rw[Zl Zz1.eq_1]|refine run Zbnh rfl ?_|refine runM Zbdi rfl ?_|refine runM Zbni rfl ?_)
 all_goals (refine Ya ?_ h;clear h;simp +decide[*,kk,tI,tII,Zz2,Z95,Zz0,Z96])
abbrev Zbes:=uq Zn7.1.1
abbrev Zbrq:=uq Zn7.1.2.1
abbrev Zbrr:=uq Zn7.1.2.2
abbrev Zbrs:=uq Zn7.2.1
abbrev Zbrt:=uq Zn7.2.2.1
abbrev Z23:=uq Zn7.2.2.2
end Go.Proofs.YtcfaekfjkeobhaaGreat
