/-
  Parts of the proofs for this seat: G4 G5 G6 G7.
-/
import Derived.Test.YtcfaekfjkeobhaaGreatP11
set_option linter.unusedSectionVars false
set_option linter.unusedSimpArgs false
set_option linter.unusedVariables false
set_option maxRecDepth 100000
set_option maxHeartbeats 4000000
namespace Go.Proofs.YtcfaekfjkeobhaaGreat
open Go.AM
theorem Zdj:((((∀c q x i r,Im (Zv8 c q x i=some r) (qI (Zdw q) (λv=>if i<=v then if(andI i (w (i-1)))=0 then if 0<i then ∃(v2:Zg),∃v3,Z2 c 3=some (I v3,[.box (v2.c.map .t)])/\Zde v2 q ([v3]) ([v3]) x (w (i+1))=some r else Zde c q ([0]) ([0]) x (w (i+1))=some r else if 0<i then qB (Zgu q i) (∃(v6:Zg),∃v7,Z2 c 3=some (I v7,[.box (v6.c.map .t)])/\if x<3 then ∃(v8:Zg),∃v9,Zc0 v6 4=some (Bo v9,[.box (v8.c.map .t)])/\if v9=true then Zde v8 q ([v7]) ([v7]) x (w (i+1))=some r else ∃(v10:Zg),∃v11,Z2 v8 3=some (I v11,[.box (v10.c.map .t)])/\Zde v10 q ([v7]) ([(w ((w (v7+1))+v11))]) (w (x+1)) (w (i+1))=some r else Zde v6 q ([v7]) ([v7]) x (w (i+1))=some r) (Zde c q ([0]) ([0]) x (w (i+1))=some r)else Zde c q ([0]) ([0]) x (w (i+1))=some r else ∃(v12:Zg),∃v13,Zc0 c 20=some (Bo v13,[.box (v12.c.map .t)])/\if v13=true then ∃(v14:Zg),∃(v15:List Int),∃v16,Zdd v12 ([(-1),7,8])=some (I v16,[.box (v14.c.map .t),.arr 3 1 true (v15.map ic)])/\False else some (.agg [L 1 (([]:List Int).map ic),L 1 (([]:List Int).map ic)],[.box (v12.c.map .t)])=some r)))/\
 (∀c q x x1 x2 i r,Im (Zde c q x x1 x2 i=some r) (qI (Zdw q) (λv=>if i<=v then if(andI i (w (i-1)))=0 then if 0<i then ∃(v2:Zg),∃v3,Z2 c 3=some (I v3,[.box (v2.c.map .t)])/\x.length+1<=68719476736/\x1.length+1<=68719476736/\Zde v2 q (x++[v3]) (x1++[v3]) x2 (w (i+1))=some r else x.length+1<=68719476736/\x1.length+1<=68719476736/\Zde c q (x++[0]) (x1++[0]) x2 (w (i+1))=some r else if 0<i then qB (Zgu q i) (∃(v6:Zg),∃v7,Z2 c 3=some (I v7,[.box (v6.c.map .t)])/\if x2<3 then ∃(v8:Zg),∃v9,Zc0 v6 4=some (Bo v9,[.box (v8.c.map .t)])/\if v9=true then x.length+1<=68719476736/\x1.length+1<=68719476736/\Zde v8 q (x++[v7]) (x1++[v7]) x2 (w (i+1))=some r else ∃(v10:Zg),∃v11,Z2 v8 3=some (I v11,[.box (v10.c.map .t)])/\x.length+1<=68719476736/\x1.length+1<=68719476736/\Zde v10 q (x++[v7]) (x1++[(w ((w (v7+1))+v11))]) (w (x2+1)) (w (i+1))=some r else x.length+1<=68719476736/\x1.length+1<=68719476736/\Zde v6 q (x++[v7]) (x1++[v7]) x2 (w (i+1))=some r) (x.length+1<=68719476736/\x1.length+1<=68719476736/\Zde c q (x++[0]) (x1++[0]) x2 (w (i+1))=some r)else x.length+1<=68719476736/\x1.length+1<=68719476736/\Zde c q (x++[0]) (x1++[0]) x2 (w (i+1))=some r else ∃(v12:Zg),∃v13,Zc0 c 20=some (Bo v13,[.box (v12.c.map .t)])/\if v13=true then ∃(v14:Zg),∃(v15:List Int),∃v16,Zdd v12 ([(-1),7,8])=some (I v16,[.box (v14.c.map .t),.arr 3 1 true (v15.map ic)])/\∃e9,x1[0]?=some e9/\some (.agg [L 1 (x.map ic),L 1 ((x1.set 0 v16).map ic)],[.box (v14.c.map .t)])=some r else some (.agg [L 1 (x.map ic),L 1 (x1.map ic)],[.box (v12.c.map .t)])=some r))))/\
 ((∀x a r,Im (Zif x a=some r) (Zv8 x a 0 0=some r))/\
 (∀c b l i r,Im (Zrc c b l i=some r) (if i<(b.Low.length:Int)then if i<(b.High.length:Int)then qG b.Low i (λe1=>qH b.High i (λe2=>∃(v4:Zg),∃v5,Z2 c (if 1<(w ((w (e2-e1))+1))then(w ((w (e2-e1))+1))else 1)=some (I v5,[.box (v4.c.map .t)])/\l.length+1<=68719476736/\Zrc v4 b (l++[(w (e1+v5))]) (w (i+1))=some r))else Zrd c b l i false=some r else Zrd c b l i false=some r))))/\
 (((∀c b l i x r,Im (Zrd c b l i x=some r) (if 0<(l.length:Int)then ∃(v:Zg),∃v1,Zc0 c 8=some (Bo v1,[.box (v.c.map .t)])/\if v1=true then ∃(v2:Zg),∃v3,Z2 v (l.length:Int)=some (I v3,[.box (v2.c.map .t)])/\∃(v4:Zg),∃v5,Z2 v2 9=some (I v5,[.box (v4.c.map .t)])/\qG l v3 (λe4=>some (L 1 ((l.set v3.toNat v5).map ic),[.box (v4.c.map .t)])=some r)else some (L 1 (l.map ic),[.box (v.c.map .t)])=some r else some (L 1 (l.map ic),[.box (c.c.map .t)])=some r))/\
 (∀x a r,Im (Zf4 x a=some r) (Zrc x a ([]:List Int) 0=some r)))/\
 ((∀l i r,Im (Zre l i=some r) (if i<(l.length:Int)then qG l i (λe1=>qB (Zbk e1 0 7) (Zre l (w (i+1))=some r) (qb false r))else qb (decide ((l.length:Int)<=16)) r))/\
 ((∀a r,Im (Zle a=some r) (Zre a 0=some r))/\
 (∀k n i r,Im (Zno k n i=some r) (if i<k then Zno k (if 1<(w (n*4))then(w (n*4))else 1) (w (i+1))=some r else qi n r))))))/\
 ((((∀a r,Im (Zjo a=some r) (qB (Zbk a 0 7) (Zno a 0 0=some r) (qi (-1) r)))/\
 (∀cc l i r,Im (Zrf cc l i=some r) (if i<(l.length:Int)then qB (Zle l) (qG l i (λe2=>qI (Zjo e2) (λv4=>cc.length+1<=68719476736/\Zrf (cc++[v4]) l (w (i+1))=some r))) (some (.own 0,[.arr 3 1 true (cc.map ic)])=some r)else some (.own 0,[.arr 3 1 true (cc.map ic)])=some r)))/\
 ((∀a r,Im (Ze0 a=some r) (Zrf ([]:List Int) a 0=some r))/\
 (∀a a1 r,Im (Zfh a a1=some r) (if a1=1 then some (.agg (a.Scan.c.map .t),[])=some r else if a1=2 then some (.agg (a.Sort_.c.map .t),[])=some r else if a1=3 then some (.agg (a.Hash.c.map .t),[])=some r else if a1=4 then some (.agg (a.Merge.c.map .t),[])=some r else some (.agg (a.Nested.c.map .t),[])=some r))))/\
 (((∀a r,Im (Zig a=some r) (qV (Zbk a (-99) 99) (λv=>qb v r)))/\
 (∀o i r,Im (Zlf o i=some r) (if i<(o.Steps.length:Int)then qG o.Steps i (λe1=>qB (Zbk e1.From 1 8192) (qB (Zig e1.Add) (if 0<i then 0<=(w (i-1))/\∃e4,o.Steps[(w (i-1)).toNat]?=some e4/\if e1.From<=e4.From then qb false r else Zlf o (w (i+1))=some r else Zlf o (w (i+1))=some r) (qb false r)) (qb false r))else qb true r)))/\
 ((∀a r,Im (Zih a=some r) (qB (Zig a.Fixed) (qB (Zig a.Zq) (qB (Zig a.Zs) (qB (Zig a.Zu) (qB (Zig a.Zt) (if 4<(a.Steps.length:Int)then qb false r else Zlf a 0=some r) (qb false r)) (qb false r)) (qb false r)) (qb false r)) (qb false r)))/\
 ((∀o l cd n i r,Im (Zlg o l cd n i=some r) (if i<(o.Steps.length:Int)then qG o.Steps i (λe1=>if e1.From<=(w (l+cd))then Zlg o l cd (w (n+e1.Add)) (w (i+1))=some r else Zlg o l cd n (w (i+1))=some r)else qi n r))/\
 (∀a a1 a2 a3 r,Im (Zdf a a1 a2 a3=some r) (qB (Zih a) (qB (Zbk a1 0 4096) (qB (Zbk a2 0 4096) (qB (Zbk a3 0 4096) (Zlg a a1 a2 (w ((w ((w ((w (a.Fixed+(w (a.Zq*a1))))+(w (a.Zs*a2))))+(w (a.Zu*a3))))+(w ((w (a.Zt*a1))*a2)))) 0=some r) (qi 0 r)) (qi 0 r)) (qi 0 r)) (qi 0 r))))))):=by
 and_intros
 all_goals(intros;unfold Im;(try simp only[Zv8,Zde,Zif,Zrc,Zf4,Zre,Zle,Zno,Zjo,Zrf,Ze0,Zfh,Zig,Zlf,Zih,Zlg,Zdf,Zdw,Z2,Zgu,Zc0,Zdd,Zg.c_def,Zc.c_def,Zbk,Zm.c_def,Zrd,mpl,dfs,qs]);(try simp only[itb]);(try simp only[itf,gS,kk]))
 all_goals(repeat' first|refine exI λ_=>?_|refine anJ λ_ _=>?_|refine anI λ_=>?_|refine orE2 ?_ ?_|exact False.elim)
 all_goals(intro h;first|rw[Zl Zv6.eq_1]|refine runM Zbre rfl ?_|rw[Zl Z1n.eq_1]|rw[Zhn Zv9.eq_1]|refine runM Zbrf rfl ?_|rw[Zl Z1o.eq_1]|refine run Zbrg rfl ?_|rw[Zl Z1q.eq_1]|refine run Zbrh rfl ?_|rw[Zl Z1s.eq_1]|refine run Zbri rfl ?_|refine run Zbrj rfl ?_|refine run Zbrk rfl ?_|rw[Zl Z1u.eq_1]|refine run Zbrl rfl ?_|rw[Zl Z1w.eq_1]|refine run Zbrm rfl ?_)
 all_goals (refine Yb ?_ h;clear h;simp +decide[*,kk,tI,tII,Zbcf,Zbcg,Zv7,Zbch,Zbci,Zbcj,Z1p,Zbck,Z1r,Zbcl,Z1t,Zbcm,Zbcn,Zbco,Z1v,Zbcp,Zbcq,Z1x,Zbcr])
abbrev Zbwe:=uq Zdj.1.1.1.1
abbrev Zix:=uq Zdj.1.1.1.2
abbrev Zbwf:=uq Zdj.1.1.2.1
abbrev Z58:=uq Zdj.1.1.2.2
abbrev Z59:=uq Zdj.1.2.1.1
abbrev Zbwg:=uq Zdj.1.2.1.2
abbrev Zbii:=uq Zdj.1.2.2.1
abbrev Zbwh:=uq Zdj.1.2.2.2.1
abbrev Zbwi:=uq Zdj.1.2.2.2.2
abbrev Zbwj:=uq Zdj.2.1.1.1
abbrev Z6a:=uq Zdj.2.1.1.2
abbrev Zbij:=uq Zdj.2.1.2.1
abbrev Zbwk:=uq Zdj.2.1.2.2
abbrev Zbwl:=uq Zdj.2.2.1.1
abbrev Zbik:=uq Zdj.2.2.1.2
abbrev Zbwm:=uq Zdj.2.2.2.1
abbrev Zbil:=uq Zdj.2.2.2.2.1
abbrev Zbwn:=uq Zdj.2.2.2.2.2
theorem Zpf:((∀a a1 r,Im (Zlh a a1=some r) (∃e1,a1[0]?=some e1/\qI (Zjo e1) (λv=>∃e3,a1[1]?=some e3/\qI (Zjo e3) (λv2=>∃e5,a1[2]?=some e5/\qI (Zjo e5) (λv3=>qI (Zdf a v v2 v3) (λv4=>qi v4 r))))))/\
 ((∀o a r,Im (Znr o a=some r) (if a<=7 then Zns o a 0=some r else some (.tup [.own 0,.own 1,Bo false],[.arr 3 1 true (([]:List Int).map ic),.arr 3 1 true (([]:List Int).map ic)])=some r))/\
 (∀o a b r,Im (Zns o a b=some r) (if b<=7 then Znt o a b 0=some r else Znr o (w (a+1))=some r))))/\
 ((∀o a b e r,Im (Znt o a b e=some r) (if e<=7 then Zii o ([a,b,e]) a b e 0=some r else Zns o a (w (b+1))=some r))/\
 ((∀o x a b e k r,Im (Zii o x a b e k=some r) (if k<3 then x.length<=68719476736/\qG x k (λe1=>if(w (e1+1))<=7 then qI (Zlh o (x.set k.toNat (w (e1+1)))) (λv=>qI (Zlh o x) (λv1=>if v<v1 then some (.tup [.own 0,.own 1,Bo true],[.arr 3 1 true (x.map ic),.arr 3 1 true ((x.set k.toNat (w (e1+1))).map ic)])=some r else Zii o x a b e (w (k+1))=some r))else Zii o x a b e (w (k+1))=some r)else Znt o a b (w (e+1))=some r))/\
 (∀a r,Im (Zri a=some r) (qB (Zih a) (Znr a 0=some r) (some (.tup [.own 0,.own 1,Bo false],[.arr 3 1 true (([]:List Int).map ic),.arr 3 1 true (([]:List Int).map ic)])=some r))))):=by
 and_intros
 all_goals(intros;unfold Im;(try simp only[Zlh,Znr,Zns,Znt,Zii,Zri,Zjo,Zdf,Zm.c_def,Zih,mpl,dfs,qs]);(try simp only[itb]);(try simp only[itf,gS,kk]))
 all_goals(repeat' first|refine exI λ_=>?_|refine anJ λ_ _=>?_|refine anI λ_=>?_|refine orE2 ?_ ?_|exact False.elim)
 all_goals(intro h;first|refine run Zbrn rfl ?_|rw[Zl Znp.eq_1]|rw[Zl Zrg.eq_1]|rw[Zl Zwa.eq_1]|rw[Zl Z1y.eq_1]|refine run Zbro rfl ?_)
 all_goals (refine Yb ?_ h;clear h;simp +decide[*,kk,tI,tII,Zbcs,Znq,Zrh,Zwb,Z1z,Zbct])
abbrev Zbwo:=uq Zpf.1.1
abbrev Zbim:=uq Zpf.1.2.1
abbrev Zbin:=uq Zpf.1.2.2
abbrev Zbio:=uq Zpf.2.1
abbrev Zbip:=uq Zpf.2.2.1
abbrev Zbwp:=uq Zpf.2.2.2
theorem Zdk:((((∀o a r,Im (Znu o a=some r) (if a<=7 then Znv o a 0=some r else some (.own 0,[.arr 3 1 true (([]:List Int).map ic)])=some r))/\
 (∀o a b r,Im (Znv o a b=some r) (if b<=7 then Zrl o a b 0=some r else Znu o (w (a+1))=some r)))/\
 ((∀o a b e r,Im (Zrl o a b e=some r) (if e<=7 then qI (Zlh o ([a,b,e])) (λv1=>if v1<1 then some (.own 0,[.arr 3 1 true (([a,b,e]).map ic)])=some r else Zrl o a b (w (e+1))=some r)else Znv o a (w (b+1))=some r))/\
 (∀a r,Im (Zwe a=some r) (Znu a 0=some r))))/\
 (((∀m k r,Im (Znw m k=some r) (if k<=5 then qA Zm.c (Zfh m k) (λv1=>qB (Zih v1) (∃(v5:List Int),∃(v6:List Int),∃v7,Zri v1=some (.tup [.own 0,.own 1,Bo v7],[.arr 3 1 true (v5.map ic),.arr 3 1 true (v6.map ic)])/\if v7=true then some (.tup [I k,.own 0,.own 1],[.arr 3 1 true (v5.map ic),.arr 3 1 true (v6.map ic)])=some r else qO 3 1 ic (Zwe v1) (λv8=>if 0<(v8.length:Int)then some (.tup [I k,.own 0,.own 1],[.arr 3 1 true (v8.map ic),.arr 3 1 true (([]:List Int).map ic)])=some r else Znw m (w (k+1))=some r)) (some (.tup [I k,.own 0,.own 1],[.arr 3 1 true (([]:List Int).map ic),.arr 3 1 true (([]:List Int).map ic)])=some r))else some (.tup [I 0,.own 0,.own 1],[.arr 3 1 true (([]:List Int).map ic),.arr 3 1 true (([]:List Int).map ic)])=some r))/\
 (∀a r,Im (Z14 a=some r) (Znw a 1=some r)))/\
 ((∀a r,Im (Zli a=some r) (∃(v1:List Int),∃(v2:List Int),∃v3,Z14 a=some (.tup [I v3,.own 0,.own 1],[.arr 3 1 true (v1.map ic),.arr 3 1 true (v2.map ic)])/\qb (decide (v3=0)) r))/\
 ((∀cl i r,Im (Zrm cl i=some r) (if i<(cl.length:Int)then qG cl i (λe1=>qB (Zbk e1 0 4096) (Zrm cl (w (i+1))=some r) (qb false r))else qb true r))/\
 (∀a a1 r,Im (Zlj a a1=some r) (qB (Zep a) (qI (Zdw a) (λv4=>if(a1.length:Int)=(w (v4+1))then Zrm a1 0=some r else qb false r)) (qb false r)))))))/\
 ((((∀q cc co m r,Im (Znx q cc co m=some r) (if m<=co then qB (Zjn q m) (cc.length+1<=68719476736/\Znx q (cc++[m]) co (w (m+1))=some r) (Znx q cc co (w (m+1))=some r)else some (.own 0,[.arr 3 1 true (cc.map ic)])=some r))/\
 (∀a r,Im (Zrn a=some r) (qI (Zdw a) (λv1=>Znx a ([]:List Int) v1 1=some r))))/\
 ((∀q cc cd m r,Im (Zij q cc cd m=some r) (if m<cd then if(andI m cd)=m then qB (Zjn q m) (qB (Zjn q (w (cd-m))) (cc.length+1<=68719476736/\Zij q (cc++[m]) cd (w (m+1))=some r) (Zij q cc cd (w (m+1))=some r)) (Zij q cc cd (w (m+1))=some r)else Zij q cc cd (w (m+1))=some r else some (.own 0,[.arr 3 1 true (cc.map ic)])=some r))/\
 (∀a a1 r,Im (Zro a a1=some r) (qB (Zgu a a1) (Zij a ([]:List Int) a1 1=some r) (some (.own 0,[.arr 3 1 true (([]:List Int).map ic)])=some r)))))/\
 (((∀cc cn v r,Im (Zny cc cn v=some r) (if v<4 then ¬v<0/\if(andI (shrI cn v) 1)=1 then cc.length+1<=68719476736/\Zny (cc++[v]) cn (w (v+1))=some r else Zny cc cn (w (v+1))=some r else some (.own 0,[.arr 3 1 true (cc.map ic)])=some r))/\
 (∀a r,Im (Z2d a=some r) (Zny ([]:List Int) a 0=some r)))/\
 ((∀a a1 r,Im (Zrp a a1=some r) (qB (Znm a a1) (qI (Zeq a a1) (λv4=>qO 3 1 ic (Z2d v4) (λv5=>some (.own 0,[.arr 3 1 true (v5.map ic)])=some r))) (some (.own 0,[.arr 3 1 true (([]:List Int).map ic)])=some r)))/\
 ((∀cc x y i r,Im (Znz cc x y i=some r) (if i<(x.length:Int)then qG x i (λe1=>qB (Zm8 y e1) (cc.length+1<=68719476736/\Znz (cc++[e1]) x y (w (i+1))=some r) (Znz cc x y (w (i+1))=some r))else some (.own 0,[.arr 3 1 true (cc.map ic)])=some r))/\
 (∀a a1 a2 r,Im (Zlk a a1 a2=some r) (qO 3 1 ic (Zrp a a1) (λv1=>qO 3 1 ic (Zrp a a2) (λv4=>Znz ([]:List Int) v1 v4 0=some r)))))))):=by
 and_intros
 all_goals(intros;unfold Im;(try simp only[Znu,Znv,Zrl,Zwe,Znw,Z14,Zli,Zrm,Zlj,Znx,Zrn,Zij,Zro,Zny,Z2d,Zrp,Znz,Zlk,Zlh,Zm.c_def,Zfh,Zih,Zri,Ze.c_def,Zbk,Zep,Zdw,Zc.c_def,Zjn,Zgu,Znm,Zeq,Zm8,mpl,dfs,qs]);(try simp only[itb]);(try simp only[itf,gS,kk]))
 all_goals(repeat' first|refine exI λ_=>?_|refine anJ λ_ _=>?_|refine anI λ_=>?_|refine orE2 ?_ ?_|exact False.elim)
 all_goals(intro h;first|rw[Zl Zrj.eq_1]|rw[Zl Zwc.eq_1]|rw[Zl Z10.eq_1]|refine run Zbrp rfl ?_|rw[Zl Z12.eq_1]|refine run Zbrq rfl ?_|refine run Zbrr rfl ?_|rw[Zl Z15.eq_1]|refine run Zbrs rfl ?_|rw[Zl Z17.eq_1]|refine run Zbrt rfl ?_|rw[Zl Z19.eq_1]|refine run Zbru rfl ?_|rw[Zl Z2b.eq_1]|refine run Zbrv rfl ?_|refine run Zbrw rfl ?_|rw[Zl Z2e.eq_1]|refine run Zbrx rfl ?_)
 all_goals (refine Yb ?_ h;clear h;simp +decide[*,kk,tI,tII,Zrk,Zwd,Z11,Zbcu,Z13,Zbcv,Zbcw,Z16,Zbcx,Zbcy,Z18,Zbcz,Zbc0,Z2a,Zbc1,Zbc2,Z2c,Zbc3,Zbc4,Zbc5,Z2f,Zbc6])
abbrev Zbiq:=uq Zdk.1.1.1.1
abbrev Zbir:=uq Zdk.1.1.1.2
abbrev Z6b:=uq Zdk.1.1.2.1
abbrev Zbwq:=uq Zdk.1.1.2.2
abbrev Zbis:=uq Zdk.1.2.1.1
abbrev Zbwr:=uq Zdk.1.2.1.2
abbrev Zbws:=uq Zdk.1.2.2.1
abbrev Zbit:=uq Zdk.1.2.2.2.1
abbrev Zbwt:=uq Zdk.1.2.2.2.2
abbrev Zbiu:=uq Zdk.2.1.1.1
abbrev Zbwu:=uq Zdk.2.1.1.2
abbrev Zbiv:=uq Zdk.2.1.2.1
abbrev Zbwv:=uq Zdk.2.1.2.2
abbrev Zbiw:=uq Zdk.2.2.1.1
abbrev Zbww:=uq Zdk.2.2.1.2
abbrev Zbwx:=uq Zdk.2.2.2.1
abbrev Zbix:=uq Zdk.2.2.2.2.1
abbrev Zbwy:=uq Zdk.2.2.2.2.2
theorem Ze4:(((∀q cl cd i r,Im (Zjp q cl cd i=some r) (if i<(cd.length:Int)then qG cd i (λe1=>qO 3 1 ic (Zro q e1) (λv1=>Zwi q cl cd e1 v1 i 0=some r))else some (.own 0,[.arr 220 3 true (cl.map Z8.c)])=some r))/\
 ((∀q cl cd cc x i k r,Im (Zwi q cl cd cc x i k=some r) (if k<(x.length:Int)then qG x k (λe1=>qG cd i (λe2=>qO 3 1 ic (Zlk q e1 (w (e2-e1))) (λv2=>Zrs q cl cd cc x ([v2]) i (w (k+1))=some r)))else cl.length+1<=68719476736/\Zjp q (cl++[(⟨cc,x,[]⟩:Z8)]) cd (w (i+1))=some r))/\
 (∀q cl cd cc x x1 i k r,Im (Zrs q cl cd cc x x1 i k=some r) (if k<(x.length:Int)then qG x k (λe1=>qG cd i (λe2=>qO 3 1 ic (Zlk q e1 (w (e2-e1))) (λv2=>x1.length+1<=68719476736/\Zrs q cl cd cc x (x1++[v2]) i (w (k+1))=some r)))else cl.length+1<=68719476736/\Zjp q (cl++[(⟨cc,x,x1⟩:Z8)]) cd (w (i+1))=some r))))/\
 (((∀a r,Im (Zll a=some r) (qO 3 1 ic (Zrn a) (λv=>Zjp a ([]:List Z8) v 0=some r)))/\
 (∀cl cc i r,Im (Zn0 cl cc i=some r) (if i<4 then qB (Zbk cc 0 15) (¬i<0/\if(andI (shrI cc i) 1)=1 then cl.length+1<=68719476736/\Zn0 (cl++[i]) cc (w (i+1))=some r else Zn0 cl cc (w (i+1))=some r) (some (.own 0,[.arr 3 1 true (cl.map ic)])=some r)else some (.own 0,[.arr 3 1 true (cl.map ic)])=some r)))/\
 ((∀a r,Im (Zrt a=some r) (Zn0 ([]:List Int) a 0=some r))/\
 (∀a r,Im (Zru a=some r) (some (.agg [.own 0],[.arr 162 3 true (([(⟨1,a,0⟩:Zb)]).map Zb.c)])=some r)))))/\
 (((∀l cc cn i r,Im (Zjq l cc cn i=some r) (if i<(l.length:Int)then qG l i (λe1=>if e1.Mask=cc then if cn<0 then Zjq l cc i (w (i+1))=some r else qG l cn (λe2=>if e1.Cost<e2.Cost then Zjq l cc i (w (i+1))=some r else Zjq l cc cn (w (i+1))=some r)else Zjq l cc cn (w (i+1))=some r)else qi cn r))/\
 ((∀a a1 r,Im (Zik a a1=some r) (Zjq a a1 (-1) 0=some r))/\
 (∀a a1 a2 a3 r,Im (Zf5 a a1 a2 a3=some r) (a.Steps.length<=68719476736/\a.Steps.length+a1.Steps.length<=68719476736/\a.Steps.length+a1.Steps.length+1<=68719476736/\some (.agg [.own 0],[.arr 162 3 true (((a.Steps++a1.Steps)++[(⟨a2,0,a3⟩:Zb)]).map Zb.c)])=some r))))/\
 (((∀x x1 a a1 a2 a3 a4 a5 r,Im (Zlm x x1 a a1 a2 a3 a4 a5=some r) (qA Zm.c (Zfh a a3) (λv=>qG x a1.Mask (λe2=>qG x a2.Mask (λe3=>0<=(orI a1.Mask a2.Mask)/\∃e4,x[(orI a1.Mask a2.Mask).toNat]?=some e4/\qI (Zdf v e2 e3 e4) (λv3=>0<=(w (a5+1))/\∃e6,x1[(w (a5+1)).toNat]?=some e6/\if e6.Mask=0 then ∃(v4:List Zb),Zf5 a1.Plan a2.Plan a3 a4=some (.agg [.own 0],[.arr 162 3 true (v4.map Zb.c)])/\some (.tup [],[.arr 3 1 true (x.map ic),.arr 126 4 true ((x1.set ((w (a5+1)).toNat) (⟨(orI a1.Mask a2.Mask),a5,(w ((w (a1.Cost+a2.Cost))+v3)),(⟨v4⟩:Plan)⟩:Za)).map Za.c)])=some r else if(w ((w (a1.Cost+a2.Cost))+v3))<e6.Cost then ∃(v5:List Zb),Zf5 a1.Plan a2.Plan a3 a4=some (.agg [.own 0],[.arr 162 3 true (v5.map Zb.c)])/\some (.tup [],[.arr 3 1 true (x.map ic),.arr 126 4 true ((x1.set ((w (a5+1)).toNat) (⟨(orI a1.Mask a2.Mask),a5,(w ((w (a1.Cost+a2.Cost))+v3)),(⟨v5⟩:Plan)⟩:Za)).map Za.c)])=some r else some (.tup [],[.arr 3 1 true (x.map ic),.arr 126 4 true (x1.map Za.c)])=some r))))))/\
 (∀l cc co i r,Im (Zn1 l cc co i=some r) (if i<(l.length:Int)then qG l i (λe1=>if e1.Mask=cc then if e1.Order=co then qi i r else Zn1 l cc co (w (i+1))=some r else Zn1 l cc co (w (i+1))=some r)else qi (-1) r)))/\
 ((∀a a1 a2 r,Im (Zln a a1 a2=some r) (Zn1 a a1 a2 0=some r))/\
 (∀a a1 r,Im (Zn2 a a1=some r) (a.Steps.length<=68719476736/\a.Steps.length+1<=68719476736/\some (.agg [.own 0],[.arr 162 3 true ((a.Steps++[(⟨2,0,a1⟩:Zb)]).map Zb.c)])=some r))))):=by
 and_intros
 all_goals(intros;unfold Im;(try simp only[Zjp,Zwi,Zrs,Zll,Zn0,Zrt,Zru,Zjq,Zik,Zf5,Zlm,Zn1,Zln,Zn2,Zro,Zc.c_def,Zlk,Zrn,Zbk,Zfh,Zdf,Ze.c_def,Zm.c_def,Plan.c_def,mpl,dfs,qs]);(try simp only[itb]);(try simp only[itf,gS,kk]))
 all_goals(repeat' first|refine exI λ_=>?_|refine anJ λ_ _=>?_|refine anI λ_=>?_|refine orE2 ?_ ?_|exact False.elim)
 all_goals(intro h;first|rw[Zl Zrq.eq_1]|rw[Zl Zwf.eq_1]|refine run Zbry rfl ?_|rw[Zl Z2g.eq_1]|refine run Zbrz rfl ?_|refine run Zbr0 rfl ?_|rw[Zl Z2i.eq_1]|refine run Zbr1 rfl ?_|refine run Zbr2 rfl ?_|refine runM Zbhr rfl ?_|rw[Zl Z2l.eq_1]|refine run Zbr3 rfl ?_|refine run Zbr4 rfl ?_)
 all_goals (refine Yb ?_ h;clear h;simp +decide[*,kk,tI,tII,Zrr,Zwh,Zwg,Zbc7,Zbc8,Z2h,Zbc9,Zbda,Zbdb,Z2j,Zbdc,Zbdd,Z2k,Z2m,Zbde,Zbdf])
abbrev Zbiy:=uq Ze4.1.1.1
abbrev Zbwz:=uq Ze4.1.1.2.1
abbrev Zbiz:=uq Ze4.1.1.2.2
abbrev Zbw0:=uq Ze4.1.2.1.1
abbrev Zbi0:=uq Ze4.1.2.1.2
abbrev Zbw1:=uq Ze4.1.2.2.1
abbrev Zbw2:=uq Ze4.1.2.2.2
abbrev Zbi1:=uq Ze4.2.1.1
abbrev Zbw3:=uq Ze4.2.1.2.1
abbrev Zbw4:=uq Ze4.2.1.2.2
abbrev Zbw5:=uq Ze4.2.2.1.1
abbrev Zbi2:=uq Ze4.2.2.1.2
abbrev Zbw6:=uq Ze4.2.2.2.1
abbrev Zbw7:=uq Ze4.2.2.2.2
theorem Zyg:((∀x x1 x2 a a1 cc cn cd a2 a3 a4 r,Im (Zrv x x1 x2 a a1 cc cn cd a2 a3 a4=some r) (qA Zm.c (Zfh a a2) (λv=>qG x a1.Mask (λe2=>qG x cc (λe3=>0<=(orI a1.Mask cc)/\∃e4,x[(orI a1.Mask cc).toNat]?=some e4/\qI (Zdf v e2 e3 e4) (λv2=>0<=(w (a4+1))/\∃e6,x1[(w (a4+1)).toNat]?=some e6/\if e6.Mask=0 then ∃(v3:List Zb),Zf5 a1.Plan (⟨x2⟩:Plan) a2 a3=some (.agg [.own 0],[.arr 162 3 true (v3.map Zb.c)])/\some (.tup [],[.arr 3 1 true (x.map ic),.arr 126 4 true ((x1.set ((w (a4+1)).toNat) (⟨(orI a1.Mask cc),a4,(w ((w (a1.Cost+cd))+v2)),(⟨v3⟩:Plan)⟩:Za)).map Za.c),.arr 162 3 true (x2.map Zb.c)])=some r else if(w ((w (a1.Cost+cd))+v2))<e6.Cost then ∃(v4:List Zb),Zf5 a1.Plan (⟨x2⟩:Plan) a2 a3=some (.agg [.own 0],[.arr 162 3 true (v4.map Zb.c)])/\some (.tup [],[.arr 3 1 true (x.map ic),.arr 126 4 true ((x1.set ((w (a4+1)).toNat) (⟨(orI a1.Mask cc),a4,(w ((w (a1.Cost+cd))+v2)),(⟨v4⟩:Plan)⟩:Za)).map Za.c),.arr 162 3 true (x2.map Zb.c)])=some r else some (.tup [],[.arr 3 1 true (x.map ic),.arr 126 4 true (x1.map Za.c),.arr 162 3 true (x2.map Zb.c)])=some r))))))/\
 (∀x x1 x2 a cc cn cd a1 a2 a3 a4 r,Im (Zrw x x1 x2 a cc cn cd a1 a2 a3 a4=some r) (qA Zm.c (Zfh a a2) (λv=>qG x cc (λe2=>qG x a1.Mask (λe3=>0<=(orI cc a1.Mask)/\∃e4,x[(orI cc a1.Mask).toNat]?=some e4/\qI (Zdf v e2 e3 e4) (λv2=>0<=(w (a4+1))/\∃e6,x1[(w (a4+1)).toNat]?=some e6/\if e6.Mask=0 then ∃(v3:List Zb),Zf5 (⟨x2⟩:Plan) a1.Plan a2 a3=some (.agg [.own 0],[.arr 162 3 true (v3.map Zb.c)])/\some (.tup [],[.arr 3 1 true (x.map ic),.arr 126 4 true ((x1.set ((w (a4+1)).toNat) (⟨(orI cc a1.Mask),a4,(w ((w (cd+a1.Cost))+v2)),(⟨v3⟩:Plan)⟩:Za)).map Za.c),.arr 162 3 true (x2.map Zb.c)])=some r else if(w ((w (cd+a1.Cost))+v2))<e6.Cost then ∃(v4:List Zb),Zf5 (⟨x2⟩:Plan) a1.Plan a2 a3=some (.agg [.own 0],[.arr 162 3 true (v4.map Zb.c)])/\some (.tup [],[.arr 3 1 true (x.map ic),.arr 126 4 true ((x1.set ((w (a4+1)).toNat) (⟨(orI cc a1.Mask),a4,(w ((w (cd+a1.Cost))+v2)),(⟨v4⟩:Plan)⟩:Za)).map Za.c),.arr 162 3 true (x2.map Zb.c)])=some r else some (.tup [],[.arr 3 1 true (x.map ic),.arr 126 4 true (x1.map Za.c),.arr 162 3 true (x2.map Zb.c)])=some r)))))))/\
 ((∀x x1 x2 x3 a cc cn cd cl cp co a1 a2 a3 r,Im (Zrx x x1 x2 x3 a cc cn cd cl cp co a1 a2 a3=some r) (qA Zm.c (Zfh a a1) (λv=>qG x cc (λe2=>qG x cl (λe3=>0<=(orI cc cl)/\∃e4,x[(orI cc cl).toNat]?=some e4/\qI (Zdf v e2 e3 e4) (λv2=>0<=(w (a3+1))/\∃e6,x1[(w (a3+1)).toNat]?=some e6/\if e6.Mask=0 then ∃(v3:List Zb),Zf5 (⟨x2⟩:Plan) (⟨x3⟩:Plan) a1 a2=some (.agg [.own 0],[.arr 162 3 true (v3.map Zb.c)])/\some (.tup [],[.arr 3 1 true (x.map ic),.arr 126 4 true ((x1.set ((w (a3+1)).toNat) (⟨(orI cc cl),a3,(w ((w (cd+co))+v2)),(⟨v3⟩:Plan)⟩:Za)).map Za.c),.arr 162 3 true (x2.map Zb.c),.arr 162 3 true (x3.map Zb.c)])=some r else if(w ((w (cd+co))+v2))<e6.Cost then ∃(v4:List Zb),Zf5 (⟨x2⟩:Plan) (⟨x3⟩:Plan) a1 a2=some (.agg [.own 0],[.arr 162 3 true (v4.map Zb.c)])/\some (.tup [],[.arr 3 1 true (x.map ic),.arr 126 4 true ((x1.set ((w (a3+1)).toNat) (⟨(orI cc cl),a3,(w ((w (cd+co))+v2)),(⟨v4⟩:Plan)⟩:Za)).map Za.c),.arr 162 3 true (x2.map Zb.c),.arr 162 3 true (x3.map Zb.c)])=some r else some (.tup [],[.arr 3 1 true (x.map ic),.arr 126 4 true (x1.map Za.c),.arr 162 3 true (x2.map Zb.c),.arr 162 3 true (x3.map Zb.c)])=some r))))))/\
 (∀x fr x1 a a1 a2 r,Im (Zgv x fr x1 a a1 a2=some r) (qI (Zik x1 a1) (λv=>qG x1 v (λe2=>qG x a1 (λe3=>qI (Zdf a.Sort_ e3 0 e3) (λv1=>qI (Zln x1 a1 a2) (λv2=>if 0<=v2 then qH x1 v2 (λe6=>if e6.Cost<=(w (e2.Cost+v1))then some (.agg (e6.c.map .t),[.arr 3 1 true (x.map ic),.arr 126 4 fr (x1.map Za.c)])=some r else ∃(v3:List Zb),Zn2 e2.Plan a2=some (.agg [.own 0],[.arr 162 3 true (v3.map Zb.c)])/\some (.agg [I a1,I a2,I (w (e2.Cost+v1)),.own 2],[.arr 3 1 true (x.map ic),.arr 126 4 fr (x1.map Za.c),.arr 162 3 true (v3.map Zb.c)])=some r)else ∃(v4:List Zb),Zn2 e2.Plan a2=some (.agg [.own 0],[.arr 162 3 true (v4.map Zb.c)])/\some (.agg [I a1,I a2,I (w (e2.Cost+v1)),.own 2],[.arr 3 1 true (x.map ic),.arr 126 4 fr (x1.map Za.c),.arr 162 3 true (v4.map Zb.c)])=some r)))))))):=by
 and_intros
 all_goals(intros;unfold Im;(try simp only[Zrv,Zrw,Zrx,Zgv,Zfh,Zdf,Zf5,Ze.c_def,Zm.c_def,Plan.c_def,Zik,Zln,Zn2,Za.c_def,mpl,dfs,qs]);(try simp only[itb]);(try simp only[itf,gS,kk]))
 all_goals(repeat' first|refine exI λ_=>?_|refine anJ λ_ _=>?_|refine anI λ_=>?_|refine orE2 ?_ ?_|exact False.elim)
 all_goals(intro h;first|refine runM Zbhr rfl ?_|refine runM Zbr5 rfl ?_)
 all_goals (refine Yb ?_ h;clear h;simp +decide[*,kk,tI,tII,Z2k,Zbdg])
abbrev Zbw8:=uq Zyg.1.1
abbrev Zbw9:=uq Zyg.1.2
abbrev Zbxa:=uq Zyg.2.1
abbrev Z6c:=uq Zyg.2.2
theorem Zd6:((((∀cc fr l m x cd k r,Im (Zn3 cc fr l m x cd k=some r) (if k<(x.Zz.length:Int)then qG x.Zz k (λe1=>qI (Zik l e1) (λv4=>qG l v4 (λe3=>qI (Zik l (w (x.mask-e1))) (λv12=>qG l v12 (λe5=>∃(v18:List Int) (v19:List Za),Zlm cc cd m e3 e5 3 0 (-1)=some (.tup [],[.arr 3 1 true (v18.map ic),.arr 126 4 true (v19.map Za.c)])/\Zn4 v18 fr l m x v19 e5 k e1 (w (x.mask-e1)) (-1)=some r)))))else Zlo cd true ([]:List Za) cc fr l 0=some r))/\
 (∀cc fr l m x cd b k cn cl o r,Im (Zn4 cc fr l m x cd b k cn cl o=some r) (if o<4 then qI (Zln l cn o) (λv=>if 0<=v then qH l v (λe2=>∃(v9:List Int) (v10:List Za),Zlm cc cd m e2 b 5 0 o=some (.tup [],[.arr 3 1 true (v9.map ic),.arr 126 4 true (v10.map Za.c)])/\Zn4 v9 fr l m x v10 b k cn cl (w (o+1))=some r)else Zn4 cc fr l m x cd b k cn cl (w (o+1))=some r)else Zil cc fr l m x cd k cn cl 0=some r)))/\
 ((∀cd fr co x cu x1 o r,Im (Zlo cd fr co x cu x1 o=some r) (if o<=4 then qG cd o (λe1=>if 0<e1.Mask then co.length+1<=68719476736/\Zlo cd false (co++[e1]) x cu x1 (w (o+1))=some r else Zlo cd fr co x cu x1 (w (o+1))=some r)else some (.own 2,[.arr 3 1 true (x.map ic),.arr 126 4 cu (x1.map Za.c),.arr 126 4 fr (co.map Za.c)])=some r))/\
 (∀cc fr l m x cd k cn cl e r,Im (Zil cc fr l m x cd k cn cl e=some r) (qG x.shared k (λe1=>if e<(e1.length:Int)then qG e1 e (λe2=>(∃(v9:Za),Zgv cc fr l m cn e2=some (.agg (v9.c.map .t),[.arr 3 1 true (cc.map ic),.arr 126 4 fr (l.map Za.c)])/\((∃(v12:Za),Zgv cc fr l m cl e2=some (.agg (v12.c.map .t),[.arr 3 1 true (cc.map ic),.arr 126 4 fr (l.map Za.c)])/\∃(v16:List Int) (v17:List Za),Zlm cc cd m v9 v12 4 e2 e2=some (.tup [],[.arr 3 1 true (v16.map ic),.arr 126 4 true (v17.map Za.c)])/\Zil v16 fr l m x v17 k cn cl (w (e+1))=some r)\/(∃(v18:List Zb),∃v19,∃v20,∃v21,Zgv cc fr l m cl e2=some (.agg [I v19,I v20,I v21,.own 2],[.arr 3 1 true (cc.map ic),.arr 126 4 fr (l.map Za.c),.arr 162 3 true (v18.map Zb.c)])/\∃(v22:List Int) (v23:List Za) (v24:List Zb),Zrv cc cd v18 m v9 v19 v20 v21 4 e2 e2=some (.tup [],[.arr 3 1 true (v22.map ic),.arr 126 4 true (v23.map Za.c),.arr 162 3 true (v24.map Zb.c)])/\Zil v22 fr l m x v23 k cn cl (w (e+1))=some r)))\/(∃(v25:List Zb),∃v26,∃v27,∃v28,Zgv cc fr l m cn e2=some (.agg [I v26,I v27,I v28,.own 2],[.arr 3 1 true (cc.map ic),.arr 126 4 fr (l.map Za.c),.arr 162 3 true (v25.map Zb.c)])/\((∃(v29:Za),Zgv cc fr l m cl e2=some (.agg (v29.c.map .t),[.arr 3 1 true (cc.map ic),.arr 126 4 fr (l.map Za.c)])/\∃(v31:List Int) (v32:List Za) (v33:List Zb),Zrw cc cd v25 m v26 v27 v28 v29 4 e2 e2=some (.tup [],[.arr 3 1 true (v31.map ic),.arr 126 4 true (v32.map Za.c),.arr 162 3 true (v33.map Zb.c)])/\Zil v31 fr l m x v32 k cn cl (w (e+1))=some r)\/(∃(v34:List Zb),∃v35,∃v36,∃v37,Zgv cc fr l m cl e2=some (.agg [I v35,I v36,I v37,.own 2],[.arr 3 1 true (cc.map ic),.arr 126 4 fr (l.map Za.c),.arr 162 3 true (v34.map Zb.c)])/\∃(v38:List Int) (v39:List Za) (v40:List Zb) (v41:List Zb),Zrx cc cd v25 v34 m v26 v27 v28 v35 v36 v37 4 e2 e2=some (.tup [],[.arr 3 1 true (v38.map ic),.arr 126 4 true (v39.map Za.c),.arr 162 3 true (v40.map Zb.c),.arr 162 3 true (v41.map Zb.c)])/\Zil v38 fr l m x v39 k cn cl (w (e+1))=some r))))else Zn3 cc fr l m x cd (w (k+1))=some r)))))/\
 (((∀x fr x1 a a1 r,Im (Zwk x fr x1 a a1=some r) (Zn3 x fr x1 a a1 (List.replicate 5 (⟨0,0,0,(⟨[]⟩:Plan)⟩:Za)) 0=some r))/\
 (∀cp cc m q fr co i r,Im (Zn6 cp cc m q fr co i=some r) (if i<(cp.length:Int)then qG cp i (λe1=>if(andI e1.mask (w (e1.mask-1)))=0 then qO 3 1 ic (Zrt e1.mask) (λv4=>∃e3,v4[0]?=some e3/\qG q.Atoms e3 (λe4=>∃e5,e4.Vars[0]?=some e5/\qG cc e1.mask (λe6=>qI (Zdf m.Scan e6 0 e6) (λv22=>∃(v25:List Zb),Zru e3=some (.agg [.own 0],[.arr 162 3 true (v25.map Zb.c)])/\co.length+1<=68719476736/\Zn6 cp cc m q fr (co++[(⟨e1.mask,e5,v22,(⟨v25⟩:Plan)⟩:Za)]) (w (i+1))=some r))))else ∃v29,∃(v30:List Za),Zwk cc fr co m e1=some (.own 2,[.arr 3 1 true (cc.map ic),.arr 126 4 fr (co.map Za.c),.arr 126 4 v29 (v30.map Za.c)])/\co.length+v30.length<=68719476736/\Zn6 cp cc m q (fr && flat (v30.map Za.c)) (co++v30) (w (i+1))=some r)else some (.own 2,[.arr 220 3 true (cp.map Z8.c),.arr 3 1 true (cc.map ic),.arr 126 4 fr (co.map Za.c)])=some r)))/\
 ((∀x x1 a a1 r,Im (Zn5 x x1 a a1=some r) (Zn6 x x1 a a1 true ([]:List Za) 0=some r))/\
 (∀x a a1 r,Im (Zr0 x a a1=some r) (qB (Zli a) (qB (Zlj a1 x) (qO 220 3 Z8.c (Zll a1) (λv9=>∃v12,∃(v13:List Za),Zn5 v9 x a a1=some (.own 2,[.arr 220 3 true (v9.map Z8.c),.arr 3 1 true (x.map ic),.arr 126 4 v12 (v13.map Za.c)])/\some (.own 1,[.arr 3 1 true (x.map ic),.arr 126 4 v12 (v13.map Za.c)])=some r)) (some (.own 1,[.arr 3 1 true (x.map ic),.arr 126 4 true (([]:List Za).map Za.c)])=some r)) (some (.own 1,[.arr 3 1 true (x.map ic),.arr 126 4 true (([]:List Za).map Za.c)])=some r))))))/\
 ((((∀a a1 r,Im (Zf6 a a1=some r) (qI (Zik a a1) (λv=>if v<0 then some (.tup [.agg [I 0,I 0,I 0,.t .nil],Bo false],[])=some r else qG a v (λe2=>e2.Plan.Steps.length<=68719476736/\some (.tup [.agg [I e2.Mask,I e2.Order,I e2.Cost,.own 0],Bo true],[.arr 162 3 true (e2.Plan.Steps.map Zb.c)])=some r))))/\
 (∀x a a1 r,Im (Zlp x a a1=some r) ((∃(v:List Int),∃v1,∃(v2:List Za),Zr0 x a a1=some (.own 1,[.arr 3 1 true (v.map ic),.arr 126 4 v1 (v2.map Za.c)])/\qI (Zdw a1) (λv4=>(∃v9 v10 v11,Zf6 v2 v4=some (.tup [.agg [I v9,I v10,I v11,.t .nil],Bo false],[])/\some (.tup [.agg [I v9,I v10,I v11,.t .nil],Bo false],[.arr 3 1 true (v.map ic)])=some r)\/(∃(v12:List Zb),∃v13,∃v14,∃v15,Zf6 v2 v4=some (.tup [.agg [I v13,I v14,I v15,.own 0],Bo true],[.arr 162 3 true (v12.map Zb.c)])/\some (.tup [.agg [I v13,I v14,I v15,.own 1],Bo true],[.arr 3 1 true (v.map ic),.arr 162 3 true (v12.map Zb.c)])=some r)))\/(∃(v16:List Int) (v17:List Za),Zr0 x a a1=some (.own 1,[.arr 3 1 true (v16.map ic),.arr 126 4 true (v17.map Za.c)])/\qI (Zdw a1) (λv18=>(∃v22 v23 v24,Zf6 v17 v18=some (.tup [.agg [I v22,I v23,I v24,.t .nil],Bo false],[])/\some (.tup [.agg [I v22,I v23,I v24,.t .nil],Bo false],[.arr 3 1 true (v16.map ic)])=some r)\/(∃(v25:List Zb),∃v26,∃v27,∃v28,Zf6 v17 v18=some (.tup [.agg [I v26,I v27,I v28,.own 0],Bo true],[.arr 162 3 true (v25.map Zb.c)])/\some (.tup [.agg [I v26,I v27,I v28,.own 1],Bo true],[.arr 3 1 true (v16.map ic),.arr 162 3 true (v25.map Zb.c)])=some r))))))/\
 ((∀x a a1 r,Im (Zhs x a a1=some r) ((∃(v:List Int),∃v1,∃v2,∃v3,Zlp x a a1=some (.tup [.agg [I v1,I v2,I v3,.t .nil],Bo false],[.arr 3 1 true (v.map ic)])/\some (.tup [.agg [.own 1],Bo false],[.arr 3 1 true (v.map ic),.arr 162 3 true (([]:List Zb).map Zb.c)])=some r)\/(∃(v4:List Int),∃(v5:List Zb),∃v6,∃v7,∃v8,Zlp x a a1=some (.tup [.agg [I v6,I v7,I v8,.own 1],Bo true],[.arr 3 1 true (v4.map ic),.arr 162 3 true (v5.map Zb.c)])/\some (.tup [.agg [.own 1],Bo true],[.arr 3 1 true (v4.map ic),.arr 162 3 true (v5.map Zb.c)])=some r)))/\
 (∀a b i r,Im (Zr1 a b i=some r) (if i<(a.length:Int)then qG a i (λe1=>qH b i (λe2=>if e1<e2 then qb false r else Zr1 a b (w (i+1))=some r))else qb true r))))/\
 (((∀a a1 r,Im (Zn7 a a1=some r) (if(a.length:Int)=(a1.length:Int)then Zr1 a a1 0=some r else qb false r))/\
 (∀a r,Im (Zn8 a=some r) (if 0<(a.Low.length:Int)then qB (Zle a.Low) (qB (Zle a.High) (qV (Zn7 a.High a.Low) (λv9=>qb v9 r)) (qb false r)) (qb false r)else qb false r)))/\
 ((∀a a1 r,Im (Zlq a a1=some r) (qB (Zn8 a) (qB (Zn7 a1 a.Low) (qV (Zn7 a.High a1) (λv9=>qb v9 r)) (qb false r)) (qb false r)))/\
 (∀a a1 r,Im (Zlr a a1=some r) (qB (Zbk a1 0 3) (¬a1<0/\qb (decide ((andI (shrI a a1) 1)=1)) r) (qb false r)))))):=by
 and_intros
 all_goals(intros;unfold Im;(try simp only[Zn3,Zn4,Zlo,Zil,Zwk,Zn6,Zn5,Zr0,Zf6,Zlp,Zhs,Zr1,Zn7,Zn8,Zlq,Zlr,Zik,Zlm,Ze.c_def,Zm.c_def,Plan.c_def,Za.c_def,Zln,Zgv,Zrv,Zrw,Zrx,Zb.c_def,Zrt,Zdf,Zru,Z8.c_def,Zli,Zlj,Zll,Zc.c_def,Zdw,Zle,Box.c_def,Zbk,mpl,dfs,qs]);(try simp only[itb]);(try simp only[itf,gS,kk]))
 all_goals(repeat' first|refine exI λ_=>?_|refine anJ λ_ _=>?_|refine anI λ_=>?_|refine orE2 ?_ ?_|exact False.elim)
 all_goals(intro h;first|rw[Zl Zry.eq_1]|rw[Zl Z2n.eq_1]|rw[Zl Z2q.eq_1]|rw[Zl Z2o.eq_1]|refine runM Zbr6 rfl ?_|rw[Zl Z2s.eq_1]|refine runM Zbr7 rfl ?_|refine runM Zbr8 rfl ?_|refine run Zbr9 rfl ?_|refine runM Zbsa rfl ?_|refine runM Zbsb rfl ?_|rw[Zl Z2u.eq_1]|refine run Zbsc rfl ?_|refine run Zbsd rfl ?_|refine run Zbse rfl ?_|refine run Zbsf rfl ?_)
 all_goals (refine Yb ?_ h;clear h;simp +decide[*,kk,tI,tII,Zrz,Zbdh,Z2p,Zbdi,Z2r,Zwj,Zbdj,Zbdk,Z2t,Zbdl,Zbdm,Zbdn,Zbdo,Zbdp,Z2v,Zbdq,Zbdr,Zbds,Zbdt])
abbrev Zbi3:=uq Zd6.1.1.1.1
abbrev Zbi4:=uq Zd6.1.1.1.2
abbrev Z6d:=uq Zd6.1.1.2.1
abbrev Zbi5:=uq Zd6.1.1.2.2
abbrev Zbxb:=uq Zd6.1.2.1.1
abbrev Z6e:=uq Zd6.1.2.1.2
abbrev Zbxc:=uq Zd6.1.2.2.1
abbrev Zyh:=uq Zd6.1.2.2.2
abbrev Z6f:=uq Zd6.2.1.1.1
abbrev Z6g:=uq Zd6.2.1.1.2
abbrev Zbi6:=uq Zd6.2.1.2.1
abbrev Zbi7:=uq Zd6.2.1.2.2
abbrev Zbxd:=uq Zd6.2.2.1.1
abbrev Zbxe:=uq Zd6.2.2.1.2
abbrev Zbxf:=uq Zd6.2.2.2.1
abbrev Zbxg:=uq Zd6.2.2.2.2
end Go.Proofs.YtcfaekfjkeobhaaGreat
