/-
  Parts of the proofs for this seat: G24 G25.
-/
import Derived.Test.YthdihnbeifcppaaGreatP13
set_option linter.all false
set_option maxRecDepth 100000
set_option maxHeartbeats 4000000
namespace Go.Proofs.YthdihnbeifcppaaGreat
open Go.AM
def ZF7:((((iM Zaz λq out masks i r=>if i<(masks.length:Int)then qG masks i (λu1=>qs2 (Zhy q u1) (λu2=>r (Zlt q out masks u1 u2 i 0)))else r (some (.own 0,[.arr 335 3 true (out.map Xk.c)])))/\
 (iM Zlt λq out masks mask x i k r=>if k<(x.length:Int)then qG x k (λu1=>qG masks i (λu2=>qs2 (ZbU q u1 (w (u2-u1))) (λu3=>r (Zh1 q out masks mask x ([u3]) i (w (k+1))))))else qN out (r (Zaz q (out++[(⟨mask,x,[]⟩:Xk)]) masks (w (i+1))))))/\
 ((iM Zh1 λq out masks mask x x1 i k r=>if k<(x.length:Int)then qG x k (λu1=>qG masks i (λu2=>qs2 (ZbU q u1 (w (u2-u1))) (λu3=>qN x1 (r (Zh1 q out masks mask x (x1++[u3]) i (w (k+1)))))))else qN out (r (Zaz q (out++[(⟨mask,x,x1⟩:Xk)]) masks (w (i+1)))))/\
 (iM Zh0 λa r=>qs2 (Zhx a) (λu1=>r (Zaz a ([]:List Xk) u1 0)))))/\
 (((iM Zh2 λout l i r=>if i<(l.length:Int)then qB (ZbR l) (qG l i (λu2=>qI (J5 u2) (λu3=>qN out (r (Zh2 (out++[u3]) l (w (i+1))))))) (qs3 out r)else qs3 out r)/\
 (iM ZdW λa r=>r (Zh2 ([]:V6) a 0)))/\
 ((iM ZdX λout mask i r=>if i<4 then qB (Xg mask 0 15) (¬i<0/\if(andI (shrI mask i) 1)=1 then qN out (r (ZdX (out++[i]) mask (w (i+1))))else r (ZdX out mask (w (i+1)))) (qs3 out r)else qs3 out r)/\
 ((iM Zh3 λa r=>r (ZdX ([]:V6) a 0))/\
 (iM Zh4 λa r=>KD ([(⟨1,a,0⟩:Zh)]) r)))))/\
 ((((iM ZdY λl mask best i r=>if i<(l.length:Int)then qG l i (λu1=>qL (r (ZdY l mask best (w (i+1)))) λk1=>if u1.Mask=mask then qL (r (ZdY l mask i (w (i+1)))) λk2=>if best<0 then k2 else qG l best (λu2=>if u1.Cost<u2.Cost then k2 else k1)else k1)else qi best r)/\
 (iM Za0 λa a1 r=>r (ZdY a a1 (-1) 0)))/\
 ((iM Za1 λa a1 a2 a3 r=>qM a.Steps (a.Steps.length+a1.Steps.length<=68719476736/\a.Steps.length+a1.Steps.length+1<=68719476736/\KD ((a.Steps++a1.Steps)++[(⟨a2,0,a3⟩:Zh)]) r))/\
 (iM ZbV λx x1 a a1 a2 a3 a4 a5 r=>JZ (Qe a a3) (λu1=>qG x a1.Mask (λu2=>qG x a2.Mask (λu3=>qL (orI a1.Mask a2.Mask) λk2=>0<=k2/\∃u4,x[k2.toNat]?=some u4/\qI (V8 u1 u2 u3 u4) (λu5=>0<=(w (a5+1))/\∃u6,x1[(w (a5+1)).toNat]?=some u6/\qL (w ((w (a1.Cost+a2.Cost))+u5)) λk3=>qL (qs4 (Za1 a1.Zg a2.Zg a3 a4) (λu7=>Zjl x (x1.set ((w (a5+1)).toNat) (⟨k2,a5,k3,(⟨u7⟩:Zg)⟩:Zb)) r)) λk1=>if u6.Mask=0 then k1 else if k3<u6.Cost then k1 else Zjl x x1 r)))))))/\
 (((iM Zh5 λl mask order i r=>if i<(l.length:Int)then qG l i (λu1=>qL (r (Zh5 l mask order (w (i+1)))) λk1=>if u1.Mask=mask then if u1.Order=order then qi i r else k1 else k1)else qi (-1) r)/\
 (iM ZdZ λa a1 a2 r=>r (Zh5 a a1 a2 0)))/\
 ((iM Zea λa a1 r=>qM a.Steps (qN a.Steps (KD (a.Steps++[(⟨2,0,a1⟩:Zh)]) r)))/\
 ((iM Zh6 λx x1 x2 a a1 Mask Order Cost a2 a3 a4 r=>JZ (Qe a a2) (λu1=>qG x a1.Mask (λu2=>qG x Mask (λu3=>qL (orI a1.Mask Mask) λk2=>0<=k2/\∃u4,x[k2.toNat]?=some u4/\qI (V8 u1 u2 u3 u4) (λu5=>0<=(w (a4+1))/\∃u6,x1[(w (a4+1)).toNat]?=some u6/\qL (w ((w (a1.Cost+Cost))+u5)) λk3=>qL (qs4 (Za1 a1.Zg (⟨x2⟩:Zg) a2 a3) (λu7=>ZcD x (x1.set ((w (a4+1)).toNat) (⟨k2,a4,k3,(⟨u7⟩:Zg)⟩:Zb)) x2 r)) λk1=>if u6.Mask=0 then k1 else if k3<u6.Cost then k1 else ZcD x x1 x2 r)))))/\
 (iM Zh7 λx x1 x2 a Mask Order Cost a1 a2 a3 a4 r=>JZ (Qe a a2) (λu1=>qG x Mask (λu2=>qG x a1.Mask (λu3=>qL (orI Mask a1.Mask) λk2=>0<=k2/\∃u4,x[k2.toNat]?=some u4/\qI (V8 u1 u2 u3 u4) (λu5=>0<=(w (a4+1))/\∃u6,x1[(w (a4+1)).toNat]?=some u6/\qL (w ((w (Cost+a1.Cost))+u5)) λk3=>qL (qs4 (Za1 (⟨x2⟩:Zg) a1.Zg a2 a3) (λu7=>ZcD x (x1.set ((w (a4+1)).toNat) (⟨k2,a4,k3,(⟨u7⟩:Zg)⟩:Zb)) x2 r)) λk1=>if u6.Mask=0 then k1 else if k3<u6.Cost then k1 else ZcD x x1 x2 r))))))))):=by
 refine qu ?_
 and_intros
 all_goals(intros;unfold Im;(try simp only[Zaz,Zlt,Zh1,Zh0,Zh2,ZdW,ZdX,Zh3,Zh4,ZdY,Za0,Za1,ZbV,Zh5,ZdZ,Zea,Zh6,Zh7,Zhy,Zj.c_def,ZbU,Zhx,ZbR,J5,Xg,Qe,V8,Za.c_def,Z0.c_def,Zg.c_def,lpz,Zt4,Zt5,mpl,dfs]);(try simp only[itb]);(try simp only[itf,gS,kk]))
 all_goals(repeat' first|refine exI λ_=>?_|refine anJ λ_ _=>?_|refine anI λ_=>?_|refine orE2 ?_ ?_|exact False.elim)
 all_goals(intro h;first|rw[Zn Zls.eq_1]|rw[Zn Zt0.eq_1]|refine run ZE4 rfl ?_|rw[Zn Zt7.eq_1]|refine run ZE5 rfl ?_|rw[Zn Zt9.eq_1]|refine run ZE6 rfl ?_|refine run ZE7 rfl ?_|rw[Zn ZtB.eq_1]|refine run ZE8 rfl ?_|refine run ZE9 rfl ?_|refine XR Z23 rfl ?_|rw[Zn ZtF.eq_1]|refine run ZEA rfl ?_|refine run ZEB rfl ?_)
 all_goals (refine Ye ?_ h;clear h;simp +decide[*,kk,tI,tII,Zt3,Zt2,Zt1,Z1H,Zt8,Z1I,Z1J,ZtA,Z1K,Z1L,Z1M,ZtC,Z1N,Z1O,ZtD,ZtG,Z1P,Z1Q])
abbrev Wj:=uq ZF7
def ZF8:iM Zh8 λx x1 x2 x3 a Mask Order Cost Mask1 Order1 Cost1 a1 a2 a3 r=>JZ (Qe a a1) (λu1=>qG x Mask (λu2=>qG x Mask1 (λu3=>qL (orI Mask Mask1) λk2=>0<=k2/\∃u4,x[k2.toNat]?=some u4/\qI (V8 u1 u2 u3 u4) (λu5=>0<=(w (a3+1))/\∃u6,x1[(w (a3+1)).toNat]?=some u6/\qL (w ((w (Cost+Cost1))+u5)) λk3=>qL (qs4 (Za1 (⟨x2⟩:Zg) (⟨x3⟩:Zg) a1 a2) (λu7=>Zjm x (x1.set ((w (a3+1)).toNat) (⟨k2,a3,k3,(⟨u7⟩:Zg)⟩:Zb)) x2 x3 r)) λk1=>if u6.Mask=0 then k1 else if k3<u6.Cost then k1 else Zjm x x1 x2 x3 r)))):=by
 refine qu ?_
 all_goals(intros;unfold Im;(try simp only[Zh8,Qe,V8,Za1,Za.c_def,Z0.c_def,Zg.c_def,lpz,mpl,dfs]);(try simp only[itb]);(try simp only[itf,gS,kk]))
 all_goals(repeat' first|refine exI λ_=>?_|refine anJ λ_ _=>?_|refine anI λ_=>?_|refine orE2 ?_ ?_|exact False.elim)
 all_goals(intro h;first|refine XR Z23 rfl ?_)
 all_goals (refine Ye ?_ h;clear h;simp +decide[*,kk,tI,tII,ZtD])
abbrev ZF9:=uq ZF8
def ZFA:(((iM ZhB λx fr x1 a a1 a2 r=>qI (Za0 x1 a1) (λu1=>qG x1 u1 (λu2=>qG x a1 (λu3=>qI (V8 a.Sort_ u3 0 u3) (λu4=>qI (ZdZ x1 a1 a2) (λu5=>qL (w (u2.Cost+u4)) λk1=>if 0<=u5 then qH x1 u5 (λu6=>if u6.Cost<=k1 then r (some (.agg (u6.c.map .t),[.arr 3 1 true (x.map ic),.arr 287 4 fr (x1.map Zb.c)]))else qs4 (Zea u2.Zg a2) (λu7=>r (some (.agg [I a1,I a2,I k1,.own 2],[.arr 3 1 true (x.map ic),.arr 287 4 fr (x1.map Zb.c),.arr 277 3 true (u7.map Zh.c)]))))else qs4 (Zea u2.Zg a2) (λu6=>r (some (.agg [I a1,I a2,I k1,.own 2],[.arr 3 1 true (x.map ic),.arr 287 4 fr (x1.map Zb.c),.arr 277 3 true (u6.map Zh.c)])))))))))/\
 (iM Zeb λsizes fr l m x mine k r=>if k<(x.ZK.length:Int)then qG x.ZK k (λu1=>qI (Za0 l u1) (λu2=>qG l u2 (λu3=>qI (Za0 l (w (x.mask-u1))) (λu4=>qG l u4 (λu5=>Zfl (ZbV sizes mine m u3 u5 3 0 (-1)) (λu6 u7=>r (Zec u6 fr l m x u7 u5 k u1 (w (x.mask-u1)) (-1))))))))else r (ZbW mine true ([]:List Zb) sizes fr l 0)))/\
 ((iM Zec λsizes fr l m x mine b k left right o r=>if o<4 then qI (ZdZ l left o) (λu1=>if 0<=u1 then qH l u1 (λu2=>Zfl (ZbV sizes mine m u2 b 5 0 o) (λu3 u4=>r (Zec u3 fr l m x u4 b k left right (w (o+1)))))else r (Zec sizes fr l m x mine b k left right (w (o+1))))else r (J7 sizes fr l m x mine k left right 0))/\
 ((iM ZbW λmine fr out x fr1 x1 o r=>if o<=4 then qG mine o (λu1=>if 0<u1.Mask then qN out (r (ZbW mine false (out++[u1]) x fr1 x1 (w (o+1))))else r (ZbW mine fr out x fr1 x1 (w (o+1))))else r (some (.own 2,[.arr 3 1 true (x.map ic),.arr 287 4 fr1 (x1.map Zb.c),.arr 287 4 fr (out.map Zb.c)])))/\
 (iM J7 λsizes fr l m x mine k left right e r=>qG x.shared k (λu1=>if e<(u1.length:Int)then qG u1 e (λu2=>qL (ZhB sizes fr l m) λk2=>qL (k2 right u2) λk1=>qL (w (e+1)) λk3=>(∃(u3:Zb),k2 left u2=some (.agg (u3.c.map .t),[.arr 3 1 true (sizes.map ic),.arr 287 4 fr (l.map Zb.c)])/\((∃(u4:Zb),k1=some (.agg (u4.c.map .t),[.arr 3 1 true (sizes.map ic),.arr 287 4 fr (l.map Zb.c)])/\Zfl (ZbV sizes mine m u3 u4 4 u2 u2) (λu5 u6=>r (J7 u5 fr l m x u6 k left right k3)))\/(∃(u4:List Zh),∃u5,∃u6,∃u7,k1=some (.agg [I u5,I u6,I u7,.own 2],[.arr 3 1 true (sizes.map ic),.arr 287 4 fr (l.map Zb.c),.arr 277 3 true (u4.map Zh.c)])/\Zj6 (Zh6 sizes mine u4 m u3 u5 u6 u7 4 u2 u2) (λu8 u9 u10=>r (J7 u8 fr l m x u9 k left right k3)))))\/(∃(u3:List Zh),∃u4,∃u5,∃u6,k2 left u2=some (.agg [I u4,I u5,I u6,.own 2],[.arr 3 1 true (sizes.map ic),.arr 287 4 fr (l.map Zb.c),.arr 277 3 true (u3.map Zh.c)])/\((∃(u7:Zb),k1=some (.agg (u7.c.map .t),[.arr 3 1 true (sizes.map ic),.arr 287 4 fr (l.map Zb.c)])/\Zj6 (Zh7 sizes mine u3 m u4 u5 u6 u7 4 u2 u2) (λu8 u9 u10=>r (J7 u8 fr l m x u9 k left right k3)))\/(∃(u7:List Zh),∃u8,∃u9,∃u10,k1=some (.agg [I u8,I u9,I u10,.own 2],[.arr 3 1 true (sizes.map ic),.arr 287 4 fr (l.map Zb.c),.arr 277 3 true (u7.map Zh.c)])/\∃(cc:V6) (cd:List Zb) (cl:List Zh) (cn:List Zh),Zh8 sizes mine u3 u7 m u4 u5 u6 u8 u9 u10 4 u2 u2=some (.tup [],[.arr 3 1 true (cc.map ic),.arr 287 4 true (cd.map Zb.c),.arr 277 3 true (cl.map Zh.c),.arr 277 3 true (cn.map Zh.c)])/\r (J7 cc fr l m x cd k left right k3)))))else r (Zeb sizes fr l m x mine (w (k+1))))))))/\
 (((iM Zlx λx fr x1 a a1 r=>r (Zeb x fr x1 a a1 (List.replicate 5 (⟨0,0,0,(⟨[]⟩:Zg)⟩:Zb)) 0))/\
 ((iM Zed λshapes sizes m q fr out i r=>if i<(shapes.length:Int)then qG shapes i (λu1=>if(andI u1.mask (w (u1.mask-1)))=0 then qs2 (Zh3 u1.mask) (λu2=>∃u3,u2[0]?=some u3/\qG q.Atoms u3 (λu4=>∃u5,u4.Vars[0]?=some u5/\qG sizes u1.mask (λu6=>qI (V8 m.Scan u6 0 u6) (λu7=>qs4 (Zh4 u3) (λu8=>qN out (r (Zed shapes sizes m q fr (out++[(⟨u1.mask,u5,u7,(⟨u8⟩:Zg)⟩:Zb)]) (w (i+1)))))))))else ∃u2,∃(u3:List Zb),Zlx sizes fr out m u1=some (.own 2,[.arr 3 1 true (sizes.map ic),.arr 287 4 fr (out.map Zb.c),.arr 287 4 u2 (u3.map Zb.c)])/\out.length+u3.length<=68719476736/\r (Zed shapes sizes m q (fr && flat (u3.map Zb.c)) (out++u3) (w (i+1))))else r (some (.own 2,[.arr 335 3 true (shapes.map Xk.c),.arr 3 1 true (sizes.map ic),.arr 287 4 fr (out.map Zb.c)])))/\
 (iM ZhC λx x1 a a1 r=>r (Zed x x1 a a1 true ([]:List Zb) 0))))/\
 ((iM Zee λa a1 r=>qI (Za0 a a1) (λu1=>if u1<0 then Zj0 r else qG a u1 (λu2=>qM u2.Zg.Steps (ZcG u2.Mask u2.Order u2.Cost u2.Zg.Steps r))))/\
 ((iM ZhE λsizes i r=>if i<(sizes.length:Int)then qG sizes i (λu1=>qB (Xg u1 0 4096) (r (ZhE sizes (w (i+1)))) (qb false r))else qb true r)/\
 (iM ZhD λa a1 r=>qB (KK a) (qI (Kh a) (λu2=>if(a1.length:Int)=(w (u2+1))then r (ZhE a1 0)else qb false r)) (qb false r))))):=by
 refine qu ?_
 and_intros
 all_goals(intros;unfold Im;(try simp only[ZhB,Zeb,Zec,ZbW,J7,Zlx,Zed,ZhC,Zee,ZhE,ZhD,Za0,V8,ZdZ,Zea,Z0.c_def,Zg.c_def,Zb.c_def,ZbV,Za.c_def,Zh6,Zh7,Zh8,Zh.c_def,Zh3,Zh4,Xk.c_def,Xg,KK,Kh,Zj.c_def,lpz,mpl,dfs]);(try simp only[itb]);(try simp only[itf,gS,kk]))
 all_goals(repeat' first|refine exI λ_=>?_|refine anJ λ_ _=>?_|refine anI λ_=>?_|refine orE2 ?_ ?_|exact False.elim)
 all_goals(intro h;first|refine XR ZEC rfl ?_|rw[Zn Zh9.eq_1]|rw[Zn ZtH.eq_1]|rw[Zn ZtK.eq_1]|rw[Zn ZtI.eq_1]|refine XR ZED rfl ?_|rw[Zn ZtM.eq_1]|refine XR ZEE rfl ?_|refine run ZEF rfl ?_|rw[Zn ZtP.eq_1]|refine run ZEG rfl ?_)
 all_goals (refine Ye ?_ h;clear h;simp +decide[*,kk,tI,tII,Z1R,ZhA,Z1S,ZtJ,Z1T,ZtL,Zlw,Z1U,Z1V,ZtN,Z1W,Z1X,ZtQ,Z1Y])
abbrev WN:=uq ZFA
