/-
  Parts of the proofs for this seat: G31 G32 G33.
-/
import Derived.Test.YteaiinkcanpleaaGreatP12
set_option linter.all false
set_option maxRecDepth 100000
set_option maxHeartbeats 4000000
namespace Go.Proofs.YteaiinkcanpleaaGreat
open Go.AM
def ZLn:((iM So λMask Order Cost best fr x x1 x2 r=>if x2<x1 then qG x x2 (λu1=>if u1.Cost<best.Cost then r (So Mask Order Cost u1 fr x x1 (w (x2+1)))else r (So Mask Order Cost best fr x x1 (w (x2+1))))else r (some (.agg (best.c.map .t),[.arr 77 4 fr (x.map Zd.c)])))/\
 ((iM ZpB λfr x r=>∃u1,x[0]?=some u1/\r (So 0 0 0 u1 fr x (x.length:Int) 0))/\
 (iM Sp λMask Order Cost fr x mask x1 x2 x3 r=>if x3<x2 then qG x1 x3 (λu1=>if u1.Mask=mask then qN x (r (Sp Mask Order Cost false (x++[u1]) mask x1 x2 (w (x3+1))))else r (Sp Mask Order Cost fr x mask x1 x2 (w (x3+1))))else if(x.length:Int)=0 then vC r else ∃(u1:Zd),ZpB fr x=some (.agg (u1.c.map .t),[.arr 77 4 fr (x.map Zd.c)])/\BZ (F8 u1.Ze) (λu2=>Pf u1.Mask u1.Order u1.Cost u2 r))))/\
 ((iM jB λa a1 r=>r (Sp 0 0 0 true ([]:List Zd) a1 a (a.length:Int) 0))/\
 ((iM jC λa a1 a2 r=>(Sk a a1 a2=some (.t .nil,[])/\qI (UP a1) (λu1=>(Jv (Z0a u1) (λu2 u3 u4=>r (some (.tup [.agg [I u2,I u3,I u4,.t .nil],Bo false],[]))))\/(Jw (Z0a u1) (λu2 u3 u4 u5=>Pf u3 u4 u5 u2 r))))\/(∃u1,∃(u2:List Zd),Sk a a1 a2=some (.own 0,[.arr 77 4 u1 (u2.map Zd.c)])/\qI (UP a1) (λu3=>(Jv (jB u2 u3) (λu4 u5 u6=>r (some (.tup [.agg [I u4,I u5,I u6,.t .nil],Bo false],[]))))\/(Jw (jB u2 u3) (λu4 u5 u6 u7=>Pf u5 u6 u7 u4 r)))))/\
 (iM jD λa a1 a2 r=>(Jv (jC a a1 a2) (λu1 u2 u3=>qi (-1) r))\/(Jw (jC a a1 a2) (λu1 u2 u3 u4=>qi u4 r))))):=by
 refine qu ?_
 and_intros
 all_goals(intros;unfold Im;(try simp only[So,ZpB,Sp,jB,jC,jD,F8,Ze.c_def,Zd.c_def,Sk,UP,Z0a,Zf.c_def,Zz.c_def,Zc.c_def,Aq,Bc,A8]);(try simp only[Bd]);(try simp only[Be,gS,kk]))
 all_goals(repeat' first|refine Bp λ_=>?_|refine Bn λ_ _=>?_|refine Bm λ_=>?_|refine AH ?_ ?_|exact False.elim)
 all_goals(intro h;first|rw[Zl i5.eq_1]|refine XH ZAp rfl ?_|rw[Zl ZzY.eq_1]|refine run ZJ7 rfl ?_|refine run ZJ8 rfl ?_|refine run ZJ9 rfl ?_)
 all_goals (refine Ye ?_ h;clear h;simp +decide[*,kk,tI,Av,ZzI,i6,ZzJ,Z9C,ZzZ,Z9D,Z9E,Z9F])
abbrev H1:=uq ZLn
