/-
  Parts of the proofs for this seat: L21 SX.
-/
import Derived.Test.YtcfaekfjkeobhaaGreatP6
import Derived.Test.YtcfaekfjkeobhaaGreatP21
import Derived.Test.YtcfaekfjkeobhaaGreatP22
set_option linter.unusedSectionVars false
set_option linter.unusedSimpArgs false
set_option linter.unusedVariables false
set_option maxRecDepth 100000
set_option maxHeartbeats 4000000
namespace Go.Proofs.YtcfaekfjkeobhaaGreat
open Go.AM
theorem dec_u8(ts:List T)(h:HasShs [.int .u8] ts):∃n:Int,ts=kc .u8 n/\True:=by
 obtain⟨t,us,rfl,h1,h2⟩:=Z4s h;cases dec_nil h2
 cases h1 with
 |int h=>exact⟨_,rfl,trivial⟩
theorem decB{t:T}(h:HasSh (.slice [.int .u8]) t):∃xs:List Int,t=.lst 1 (xs.map (kc .u8))/\OkL (λ_=>True) xs:=Zblp dec_u8 h
theorem l_eqS(xs:List Zb)(hx:xs.length<=1000):∀i,i<=xs.length->Zlo xs xs xs.length i=some (Bo true,[]):=by
 refine down _ ?_ ?_
 .exact Zbgq (by rw[if_neg (by omega)])
 .intro i hi ih;refine Zbgq ?_;rw[if_pos (by omega),wN i (by omega)];exact⟨by omega,xs[i],by simp[hi],xs[i],by simp[hi],by rw[if_pos ⟨rfl,rfl,rfl⟩];exact ih⟩
theorem l_eqI(xs:List Int)(hx:xs.length<=1000):∀i,i<=xs.length->Zr4 xs xs xs.length i=some (Bo true,[]):=by
 refine down _ ?_ ?_
 .exact Zbgp _ _ _ _ _ (by rw[if_neg (by omega)])
 .intro i hi ih;refine Zbgp _ _ _ _ _ ?_;rw[if_pos (by omega),wN i (by omega)];exact⟨by omega,xs[i],by simp[hi],xs[i],by simp[hi],by rw[if_pos rfl];exact ih⟩
theorem x_eqI(xs:List Int)(hx:xs.length<=1000):Zr3 xs xs=some (Bo true,[]):=Zbt8 _ _ _ (by rw[if_pos rfl];exact l_eqI xs hx 0 (by omega))
theorem x_eqR(st:List Zb)(lo hi:List Int)(n:Int)(h1:st.length<=1000)(h2:lo.length<=1000)(h3:hi.length<=1000):Zr5 ⟨⟨st⟩,⟨lo,hi⟩,n⟩ ⟨⟨st⟩,⟨lo,hi⟩,n⟩=some (Bo true,[]) :=
 Zbua _ _ _ ⟨_,Zbt7 _ _ _ ⟨_,Zbt6 _ _ _ (by rw[if_pos rfl];exact l_eqS st h1 0 (by omega)),rfl⟩,by
  rw[if_pos rfl]
  exact⟨_,Zbt9 _ _ _ ⟨_,x_eqI lo h2,by rw[if_pos rfl];exact⟨_,x_eqI hi h3,rfl⟩⟩,by rw[if_pos rfl];simp⟩⟩
theorem x_eqI0:Zr2 []=some (Bo true,[]):=Zbt3 _ _ (by rw[if_pos (by rfl)];exact Zbt2 _ _ _ _ (by rw[if_neg (by omega)]))
theorem x_eqR0:Zvw 0 ⟨⟨[]⟩,⟨[],[]⟩,0⟩=some (Bo true,[]) :=
 Zbt5 _ _ _ ⟨_,Zbt1 _ _ ⟨_,Zbt0 _ _ (by rw[if_pos (by rfl)];exact Zbtz _ _ _ _ (by rw[if_neg (by omega)])),rfl⟩,by
  rw[if_pos rfl]
  exact⟨_,Zbt4 _ _ ⟨_,x_eqI0,by rw[if_pos rfl];exact⟨_,x_eqI0,rfl⟩⟩,by rw[if_pos rfl];simp⟩⟩
theorem c_big(a:List Int):C 7 [L 1 (a.map (kc .u8))] []=some (Bo (decide (1048576<(a.length:Int))),[]):=by
 refine run Zbxj rfl ?_;simp[Zbjm]
theorem Zbjo(a:List Int)(ha:OkL (λ_=>True) a):C Zblw [L 1 (a.map (kc .u8))] []=some (Bo true,[]):=by
 refine run Zbxi rfl ?_;have e0:=c_big a;by_cases hb:1048576<(a.length:Int)
 .simp[Zjz,e0,hb]
 obtain⟨m,q,r,e1,hm,hq,hr1,hr2,hr3⟩:=Zbxd a (by omega);obtain⟨m2,q2,p,b,l,pc,e2,hm2,hq2,hp,hb1,hb2⟩:=Zbxe a (by omega);have hR:LeR r:=⟨by unfold Le;omega,by unfold Le;omega⟩;have hX:LeX r.Box:=⟨by unfold Le;omega,by unfold Le;omega⟩;have hB:LeX b:=⟨by have:=hb1.1;unfold Le;omega,by have:=hb1.2;unfold Le;omega⟩;have f1:=Z4k hm hq hR;have f2:=Zbix hm hq hR;have f3:=Zbiv q hq r hR;have f4:=Z4g q hq r hR;have f5:=Zbw8 hm hq hR;have f6:=Zbw9 hm hq hR;have f7:=Zbgu r.Box hX;have kp:=λh h'=>Zbxh (m:=m) (q:=q) (r:=r) hm hq h h'
 -- what is grown
 have grow:∃(z:Bool),(z=false/\Zln m2 q2 p b l pc=some noGrow/\Zgg m2 q2 p b l pc=some Z4r)\/(z=true/\∃lo hi,Zln m2 q2 p b l pc=some (grown p.Steps lo hi pc)/\Zgg m2 q2 p b l pc=some (grown p.Steps lo hi pc)/\Zr5 ⟨⟨p.Steps⟩,⟨lo,hi⟩,pc⟩ ⟨⟨p.Steps⟩,⟨lo,hi⟩,pc⟩=some (Bo true,[])/\Zlm m2 q2 ⟨⟨p.Steps⟩,⟨lo,hi⟩,pc⟩=some (Bo true,[])/\Zk0 ⟨lo,hi⟩ l=some (Bo true,[])/\Zh2 b.High hi=some (Bo true,[])/\Zh2 lo b.Low=some (Bo true,[])):=by
  rcases Zbi8 hm2 hq2 p (by omega) b hB l (by omega) pc with⟨g1,g2⟩|⟨lo,hi,g1,g2,g3,g4,g5,g5',g6,g7⟩
  .exact⟨false,.inl ⟨rfl,g1,g2⟩⟩
  .have hv:Z6 lo hi=true:=(Zgp g2).2.2.2.2.1;have u1:=g1.l1;have u2:=g1.l2;refine⟨true,.inr ⟨rfl,lo,hi,g6,g7,x_eqR _ _ _ _ hp (by omega) (by omega),?_,?_,?_,?_⟩⟩
   .rw[Z4k hm2 hq2 ⟨by show Le lo;unfold Le;omega,by show Le hi;unfold Le;omega⟩]
    have:Zf9 m2 q2 ⟨⟨p.Steps⟩,⟨lo,hi⟩,pc⟩=true:=by
     unfold Zf9;simp only[Yc,decide_eq_true_eq];exact⟨g2,g3.1⟩
    rw[this]
   .rw[Zbi7 _ ⟨by show Le lo;unfold Le;omega,by show Le hi;unfold Le;omega⟩ l (by unfold Le;omega)];unfold inBox dom;rw[hv,g3.2.1,g3.2.2];simp[u1,u2,g4.1]
   .rw[Zsf _ _ hB.2];unfold dom;rw[g1.d3];simp[u2,g4.2]
   .rw[Zsf _ _ (by unfold Le;omega)];unfold dom;rw[g1.d1];simp[u1]
 obtain⟨z,hz⟩:=grow;generalize hy:Zf9 m q r=y at f1 f2 kp;generalize hh:holds m q r=x at f5 f6 kp;simp only[Zu2,Zvq,Zlm,Zqv,Znj,Zi5,Zvn,Zvp,Zru,Zln,Zgg,Zr5,Zk0,Zh2,noGrow,Z4r,grown,Zd.c_def,Zj.c_def,Zc.c_def,Region.c_def,Plan.c_def,Box.c_def,mpl,dfs]at e1 e2 f1 f2 f3 f4 f5 f6 f7 hz;have r0:=x_eqR0;simp only[Zvw,Region.c_def,Plan.c_def,Box.c_def,mpl,dfs]at r0;rcases tf y with q1|q1
 .subst q1;rcases hz with⟨rfl,g1,g2⟩|⟨rfl,lo,hi,g1,g2,g3,g4,g5,g6,g7⟩
  .simp +decide[Zjz,e0,hb,e1,e2,f1,f2,f3,f4,f5,f6,f7,g1,g2,r0]
  .simp +decide[Zjz,e0,hb,e1,e2,f1,f2,f3,f4,f5,f6,f7,g1,g2,g3,g4,g5,g6,g7]
 .subst q1;by_cases h4:Zbu r.Box.Low r.Box.High<=400
  .have kx:=kp rfl h4;subst kx;rcases hz with⟨rfl,g1,g2⟩|⟨rfl,lo,hi,g1,g2,g3,g4,g5,g6,g7⟩
   .simp +decide[Zjz,e0,hb,e1,e2,f1,f2,f3,f4,f5,f6,f7,h4,g1,g2,r0]
   .simp +decide[Zjz,e0,hb,e1,e2,f1,f2,f3,f4,f5,f6,f7,h4,g1,g2,g3,g4,g5,g6,g7]
  .rcases hz with⟨rfl,g1,g2⟩|⟨rfl,lo,hi,g1,g2,g3,g4,g5,g6,g7⟩
   .simp +decide[Zjz,e0,hb,e1,e2,f1,f2,f3,f4,f5,f6,f7,h4,g1,g2,r0]
   .simp +decide[Zjz,e0,hb,e1,e2,f1,f2,f3,f4,f5,f6,f7,h4,g1,g2,g3,g4,g5,g6,g7]
theorem Zbxk(f:Nat)(xs:List AV)(h0:List Blk)(r:AV)(hr:List Blk)(h:ext f xs h0=some (r,hr)):Zb3 Tryz.prog f xs h0 r hr:=by cases h
theorem sound{f:Nat}{xs:List AV}{h0:List Blk}{r:AV}{hr:List Blk}(h:C f xs h0=some (r,hr)):Zb3 Tryz.prog f xs h0 r hr:=Zbln (tblOK _ _) Zbxk h
end Go.Proofs.YtcfaekfjkeobhaaGreat
