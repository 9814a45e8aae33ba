/-
  Parts of the proofs for this seat: GX WD IK LK.
-/
import Derived.Test.YtcfaekfjkeobhaaGreatP23
set_option linter.unusedSectionVars false
set_option linter.unusedSimpArgs false
set_option linter.unusedVariables false
set_option maxRecDepth 100000
set_option maxHeartbeats 4000000
namespace Go.Proofs.YtcfaekfjkeobhaaGreat
open Go.AM
theorem Z7u:∀(l:List Int) (i:Nat) (e v:Int),l[i]?=some e->(l.set i v).sum=l.sum-e+v
 |[],i,e,v,h=>by simp at h
 |a::l,0,e,v,h=>by simp at h;subst h;simp;omega
 |a::l,i+1,e,v,h=>by simp at h;simp[Z7u l i e v h];omega
theorem Zul:∀l:List Int,Zch l=true->0<=l.sum/\l.sum<=7*l.length
 |[],h=>by simp
 |a::l,h=>by
  simp only[Zch,Ybs,Yc]at h;have h1:=Zul l h.2;have h2:=h.1;simp only[inR,decide_eq_true_eq]at h2;simp only[List.sum_cons,Yx];omega
theorem Zzd:∀{xs ys:List Int} {i:Nat} {b v:Int},Zbe xs ys=true->ys[i]?=some b->b<=v->Zbe (xs.set i v) ys=true
 |[],ys,i,b,v,h,_,_=>by simp[Zbe]
 |x::xs,[],i,b,v,h,hb,_=>by simp at hb
 |x::xs,y::ys,0,b,v,h,hb,hv=>by simp at hb;subst hb;simp[Zbe]at h|-;exact⟨hv,h.2⟩
 |x::xs,y::ys,i+1,b,v,h,hb,hv=>by simp at hb;simp[Zbe]at h|-;exact⟨h.1,Zzd h.2 hb hv⟩
theorem Zze:∀{xs ys:List Int} {i:Nat} {b v:Int},Zbe xs ys=true->xs[i]?=some b->v<=b->Zbe xs (ys.set i v)=true
 |[],ys,i,b,v,h,hb,_=>by simp at hb
 |x::xs,[],i,b,v,h,hb,_=>by simp[Zbe]
 |x::xs,y::ys,0,b,v,h,hb,hv=>by simp at hb;subst hb;simp[Zbe]at h|-;exact⟨hv,h.2⟩
 |x::xs,y::ys,i+1,b,v,h,hb,hv=>by simp at hb;simp[Zbe]at h|-;exact⟨h.1,Zze h.2 hb hv⟩
theorem Zzf:∀{lo xs hi:List Int},xs.length=lo.length->xs.length=hi.length->Zbe xs lo=true->Zbe hi xs=true->Zch lo=true->Zch hi=true->Zch xs=true
 |lo,[],hi,_,_,_,_,_,_=>by simp[Zch]
 |[],x::xs,hi,h,_,_,_,_,_=>by simp at h
 |a::lo,x::xs,[],_,h,_,_,_,_=>by simp at h
 |a::lo,x::xs,b::hi,h1,h2,h3,h4,h5,h6=>by
  simp only[Zbe,Yc,decide_eq_true_eq]at h3 h4;simp only[Zch,Ybs,Yc,inR,decide_eq_true_eq]at h5 h6|-;simp at h1 h2;exact⟨by omega,Zzf (by omega) (by omega) h3.2 h4.2 h5.2 h6.2⟩
theorem Z7v:∀{a b c:List Int},a.length=b.length->b.length=c.length->Zbe a b=true->Zbe b c=true->Zbe a c=true
 |[],b,c,_,_,_,_=>by simp[Zbe]
 |x::a,[],c,h,_,_,_=>by simp at h
 |x::a,y::b,[],_,h,_,_=>by simp at h
 |x::a,y::b,z::c,h1,h2,h3,h4=>by
  simp only[Zbe,Yc,decide_eq_true_eq]at h3 h4|-;simp at h1 h2;exact⟨by omega,Z7v (by omega) (by omega) h3.2 h4.2⟩
theorem Zum:∀a:List Int,Zbe a a=true
 |[]=>by simp[Zbe]
 |x::a=>by simp[Zbe,Zum a]
structure Inr (lim:Box) (lo hi:List Int):Prop where
 l1:lo.length=lim.Low.length
 l2:hi.length=lim.Low.length
 d1:Zbe lo lim.Low=true
 d2:Zbe hi lo=true
 d3:Zbe lim.High hi=true
theorem Zi4{lo hi:List Int}(h:Zb2 lo hi=true):0<lo.length/\lo.length<=16/\Zch lo=true/\Zch hi=true/\hi.length=lo.length/\Zbe hi lo=true:=by
 unfold Zb2 Zbc dom at h;simp only[Yc,decide_eq_true_eq]at h;obtain⟨⟨⟨h1,h2,h3⟩,h4,h5⟩,h6,h7⟩:=h;exact⟨h1,by omega,h2,h4,h6,h7⟩
theorem Inr.loc{lim:Box}{lo hi:List Int}(hL:Zb2 lim.Low lim.High=true)(h:Inr lim lo hi):Zch lo=true/\Zch hi=true:=by
 obtain⟨b1,b2,b3,b4,b5,b6⟩:=Zi4 hL;have e1:=h.l1;have e2:=h.l2;exact⟨Zzf (hi:=lim.High) (by omega) (by omega) h.d1 (Z7v (by omega) (by omega) h.d3 h.d2) b3 b4,Zzf (lo:=lim.Low) (by omega) (by omega) (Z7v (by omega) (by omega) h.d2 h.d1) h.d3 b3 b4⟩
theorem Inr.valid{lim:Box}{lo hi:List Int}(hL:Zb2 lim.Low lim.High=true)(h:Inr lim lo hi):Zb2 lo hi=true:=by
 obtain⟨b1,b2,b3,b4,b5,b6⟩:=Zi4 hL;obtain⟨a1,a2⟩:=h.loc hL;have e1:=h.l1;have e2:=h.l2;unfold Zb2 Zbc dom;rw[a1,a2,h.d2];simp;omega
theorem Zkr{l:List Int}{i:Nat}(h:i<l.length):l[i]?=some l[i]:=by simp[h]
theorem loc_at{l:List Int}(h:Zch l=true){i:Nat}{e:Int}(he:l[i]?=some e):0<=e/\e<=7:=by
 unfold Zch at h;rw[Ym]at h;have:=h e (Yu he);simpa[inR]using this
theorem Zun:∀{xs ys:List Int} {i:Nat} {a b:Int},Zbe xs ys=true->xs[i]?=some a->ys[i]?=some b->b<=a
 |[],ys,i,a,b,h,ha,hb=>by simp at ha
 |x::xs,[],i,a,b,h,ha,hb=>by simp at hb
 |x::xs,y::ys,0,a,b,h,ha,hb=>by simp at ha hb;subst ha hb;simp[Zbe]at h;exact h.1
 |x::xs,y::ys,i+1,a,b,h,ha,hb=>by simp at ha hb;simp[Zbe]at h;exact Zun h.2 ha hb
def mu(lo hi:List Int):Nat:=(7*(hi.length:Int)-hi.sum+lo.sum).toNat
theorem Zzg{l:List Int}{i:Nat}{e v:Int}(he:l[i]?=some e):(l.set i v).set i e=l:=by
 rw[List.set_set];obtain⟨h,h2⟩:=Yn.mp he;rw[<-h2];simp
theorem Inr.mu_lo{lim:Box}{lo hi:List Int}(hL:Zb2 lim.Low lim.High=true)(h:Inr lim lo hi){i:Nat}{e a:Int}(he:lo[i]?=some e)(ha:lim.Low[i]?=some a)(c:a<e):Inr lim (lo.set i (e-1)) hi/\mu (lo.set i (e-1)) hi<mu lo hi:=by
 have hi1:i<lo.length:=(Yn.mp he).1;have e1:=h.l1;have e2:=h.l2;have h':Inr lim (lo.set i (e-1)) hi:=by
  refine⟨by simp[e1],e2,Zzd h.d1 ha (by omega),?_,h.d3⟩;have g:=Zkr (l:=hi) (i:=i) (by omega);have:=Zun h.d2 g he;exact Zze h.d2 g (by omega)
 refine⟨h',?_⟩;obtain⟨a1,a2⟩:=h'.loc hL;have s1:=Zul _ a1;have s2:=Zul _ a2;have s3:=Z7u lo i e (e-1) he;unfold mu;omega
theorem Inr.mu_hi{lim:Box}{lo hi:List Int}(hL:Zb2 lim.Low lim.High=true)(h:Inr lim lo hi){i:Nat}{e a:Int}(he:hi[i]?=some e)(ha:lim.High[i]?=some a)(c:e<a):Inr lim lo (hi.set i (e+1))/\mu lo (hi.set i (e+1))<mu lo hi:=by
 have hi1:i<hi.length:=(Yn.mp he).1;have e1:=h.l1;have e2:=h.l2;have h':Inr lim lo (hi.set i (e+1)):=by
  refine⟨e1,by simp[e2],h.d1,?_,Zze h.d3 ha (by omega)⟩;have g:=Zkr (l:=lo) (i:=i) (by omega);have:=Zun h.d2 he g;exact Zzd h.d2 g (by omega)
 refine⟨h',?_⟩;obtain⟨a1,a2⟩:=h'.loc hL;have s1:=Zul _ a1;have s2:=Zul _ a2;have s3:=Z7u hi i e (e+1) he;have s4:(hi.set i (e+1)).length=hi.length:=by simp
 unfold mu;omega
def TI(m:Ze)(q:Zc)(lim:Box)(pc:Int)(st:List Zb)(lo hi loc:List Int)(c:Bool)(i:Int)(r:AV×List Blk):Prop :=
 ∃e1:Int,lo[i.toNat]?=some e1/\∃e2:Int,lim.Low[i.toNat]?=some e2/\if e2<e1 then(∃v:Bool,Ziu m q (⟨(⟨st⟩:Plan),(⟨(lo.set i.toNat (w (e1-1))),hi⟩:Box),pc⟩:Region)=some (Bo v,[])/\if v=true then Zd5 m q lim 0 pc st (lo.set i.toNat (w (e1-1))) hi loc true (loc.length:Int) (w (i+1))=some r else Zd5 m q lim 0 pc st ((lo.set i.toNat (w (e1-1))).set i.toNat (w ((w (e1-1))+1))) hi loc c (loc.length:Int) (w (i+1))=some r)else Zd5 m q lim 0 pc st lo hi loc c (loc.length:Int) (w (i+1))=some r
def TS(m:Ze)(q:Zc)(lim:Box)(pc:Int)(st:List Zb)(lo hi loc:List Int)(c:Bool)(i:Int)(r:AV×List Blk):Prop :=
 ∃e1:Int,lo[i.toNat]?=some e1/\∃e2:Int,lim.Low[i.toNat]?=some e2/\if e2<e1 then(∃v:Bool,Zim m q (⟨(⟨st⟩:Plan),(⟨(lo.set i.toNat (w (e1-1))),hi⟩:Box),pc⟩:Region)=some (Bo v,[])/\if v=true then Zd2 m q lim 0 pc st (lo.set i.toNat (w (e1-1))) hi loc true (w (i+1))=some r else Zd2 m q lim 0 pc st ((lo.set i.toNat (w (e1-1))).set i.toNat (w ((w (e1-1))+1))) hi loc c (w (i+1))=some r)else Zd2 m q lim 0 pc st lo hi loc c (w (i+1))=some r
theorem le_of{lim:Box}{lo hi:List Int}(hL:Zb2 lim.Low lim.High=true)(h:Inr lim lo hi)(st:List Zb)(pc:Int):LeR ⟨⟨st⟩,⟨lo,hi⟩,pc⟩:=by
 obtain⟨b1,b2,b3,b4,b5,b6⟩:=Zi4 hL;have e1:=h.l1;have e2:=h.l2;unfold LeR Le;simp only;omega
def PV(m:Ze)(q:Zc)(st:List Zb)(pc:Int)(loc lo hi:List Int):Prop:=Zhc m q ⟨⟨st⟩,⟨lo,hi⟩,pc⟩=true/\Zbe loc lo=true/\Zbe hi loc=true
section
variable{m:Ze}{q:Zc}{lim:Box}{pc:Int}{st:List Zb}{loc:List Int}(hm:LeM m)(hq:LeQ q)(hL:Zb2 lim.Low lim.High=true)(hR:∀lo hi,Inr lim lo hi->Zcx m q ⟨⟨st⟩,⟨lo,hi⟩,pc⟩)(hn:loc.length=lim.Low.length)
include hm hq hL hR hn
theorem Z7w{lo hi:List Int}(h:Inr lim lo hi)(hp:PV m q st pc loc lo hi)(again:Bool){i:Nat}(c:i<lim.Low.length){M:Nat}(hM:mu lo hi<=M)(hA:again=true->mu lo hi<M):∃lo2 again2,Inr lim lo2 hi/\PV m q st pc loc lo2 hi/\mu lo2 hi<=M/\(again2=true->mu lo2 hi<M)/\∀r,(Zd5 m q lim 0 pc st lo2 hi loc again2 (loc.length:Int) ((i+1:Nat):Int)=some r->TI m q lim pc st lo hi loc again i r)/\(Zd2 m q lim 0 pc st lo2 hi loc again2 ((i+1:Nat):Int)=some r->TS m q lim pc st lo hi loc again i r):=by
 obtain⟨b1,b2,b3,b4,b5,b6⟩:=Zi4 hL;have e1:=h.l1;have e2:=h.l2;have wi:w ((i:Int)+1)=((i+1:Nat):Int):=by rw[Zuj (by omega) (by omega)];omega
 have g1:=Zkr (l:=lo) (i:=i) (by omega);have g2:=Zkr (l:=lim.Low) (i:=i) (by omega);have b:=loc_at (h.loc hL).1 g1;have w1:w (lo[i]'(by omega)-1)=lo[i]'(by omega)-1:=Zuj (by omega) (by omega);have w2:w (lo[i]'(by omega)-1+1)=lo[i]'(by omega):=by rw[Zuj (by omega) (by omega)];omega
 unfold TI TS;rw[wi];simp only[Yg];by_cases hlt:lim.Low[i]<lo[i]'(by omega)
 .obtain⟨n1,n2⟩:=h.mu_lo hL g1 g2 hlt;have p1:=Z7r hm hq (le_of hL n1 st pc) (hR _ _ n1);have p2:=Z7s hm hq (le_of hL n1 st pc) (hR _ _ n1);rcases tf (Zhc m q ⟨⟨st⟩,⟨lo.set i (lo[i]'(by omega)-1),hi⟩,pc⟩)with e|e
  .rw[e]at p1 p2;refine⟨lo,again,h,hp,hM,hA,λr=>⟨λhr=>⟨_,g1,_,g2,?_⟩,λhr=>⟨_,g1,_,g2,?_⟩⟩⟩
   .rw[if_pos hlt,w1];refine⟨_,p1,?_⟩;rw[if_neg (by simp),w2,Zzg g1];exact hr
   .rw[if_pos hlt,w1];refine⟨_,p2,?_⟩;rw[if_neg (by simp),w2,Zzg g1];exact hr
  .rw[e]at p1 p2;have g3:=Zkr (l:=loc) (i:=i) (by omega);have g4:=Zun hp.2.1 g3 g1;refine⟨_,true,n1,⟨e,Zze hp.2.1 g3 (by omega),hp.2.2⟩,by omega,λ_=>by omega,λr=>⟨λhr=>⟨_,g1,_,g2,?_⟩,λhr=>⟨_,g1,_,g2,?_⟩⟩⟩
   .rw[if_pos hlt,w1];refine⟨_,p1,?_⟩;rw[if_pos rfl];exact hr
   .rw[if_pos hlt,w1];refine⟨_,p2,?_⟩;rw[if_pos rfl];exact hr
 .exact⟨lo,again,h,hp,hM,hA,λr=>⟨λhr=>⟨_,g1,_,g2,by rw[if_neg hlt];exact hr⟩,λhr=>⟨_,g1,_,g2,by rw[if_neg hlt];exact hr⟩⟩⟩
theorem dim_step{lo hi:List Int}(h:Inr lim lo hi)(hp:PV m q st pc loc lo hi)(again:Bool){i:Nat}(c:i<lim.Low.length){M:Nat}(hM:mu lo hi<=M)(hA:again=true->mu lo hi<M):∃lo2 hi2 again2,Inr lim lo2 hi2/\PV m q st pc loc lo2 hi2/\mu lo2 hi2<=M/\(again2=true->mu lo2 hi2<M)/\∀r,(Zd5 m q lim 0 pc st lo2 hi2 loc again2 (loc.length:Int) ((i+1:Nat):Int)=some r->Zd5 m q lim 0 pc st lo hi loc again (loc.length:Int) i=some r)/\(Zd2 m q lim 0 pc st lo2 hi2 loc again2 ((i+1:Nat):Int)=some r->Zd2 m q lim 0 pc st lo hi loc again i=some r):=by
 obtain⟨b1,b2,b3,b4,b5,b6⟩:=Zi4 hL;have e1:=h.l1;have e2:=h.l2;have c1:(i:Int)<(loc.length:Int):=by omega
 have g1:=Zkr (l:=hi) (i:=i) (by omega);have g2:=Zkr (l:=lim.High) (i:=i) (by omega);have b:=loc_at (h.loc hL).2 g1;have w1:w (hi[i]'(by omega)+1)=hi[i]'(by omega)+1:=Zuj (by omega) (by omega);have w2:w (hi[i]'(by omega)+1-1)=hi[i]'(by omega):=by rw[Zuj (by omega) (by omega)];omega
 by_cases hlt:hi[i]'(by omega)<lim.High[i]'(by omega)
 .obtain⟨n1,n2⟩:=h.mu_hi hL g1 g2 hlt;have p1:=Z7r hm hq (le_of hL n1 st pc) (hR _ _ n1);have p2:=Z7s hm hq (le_of hL n1 st pc) (hR _ _ n1);rcases tf (Zhc m q ⟨⟨st⟩,⟨lo,hi.set i (hi[i]'(by omega)+1)⟩,pc⟩)with e|e
  .rw[e]at p1 p2;obtain⟨lo2,again2,s1,s0,s2,s3,s4⟩:=Z7w hm hq hL hR hn h hp again c hM hA;refine⟨lo2,hi,again2,s1,s0,s2,s3,λr=>⟨λhr=>Zym _ _ _ _ _ _ _ _ _ _ _ _ _ ?_,λhr=>Zyi _ _ _ _ _ _ _ _ _ _ _ _ ?_⟩⟩
   .rw[if_pos c1];refine⟨by omega,_,g1,_,g2,?_⟩;simp only[Yg];rw[if_pos hlt,w1];refine⟨_,p1,?_⟩;rw[if_neg (by simp),w2,Zzg g1];exact Zbk5 _ _ _ _ _ _ _ _ _ _ _ _ _ _ ⟨by omega,(s4 r).1 hr⟩
   .rw[if_pos c1];refine⟨by omega,_,g1,_,g2,?_⟩;simp only[Yg];rw[if_pos hlt,w1];refine⟨_,p2,?_⟩;rw[if_neg (by simp),w2,Zzg g1];exact Zbjc _ _ _ _ _ _ _ _ _ _ _ _ ⟨by omega,(s4 r).2 hr⟩
  .rw[e]at p1 p2;have g3:=Zkr (l:=loc) (i:=i) (by omega);have g4:=Zun hp.2.2 g1 g3;obtain⟨lo2,again2,s1,s0,s2,s3,s4⟩:=Z7w hm hq hL hR hn n1 ⟨e,hp.2.1,Zzd hp.2.2 g3 (by omega)⟩ true c (M:=M) (by omega) (λ_=>by omega);refine⟨lo2,_,again2,s1,s0,s2,s3,λr=>⟨λhr=>Zym _ _ _ _ _ _ _ _ _ _ _ _ _ ?_,λhr=>Zyi _ _ _ _ _ _ _ _ _ _ _ _ ?_⟩⟩
   .rw[if_pos c1];refine⟨by omega,_,g1,_,g2,?_⟩;simp only[Yg];rw[if_pos hlt,w1];refine⟨_,p1,?_⟩;rw[if_pos rfl];exact Zbk5 _ _ _ _ _ _ _ _ _ _ _ _ _ _ ⟨by omega,(s4 r).1 hr⟩
   .rw[if_pos c1];refine⟨by omega,_,g1,_,g2,?_⟩;simp only[Yg];rw[if_pos hlt,w1];refine⟨_,p2,?_⟩;rw[if_pos rfl];exact Zbjc _ _ _ _ _ _ _ _ _ _ _ _ ⟨by omega,(s4 r).2 hr⟩
 .obtain⟨lo2,again2,s1,s0,s2,s3,s4⟩:=Z7w hm hq hL hR hn h hp again c hM hA;refine⟨lo2,hi,again2,s1,s0,s2,s3,λr=>⟨λhr=>Zym _ _ _ _ _ _ _ _ _ _ _ _ _ ?_,λhr=>Zyi _ _ _ _ _ _ _ _ _ _ _ _ ?_⟩⟩
  .rw[if_pos c1];refine⟨by omega,_,g1,_,g2,?_⟩;rw[if_neg hlt];exact(s4 r).1 hr
  .rw[if_pos c1];refine⟨by omega,_,g1,_,g2,?_⟩;rw[if_neg hlt];exact(s4 r).2 hr
def grown(st:List Zb)(lo hi:List Int)(pc:Int):AV×List Blk:=(.tup [.agg [.own 0,.own 1,.own 2,I pc],Bo true],[.arr 162 3 true (st.map Zb.c),.arr 3 1 true (lo.map ic),.arr 3 1 true (hi.map ic)])
omit hm hq hL hR hn in
theorem l_stop(lo hi:List Int):Zke m q lim 0 pc st lo hi loc false=some (grown st lo hi pc)/\Zjs m q lim 0 pc st lo hi loc false=some (grown st lo hi pc) :=
 ⟨Zbk4 _ _ _ _ _ _ _ _ _ _ _ (by rw[if_neg (by simp)];rfl),Zbjb _ _ _ _ _ _ _ _ _ _ _ (by rw[if_neg (by simp)];rfl)⟩
theorem pass{M:Nat}(IH:∀lo hi,Inr lim lo hi->PV m q st pc loc lo hi->mu lo hi<M->∃lo' hi',Inr lim lo' hi'/\PV m q st pc loc lo' hi'/\Zke m q lim 0 pc st lo hi loc true=some (grown st lo' hi' pc)/\Zjs m q lim 0 pc st lo hi loc true=some (grown st lo' hi' pc)):∀i,i<=loc.length->∀lo hi again,Inr lim lo hi->PV m q st pc loc lo hi->mu lo hi<=M->(again=true->mu lo hi<M)->∃lo' hi',Inr lim lo' hi'/\PV m q st pc loc lo' hi'/\Zd5 m q lim 0 pc st lo hi loc again (loc.length:Int) i=some (grown st lo' hi' pc)/\Zd2 m q lim 0 pc st lo hi loc again i=some (grown st lo' hi' pc):=by
 refine down loc.length ?_ ?_
 .intro lo hi again h1 h0 h2 h3
  have:∃lo' hi',Inr lim lo' hi'/\PV m q st pc loc lo' hi'/\Zke m q lim 0 pc st lo hi loc again=some (grown st lo' hi' pc)/\Zjs m q lim 0 pc st lo hi loc again=some (grown st lo' hi' pc):=by
   rcases tf again with rfl|rfl
   .exact⟨lo,hi,h1,h0,l_stop lo hi⟩
   .exact IH lo hi h1 h0 (h3 rfl)
  obtain⟨lo',hi',a1,a0,a2,a3⟩:=this;exact⟨lo',hi',a1,a0,Zym _ _ _ _ _ _ _ _ _ _ _ _ _ (by rw[if_neg (by omega)];exact a2),Zyi _ _ _ _ _ _ _ _ _ _ _ _ (by rw[if_neg (by omega)];exact a3)⟩
 .intro i hi' ih lo hi again h1 h0 h2 h3;obtain⟨lo2,hi2,again2,s1,s0,s2,s3,s4⟩:=dim_step hm hq hL hR hn h1 h0 again (i:=i) (by omega) h2 h3;obtain⟨lo',hi',a1,a0,a2,a3⟩:=ih lo2 hi2 again2 s1 s0 s2 s3;exact⟨lo',hi',a1,a0,(s4 _).1 a2,(s4 _).2 a3⟩
theorem grow_all:∀M lo hi,Inr lim lo hi->PV m q st pc loc lo hi->mu lo hi<M->∃lo' hi',Inr lim lo' hi'/\PV m q st pc loc lo' hi'/\Zke m q lim 0 pc st lo hi loc true=some (grown st lo' hi' pc)/\Zjs m q lim 0 pc st lo hi loc true=some (grown st lo' hi' pc):=by
 intro M
 induction M with
 |zero=>intro lo hi h h0 h1;omega
 |succ M ih =>
  intro lo hi h h0 h1;obtain⟨lo',hi',a1,a0,a2,a3⟩:=pass hm hq hL hR hn ih 0 (by omega) lo hi false h h0 (by omega) (by simp);exact⟨lo',hi',a1,a0,Zbk4 _ _ _ _ _ _ _ _ _ _ _ (by rw[if_pos rfl];exact a2),Zbjb _ _ _ _ _ _ _ _ _ _ _ (by rw[if_pos rfl];exact a3)⟩
end
@[simp] theorem Zbm6(b:Box)(hb:LeX b)(l:List Int)(hl:Le l):Zon b l=some (Bo (Zgs b.Low b.High l),[]):=by
 refine Zbyq _ _ _ ?_;unfold Zgs;have h1:=Zbk7 b hb;have h2:=Z6u l b.Low hl;have h3:=Z6u b.High l hb.2;refine⟨_,h1,?_⟩;rcases tf (Zb2 b.Low b.High)with e|e
 .rw[e];simp
 rw[e,if_pos rfl];refine⟨_,h2,?_⟩;rcases tf (dom l b.Low)with e2|e2
 .rw[e2];simp
 rw[e2,if_pos rfl];exact⟨_,h3,by simp⟩
@[simp] theorem Zbm7(b:Box)(hb:LeX b)(l:List Int)(hl:Le l):Zlq b l=some (Bo (Zgs b.Low b.High l),[]):=by
 refine Zbxf _ _ _ ?_;unfold Zgs;have h1:=Zbk8 b hb;have h2:=Z6t l b.Low hl;have h3:=Z6t b.High l hb.2;refine⟨_,h1,?_⟩;rcases tf (Zb2 b.Low b.High)with e|e
 .rw[e];simp
 rw[e,if_pos rfl];refine⟨_,h2,?_⟩;rcases tf (dom l b.Low)with e2|e2
 .rw[e2];simp
 rw[e2,if_pos rfl];exact⟨_,h3,by simp⟩
def noGrow:AV×List Blk:=(.tup [.agg [.t .nil,.t .nil,.t .nil,I 0],Bo false],[])
def noGrowO:AV×List Blk:=(.tup [.agg [.own 0,.own 1,.own 2,I 0],Bo false],[.arr Zqs 3 true (([]:List Zb).map Zb.c),.arr Z4 1 true (([]:List Int).map ic),.arr Z4 1 true (([]:List Int).map ic)])
theorem Zb3y{m:Ze}{q:Zc}(hm:LeM m)(hq:LeQ q)(p:Plan)(hp:p.Steps.length<=4294967296)(b:Box)(hb:LeX b)(l:List Int)(cc:l.length<=4294967296)(pc:Int):(Zyc m q p b l pc=some noGrow/\Zgx m q p b l pc=some noGrowO)\/∃lo hi,Inr b lo hi/\Zcx m q ⟨p,⟨lo,hi⟩,pc⟩/\PV m q p.Steps pc l lo hi/\(l.length=b.Low.length/\b.High.length=b.Low.length)/\lo.length<=16/\hi.length<=16/\Zyc m q p b l pc=some (grown p.Steps lo hi pc)/\Zgx m q p b l pc=some (grown p.Steps lo hi pc):=by
 have hl:Le l:=by unfold Le;omega
 have c1:Zdx p=some (.agg [.own 0],[.arr 162 3 true (p.Steps.map Zb.c)]):=Z6n _ _ ⟨by omega,rfl⟩;have c2:=Zpt l (by omega);have k1:=Zbm6 b hb l hl;have k2:=Zbm7 b hb l hl;have hr:LeR ⟨p,⟨l,l⟩,pc⟩:=⟨hl,hl⟩;have k3:=Z7t hm hq hr;have k4:=Zzb hm hq hr;have n1:p.Steps.length<=68719476736:=by omega
 have n2:l.length<=68719476736:=by omega
 rcases tf (Zgs b.Low b.High l)with e|e
 .rw[e]at k1 k2;exact .inl ⟨Z6s _ _ _ _ _ _ _ ⟨_,c1,_,c2,_,k1,by rw[if_neg (by simp)];rfl⟩,Z6i _ _ _ _ _ _ _ ⟨n1,n2,_,k2,by rw[if_neg (by simp)];rfl⟩⟩
 rcases tf (Zcd m q ⟨p,⟨l,l⟩,pc⟩)with e2|e2
 .rw[e]at k1 k2;rw[e2]at k3 k4;exact .inl ⟨Z6s _ _ _ _ _ _ _ ⟨_,c1,_,c2,_,k1,by rw[if_pos rfl];exact⟨_,k3,by rw[if_neg (by simp)];rfl⟩⟩,Z6i _ _ _ _ _ _ _ ⟨n1,n2,_,k2,by rw[if_pos rfl];exact⟨_,k4,by rw[if_neg (by simp)];rfl⟩⟩⟩
 have e3:Zcx m q ⟨p,⟨l,l⟩,pc⟩:=by
  unfold Zcd at e2;simp only[Yc,decide_eq_true_eq]at e2;exact e2.1
 have e4:=e;unfold Zgs dom at e4;simp only[Yc,decide_eq_true_eq]at e4;obtain⟨⟨hL,f1,f2⟩,f3,f4⟩:=e4;have h:Inr b l l:=⟨f1,f1,f2,Zum l,f4⟩;have hR:∀lo hi,Inr b lo hi->Zcx m q ⟨⟨p.Steps⟩,⟨lo,hi⟩,pc⟩:=by
  intro lo hi h';refine⟨?_,e3.2⟩;have v1:=e3.1;have v2:=h'.valid hL;have v3:=h'.l1;unfold Zib Zk2 at v1|-;simp only[Yc,decide_eq_true_eq]at v1|-;obtain⟨⟨⟨u1,u2,u3⟩,u4⟩,u5⟩:=v1;exact⟨⟨⟨u1,v2,by omega⟩,u4⟩,u5⟩
 have e5:Zhc m q ⟨p,⟨l,l⟩,pc⟩=true:=by
  unfold Zcd at e2;simp only[Yc]at e2;exact e2.2
 obtain⟨lo,hi,a1,a0,a2,a3⟩:=grow_all hm hq hL hR (loc:=l) f1 _ l l h ⟨e5,Zum l,Zum l⟩ (Ybq _);obtain⟨b1,b2,_⟩:=Zi4 hL;have u1:=a1.l1;have u2:=a1.l2;rw[e]at k1 k2;rw[e2]at k3 k4;exact .inr ⟨lo,hi,a1,hR _ _ a1,a0,⟨f1,(Zi4 hL).2.2.2.2.1⟩,by omega,by omega,Z6s _ _ _ _ _ _ _ ⟨_,c1,_,c2,_,k1,by rw[if_pos rfl];exact⟨_,k3,by rw[if_pos rfl];exact a2⟩⟩,Z6i _ _ _ _ _ _ _ ⟨n1,n2,_,k2,by rw[if_pos rfl];exact⟨_,k4,by rw[if_pos rfl];exact a3⟩⟩⟩
theorem x_Best(l:List Za)(cc:Int)(hl:l.length<=1000)(hs:∀e∈l,e.Plan.Steps.length<=1000):Zf6 l cc=some (.tup [.agg [I 0,I 0,I 0,.t .nil],Bo false],[])\/∃a b c,∃st:List Zb,Zf6 l cc=some (.tup [.agg [I a,I b,I c,.own 0],Bo true],[.arr Zqs 3 true (st.map Zb.c)])/\st.length<=1000:=by
 have hb:=Z62 l cc l.length;by_cases h:low l cc<0
 .exact .inl (Z6f _ _ _ ⟨_,Zkl l cc hl,by rw[if_pos h]⟩)
 .have hk:(low l cc).toNat<l.length:=by unfold low at h|-;omega
  have hm:=hs _ (Yf hk);refine .inr ⟨l[(low l cc).toNat].Mask,l[(low l cc).toNat].Order,l[(low l cc).toNat].Cost,l[(low l cc).toNat].Plan.Steps,Z6f _ _ _ ⟨_,Zkl l cc hl,?_⟩,hm⟩;rw[if_neg h];exact⟨by omega,_,Ya hk,by omega,rfl⟩
theorem Zb3z{m:Ze}{q:Zc}(hm:LeM m)(hq:LeQ q)(l:List Int)(hl:l.length<=100):∃(st:List Zb) (b:Bool),Zhs (if Zbc l=true then Zbd l else[]) m q=some (.tup [.agg [.own 1],Bo b],[.arr Z4 1 true ((if Zbc l=true then Zbd l else[]).map ic),.arr Zqs 3 true (st.map Zb.c)])/\st.length<=1000:=by
 have f:=Zzc q.Zf q.Atoms;generalize hz:(if Zbc l=true then Zbd l else[])=z;have hzl:z.length<=100:=by rw[<-hz];split<;>simp[Zbd];omega
 have e0:=x_Best [] (Zx q.Zf q.Atoms) (by simp) (by simp);have fin:∀(es:List Za) fr,Zr0 z m q=some (.own 1,[.arr Z4 1 true (z.map ic),.arr Zbqo 4 fr (es.map Za.c)])->es.length<=1000->(∀e∈es,e.Plan.Steps.length<=1000)->∃(st:List Zb) (b:Bool),Zhs z m q=some (.tup [.agg [.own 1],Bo b],[.arr Z4 1 true (z.map ic),.arr Zqs 3 true (st.map Zb.c)])/\st.length<=1000:=by
  intro es fr ht h1 h2;rcases x_Best es (Zx q.Zf q.Atoms) h1 h2 with e|⟨a,b,c,st,e,hs⟩
  .exact⟨[],false,Zbi6 _ _ _ _ (.inl ⟨_,_,_,_,Z6g _ _ _ _ (.inl ⟨_,_,_,ht,_,Zc1 q hq,.inl ⟨_,_,_,e,rfl⟩⟩),rfl⟩),by simp⟩
  .exact⟨st,true,Zbi6 _ _ _ _ (.inr ⟨_,_,_,_,_,Z6g _ _ _ _ (.inl ⟨_,_,_,ht,_,Zc1 q hq,.inr ⟨_,_,_,_,e,rfl⟩⟩),rfl⟩),hs⟩
 by_cases ha:Zck m
 .rcases tf (Zb5 q.Zf q.Atoms z)with hv|hv
  .exact fin [] true (Zyh _ _ _ _ ⟨_,Zt2 m hm,by rw[if_pos (by simpa using ha)];exact⟨_,Zyw q hq z (by unfold Le;omega),by rw[hv,if_neg (by simp)]⟩⟩) (by simp) (by simp)
  .have hv0:=hv;unfold Zb5 at hv;simp only[Yc,decide_eq_true_eq]at hv;have hvq:Zn q.Zf q.Atoms=true:=by first|exact hv.1.1|exact hv.1|exact hv.2.1
   have hlen:(z.length:Int)=Zx q.Zf q.Atoms+1:=by first|exact hv.1.2|exact hv.2.1|exact hv.2.2
   rcases tf (Zbc l)with hi|hi
   .rw[hi,if_neg (by simp)]at hz;subst hz;simp at hlen;omega
   .rw[hi,if_pos rfl]at hz;subst hz;have b:Base m q (Zbd l):=Zpx hm ha hq hvq hi (by simpa[Zbd]using hlen);have hl2:=Zmp b (Ye (Zp q.Atoms).length);obtain⟨fr,ht⟩:=Z7q b;exact fin _ fr (Zyh _ _ _ _ ⟨_,Zt2 m hm,by rw[if_pos (by simpa using ha)];exact⟨_,Zyw q hq _ (by unfold Le;omega),by rw[hv0,if_pos rfl];exact⟨_,Z7p q hq hvq,_,_,ht,rfl⟩⟩⟩) (by omega) (Zug b (Ye _))
 .exact fin [] true (Zyh _ _ _ _ ⟨_,Zt2 m hm,by rw[if_neg (by simpa using ha)]⟩) (by simp) (by simp)
theorem x_Grow{m:Ze}{q:Zc}(hm:LeM m)(hq:LeQ q)(p:Plan)(hp:p.Steps.length<=1000)(b:Box)(hb:b.Low.length<=17/\b.High.length<=17)(l:List Int)(hl:l.length<=100)(pc:Int):∃(st:List Zb) (lo hi:List Int) (n:Int) (z:Bool),Zgx m q p b l pc=some (.tup [.agg [.own 0,.own 1,.own 2,I n],Bo z],[.arr Zqs 3 true (st.map Zb.c),.arr Z4 1 true (lo.map ic),.arr Z4 1 true (hi.map ic)])/\st.length<=1000/\lo.length<=17/\hi.length<=17:=by
 rcases Zb3y hm hq p (by omega) b ⟨by unfold Le;omega,by unfold Le;omega⟩ l (by omega) pc with⟨_,e⟩|⟨lo,hi,_,_,_,_,h1,h2,_,e⟩
 .exact⟨[],[],[],0,false,e,by simp,by simp,by simp⟩
 .exact⟨p.Steps,lo,hi,pc,true,e,hp,by omega,by omega⟩
def SR(r:Region):Prop:=r.Plan.Steps.length<=1000/\r.Box.Low.length<=17/\r.Box.High.length<=17
def LeC(c:Zk):Prop:=Le c.Entries/\∀e∈c.Entries,LeQ e.Zc/\LeR e.Region
def Zgn(l:List Zd)(e:Zd):Bool:=l.any λx=>decide (x.Used=e.Used)
noncomputable def entOk(m:Ze)(c:Zk)(i:Nat)(e:Zd):Bool:=inR e.Version 1 999 && (inR e.Used 1 c.Clock && (Zcd m e.Zc e.Region && !Zgn (c.Entries.take i) e))
noncomputable def okF(m:Ze)(c:Zk):List Zd->Nat->Bool
 |[],_=>true
 |e::l,i=>entOk m c i e && okF m c l (i+1)
noncomputable def Zbr(m:Ze)(c:Zk):Bool:=inR c.Clock 0 1000000 && (decide ((c.Entries.length:Int)<=4) && okF m c c.Entries 0)
def idxU(e:Zd):List Zd->Nat->Int
 |[],_=>-1
 |x::l,i=>if x.Used=e.Used then(i:Int)else idxU e l (i+1)
theorem Zbm8(e:Zd):∀(l:List Zd) (i:Nat),decide (0<=idxU e l i)=Zgn l e
 |[],i=>by simp[idxU,Zgn]
 |x::l,i=>by
  have ih:=Zbm8 e l (i+1);rw[idxU];unfold Zgn at ih|-;by_cases h:x.Used=e.Used
  .simp[h]
  .rw[if_neg h,ih];simp[h]
theorem l_idx(l:List Zd)(e:Zd)(hl:Le l):∀i,i<=l.length->Ztd l e l.length i=some (I (idxU e (l.drop i) i),[]):=by
 refine down _ ?_ ?_
 .refine Zbku _ _ _ _ _ ?_;rw[if_neg (by omega)];simp[idxU]
 .intro i hi ih;have h4:=Zw (i:=i) (by omega);refine Zbku _ _ _ _ _ ?_;rw[if_pos (by omega),Yi hi,idxU];refine⟨by omega,l[i],by rw[Yg];exact Ya hi,_,Zbz9 _ _ _ rfl,?_⟩;rw[show w ((i:Int)+1)=((i+1:Nat):Int)from by rw[show w ((i:Int)+1)=(i:Int)+1 from h4];simp];by_cases h:l[i].Used=e.Used
  .rw[if_pos (by simpa using h),if_pos h]
  .rw[if_neg (by simpa using h),if_neg h];exact ih
theorem Zb30(l:List Zd)(e:Zd)(hl:Le l):Zxy l e=some (Bo (Zgn l e),[]):=by
 refine Zb0b _ _ _ ⟨_,Zb0a _ _ _ (l_idx l e hl 0 (Yd _)),?_⟩;rw[Yk,Zbm8]
theorem Zb31(m:Ze)(hm:LeM m)(c:Zk)(hc:LeC c):∀i,i<=c.Entries.length->Zte m c c.Entries c.Entries.length i=some (Bo (okF m c (c.Entries.drop i) i),[]):=by
 have hl:=hc.1;refine down _ ?_ ?_
 .refine Zbkv _ _ _ _ _ _ ?_;rw[if_neg (by omega)];simp[okF]
 .intro i hi ih;have h4:=Zw (i:=i) (by omega);obtain⟨hq,hr⟩:=hc.2 _ (Yf hi);refine Zbkv _ _ _ _ _ _ ?_;rw[if_pos (by omega),Yi hi,okF,entOk];refine⟨by omega,c.Entries[i],by rw[Yg];exact Ya hi,_,Zdz _ _ _,?_⟩;rcases tf (inR c.Entries[i].Version 1 999)with e|e
  .rw[e];simp
  rw[e,if_pos rfl];refine⟨_,Zdz _ _ _,?_⟩;rcases tf (inR c.Entries[i].Used 1 c.Clock)with e2|e2
  .rw[e2];simp
  rw[e2,if_pos rfl];refine⟨_,Z7t hm hq hr,?_⟩;rcases tf (Zcd m c.Entries[i].Zc c.Entries[i].Region)with e3|e3
  .rw[e3];simp
  rw[e3,if_pos rfl];refine⟨by omega,_,Zb30 _ _ (by show(List.take _ _).length<=_;rw[Yo];omega),?_⟩;rw[Yg,show w ((i:Int)+1)=((i+1:Nat):Int)from by rw[show w ((i:Int)+1)=(i:Int)+1 from h4];simp];rcases tf (Zgn (c.Entries.take i) c.Entries[i])with e4|e4
  .rw[e4,if_neg (by simp),ih];simp
  .rw[e4];simp
theorem Zpz(m:Ze)(hm:LeM m)(c:Zk)(hc:LeC c):Zdg m c=some (Bo (Zbr m c),[]):=by
 refine Zb0c _ _ _ ⟨_,Zdz _ _ _,?_⟩;unfold Zbr;rcases tf (inR c.Clock 0 1000000)with e|e
 .rw[e];simp
 rw[e,if_pos rfl];by_cases h:4<(c.Entries.length:Int)
 .rw[if_pos h]
  have:¬(c.Entries.length:Int)<=4:=by omega
  simp[this]
 .rw[if_neg h];have h2:(c.Entries.length:Int)<=4:=by omega
  have:=Zb31 m hm c hc 0 (Yd _);rw[Yk]at this;simpa[h2]using this
theorem Zb32(m:Ze)(c:Zk)(hc:LeC c)(i:Nat)(hi:i<c.Entries.length)(e:Zd)(r:Bool)(hr:Zof m c (w ((i:Int)+1))=some (Bo r,[])):∀k,k<=i->Zsd m c e i k=some (Bo (!Zgn ((c.Entries.take i).drop k) e && r),[]):=by
 have hl:=hc.1;refine down _ ?_ ?_
 .refine Zbjg _ _ _ _ _ _ ?_;rw[if_neg (by omega),hr,Yc7 (by rw[Yo];omega)];simp[Zgn]
 .intro k hk ih;have h4:=Zw (i:=k) (by omega);have hkl:k<(c.Entries.take i).length:=by rw[Yo];omega
  refine Zbjg _ _ _ _ _ _ ?_;rw[if_pos (by omega),Yi hkl];refine⟨by omega,c.Entries[k],by rw[Yg];exact Ya (by omega),?_⟩;rw[show w ((k:Int)+1)=((k+1:Nat):Int)from by rw[show w ((k:Int)+1)=(k:Int)+1 from h4];simp];rw[List.getElem_take];by_cases h:c.Entries[k].Used=e.Used
  .rw[if_pos h];simp[Zgn,h]
  .rw[if_neg h,ih];simp[Zgn,h]
theorem Zb33(m:Ze)(hm:LeM m)(c:Zk)(hc:LeC c):∀i,i<=c.Entries.length->Zof m c i=some (Bo (okF m c (c.Entries.drop i) i && (inR c.Clock 0 1000000 && decide ((c.Entries.length:Int)<=4))),[]):=by
 have hl:=hc.1;refine down _ ?_ ?_
 .refine Zbjf _ _ _ _ ?_;rw[if_neg (by omega)];refine⟨_,Zcu _ _ _,?_⟩;rcases tf (inR c.Clock 0 1000000)with e|e
  .rw[e];simp
  .rw[e];simp[okF]
 .intro i hi ih;have h4:=Zw (i:=i) (by omega);have hw:w ((i:Int)+1)=((i+1:Nat):Int):=by rw[show w ((i:Int)+1)=(i:Int)+1 from h4];simp
  obtain⟨hq,hr⟩:=hc.2 _ (Yf hi);refine Zbjf _ _ _ _ ?_;rw[if_pos (by omega),Yi hi,okF,entOk];refine⟨by omega,c.Entries[i],by rw[Yg];exact Ya hi,_,Zcu _ _ _,?_⟩;rcases tf (inR c.Entries[i].Version 1 999)with e|e
  .rw[e];simp
  rw[e,if_pos rfl];refine⟨_,Zcu _ _ _,?_⟩;rcases tf (inR c.Entries[i].Used 1 c.Clock)with e2|e2
  .rw[e2];simp
  rw[e2,if_pos rfl];refine⟨_,Zzb hm hq hr,?_⟩;rcases tf (Zcd m c.Entries[i].Zc c.Entries[i].Region)with e3|e3
  .rw[e3];simp
  rw[e3,if_pos rfl];have:=Zb32 m c hc i hi c.Entries[i] _ (by rw[hw];exact ih) 0 (Yd _);rw[Yk]at this;refine Yb this ?_;simp[Bool.and_assoc]
theorem Zzh(m:Ze)(hm:LeM m)(c:Zk)(hc:LeC c):Zfi m c=some (Bo (Zbr m c),[]):=by
 have:=Zb33 m hm c hc 0 (Yd _);rw[Yk]at this;refine Zbx4 _ _ _ (Yb this ?_);unfold Zbr;rcases tf (inR c.Clock 0 1000000)with e|e<;>rw[e]<;>simp[Bool.and_comm]
abbrev Lq(q:Zc):Prop:=q.Atoms.length<=4294967296/\∀a∈q.Atoms,a.Vars.length<=4294967296
abbrev Lr(r:Region):Prop:=r.Plan.Steps.length<=4294967296/\r.Box.Low.length<=4294967296/\r.Box.High.length<=4294967296
abbrev Lc(es:List Zd):Prop:=es.length<=4294967296/\∀e∈es,Lq e.Zc/\Lr e.Region
theorem Lq.le{q:Zc}(h:Lq q):LeQ q:=⟨by have:=h.1;omega,λa ha=>by have:=h.2 a ha;omega⟩
theorem Lc.le{c:Zk}(h:Lc c.Entries):LeC c:=⟨by have:=h.1;omega,λe he=>⟨(h.2 e he).1.le,by have:=(h.2 e he).2.2.1;omega,by have:=(h.2 e he).2.2.2;omega⟩⟩
def qRes(n:Int)(cc:List Atom):AV×List Blk:=if cc=[]then(.agg [I n,.t .nil],[])else(.agg [I n,.own 0],[.arr 213 2 true (cc.map Atom.c)])
def rRes(r:Region):AV×List Blk:=(.agg [.own 0,.own 1,.own 2,I r.Percent],[.arr 162 3 true (r.Plan.Steps.map Zb.c),.arr 3 1 true (r.Box.Low.map ic),.arr 3 1 true (r.Box.High.map ic)])
def cRes(n:Int)(es:List Zd):AV×List Blk:=if es=[]then(.agg [I n,.t .nil],[])else(.agg [I n,.own 0],[.arr 63 8 true (es.map Zd.c)])
theorem Zb34(a b:Int)(as':List Atom)(h:as'.length<=4294967296/\∀a∈as',a.Vars.length<=4294967296):∀i,i<=as'.length->∀acc,acc.length=i->Zsh a b acc as' as'.length i=some (.agg [I b,.own 0],[.arr 213 2 true ((acc++as'.drop i).map Atom.c)]):=by
 refine down _ ?_ ?_
 .intro acc ho;refine Zbji _ _ _ _ _ _ _ ?_;rw[if_neg (by omega),Yy];simp
 .intro i hi ih acc ho;have h5:=Zw (i:=i) (by omega);refine Zbji _ _ _ _ _ _ _ ?_;rw[if_pos (by omega)];refine⟨by omega,_,Ya hi,_,Zpt _ (by have:=h.2 _ (Yf hi);omega),by omega,?_⟩;have ih:=ih (acc++[as'[i]]) (by simp[ho]);rw[Yz,List.singleton_append,<-Yi hi]at ih;rw[show w ((i:Int)+1)=((i+1:Nat):Int)from h5];exact ih
theorem Z7x(q:Zc)(h:Lq q):Ze1 q=some (qRes q.Zf q.Atoms):=by
 refine Zbye _ _ (Zbyd _ _ _ _ _ _ ?_);unfold qRes
 cases he:q.Atoms with
 |nil=>simp
 |cons a as' =>
  rw[if_pos (by simp)];have hv:=h.2 a (by rw[he];simp);refine⟨by omega,a,rfl,_,Zpt _ (by omega),?_⟩;have:=Zb34 0 q.Zf (a::as') (by rw[<-he];exact h) 1 (by simp) [a] rfl;rw[show w (0+1)=((1:Nat):Int)from by decide,if_neg (by simp)];exact this
theorem Zb35(b:Box)(h1:b.Low.length<=4294967296)(h2:b.High.length<=4294967296):Zw7 b=some (.agg [.own 0,.own 1],[.arr 3 1 true (b.Low.map ic),.arr 3 1 true (b.High.map ic)]):=Zbyf _ _ ⟨_,Zpt _ (by omega),_,Zpt _ (by omega),rfl⟩
theorem Zbm9(p:Plan)(h:p.Steps.length<=4294967296):Zdx p=some (.agg [.own 0],[.arr 162 3 true (p.Steps.map Zb.c)]):=Z6n _ _ ⟨by omega,rfl⟩
theorem Z7y(r:Region)(h:Lr r):Ze2 r=some (rRes r):=Zbyg _ _ ⟨_,Zbm9 _ h.1,_,_,Zb35 _ h.2.1 h.2.2,rfl⟩
theorem entE(e:Zd)(he:e.Zc.Atoms=[]):(⟨⟨e.Zc.Zf,[]⟩,⟨⟨e.Region.Plan.Steps⟩,⟨e.Region.Box.Low,e.Region.Box.High⟩,e.Region.Percent⟩,e.Version,e.Used⟩:Zd)=e:=by rw[<-he]
theorem Zb36(a b:Int)(es:List Zd)(h:Lc es):∀i,i<=es.length->∀acc,acc.length=i->Zlw a b acc es es.length i=some (.agg [I b,.own 0],[.arr 63 8 true ((acc++es.drop i).map Zd.c)]):=by
 refine down _ ?_ ?_
 .intro acc ho;refine Zbjj _ _ _ _ _ _ _ ?_;rw[if_neg (by omega),Yy];simp
 .intro i hi ih acc ho;have h5:=Zw (i:=i) (by have:=h.1;omega);have hl:=h.1;obtain⟨g1,g2⟩:=h.2 _ (Yf hi);have ih:=ih (acc++[es[i]]) (by simp[ho]);rw[Yz,show[es[i]]++es.drop (i+1)=es.drop i by rw[Yi hi];rfl]at ih;have q1:=Z7x _ g1;have q2:=Z7y _ g2;refine Zbjj _ _ _ _ _ _ _ ?_;rw[if_pos (by omega)];refine⟨by omega,_,Ya hi,?_⟩;rw[show w ((i:Int)+1)=((i+1:Nat):Int)from h5];unfold qRes at q1;by_cases he:es[i].Zc.Atoms=[]
  .rw[if_pos he]at q1;exact .inl ⟨_,q1,_,_,_,_,q2,by omega,by rw[entE _ he];exact ih⟩
  .rw[if_neg he]at q1;exact .inr ⟨_,_,q1,_,_,_,_,q2,by omega,ih⟩
theorem Z7z(c:Zk)(h:Lc c.Entries):Zf7 c=some (cRes c.Clock c.Entries):=by
 refine Zbyi _ _ (Zbyh _ _ _ _ _ _ ?_);unfold cRes
 cases he:c.Entries with
 |nil=>simp
 |cons e es =>
  rw[if_pos (by simp),if_neg (by simp)];rw[he]at h;obtain⟨g1,g2⟩:=h.2 e (by simp);have q1:=Z7x _ g1;have q2:=Z7y _ g2;have ih:=Zb36 0 c.Clock (e::es) h 1 (by simp) [e] rfl;simp only[List.drop_succ_cons,Yk,List.singleton_append]at ih;refine⟨by omega,e,rfl,?_⟩;rw[show w (0+1)=((1:Nat):Int)from by decide];unfold qRes at q1;by_cases he2:e.Zc.Atoms=[]
  .rw[if_pos he2]at q1;exact .inl ⟨_,q1,_,_,_,_,q2,by rw[entE _ he2];exact ih⟩
  .rw[if_neg he2]at q1;exact .inr ⟨_,_,q1,_,_,_,_,q2,ih⟩
theorem Zb37(q:Zc)(h:Lq q)(a b:Int):∀i,i<=q.Atoms.length->∀acc,acc.length=i->Zsa q a b acc i=some (.agg [I b,.own 0],[.arr 213 2 true ((acc++q.Atoms.drop i).map Atom.c)]):=by
 refine down _ ?_ ?_
 .intro acc ho;refine Zbjd _ _ _ _ _ _ ?_;rw[if_neg (by omega),Yy];simp
 .intro i hi ih acc ho;have h5:=Zw (i:=i) (by have:=h.1;omega);have hl:=h.1;refine Zbjd _ _ _ _ _ _ ?_;rw[if_pos (by omega)];refine⟨by omega,_,Ya hi,by have:=h.2 _ (Yf hi);omega,by omega,?_⟩;have ih:=ih (acc++[q.Atoms[i]]) (by simp[ho]);rw[Yz,List.singleton_append,<-Yi hi]at ih;rw[show w ((i:Int)+1)=((i+1:Nat):Int)from h5];exact ih
def qResO(n:Int)(cc:List Atom):AV×List Blk:=(.agg [I n,.own 0],[.arr 213 2 true (cc.map Atom.c)])
theorem Zuo(q:Zc)(h:Lq q):Zgy q=some (qResO q.Zf q.Atoms):=by
 refine Zbxw _ _ (Zbxv _ _ _ _ _ ?_);unfold qResO;by_cases he:q.Atoms=[]
 .simp[he]
 .have hlt:0<q.Atoms.length:=Ycb.2 he;rw[if_pos (by omega)];have hv:=h.2 _ (Yf hlt);refine⟨by omega,_,Ya hlt,by omega,?_⟩;have:=Zb37 q h 0 q.Zf 1 (by omega) [q.Atoms[0]] rfl;rw[show w (0+1)=((1:Nat):Int)from by decide,this,List.singleton_append,<-Yi hlt,Yk]
theorem Zb38(b:Box)(h1:b.Low.length<=4294967296)(h2:b.High.length<=4294967296):Zwz b=some (.agg (b.c.map .t),[]):=Zbxx _ _ ⟨by omega,by omega,rfl⟩
theorem Zzi(r:Region)(h:Lr r):Zjt r=some (.agg [.own 0,L 1 (r.Box.Low.map ic),L 1 (r.Box.High.map ic),I r.Percent],[.arr 162 3 true (r.Plan.Steps.map Zb.c)]):=Zbxy _ _ ⟨by have:=h.1;omega,_,Zb38 _ h.2.1 h.2.2,rfl⟩
theorem Zbna(e:Zd)(h:Lq e.Zc/\Lr e.Region):Zsb e=some (.agg [I e.Zc.Zf,.own 0,.own 1,L 1 (e.Region.Box.Low.map ic),L 1 (e.Region.Box.High.map ic),I e.Region.Percent,I e.Version,I e.Used],[.arr 213 2 true (e.Zc.Atoms.map Atom.c),.arr 162 3 true (e.Region.Plan.Steps.map Zb.c)]) :=
 Zbx1 _ _ ⟨_,_,Zuo _ h.1,_,e.Region.Box,_,Zzi _ h.2,rfl⟩
theorem Zb39(c:Zk)(h:Lc c.Entries)(a b:Int):∀i,i<=c.Entries.length->∀acc,acc.length=i->Zsc c a b false acc i=some (.agg [I b,.own 0],[.arr 63 8 false ((acc++c.Entries.drop i).map Zd.c)]):=by
 refine down _ ?_ ?_
 .intro acc ho;refine Zbje _ _ _ _ _ _ _ ?_;rw[if_neg (by omega),Yy];simp
 .intro i hi ih acc ho;have h5:=Zw (i:=i) (by have:=h.1;omega);have hl:=h.1;have ih:=ih (acc++[c.Entries[i]]) (by simp[ho]);rw[Yz,show[c.Entries[i]]++c.Entries.drop (i+1)=c.Entries.drop i by rw[Yi hi];rfl]at ih;refine Zbje _ _ _ _ _ _ _ ?_;rw[if_pos (by omega)];refine⟨by omega,_,Ya hi,?_⟩;rw[show w ((i:Int)+1)=((i+1:Nat):Int)from h5];exact⟨_,_,_,c.Entries[i].Region.Box,_,_,_,Zbna _ (h.2 _ (Yf hi)),by omega,ih⟩
def cResS(n:Int)(es:List Zd):AV×List Blk:=if es=[]then(.agg [I n,.t .nil],[])else(.agg [I n,.own 0],[.arr 63 8 false (es.map Zd.c)])
theorem Zbnb(c:Zk)(h:Lc c.Entries):Zin c=some (cResS c.Clock c.Entries):=by
 refine Zbx3 _ _ (Zbx2 _ _ _ _ _ ?_);unfold cResS;by_cases he:c.Entries=[]
 .simp[he]
 .have hlt:0<c.Entries.length:=Ycb.2 he;rw[if_pos (by omega),if_neg he];have ih:=Zb39 c h 0 c.Clock 1 (by omega) [c.Entries[0]] rfl;rw[List.singleton_append,<-Yi hlt,Yk]at ih;refine⟨by omega,_,Ya hlt,?_⟩;rw[show w (0+1)=((1:Nat):Int)from by decide];exact⟨_,_,_,c.Entries[0].Region.Box,_,_,_,Zbna _ (h.2 _ (Yf hlt)),ih⟩
theorem dropE{α:Type}{xs ys:List α}{i:Nat}(h:i<xs.length)(h':i<ys.length):(xs.drop i=ys.drop i)↔(xs[i]=ys[i]/\xs.drop (i+1)=ys.drop (i+1)):=by rw[Yi h,Yi h',List.cons.injEq]
theorem l_slEq(xs ys:List Int)(hl:ys.length=xs.length)(hx:xs.length<=4294967296):∀i,i<=xs.length->Zok xs ys xs.length i=some (Bo (decide (xs.drop i=ys.drop i)),[]):=by
 refine down _ ?_ ?_
 .refine Zyk _ _ _ _ _ ?_;rw[if_neg (by omega),Yy,<-hl,Yy];simp
 .intro i hi ih;have h5:=Zw (i:=i) (by omega);have hi':i<ys.length:=by omega
  refine Zyk _ _ _ _ _ ?_;rw[if_pos (by omega)];refine⟨by omega,_,Ya hi,_,Ya hi',?_⟩;rw[show w ((i:Int)+1)=((i+1:Nat):Int)from h5];by_cases c:xs[i]=ys[i]
  .rw[if_pos (by simpa using c),ih];simp[dropE hi hi',c]
  .rw[if_neg (by simpa using c)];simp[dropE hi hi',c]
theorem x_slEq(xs ys:List Int)(hx:xs.length<=4294967296):Zjv xs ys=some (Bo (decide (xs=ys)),[]):=by
 refine Zbjk _ _ _ ?_;by_cases c:(xs.length:Int)=(ys.length:Int)
 .rw[if_pos c];simpa using l_slEq xs ys (by omega) hx 0 (Yd _)
 .rw[if_neg c]
  have:¬xs=ys:=λhc=>c (by rw[hc])
  simp[this]
theorem Zb4a(a b:Atom)(h:a.Vars.length<=4294967296):Zxa a b=some (Bo (decide (a=b)),[]):=by
 refine Zbyj _ _ _ ?_;by_cases c:a.Name=b.Name
 .rw[if_pos c];exact⟨_,x_slEq _ _ h,by simp[Atom.ext_iff,c]⟩
 .rw[if_neg c];simp[Atom.ext_iff,c]
theorem l_eqF(xs ys:List Atom)(hl:ys.length=xs.length)(hx:xs.length<=4294967296/\∀a∈xs,a.Vars.length<=4294967296):∀i,i<=xs.length->Zsi ys xs xs.length i=some (Bo (decide (xs.drop i=ys.drop i)),[]):=by
 refine down _ ?_ ?_
 .refine Zbjl _ _ _ _ _ ?_;rw[if_neg (by omega),Yy,<-hl,Yy];simp
 .intro i hi ih;have h5:=Zw (i:=i) (by omega);have hi':i<ys.length:=by omega
  refine Zbjl _ _ _ _ _ ?_;rw[if_pos (by omega)];refine⟨by omega,_,Ya hi,_,Ya hi',_,Zb4a _ _ (hx.2 _ (Yf hi)),?_⟩;rw[show w ((i:Int)+1)=((i+1:Nat):Int)from h5];by_cases c:xs[i]=ys[i]
  .rw[if_pos (by simpa using c),ih];simp[dropE hi hi',c]
  .rw[if_neg (by simpa using c)];simp[dropE hi hi',c]
theorem Zbnc(a b:Zc)(h:Lq a):Zlx a b=some (Bo (decide (a=b)),[]):=by
 refine Zbyl _ _ _ ?_;by_cases c:a.Zf=b.Zf
 .rw[if_pos c];refine⟨decide (a.Atoms=b.Atoms),Zbyk _ _ _ ?_,by simp[Zc.ext_iff,c]⟩;by_cases c2:(a.Atoms.length:Int)=(b.Atoms.length:Int)
  .rw[if_pos c2];simpa using l_eqF a.Atoms b.Atoms (by omega) h 0 (Yd _)
  .rw[if_neg c2]
   have:¬a.Atoms=b.Atoms:=λhc=>c2 (by rw[hc])
   simp[this]
 .rw[if_neg c];simp[Zc.ext_iff,c]
def cmpEnd(a b:List Int):Int:=if a.length<b.length then -1 else if b.length<a.length then 1 else 0
theorem j_cmp(a b:List Int)(i:Int)(x:Bool):Ztg a b i x=some (I (cmpEnd a b),[]):=by
 refine Zb0d _ _ _ _ _ ?_;unfold cmpEnd;by_cases c:a.length<b.length
 .rw[if_pos (by omega),if_pos c]
 .rw[if_neg (by omega),if_neg c];by_cases c2:b.length<a.length
  .rw[if_pos (by omega),if_pos c2]
  .rw[if_neg (by omega),if_neg c2]
theorem l_cmp(a b:List Int)(ha:a.length<=4294967296):∀i,i<=a.length->Ztf a b i=some (I (match Zff (a.drop i) (b.drop i)with|some r=>r|none=>cmpEnd a b),[]):=by
 refine down _ ?_ ?_
 .refine Zbkw _ _ _ _ ?_;rw[if_neg (by omega),Yy,j_cmp];simp[Zff]
 .intro i hi ih;have h5:=Zw (i:=i) (by omega);refine Zbkw _ _ _ _ ?_;rw[if_pos (by omega)];by_cases c:i<b.length
  .rw[if_pos (by omega)];refine⟨by omega,_,Ya hi,_,Ya c,?_⟩;rw[show w ((i:Int)+1)=((i+1:Nat):Int)from h5,Yi hi,Yi c,Zff];by_cases c1:a[i]<b[i]
   .rw[if_pos (by simpa using c1),if_pos c1]
   .rw[if_neg (by simpa using c1),if_neg c1];by_cases c2:b[i]<a[i]
    .rw[if_pos (by simpa using c2),if_pos (by simpa using c2)]
    .rw[if_neg (by simpa using c2),if_neg (by simpa using c2)];exact ih
  .rw[if_neg (by omega),j_cmp,Yi hi,Ydg (by omega:b.length<=i)];simp[Zff]
theorem Z70(a b:List Int)(ha:a.length<=4294967296):Zme a b=some (I (Z0r a b),[]):=by
 have:=l_cmp a b ha 0 (Yd _);simp only[Yk]at this;refine Zb0e _ _ _ this
theorem l_sEq(a b:Zc)(hl:b.Atoms.length=a.Atoms.length)(h:Lq a):∀i,i<=a.Atoms.length->Zth a b i=some (Bo (decide (a.Atoms.drop i=b.Atoms.drop i)),[]):=by
 refine down _ ?_ ?_
 .refine Zbkx _ _ _ _ ?_;rw[if_neg (by omega),Yy,<-hl,Yy];simp
 .intro i hi ih;have h5:=Zw (i:=i) (by have:=h.1;omega);have hi':i<b.Atoms.length:=by omega
  refine Zbkx _ _ _ _ ?_;rw[if_pos (by omega)];refine⟨by omega,_,Ya hi,_,Ya hi',?_⟩;rw[show w ((i:Int)+1)=((i+1:Nat):Int)from h5];by_cases c:a.Atoms[i].Name=b.Atoms[i].Name
  .rw[if_pos (by simpa using c)];refine⟨_,Z70 _ _ (h.2 _ (Yf hi)),?_⟩;by_cases c2:a.Atoms[i].Vars=b.Atoms[i].Vars
   .rw[if_pos ((Zvq _ _).2 (by simpa using c2)),ih]
    have:a.Atoms[i]=b.Atoms[i]:=Atom.ext c c2
    simp[dropE hi hi',this]
   .rw[if_neg (λhc=>c2 (by simpa using(Zvq _ _).1 hc))]
    have:¬a.Atoms[i]=b.Atoms[i]:=λhc=>c2 (by rw[hc])
    simp[dropE hi hi',this]
  .rw[if_neg (by simpa using c)]
   have:¬a.Atoms[i]=b.Atoms[i]:=λhc=>c (by rw[hc])
   simp[dropE hi hi',this]
theorem Zbnd(a b:Zc)(h:Lq a):Zpc a b=some (Bo (decide (a=b)),[]):=by
 refine Zb0f _ _ _ ?_;by_cases c:a.Zf=b.Zf
 .rw[if_pos c];by_cases c2:(a.Atoms.length:Int)=(b.Atoms.length:Int)
  .rw[if_pos c2];have:=l_sEq a b (by omega) h 0 (Yd _);simp only[Yk]at this;rw[show((0:Nat):Int)=0 from rfl]at this;rw[this];simp[Zc.ext_iff,c]
  .rw[if_neg c2]
   have:¬a.Atoms=b.Atoms:=λhc=>c2 (by rw[hc])
   simp[Zc.ext_iff,this]
 .rw[if_neg c];simp[Zc.ext_iff,c]
def fits(q:Zc)(v:Int)(l:List Int)(e:Zd):Bool:=decide (e.Version=v) && (decide (e.Zc=q) && Zgs e.Region.Box.Low e.Region.Box.High l)
theorem l_findE(es:List Zd)(h:Lc es)(q:Zc)(v:Int)(l:List Int)(hl:Le l):∀i,i<=es.length->Zsn es v q l es.length i=some (I (Zb3 (fits q v l) (es.drop i) i),[]):=by
 refine down _ ?_ ?_
 .refine Zbjp _ _ _ _ _ _ _ ?_;rw[if_neg (by omega),Yy];rfl
 .intro i hi ih;have h5:=Zw (i:=i) (by have:=h.1;omega);obtain⟨g1,g2⟩:=h.2 _ (Yf hi);have q1:Zxc es[i] v q l=some (Bo (fits q v l es[i]),[]):=by
   refine Zbyr _ _ _ _ _ ?_;unfold fits;by_cases c:es[i].Version=v
   .rw[if_pos c];refine⟨_,Zbnc _ _ g1,?_⟩;by_cases c2:es[i].Zc=q
    .rw[if_pos (by simp[c2])];exact⟨_,Zbm6 _ ⟨by have:=g2.2.1;omega,by have:=g2.2.2;omega⟩ _ hl,by simp[c,c2]⟩
    .rw[if_neg (by simp[c2])];simp[c2]
   .rw[if_neg c];simp[c]
  refine Zbjp _ _ _ _ _ _ _ ?_;rw[if_pos (by omega)];refine⟨by omega,_,Ya hi,_,q1,?_⟩;rw[Zvs _ hi];split
  .rfl
  .rw[show w ((i:Int)+1)=((i+1:Nat):Int)from h5];exact ih
theorem Z71(c:Zk)(h:Lc c.Entries)(q:Zc)(v:Int)(l:List Int)(hl:Le l):Zf8 c q v l=some (I (Zb3 (fits q v l) c.Entries 0),[]) :=
 Zbyt _ _ _ _ _ ⟨_,Zbys _ _ _ _ _ (l_findE _ h q v l hl 0 (Yd _)),rfl⟩
theorem l_sfind(c:Zk)(h:Lc c.Entries)(q:Zc)(v:Int)(l:List Int)(hl:Le l):∀i,i<=c.Entries.length->Zmg c q v l i=some (I (Zb3 (fits q v l) (c.Entries.drop i) i),[]):=by
 refine down _ ?_ ?_
 .refine Zbky _ _ _ _ _ _ ?_;rw[if_neg (by omega),Yy];rfl
 .intro i hi ih;have h5:=Zw (i:=i) (by have:=h.1;omega);obtain⟨g1,g2⟩:=h.2 _ (Yf hi);refine Zbky _ _ _ _ _ _ ?_;rw[if_pos (by omega)];refine⟨by omega,_,Ya hi,?_⟩;rw[Zvs _ hi,show w ((i:Int)+1)=((i+1:Nat):Int)from h5];unfold fits;by_cases c1:c.Entries[i].Version=v
  .rw[if_pos (by simpa using c1)];refine⟨_,Zbnd _ _ g1,?_⟩;by_cases c2:c.Entries[i].Zc=q
   .rw[if_pos (by simpa using c2)];refine⟨_,Zbm7 _ ⟨by have:=g2.2.1;omega,by have:=g2.2.2;omega⟩ _ hl,?_⟩;rcases tf (Zgs c.Entries[i].Region.Box.Low c.Entries[i].Region.Box.High l)with e|e
    .rw[e,if_neg (by simp),if_neg (by simp)];exact ih
    .rw[e,if_pos rfl,if_pos (by simp[c1,c2])]
   .rw[if_neg (by simpa using c2),if_neg (by simp[c2])];exact ih
  .rw[if_neg (by simpa using c1),if_neg (by simp[c1])];exact ih
theorem Zbne(c:Zk)(h:Lc c.Entries)(q:Zc)(v:Int)(l:List Int)(hl:Le l):Zmf c q v l=some (I (Zb3 (fits q v l) c.Entries 0),[]) :=
 Zb0g _ _ _ _ _ (l_sfind c h q v l hl 0 (Yd _))
theorem Zbnf{α:Type}(p:α->Bool):∀(xs:List α) (i:Nat),Zb3 p xs i=-1\/∃j:Nat,Zb3 p xs i=((i+j:Nat):Int)/\∃hj:j<xs.length,p xs[j]=true
 |[],_=>.inl rfl
 |x::xs,i=>by
  unfold Zb3;split
  .rename_i h;exact .inr ⟨0,rfl,by simp,by simpa using h⟩
  .rcases Zbnf p xs (i+1)with h|⟨j,h1,h2,h3⟩
   .exact .inl h
   .exact .inr ⟨j+1,by rw[h1];omega,by simp;omega,by simpa using h3⟩
end Go.Proofs.YtcfaekfjkeobhaaGreat
