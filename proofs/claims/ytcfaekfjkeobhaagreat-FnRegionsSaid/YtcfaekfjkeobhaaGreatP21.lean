/-
  Parts of the proofs for this seat: GX WD WM.
-/
import Derived.Test.YtcfaekfjkeobhaaGreatP20
set_option linter.unusedSectionVars false
set_option linter.unusedSimpArgs false
set_option linter.unusedVariables false
set_option maxRecDepth 100000
set_option maxHeartbeats 4000000
namespace Go.Proofs.YtcfaekfjkeobhaaGreat
open Go.AM
theorem Z4n:∀(l:List Int) (i:Nat) (e v:Int),l[i]?=some e->(l.set i v).sum=l.sum-e+v
 |[],i,e,v,h=>by simp at h
 |a::l,0,e,v,h=>by simp at h;subst h;simp;omega
 |a::l,i+1,e,v,h=>by simp at h;simp[Z4n l i e v h];omega
theorem Zsy:∀l:List Int,Zca l=true->0<=l.sum/\l.sum<=7*l.length
 |[],h=>by simp
 |a::l,h=>by
  simp only[Zca,Ybc,Yc]at h;have h1:=Zsy l h.2;have h2:=h.1;simp only[inR,decide_eq_true_eq]at h2;simp only[List.sum_cons,Yt];omega
theorem Zwu:∀{xs ys:List Int} {i:Nat} {b v:Int},Zba xs ys=true->ys[i]?=some b->b<=v->Zba (xs.set i v) ys=true
 |[],ys,i,b,v,h,_,_=>by simp[Zba]
 |x::xs,[],i,b,v,h,hb,_=>by simp at hb
 |x::xs,y::ys,0,b,v,h,hb,hv=>by simp at hb;subst hb;simp[Zba]at h|-;exact⟨hv,h.2⟩
 |x::xs,y::ys,i+1,b,v,h,hb,hv=>by simp at hb;simp[Zba]at h|-;exact⟨h.1,Zwu h.2 hb hv⟩
theorem Zwv:∀{xs ys:List Int} {i:Nat} {b v:Int},Zba xs ys=true->xs[i]?=some b->v<=b->Zba xs (ys.set i v)=true
 |[],ys,i,b,v,h,hb,_=>by simp at hb
 |x::xs,[],i,b,v,h,hb,_=>by simp[Zba]
 |x::xs,y::ys,0,b,v,h,hb,hv=>by simp at hb;subst hb;simp[Zba]at h|-;exact⟨hv,h.2⟩
 |x::xs,y::ys,i+1,b,v,h,hb,hv=>by simp at hb;simp[Zba]at h|-;exact⟨h.1,Zwv h.2 hb hv⟩
theorem Z4o:∀{lo xs hi:List Int},xs.length=lo.length->xs.length=hi.length->Zba xs lo=true->Zba hi xs=true->Zca lo=true->Zca hi=true->Zca xs=true
 |lo,[],hi,_,_,_,_,_,_=>by simp[Zca]
 |[],x::xs,hi,h,_,_,_,_,_=>by simp at h
 |a::lo,x::xs,[],_,h,_,_,_,_=>by simp at h
 |a::lo,x::xs,b::hi,h1,h2,h3,h4,h5,h6=>by
  simp only[Zba,Yc,decide_eq_true_eq]at h3 h4;simp only[Zca,Ybc,Yc,inR,decide_eq_true_eq]at h5 h6|-;simp at h1 h2;exact⟨by omega,Z4o (by omega) (by omega) h3.2 h4.2 h5.2 h6.2⟩
theorem Z4p:∀{a b c:List Int},a.length=b.length->b.length=c.length->Zba a b=true->Zba b c=true->Zba a c=true
 |[],b,c,_,_,_,_=>by simp[Zba]
 |x::a,[],c,h,_,_,_=>by simp at h
 |x::a,y::b,[],_,h,_,_=>by simp at h
 |x::a,y::b,z::c,h1,h2,h3,h4=>by
  simp only[Zba,Yc,decide_eq_true_eq]at h3 h4|-;simp at h1 h2;exact⟨by omega,Z4p (by omega) (by omega) h3.2 h4.2⟩
theorem Zww:∀a:List Int,Zba a a=true
 |[]=>by simp[Zba]
 |x::a=>by simp[Zba,Zww a]
structure Inr (lim:Box) (lo hi:List Int):Prop where
 l1:lo.length=lim.Low.length
 l2:hi.length=lim.Low.length
 d1:Zba lo lim.Low=true
 d2:Zba hi lo=true
 d3:Zba lim.High hi=true
theorem Zlw{lo hi:List Int}(h:Z6 lo hi=true):0<lo.length/\lo.length<=16/\Zca lo=true/\Zca hi=true/\hi.length=lo.length/\Zba hi lo=true:=by
 unfold Z6 Z9 dom at h;simp only[Yc,decide_eq_true_eq]at h;obtain⟨⟨⟨h1,h2,h3⟩,h4,h5⟩,h6,h7⟩:=h;exact⟨h1,by omega,h2,h4,h6,h7⟩
theorem Inr.loc{lim:Box}{lo hi:List Int}(hL:Z6 lim.Low lim.High=true)(h:Inr lim lo hi):Zca lo=true/\Zca hi=true:=by
 obtain⟨b1,b2,b3,b4,b5,b6⟩:=Zlw hL;have e1:=h.l1;have e2:=h.l2;exact⟨Z4o (hi:=lim.High) (by omega) (by omega) h.d1 (Z4p (by omega) (by omega) h.d3 h.d2) b3 b4,Z4o (lo:=lim.Low) (by omega) (by omega) (Z4p (by omega) (by omega) h.d2 h.d1) h.d3 b3 b4⟩
theorem Inr.valid{lim:Box}{lo hi:List Int}(hL:Z6 lim.Low lim.High=true)(h:Inr lim lo hi):Z6 lo hi=true:=by
 obtain⟨b1,b2,b3,b4,b5,b6⟩:=Zlw hL;obtain⟨a1,a2⟩:=h.loc hL;have e1:=h.l1;have e2:=h.l2;unfold Z6 Z9 dom;rw[a1,a2,h.d2];simp;omega
theorem Zjy{l:List Int}{i:Nat}(h:i<l.length):l[i]?=some l[i]:=by simp[h]
theorem loc_at{l:List Int}(h:Zca l=true){i:Nat}{e:Int}(he:l[i]?=some e):0<=e/\e<=7:=by
 unfold Zca at h;rw[Yl]at h;have:=h e (Ys he);simpa[inR]using this
theorem Zsz:∀{xs ys:List Int} {i:Nat} {a b:Int},Zba xs ys=true->xs[i]?=some a->ys[i]?=some b->b<=a
 |[],ys,i,a,b,h,ha,hb=>by simp at ha
 |x::xs,[],i,a,b,h,ha,hb=>by simp at hb
 |x::xs,y::ys,0,a,b,h,ha,hb=>by simp at ha hb;subst ha hb;simp[Zba]at h;exact h.1
 |x::xs,y::ys,i+1,a,b,h,ha,hb=>by simp at ha hb;simp[Zba]at h;exact Zsz h.2 ha hb
def mu(lo hi:List Int):Nat:=(7*(hi.length:Int)-hi.sum+lo.sum).toNat
theorem Zwx{l:List Int}{i:Nat}{e v:Int}(he:l[i]?=some e):(l.set i v).set i e=l:=by
 rw[List.set_set];obtain⟨h,h2⟩:=Yq.mp he;rw[<-h2];simp
theorem Inr.mu_lo{lim:Box}{lo hi:List Int}(hL:Z6 lim.Low lim.High=true)(h:Inr lim lo hi){i:Nat}{e a:Int}(he:lo[i]?=some e)(ha:lim.Low[i]?=some a)(c:a<e):Inr lim (lo.set i (e-1)) hi/\mu (lo.set i (e-1)) hi<mu lo hi:=by
 have hi1:i<lo.length:=(Yq.mp he).1;have e1:=h.l1;have e2:=h.l2;have h':Inr lim (lo.set i (e-1)) hi:=by
  refine⟨by simp[e1],e2,Zwu h.d1 ha (by omega),?_,h.d3⟩;have g:=Zjy (l:=hi) (i:=i) (by omega);have:=Zsz h.d2 g he;exact Zwv h.d2 g (by omega)
 refine⟨h',?_⟩;obtain⟨a1,a2⟩:=h'.loc hL;have s1:=Zsy _ a1;have s2:=Zsy _ a2;have s3:=Z4n lo i e (e-1) he;unfold mu;omega
theorem Inr.mu_hi{lim:Box}{lo hi:List Int}(hL:Z6 lim.Low lim.High=true)(h:Inr lim lo hi){i:Nat}{e a:Int}(he:hi[i]?=some e)(ha:lim.High[i]?=some a)(c:e<a):Inr lim lo (hi.set i (e+1))/\mu lo (hi.set i (e+1))<mu lo hi:=by
 have hi1:i<hi.length:=(Yq.mp he).1;have e1:=h.l1;have e2:=h.l2;have h':Inr lim lo (hi.set i (e+1)):=by
  refine⟨e1,by simp[e2],h.d1,?_,Zwv h.d3 ha (by omega)⟩;have g:=Zjy (l:=lo) (i:=i) (by omega);have:=Zsz h.d2 he g;exact Zwu h.d2 g (by omega)
 refine⟨h',?_⟩;obtain⟨a1,a2⟩:=h'.loc hL;have s1:=Zsy _ a1;have s2:=Zsy _ a2;have s3:=Z4n hi i e (e+1) he;have s4:(hi.set i (e+1)).length=hi.length:=by simp
 unfold mu;omega
def TI(m:Zd)(q:Zc)(lim:Box)(pc:Int)(st:List Zb)(lo hi loc:List Int)(c:Bool)(i:Int)(r:AV×List Blk):Prop :=
 ∃e1:Int,lo[i.toNat]?=some e1/\∃e2:Int,lim.Low[i.toNat]?=some e2/\if e2<e1 then(∃v:Bool,Zib m q (⟨(⟨st⟩:Plan),(⟨(lo.set i.toNat (w (e1-1))),hi⟩:Box),pc⟩:Region)=some (Bo v,[])/\if v=true then Zd1 m q lim 0 pc st (lo.set i.toNat (w (e1-1))) hi loc true (loc.length:Int) (w (i+1))=some r else Zd1 m q lim 0 pc st ((lo.set i.toNat (w (e1-1))).set i.toNat (w ((w (e1-1))+1))) hi loc c (loc.length:Int) (w (i+1))=some r)else Zd1 m q lim 0 pc st lo hi loc c (loc.length:Int) (w (i+1))=some r
def TS(m:Zd)(q:Zc)(lim:Box)(pc:Int)(st:List Zb)(lo hi loc:List Int)(c:Bool)(i:Int)(r:AV×List Blk):Prop :=
 ∃e1:Int,lo[i.toNat]?=some e1/\∃e2:Int,lim.Low[i.toNat]?=some e2/\if e2<e1 then(∃v:Bool,Zi6 m q (⟨(⟨st⟩:Plan),(⟨(lo.set i.toNat (w (e1-1))),hi⟩:Box),pc⟩:Region)=some (Bo v,[])/\if v=true then Zdy m q lim 0 pc st (lo.set i.toNat (w (e1-1))) hi loc true (w (i+1))=some r else Zdy m q lim 0 pc st ((lo.set i.toNat (w (e1-1))).set i.toNat (w ((w (e1-1))+1))) hi loc c (w (i+1))=some r)else Zdy m q lim 0 pc st lo hi loc c (w (i+1))=some r
theorem le_of{lim:Box}{lo hi:List Int}(hL:Z6 lim.Low lim.High=true)(h:Inr lim lo hi)(st:List Zb)(pc:Int):LeR ⟨⟨st⟩,⟨lo,hi⟩,pc⟩:=by
 obtain⟨b1,b2,b3,b4,b5,b6⟩:=Zlw hL;have e1:=h.l1;have e2:=h.l2;unfold LeR Le;simp only;omega
def PV(m:Zd)(q:Zc)(st:List Zb)(pc:Int)(loc lo hi:List Int):Prop:=Zhi m q ⟨⟨st⟩,⟨lo,hi⟩,pc⟩=true/\Zba loc lo=true/\Zba hi loc=true
section
variable{m:Zd}{q:Zc}{lim:Box}{pc:Int}{st:List Zb}{loc:List Int}(hm:LeM m)(hq:LeQ q)(hL:Z6 lim.Low lim.High=true)(hR:∀lo hi,Inr lim lo hi->Zbt m q ⟨⟨st⟩,⟨lo,hi⟩,pc⟩)(hn:loc.length=lim.Low.length)
include hm hq hL hR hn
theorem Z4q{lo hi:List Int}(h:Inr lim lo hi)(hp:PV m q st pc loc lo hi)(again:Bool){i:Nat}(c:i<lim.Low.length){M:Nat}(hM:mu lo hi<=M)(hA:again=true->mu lo hi<M):∃lo2 again2,Inr lim lo2 hi/\PV m q st pc loc lo2 hi/\mu lo2 hi<=M/\(again2=true->mu lo2 hi<M)/\∀r,(Zd1 m q lim 0 pc st lo2 hi loc again2 (loc.length:Int) ((i+1:Nat):Int)=some r->TI m q lim pc st lo hi loc again i r)/\(Zdy m q lim 0 pc st lo2 hi loc again2 ((i+1:Nat):Int)=some r->TS m q lim pc st lo hi loc again i r):=by
 obtain⟨b1,b2,b3,b4,b5,b6⟩:=Zlw hL;have e1:=h.l1;have e2:=h.l2;have wi:w ((i:Int)+1)=((i+1:Nat):Int):=by rw[Zdm (by omega) (by omega)];omega
 have g1:=Zjy (l:=lo) (i:=i) (by omega);have g2:=Zjy (l:=lim.Low) (i:=i) (by omega);have b:=loc_at (h.loc hL).1 g1;have w1:w (lo[i]'(by omega)-1)=lo[i]'(by omega)-1:=Zdm (by omega) (by omega);have w2:w (lo[i]'(by omega)-1+1)=lo[i]'(by omega):=by rw[Zdm (by omega) (by omega)];omega
 unfold TI TS;rw[wi];simp only[Yd];by_cases hlt:lim.Low[i]<lo[i]'(by omega)
 .obtain⟨n1,n2⟩:=h.mu_lo hL g1 g2 hlt;have p1:=Z4h hm hq (le_of hL n1 st pc) (hR _ _ n1);have p2:=Z4i hm hq (le_of hL n1 st pc) (hR _ _ n1);rcases tf (Zhi m q ⟨⟨st⟩,⟨lo.set i (lo[i]'(by omega)-1),hi⟩,pc⟩)with e|e
  .rw[e]at p1 p2;refine⟨lo,again,h,hp,hM,hA,λr=>⟨λhr=>⟨_,g1,_,g2,?_⟩,λhr=>⟨_,g1,_,g2,?_⟩⟩⟩
   .rw[if_pos hlt,w1];refine⟨_,p1,?_⟩;rw[if_neg (by simp),w2,Zwx g1];exact hr
   .rw[if_pos hlt,w1];refine⟨_,p2,?_⟩;rw[if_neg (by simp),w2,Zwx g1];exact hr
  .rw[e]at p1 p2;have g3:=Zjy (l:=loc) (i:=i) (by omega);have g4:=Zsz hp.2.1 g3 g1;refine⟨_,true,n1,⟨e,Zwv hp.2.1 g3 (by omega),hp.2.2⟩,by omega,λ_=>by omega,λr=>⟨λhr=>⟨_,g1,_,g2,?_⟩,λhr=>⟨_,g1,_,g2,?_⟩⟩⟩
   .rw[if_pos hlt,w1];refine⟨_,p1,?_⟩;rw[if_pos rfl];exact hr
   .rw[if_pos hlt,w1];refine⟨_,p2,?_⟩;rw[if_pos rfl];exact hr
 .exact⟨lo,again,h,hp,hM,hA,λr=>⟨λhr=>⟨_,g1,_,g2,by rw[if_neg hlt];exact hr⟩,λhr=>⟨_,g1,_,g2,by rw[if_neg hlt];exact hr⟩⟩⟩
theorem dim_step{lo hi:List Int}(h:Inr lim lo hi)(hp:PV m q st pc loc lo hi)(again:Bool){i:Nat}(c:i<lim.Low.length){M:Nat}(hM:mu lo hi<=M)(hA:again=true->mu lo hi<M):∃lo2 hi2 again2,Inr lim lo2 hi2/\PV m q st pc loc lo2 hi2/\mu lo2 hi2<=M/\(again2=true->mu lo2 hi2<M)/\∀r,(Zd1 m q lim 0 pc st lo2 hi2 loc again2 (loc.length:Int) ((i+1:Nat):Int)=some r->Zd1 m q lim 0 pc st lo hi loc again (loc.length:Int) i=some r)/\(Zdy m q lim 0 pc st lo2 hi2 loc again2 ((i+1:Nat):Int)=some r->Zdy m q lim 0 pc st lo hi loc again i=some r):=by
 obtain⟨b1,b2,b3,b4,b5,b6⟩:=Zlw hL;have e1:=h.l1;have e2:=h.l2;have c1:(i:Int)<(loc.length:Int):=by omega
 have g1:=Zjy (l:=hi) (i:=i) (by omega);have g2:=Zjy (l:=lim.High) (i:=i) (by omega);have b:=loc_at (h.loc hL).2 g1;have w1:w (hi[i]'(by omega)+1)=hi[i]'(by omega)+1:=Zdm (by omega) (by omega);have w2:w (hi[i]'(by omega)+1-1)=hi[i]'(by omega):=by rw[Zdm (by omega) (by omega)];omega
 by_cases hlt:hi[i]'(by omega)<lim.High[i]'(by omega)
 .obtain⟨n1,n2⟩:=h.mu_hi hL g1 g2 hlt;have p1:=Z4h hm hq (le_of hL n1 st pc) (hR _ _ n1);have p2:=Z4i hm hq (le_of hL n1 st pc) (hR _ _ n1);rcases tf (Zhi m q ⟨⟨st⟩,⟨lo,hi.set i (hi[i]'(by omega)+1)⟩,pc⟩)with e|e
  .rw[e]at p1 p2;obtain⟨lo2,again2,s1,s0,s2,s3,s4⟩:=Z4q hm hq hL hR hn h hp again c hM hA;refine⟨lo2,hi,again2,s1,s0,s2,s3,λr=>⟨λhr=>Zv2 _ _ _ _ _ _ _ _ _ _ _ _ _ ?_,λhr=>Zvz _ _ _ _ _ _ _ _ _ _ _ _ ?_⟩⟩
   .rw[if_pos c1];refine⟨by omega,_,g1,_,g2,?_⟩;simp only[Yd];rw[if_pos hlt,w1];refine⟨_,p1,?_⟩;rw[if_neg (by simp),w2,Zwx g1];exact Zbgo _ _ _ _ _ _ _ _ _ _ _ _ _ _ ⟨by omega,(s4 r).1 hr⟩
   .rw[if_pos c1];refine⟨by omega,_,g1,_,g2,?_⟩;simp only[Yd];rw[if_pos hlt,w1];refine⟨_,p2,?_⟩;rw[if_neg (by simp),w2,Zwx g1];exact Zbe2 _ _ _ _ _ _ _ _ _ _ _ _ ⟨by omega,(s4 r).2 hr⟩
  .rw[e]at p1 p2;have g3:=Zjy (l:=loc) (i:=i) (by omega);have g4:=Zsz hp.2.2 g1 g3;obtain⟨lo2,again2,s1,s0,s2,s3,s4⟩:=Z4q hm hq hL hR hn n1 ⟨e,hp.2.1,Zwu hp.2.2 g3 (by omega)⟩ true c (M:=M) (by omega) (λ_=>by omega);refine⟨lo2,_,again2,s1,s0,s2,s3,λr=>⟨λhr=>Zv2 _ _ _ _ _ _ _ _ _ _ _ _ _ ?_,λhr=>Zvz _ _ _ _ _ _ _ _ _ _ _ _ ?_⟩⟩
   .rw[if_pos c1];refine⟨by omega,_,g1,_,g2,?_⟩;simp only[Yd];rw[if_pos hlt,w1];refine⟨_,p1,?_⟩;rw[if_pos rfl];exact Zbgo _ _ _ _ _ _ _ _ _ _ _ _ _ _ ⟨by omega,(s4 r).1 hr⟩
   .rw[if_pos c1];refine⟨by omega,_,g1,_,g2,?_⟩;simp only[Yd];rw[if_pos hlt,w1];refine⟨_,p2,?_⟩;rw[if_pos rfl];exact Zbe2 _ _ _ _ _ _ _ _ _ _ _ _ ⟨by omega,(s4 r).2 hr⟩
 .obtain⟨lo2,again2,s1,s0,s2,s3,s4⟩:=Z4q hm hq hL hR hn h hp again c hM hA;refine⟨lo2,hi,again2,s1,s0,s2,s3,λr=>⟨λhr=>Zv2 _ _ _ _ _ _ _ _ _ _ _ _ _ ?_,λhr=>Zvz _ _ _ _ _ _ _ _ _ _ _ _ ?_⟩⟩
  .rw[if_pos c1];refine⟨by omega,_,g1,_,g2,?_⟩;rw[if_neg hlt];exact(s4 r).1 hr
  .rw[if_pos c1];refine⟨by omega,_,g1,_,g2,?_⟩;rw[if_neg hlt];exact(s4 r).2 hr
def grown(st:List Zb)(lo hi:List Int)(pc:Int):AV×List Blk:=(.tup [.agg [.own 0,.own 1,.own 2,I pc],Bo true],[.arr 162 3 true (st.map Zb.c),.arr 3 1 true (lo.map ic),.arr 3 1 true (hi.map ic)])
omit hm hq hL hR hn in
theorem l_stop(lo hi:List Int):Zjm m q lim 0 pc st lo hi loc false=some (grown st lo hi pc)/\Zi7 m q lim 0 pc st lo hi loc false=some (grown st lo hi pc) :=
 ⟨Zbgn _ _ _ _ _ _ _ _ _ _ _ (by rw[if_neg (by simp)];rfl),Zbe1 _ _ _ _ _ _ _ _ _ _ _ (by rw[if_neg (by simp)];rfl)⟩
theorem pass{M:Nat}(IH:∀lo hi,Inr lim lo hi->PV m q st pc loc lo hi->mu lo hi<M->∃lo' hi',Inr lim lo' hi'/\PV m q st pc loc lo' hi'/\Zjm m q lim 0 pc st lo hi loc true=some (grown st lo' hi' pc)/\Zi7 m q lim 0 pc st lo hi loc true=some (grown st lo' hi' pc)):∀i,i<=loc.length->∀lo hi again,Inr lim lo hi->PV m q st pc loc lo hi->mu lo hi<=M->(again=true->mu lo hi<M)->∃lo' hi',Inr lim lo' hi'/\PV m q st pc loc lo' hi'/\Zd1 m q lim 0 pc st lo hi loc again (loc.length:Int) i=some (grown st lo' hi' pc)/\Zdy m q lim 0 pc st lo hi loc again i=some (grown st lo' hi' pc):=by
 refine down loc.length ?_ ?_
 .intro lo hi again h1 h0 h2 h3
  have:∃lo' hi',Inr lim lo' hi'/\PV m q st pc loc lo' hi'/\Zjm m q lim 0 pc st lo hi loc again=some (grown st lo' hi' pc)/\Zi7 m q lim 0 pc st lo hi loc again=some (grown st lo' hi' pc):=by
   rcases tf again with rfl|rfl
   .exact⟨lo,hi,h1,h0,l_stop lo hi⟩
   .exact IH lo hi h1 h0 (h3 rfl)
  obtain⟨lo',hi',a1,a0,a2,a3⟩:=this;exact⟨lo',hi',a1,a0,Zv2 _ _ _ _ _ _ _ _ _ _ _ _ _ (by rw[if_neg (by omega)];exact a2),Zvz _ _ _ _ _ _ _ _ _ _ _ _ (by rw[if_neg (by omega)];exact a3)⟩
 .intro i hi' ih lo hi again h1 h0 h2 h3;obtain⟨lo2,hi2,again2,s1,s0,s2,s3,s4⟩:=dim_step hm hq hL hR hn h1 h0 again (i:=i) (by omega) h2 h3;obtain⟨lo',hi',a1,a0,a2,a3⟩:=ih lo2 hi2 again2 s1 s0 s2 s3;exact⟨lo',hi',a1,a0,(s4 _).1 a2,(s4 _).2 a3⟩
theorem grow_all:∀M lo hi,Inr lim lo hi->PV m q st pc loc lo hi->mu lo hi<M->∃lo' hi',Inr lim lo' hi'/\PV m q st pc loc lo' hi'/\Zjm m q lim 0 pc st lo hi loc true=some (grown st lo' hi' pc)/\Zi7 m q lim 0 pc st lo hi loc true=some (grown st lo' hi' pc):=by
 intro M
 induction M with
 |zero=>intro lo hi h h0 h1;omega
 |succ M ih =>
  intro lo hi h h0 h1;obtain⟨lo',hi',a1,a0,a2,a3⟩:=pass hm hq hL hR hn ih 0 (by omega) lo hi false h h0 (by omega) (by simp);exact⟨lo',hi',a1,a0,Zbgn _ _ _ _ _ _ _ _ _ _ _ (by rw[if_pos rfl];exact a2),Zbe1 _ _ _ _ _ _ _ _ _ _ _ (by rw[if_pos rfl];exact a3)⟩
end
@[simp] theorem Zbxa(b:Box)(hb:LeX b)(l:List Int)(hl:Le l):Zrx b l=some (Bo (inBox b.Low b.High l),[]):=by
 refine Zbty _ _ _ ?_;unfold inBox;have h1:=Zv5 b hb;have h2:=Z3g l b.Low hl;have h3:=Z3g b.High l hb.2;refine⟨_,h1,?_⟩;rcases tf (Z6 b.Low b.High)with e|e
 .rw[e];simp
 rw[e,if_pos rfl];refine⟨_,h2,?_⟩;rcases tf (dom l b.Low)with e2|e2
 .rw[e2];simp
 rw[e2,if_pos rfl];exact⟨_,h3,by simp⟩
@[simp] theorem Zbi7(b:Box)(hb:LeX b)(l:List Int)(hl:Le l):Zk0 b l=some (Bo (inBox b.Low b.High l),[]):=by
 refine Zbry _ _ _ ?_;unfold inBox;have h1:=Zv6 b hb;have h2:=Zsf l b.Low hl;have h3:=Zsf b.High l hb.2;refine⟨_,h1,?_⟩;rcases tf (Z6 b.Low b.High)with e|e
 .rw[e];simp
 rw[e,if_pos rfl];refine⟨_,h2,?_⟩;rcases tf (dom l b.Low)with e2|e2
 .rw[e2];simp
 rw[e2,if_pos rfl];exact⟨_,h3,by simp⟩
def noGrow:AV×List Blk:=(.tup [.agg [.t .nil,.t .nil,.t .nil,I 0],Bo false],[])
def Z4r:AV×List Blk:=(.tup [.agg [.own 0,.own 1,.own 2,I 0],Bo false],[.arr Zpj 3 true (([]:List Zb).map Zb.c),.arr Z1 1 true (([]:List Int).map ic),.arr Z1 1 true (([]:List Int).map ic)])
theorem Zbi8{m:Zd}{q:Zc}(hm:LeM m)(hq:LeQ q)(p:Plan)(hp:p.Steps.length<=4294967296)(b:Box)(hb:LeX b)(l:List Int)(cc:l.length<=4294967296)(pc:Int):(Zln m q p b l pc=some noGrow/\Zgg m q p b l pc=some Z4r)\/∃lo hi,Inr b lo hi/\Zbt m q ⟨p,⟨lo,hi⟩,pc⟩/\PV m q p.Steps pc l lo hi/\(l.length=b.Low.length/\b.High.length=b.Low.length)/\lo.length<=16/\hi.length<=16/\Zln m q p b l pc=some (grown p.Steps lo hi pc)/\Zgg m q p b l pc=some (grown p.Steps lo hi pc):=by
 have hl:Le l:=by unfold Le;omega
 have c1:Zfx p=some (.agg [.own 0],[.arr 162 3 true (p.Steps.map Zb.c)]):=Zbf2 _ _ ⟨by omega,rfl⟩;have c2:=Zbg0 l (by omega);have k1:=Zbxa b hb l hl;have k2:=Zbi7 b hb l hl;have hr:LeR ⟨p,⟨l,l⟩,pc⟩:=⟨hl,hl⟩;have k3:=Z4k hm hq hr;have k4:=Zbix hm hq hr;have n1:p.Steps.length<=68719476736:=by omega
 have n2:l.length<=68719476736:=by omega
 rcases tf (inBox b.Low b.High l)with e|e
 .rw[e]at k1 k2;exact .inl ⟨Z3f _ _ _ _ _ _ _ ⟨_,c1,_,c2,_,k1,by rw[if_neg (by simp)];rfl⟩,Z28 _ _ _ _ _ _ _ ⟨n1,n2,_,k2,by rw[if_neg (by simp)];rfl⟩⟩
 rcases tf (Zf9 m q ⟨p,⟨l,l⟩,pc⟩)with e2|e2
 .rw[e]at k1 k2;rw[e2]at k3 k4;exact .inl ⟨Z3f _ _ _ _ _ _ _ ⟨_,c1,_,c2,_,k1,by rw[if_pos rfl];exact⟨_,k3,by rw[if_neg (by simp)];rfl⟩⟩,Z28 _ _ _ _ _ _ _ ⟨n1,n2,_,k2,by rw[if_pos rfl];exact⟨_,k4,by rw[if_neg (by simp)];rfl⟩⟩⟩
 have e3:Zbt m q ⟨p,⟨l,l⟩,pc⟩:=by
  unfold Zf9 at e2;simp only[Yc,decide_eq_true_eq]at e2;exact e2.1
 have e4:=e;unfold inBox dom at e4;simp only[Yc,decide_eq_true_eq]at e4;obtain⟨⟨hL,f1,f2⟩,f3,f4⟩:=e4;have h:Inr b l l:=⟨f1,f1,f2,Zww l,f4⟩;have hR:∀lo hi,Inr b lo hi->Zbt m q ⟨⟨p.Steps⟩,⟨lo,hi⟩,pc⟩:=by
  intro lo hi h';refine⟨?_,e3.2⟩;have v1:=e3.1;have v2:=h'.valid hL;have v3:=h'.l1;unfold Zgz Zkb at v1|-;simp only[Yc,decide_eq_true_eq]at v1|-;obtain⟨⟨⟨u1,u2,u3⟩,u4⟩,u5⟩:=v1;exact⟨⟨⟨u1,v2,by omega⟩,u4⟩,u5⟩
 have e5:Zhi m q ⟨p,⟨l,l⟩,pc⟩=true:=by
  unfold Zf9 at e2;simp only[Yc]at e2;exact e2.2
 obtain⟨lo,hi,a1,a0,a2,a3⟩:=grow_all hm hq hL hR (loc:=l) f1 _ l l h ⟨e5,Zww l,Zww l⟩ (Ybm _);obtain⟨b1,b2,_⟩:=Zlw hL;have u1:=a1.l1;have u2:=a1.l2;rw[e]at k1 k2;rw[e2]at k3 k4;exact .inr ⟨lo,hi,a1,hR _ _ a1,a0,⟨f1,(Zlw hL).2.2.2.2.1⟩,by omega,by omega,Z3f _ _ _ _ _ _ _ ⟨_,c1,_,c2,_,k1,by rw[if_pos rfl];exact⟨_,k3,by rw[if_pos rfl];exact a2⟩⟩,Z28 _ _ _ _ _ _ _ ⟨n1,n2,_,k2,by rw[if_pos rfl];exact⟨_,k4,by rw[if_pos rfl];exact a3⟩⟩⟩
theorem x_Best(l:List Za)(cc:Int)(hl:l.length<=1000)(hs:∀e∈l,e.Plan.Steps.length<=1000):Zel l cc=some (.tup [.agg [I 0,I 0,I 0,.t .nil],Bo false],[])\/∃a b c,∃st:List Zb,Zel l cc=some (.tup [.agg [I a,I b,I c,.own 0],Bo true],[.arr Zpj 3 true (st.map Zb.c)])/\st.length<=1000:=by
 have hb:=Z3t l cc l.length;by_cases h:low l cc<0
 .exact .inl (Z27 _ _ _ ⟨_,Zjs l cc hl,by rw[if_pos h]⟩)
 .have hk:(low l cc).toNat<l.length:=by unfold low at h|-;omega
  have hm:=hs _ (Yh hk);refine .inr ⟨l[(low l cc).toNat].Mask,l[(low l cc).toNat].Order,l[(low l cc).toNat].Cost,l[(low l cc).toNat].Plan.Steps,Z27 _ _ _ ⟨_,Zjs l cc hl,?_⟩,hm⟩;rw[if_neg h];exact⟨by omega,_,Yb hk,by omega,rfl⟩
theorem Zbxb{m:Zd}{q:Zc}(hm:LeM m)(hq:LeQ q)(l:List Int)(hl:l.length<=100):∃(st:List Zb) (b:Bool),Znf (if Z9 l=true then Zbh l else[]) m q=some (.tup [.agg [.own 1],Bo b],[.arr Z1 1 true ((if Z9 l=true then Zbh l else[]).map ic),.arr Zpj 3 true (st.map Zb.c)])/\st.length<=1000:=by
 have f:=Zoq q.Ze q.Atoms;generalize hz:(if Z9 l=true then Zbh l else[])=z;have hzl:z.length<=100:=by rw[<-hz];split<;>simp[Zbh];omega
 have e0:=x_Best [] (Zu q.Ze q.Atoms) (by simp) (by simp);have fin:∀(es:List Za) fr,Zqq z m q=some (.own 1,[.arr Z1 1 true (z.map ic),.arr Zblx 4 fr (es.map Za.c)])->es.length<=1000->(∀e∈es,e.Plan.Steps.length<=1000)->∃(st:List Zb) (b:Bool),Znf z m q=some (.tup [.agg [.own 1],Bo b],[.arr Z1 1 true (z.map ic),.arr Zpj 3 true (st.map Zb.c)])/\st.length<=1000:=by
  intro es fr ht h1 h2;rcases x_Best es (Zu q.Ze q.Atoms) h1 h2 with e|⟨a,b,c,st,e,hs⟩
  .exact⟨[],false,Zbex _ _ _ _ (.inl ⟨_,_,_,_,Zbew _ _ _ _ (.inl ⟨_,_,_,ht,_,Zcs q hq,.inl ⟨_,_,_,e,rfl⟩⟩),rfl⟩),by simp⟩
  .exact⟨st,true,Zbex _ _ _ _ (.inr ⟨_,_,_,_,_,Zbew _ _ _ _ (.inl ⟨_,_,_,ht,_,Zcs q hq,.inr ⟨_,_,_,_,e,rfl⟩⟩),rfl⟩),hs⟩
 by_cases ha:Zcl m
 .rcases tf (Zb6 q.Ze q.Atoms z)with hv|hv
  .exact fin [] true (Z26 _ _ _ _ ⟨_,Zsj m hm,by rw[if_pos (by simpa using ha)];exact⟨_,Z3o q hq z (by unfold Le;omega),by rw[hv,if_neg (by simp)]⟩⟩) (by simp) (by simp)
  .have hv0:=hv;unfold Zb6 at hv;simp only[Yc,decide_eq_true_eq]at hv;have hvq:Zk q.Ze q.Atoms=true:=by first|exact hv.1.1|exact hv.1|exact hv.2.1
   have hlen:(z.length:Int)=Zu q.Ze q.Atoms+1:=by first|exact hv.1.2|exact hv.2.1|exact hv.2.2
   rcases tf (Z9 l)with hi|hi
   .rw[hi,if_neg (by simp)]at hz;subst hz;simp at hlen;omega
   .rw[hi,if_pos rfl]at hz;subst hz;have b:Base m q (Zbh l):=Zop hm ha hq hvq hi (by simpa[Zbh]using hlen);have hl2:=Zlu b (Yf (Zn q.Atoms).length);obtain⟨fr,ht⟩:=Z4f b;exact fin _ fr (Z26 _ _ _ _ ⟨_,Zsj m hm,by rw[if_pos (by simpa using ha)];exact⟨_,Z3o q hq _ (by unfold Le;omega),by rw[hv0,if_pos rfl];exact⟨_,Z4e q hq hvq,_,_,ht,rfl⟩⟩⟩) (by omega) (Zsv b (Yf _))
 .exact fin [] true (Z26 _ _ _ _ ⟨_,Zsj m hm,by rw[if_neg (by simpa using ha)]⟩) (by simp) (by simp)
theorem x_Grow{m:Zd}{q:Zc}(hm:LeM m)(hq:LeQ q)(p:Plan)(hp:p.Steps.length<=1000)(b:Box)(hb:b.Low.length<=17/\b.High.length<=17)(l:List Int)(hl:l.length<=100)(pc:Int):∃(st:List Zb) (lo hi:List Int) (n:Int) (z:Bool),Zgg m q p b l pc=some (.tup [.agg [.own 0,.own 1,.own 2,I n],Bo z],[.arr Zpj 3 true (st.map Zb.c),.arr Z1 1 true (lo.map ic),.arr Z1 1 true (hi.map ic)])/\st.length<=1000/\lo.length<=17/\hi.length<=17:=by
 rcases Zbi8 hm hq p (by omega) b ⟨by unfold Le;omega,by unfold Le;omega⟩ l (by omega) pc with⟨_,e⟩|⟨lo,hi,_,_,_,_,h1,h2,_,e⟩
 .exact⟨[],[],[],0,false,e,by simp,by simp,by simp⟩
 .exact⟨p.Steps,lo,hi,pc,true,e,hp,by omega,by omega⟩
def SR(r:Region):Prop:=r.Plan.Steps.length<=1000/\r.Box.Low.length<=17/\r.Box.High.length<=17
def SB(b:Box):Prop:=b.Low.length<=17/\b.High.length<=17
theorem Zbi9{c:Zh}(g:GC c):∃(c':Zh) (m:Zd) (q:Zc) (b:Box) (l:List Int) (r:Region),Zng c=some (.tup [.agg (m.c.map .t),.agg (q.c.map .t),.agg (b.c.map .t),L 1 (l.map ic),.agg (r.c.map .t)],[cB c'])/\GC c'/\LeM m/\LeQ q/\SB b/\l.length<=100/\SR r:=by
 obtain⟨c1,m,e1,g1,hm⟩:=Zbv4 g;obtain⟨c2,q,e2,g2,hq⟩:=Zbv9 g1;obtain⟨c3,b,e3,g3,hb1,hb2⟩:=x_l24Box g2 q hq;obtain⟨c4,l,e4,g4,hl⟩:=x_l30Loc g3 b hb1;have f:=Zoq q.Ze q.Atoms;obtain⟨k,hk⟩:∃k:Nat,Zu q.Ze q.Atoms=k:=⟨(Zu q.Ze q.Atoms).toNat,by omega⟩;have ef:=Zcs q hq;rw[hk]at ef;obtain⟨c5,p,e5,g5,hp⟩:=Zbiz q hq k (by omega) c4 g4;have hp:p.Steps.length<=1000:=by split at hp<;>omega
 have es:=Zwf l (by omega);obtain⟨st,z,eo,hst⟩:=Zbxb hm hq l hl;rcases tf z with hz|hz
 .subst hz;obtain⟨c6,pc,e6,g6,_⟩:=Zom g5 [100,120,200,400,1000] (by simp) (by simp);obtain⟨s,lo,hi,n,y,eg,k1,k2,k3⟩:=x_Grow hm hq p hp b ⟨hb1,hb2⟩ l hl pc;exact⟨c6,m,q,b,l,⟨⟨s⟩,⟨lo,hi⟩,n⟩,Z29 _ _ ⟨c1,m,e1,c2,q,e2,c3,b,e3,c4,l,e4,_,ef,c5,p,e5,_,es,_,st,false,eo,by rw[if_neg (by simp)];exact⟨c6,_,pc,e6,s,lo,hi,n,y,eg,rfl⟩⟩,g6,hm,hq,⟨hb1,hb2⟩,hl,k1,k2,k3⟩
 .subst hz;obtain⟨c6,y,e6,g6⟩:=Zif g5 3;obtain⟨c7,pc,e7,g7,_⟩:=Zom g6 [100,120,200,400,1000] (by simp) (by simp);rcases tf y with hy|hy
  .subst hy;obtain⟨s,lo,hi,n,y,eg,k1,k2,k3⟩:=x_Grow hm hq ⟨st⟩ hst b ⟨hb1,hb2⟩ l hl pc;exact⟨c7,m,q,b,l,⟨⟨s⟩,⟨lo,hi⟩,n⟩,Z29 _ _ ⟨c1,m,e1,c2,q,e2,c3,b,e3,c4,l,e4,_,ef,c5,p,e5,_,es,_,st,true,eo,by rw[if_pos rfl];exact⟨c6,false,e6,by rw[if_neg (by simp)];exact⟨c7,_,pc,e7,s,lo,hi,n,y,eg,rfl⟩⟩⟩,g7,hm,hq,⟨hb1,hb2⟩,hl,k1,k2,k3⟩
  .subst hy;obtain⟨s,lo,hi,n,y,eg,k1,k2,k3⟩:=x_Grow hm hq p hp b ⟨hb1,hb2⟩ l hl pc;exact⟨c7,m,q,b,l,⟨⟨s⟩,⟨lo,hi⟩,n⟩,Z29 _ _ ⟨c1,m,e1,c2,q,e2,c3,b,e3,c4,l,e4,_,ef,c5,p,e5,_,es,_,st,true,eo,by rw[if_pos rfl];exact⟨c6,true,e6,by rw[if_pos rfl];exact⟨c7,_,pc,e7,s,lo,hi,n,y,eg,rfl⟩⟩⟩,g7,hm,hq,⟨hb1,hb2⟩,hl,k1,k2,k3⟩
theorem Zbja{c:Zh}(g:GC c)(q:Zc)(hq:LeQ q):∃(k:Nat) (c':Zh) (p:Plan),Zch q=some (I k,[])/\Zge c q k=some (.agg (p.c.map .t),[cB c'])/\GC c'/\p.Steps.length<=1000:=by
 have f:=Zoq q.Ze q.Atoms;obtain⟨k,hk⟩:∃k:Nat,Zu q.Ze q.Atoms=k:=⟨(Zu q.Ze q.Atoms).toNat,by omega⟩;have ef:=Zcs q hq;rw[hk]at ef;obtain⟨c5,p,e5,g5,hp⟩:=Zbiz q hq k (by omega) c g;exact⟨k,c5,p,ef,e5,g5,by split at hp<;>omega⟩
theorem Zbxc{c:Zh}(g:GC c):∃(c':Zh) (m:Zd) (q:Zc) (r:Region),Zu1 c=some (.tup [.agg (m.c.map .t),.agg (q.c.map .t),.agg (r.c.map .t)],[cB c'])/\GC c'/\LeM m/\LeQ q/\SR r:=by
 obtain⟨c1,m,q,b,l,r,e1,g1,hm,hq,hb,hl,hr⟩:=Zbi9 g;obtain⟨c2,n,e2,g2,_⟩:=Zb8 g1 8;by_cases h0:n=0
 .obtain⟨c3,pc,e3,g3,_⟩:=Zbv2 g2 [99,100,150,1001] (by simp) (by simp);exact⟨c3,m,q,⟨r.Plan,r.Box,pc⟩,Zv0 _ _ ⟨c1,m,q,b,l,r,e1,c2,n,e2,by rw[if_pos h0];exact⟨c3,pc,e3,rfl⟩⟩,g3,hm,hq,hr⟩
 by_cases h1:n=1
 .exact⟨c2,m,q,⟨r.Plan,b,r.Percent⟩,Zv0 _ _ ⟨c1,m,q,b,l,r,e1,c2,n,e2,by rw[if_neg h0,if_pos h1];exact⟨b,Zbr8 _ _ ⟨by have:=hb.1;omega,by have:=hb.2;omega,rfl⟩,rfl⟩⟩,g2,hm,hq,hr.1,hb.1,hb.2⟩
 by_cases h2:n=2
 .obtain⟨k,c3,p,ef,e3,g3,hp⟩:=Zbja g2 q hq;exact⟨c3,m,q,⟨p,r.Box,r.Percent⟩,Zv0 _ _ ⟨c1,m,q,b,l,r,e1,c2,n,e2,by rw[if_neg h0,if_neg h1,if_pos h2];exact⟨_,ef,c3,p,e3,rfl⟩⟩,g3,hm,hq,hp,hr.2⟩
 .exact⟨c2,m,q,r,Zv0 _ _ ⟨c1,m,q,b,l,r,e1,c2,n,e2,by rw[if_neg h0,if_neg h1,if_neg h2]⟩,g2,hm,hq,hr⟩
theorem Zbxd(code:List Int)(hl:code.length<=1048576):∃(m:Zd) (q:Zc) (r:Region),Zu2 code=some (.tup [.agg (m.c.map .t),.agg (q.c.map .t),.agg (r.c.map .t)],[])/\LeM m/\LeQ q/\SR r:=by
 obtain⟨c,e,g⟩:=Zbh2 code hl;obtain⟨c',m,q,r,e2,_,hm,hq,hr⟩:=Zbxc g;exact⟨m,q,r,Zbr9 _ _ ⟨c,e,c',m,q,r,e2,rfl⟩,hm,hq,hr⟩
theorem Zbxe(code:List Int)(hl:code.length<=1048576):∃(m:Zd) (q:Zc) (p:Plan) (b:Box) (l:List Int) (pc:Int),Zvq code=some (.tup [.agg (m.c.map .t),.agg (q.c.map .t),.agg (p.c.map .t),.agg (b.c.map .t),L 1 (l.map ic),I pc],[])/\LeM m/\LeQ q/\p.Steps.length<=1000/\SB b/\l.length<=100:=by
 obtain⟨c,e,g⟩:=Zbh2 code hl;obtain⟨c1,m,q,b,l,r,e1,g1,hm,hq,hb,hl,hr⟩:=Zbi9 g;by_cases h:(r.Plan.Steps.length:Int)=0
 .obtain⟨k,c3,p,ef,e3,g3,hp⟩:=Zbja g1 q hq;obtain⟨c4,pc,e4,g4,_⟩:=Zom g3 [100,120,200,99,1000] (by simp) (by simp);exact⟨m,q,p,b,l,pc,Zbgm _ _ ⟨c,e,c1,m,q,b,l,r,e1,by rw[if_pos h];exact⟨_,ef,c3,p,e3,c4,_,pc,e4,rfl⟩⟩,hm,hq,hp,hb,hl⟩
 .obtain⟨c4,pc,e4,g4,_⟩:=Zom g1 [100,120,200,99,1000] (by simp) (by simp);exact⟨m,q,r.Plan,b,l,pc,Zbgm _ _ ⟨c,e,c1,m,q,b,l,r,e1,by rw[if_neg h];exact⟨c4,_,pc,e4,rfl⟩⟩,hm,hq,hr.1,hb,hl⟩
theorem Zbjb{o:Zj}(hv:Zbz o=true){a b c:Int}(ha:0<=a/\a<=7)(hb:0<=b/\b<=7)(hc:0<=c/\c<=7):Zbb o (Zbl a) (Zbl b) (Zbl c)=tcl o [a,b,c]:=by
 unfold Zbb tcl;rw[hv,Zws ha,Zws hb,Zws hc];rfl
theorem up1{o:Zj}(h:¬decr o){a b c:Int}(ha:0<=a/\a+1<=7)(hb:0<=b/\b<=7)(hc:0<=c/\c<=7):tcl o [a,b,c]<=tcl o [a+1,b,c] :=
 Int.not_lt.1 λq=>h ⟨[a,b,c],⟨a,b,c,rfl,⟨ha.1,by omega⟩,hb,hc⟩,0,by omega,by omega,a,rfl,ha.2,q⟩
theorem up2{o:Zj}(h:¬decr o){a b c:Int}(ha:0<=a/\a<=7)(hb:0<=b/\b+1<=7)(hc:0<=c/\c<=7):tcl o [a,b,c]<=tcl o [a,b+1,c] :=
 Int.not_lt.1 λq=>h ⟨[a,b,c],⟨a,b,c,rfl,ha,⟨hb.1,by omega⟩,hc⟩,1,by omega,by omega,b,rfl,hb.2,q⟩
theorem up3{o:Zj}(h:¬decr o){a b c:Int}(ha:0<=a/\a<=7)(hb:0<=b/\b<=7)(hc:0<=c/\c+1<=7):tcl o [a,b,c]<=tcl o [a,b,c+1] :=
 Int.not_lt.1 λq=>h ⟨[a,b,c],⟨a,b,c,rfl,ha,hb,⟨hc.1,by omega⟩⟩,2,by omega,by omega,c,rfl,hc.2,q⟩
theorem climb{f:Int->Int}(h:∀x,0<=x->x+1<=7->f x<=f (x+1)){a:Int}(h0:0<=a):∀n:Nat,a+n<=7->f a<=f (a+n)
 |0,_=>by simp
 |n+1,hn=>by
  have h1:=climb h h0 n (by omega);have h2:=h (a+n) (by omega) (by omega);rw[show a+((n+1:Nat):Int)=a+n+1 by omega];omega
theorem climb'{f:Int->Int}(h:∀x,0<=x->x+1<=7->f x<=f (x+1)){a b:Int}(h0:0<=a)(c:a<=b)(h7:b<=7):f a<=f b:=by
 have:=climb h h0 (b-a).toNat (by omega)
 rwa [show a+((b-a).toNat:Int)=b by omega]at this
theorem Zbjc{o:Zj}(h:Zbr o){a b c a' b' c':Int}(ha:0<=a/\a<=a'/\a'<=7)(hb:0<=b/\b<=b'/\b'<=7)(hc:0<=c/\c<=c'/\c'<=7):Zbb o (Zbl a) (Zbl b) (Zbl c)<=Zbb o (Zbl a') (Zbl b') (Zbl c'):=by
 obtain⟨h1,h2,_⟩:=h;rw[Zbjb h1 ⟨by omega,by omega⟩ ⟨by omega,by omega⟩ ⟨by omega,by omega⟩,Zbjb h1 ⟨by omega,by omega⟩ ⟨by omega,by omega⟩ ⟨by omega,by omega⟩];have q1:=climb' (f:=λx=>tcl o [x,b,c]) (λx k1 k2=>up1 h2 ⟨k1,k2⟩ ⟨by omega,by omega⟩ ⟨by omega,by omega⟩) ha.1 ha.2.1 ha.2.2;have q2:=climb' (f:=λx=>tcl o [a',x,c]) (λx k1 k2=>up2 h2 ⟨by omega,by omega⟩ ⟨k1,k2⟩ ⟨by omega,by omega⟩) hb.1 hb.2.1 hb.2.2;have q3:=climb' (f:=λx=>tcl o [a',b',x]) (λx k1 k2=>up3 h2 ⟨by omega,by omega⟩ ⟨by omega,by omega⟩ ⟨k1,k2⟩) hc.1 hc.2.1 hc.2.2;exact Int.le_trans (Int.le_trans q1 q2) q3
theorem Zor{m:Zd}(h:Zcl m)(k:Int):Zbr (mOp m k):=by
 obtain⟨h1,h2,h3,h4,h5⟩:=h;unfold mOp
 repeat' split
 all_goals assumption
def SzLe(s s':List Int):Prop:=∀k,∃a a',0<=a/\a<=a'/\a'<=7/\szAt s k=Zbl a/\szAt s' k=Zbl a'
theorem SzLe.op{s s':List Int}(h:SzLe s s'){o:Zj}(ho:Zbr o)(A B M:Int):Zbb o (szAt s A) (szAt s B) (szAt s M)<=Zbb o (szAt s' A) (szAt s' B) (szAt s' M):=by
 obtain⟨a,a',h1,h2,h3,h4,h5⟩:=h A;obtain⟨b,b',g1,g2,g3,g4,g5⟩:=h B;obtain⟨c,c',k1,k2,k3,k4,k5⟩:=h M;rw[h4,h5,g4,g5,k4,k5];exact Zbjc ho ⟨h1,h2,h3⟩ ⟨g1,g2,g3⟩ ⟨k1,k2,k3⟩
theorem SzLe.op0{s s':List Int}(h:SzLe s s'){o:Zj}(ho:Zbr o)(A M:Int):Zbb o (szAt s A) 0 (szAt s M)<=Zbb o (szAt s' A) 0 (szAt s' M):=by
 obtain⟨a,a',h1,h2,h3,h4,h5⟩:=h A;obtain⟨c,c',k1,k2,k3,k4,k5⟩:=h M;rw[h4,h5,k4,k5,show(0:Int)=Zbl 0 from by decide];exact Zbjc ho ⟨h1,h2,h3⟩ ⟨by omega,by omega,by omega⟩ ⟨k1,k2,k3⟩
theorem Zbjd{l:List Int}(h:Zca l=true){i:Nat}(hi:i<l.length):0<=l[i]/\l[i]<=7:=by
 unfold Zca at h;rw[Yl]at h;exact Zwl.1 (h _ (Yh hi))
theorem Zbje{l l':List Int}(h:Z9 l=true)(h':Z9 l'=true)(hl:l.length=l'.length)(hd:∀(i:Nat) (h1:i<l.length) (h2:i<l'.length),l[i]<=l'[i]):SzLe (Zbh l) (Zbh l'):=by
 intro k;unfold Z9 at h h';simp only[Yc]at h h';unfold szAt Zbh;by_cases hk:k.toNat<l.length
 .have hk':k.toNat<l'.length:=by omega
  refine⟨l[k.toNat],l'[k.toNat],(Zbjd h.1 hk).1,hd _ hk hk',(Zbjd h'.1 hk').2,?_,?_⟩<;>simp[hk,hk']
 .refine⟨0,0,by omega,by omega,by omega,?_,?_⟩
  .rw[Ybk (by simp;omega)];decide
  .rw[Ybk (by simp;omega)];decide
theorem Zbjf:∀(xs ys:List Int) (n k B:Int),xs.length=ys.length->(∀(i:Nat) (h1:i<xs.length) (h2:i<ys.length),xs[i]<=ys[i])->(∀x∈xs,-2000000000<=x/\x<=2000000000)->(∀x∈ys,-2000000000<=x/\x<=2000000000)->n<=k->-B<=n->n<=B->-B<=k->k<=B->B+2000000000*xs.length<=1000000000000->sumW xs n<=sumW ys k/\-1000000000000<=sumW xs n/\sumW ys k<=1000000000000/\sumW xs n<=1000000000000/\-1000000000000<=sumW ys k
 |[],[],n,k,B,_,_,_,_,h,h1,h2,h3,h4,h5=>by simp only[sumW,List.foldl_nil];simp at h5;omega
 |x::xs,y::ys,n,k,B,hl,hle,hx,hy,h,h1,h2,h3,h4,h5=>by
  have b1:=hx x (by simp);have b2:=hy y (by simp);have b3:=hle 0 (by simp) (by simp);simp only[List.getElem_cons_zero]at b3;simp only[Yt]at h5 hl;have e1:sumW (x::xs) n=sumW xs (n+x):=by
   show List.foldl _ (w (n+x)) xs=_;rw[w_id (by omega) (by omega)];rfl
  have e2:sumW (y::ys) k=sumW ys (k+y):=by
   show List.foldl _ (w (k+y)) ys=_;rw[w_id (by omega) (by omega)];rfl
  rw[e1,e2];refine Zbjf xs ys (n+x) (k+y) (B+2000000000) (by omega) (λi h1 h2=>?_) (λz hz=>hx z (by simp[hz])) (λz hz=>hy z (by simp[hz])) (by omega) (by omega) (by omega) (by omega) (by omega) (by omega);have:=hle (i+1) (by simp;omega) (by simp;omega)
  simpa using this
 |[],_::_,_,_,_,hl,_,_,_,_,_,_,_,_,_=>by simp at hl
 |_::_,[],_,_,_,hl,_,_,_,_,_,_,_,_,_=>by simp at hl
theorem step_le{m:Zd}(ha:Zcl m){s s':List Int}(h:SzLe s s')(info:List Zf)(x:Zb)(y:Zf):Zcx m info s x y<=Zcx m info s' x y:=by
 unfold Zcx;split<;>split
 .exact h.op0 (Zor ha _) _ _
 .exact h.op (Zor ha _) _ _ _
 .exact h.op0 (Zor ha _) _ _
 .exact h.op (Zor ha _) _ _ _
theorem Zbjg{m:Zd}(ha:Zcl m){s s':List Int}(h:SzLe s s')(info:List Zf):∀(xs:List Zb) (ys:List Zf),(Zb7 m info s xs ys).length=(Zb7 m info s' xs ys).length/\(Zb7 m info s xs ys).length<=xs.length/\(∀(i:Nat) (h1:i<(Zb7 m info s xs ys).length) (h2:i<(Zb7 m info s' xs ys).length),(Zb7 m info s xs ys)[i]<=(Zb7 m info s' xs ys)[i])/\(∀x∈Zb7 m info s xs ys,-2000000000<=x/\x<=2000000000)/\∀x∈Zb7 m info s' xs ys,-2000000000<=x/\x<=2000000000
 |x::xs,y::ys=>by
  obtain⟨h1,h2,h3,h4,h5⟩:=Zbjg ha h info xs ys;simp only[Zb7];refine⟨by simp[h1],by simp;omega,?_,?_,?_⟩
  .intro i k1 k2
   cases i with
   |zero=>exact step_le ha h info x y
   |succ i=>exact h3 i (by simpa using k1) (by simpa using k2)
  .intro z hz;rcases Y6.1 hz with rfl|hz
   .exact Zf6 _ _ _ _
   .exact h4 z hz
  .intro z hz;rcases Y6.1 hz with rfl|hz
   .exact Zf6 _ _ _ _
   .exact h5 z hz
 |[],_=>by simp[Zb7]
 |_::_,[]=>by simp[Zb7]
theorem plan_le{m:Zd}(ha:Zcl m){s s':List Int}(h:SzLe s s')(n:Int)(qa:List Atom)(steps:List Zb)(hs:Zb6 n qa s=true)(c:Zb6 n qa s'=true):Zcc m n qa steps s<=Zcc m n qa steps s'/\-1000000000000<=Zcc m n qa steps s/\Zcc m n qa steps s'<=1000000000000/\Zcc m n qa steps s<=1000000000000/\-1000000000000<=Zcc m n qa steps s':=by
 unfold Zcc Zhf Zfe;rw[hs,c]
 cases e:Zb4 n qa steps with
 |none=>simp
 |some info =>
  obtain⟨_,h1,h2,h3⟩:=Zho e;obtain⟨k1,k2,k3,k4,k5⟩:=Zbjg ha h info steps info;simp only[Option.isSome_some,Bool.and_self,if_true];exact Zbjf _ _ 0 0 0 k1 k3 k4 k5 (by omega) (by omega) (by omega) (by omega) (by omega) (by omega)
def R1(e e':Za):Prop:=e.Mask=e'.Mask/\e.Order=e'.Order/\e.Cost<=e'.Cost
def RL:List Za->List Za->Prop
 |[],[]=>True
 |a::xs,b::ys=>R1 a b/\RL xs ys
 |_,_=>False
theorem RL.get:∀{l l':List Za},RL l l'->∀k:Nat,(l[k]?=none/\l'[k]?=none)\/∃e e',l[k]?=some e/\l'[k]?=some e'/\R1 e e'
 |[],[],_,k=>.inl ⟨rfl,rfl⟩
 |a::xs,b::ys,h,0=>.inr ⟨a,b,rfl,rfl,h.1⟩
 |a::xs,b::ys,h,k+1=>by
  rw[List.getElem?_cons_succ,List.getElem?_cons_succ]
  exact RL.get h.2 k
 |[],_::_,h,_=>h.elim
 |_::_,[],h,_=>h.elim
theorem RL.set:∀{l l':List Za},RL l l'->∀{e e':Za},R1 e e'->∀k:Nat,RL (l.set k e) (l'.set k e')
 |[],[],_,_,_,_,_=>trivial
 |a::xs,b::ys,h,_,_,he,0=>⟨he,h.2⟩
 |a::xs,b::ys,h,_,_,he,k+1=>⟨h.1,RL.set h.2 he k⟩
 |[],_::_,h,_,_,_,_=>h.elim
 |_::_,[],h,_,_,_,_=>h.elim
theorem RL.app:∀{l l' k k':List Za},RL l l'->RL k k'->RL (l++k) (l'++k')
 |[],[],_,_,_,h=>h
 |_::_,_::_,_,_,h,h'=>⟨h.1,RL.app h.2 h'⟩
 |[],_::_,_,_,h,_=>h.elim
 |_::_,[],_,_,h,_=>h.elim
theorem RL.filt{p:Za->Bool}(hp:∀e e',R1 e e'->p e=p e'):∀{l l':List Za},RL l l'->RL (l.filter p) (l'.filter p)
 |[],[],_=>trivial
 |a::xs,b::ys,h=>by
  have ih:=RL.filt hp h.2;have e:=hp a b h.1;rcases tf (p a)with q|q
  .rw[List.filter_cons_of_neg (by rw[q];simp),List.filter_cons_of_neg (by rw[<-e,q];simp)];exact ih
  .rw[List.filter_cons_of_pos q,List.filter_cons_of_pos (by rw[<-e];exact q)];exact⟨h.1,ih⟩
 |[],_::_,h=>h.elim
 |_::_,[],h=>h.elim
theorem RL.ofM{l l':List Za}(h:RL l l')(M:Int):RL (ofM l M) (ofM l' M):=RL.filt (λe e' he=>by rw[he.1]) h
theorem RL.sm{l l':List Za}(h:RL l l'):RL (l.filter sm) (l'.filter sm):=RL.filt (λe e' he=>by unfold Go.Proofs.YtcfaekfjkeobhaaGreat.sm;rw[he.1]) h
theorem Zbxf{a b a' b':Za}(h:a.Cost<=a'.Cost)(h2:b.Cost<=b'.Cost):(Zcm a b).Cost<=(Zcm a' b').Cost:=by
 unfold Zcm;split<;>split<;>omega
theorem RL.fold:∀{l l':List Za},RL l l'->∀{b b':Za},b.Cost<=b'.Cost->(l.foldl Zcm b).Cost<=(l'.foldl Zcm b').Cost
 |[],[],_,_,_,h=>h
 |_::_,_::_,h,_,_,hb=>RL.fold h.2 (Zbxf hb h.1.2.2)
 |[],_::_,h,_,_,_=>h.elim
 |_::_,[],h,_,_,_=>h.elim
theorem RL.best:∀{l l':List Za},RL l l'->(Z3 l).Cost<=(Z3 l').Cost
 |[],[],_=>Int.le_refl _
 |_::_,_::_,h=>RL.fold (l:=_::_) (l':=_::_) h h.1.2.2
 |[],_::_,h=>h.elim
 |_::_,[],h=>h.elim
theorem RL.ofO:∀{l l':List Za},RL l l'->∀o:Int,(ofO l o=none/\ofO l' o=none)\/∃e e',ofO l o=some e/\ofO l' o=some e'/\R1 e e'
 |[],[],_,_=>.inl ⟨rfl,rfl⟩
 |a::xs,b::ys,h,o=>by
  unfold Go.Proofs.YtcfaekfjkeobhaaGreat.ofO;by_cases q:a.Order=o
  .rw[List.find?_cons_of_pos (by simpa using q),List.find?_cons_of_pos (by simpa[<-h.1.2.1]using q)];exact .inr ⟨a,b,rfl,rfl,h.1⟩
  .rw[List.find?_cons_of_neg (by simpa using q),List.find?_cons_of_neg (by simpa[<-h.1.2.1]using q)]
   exact RL.ofO h.2 o
 |[],_::_,h,_=>h.elim
 |_::_,[],h,_=>h.elim
def SO(M:Int)(l:List Za):Prop:=∀(k:Nat) e,l[k]?=some e->e.Mask≠0->e.Order=(k:Int)-1/\e.Mask=M
theorem SO.off{M:Int}{l:List Za}(h:SO M l){m:Zd}{s:List Int}{a b:Za}{k v o:Int}(ho:-1<=o)(hM:orI a.Mask b.Mask=M):SO M (offJ m s a b k v o l):=by
 intro j e he hn;unfold offJ at he;rw[List.getElem?_set]at he;split at he
 .rename_i hj;split at he
  .cases he;have keep:((l[(o+1).toNat]?).getD zE).Mask≠0->((l[(o+1).toNat]?).getD zE).Order=(j:Int)-1/\((l[(o+1).toNat]?).getD zE).Mask=M:=by
    intro hn
    cases q:l[(o+1).toNat]? with
    |none=>rw[q]at hn;exact absurd rfl hn
    |some e=>rw[q]at hn;rw[<-hj];exact h _ _ q hn
   unfold offE at hn|-;split
   .exact⟨by show o=_;omega,hM⟩
   .rename_i h0;split
    .exact⟨by show o=_;omega,hM⟩
    .exact keep h0
  .cases he
 .exact h j e he hn
section
variable{m:Zd}(ha:Zcl m){s s':List Int}(hz:SzLe s s')
def Bd(c:Int):Prop:=-400000000000<=c/\c<=400000000000
theorem Held.bd{qa:List Atom}{M:Int}{E:List Za}(h:Held m s qa M E)(c:M16 M):∀e∈E,-200000000000<=e.Cost/\e.Cost<=200000000000:=λe he=>(h.makes e he).bound (by have:=(h.len e he).2;have:=Zd6 c;omega)
def RS(M:Int)(l l':List Za):Prop:=RL l l'/\SO M l/\SO M l'
include ha hz
theorem off_le{M:Int}{a b a' b':Za}(k v o:Int)(ho:-1<=o){l l':List Za}(h:RS M l l')(hM:orI a.Mask b.Mask=M)(h1:a.Mask=a'.Mask)(h2:b.Mask=b'.Mask)(h3:a.Cost<=a'.Cost)(h4:b.Cost<=b'.Cost)(b1:Bd a.Cost)(b2:Bd a'.Cost)(b3:Bd b.Cost)(b4:Bd b'.Cost):RS M (offJ m s a b k v o l) (offJ m s' a' b' k v o l'):=by
 obtain⟨h,so,so'⟩:=h;refine⟨?_,so.off ho hM,so'.off ho (by rw[<-h1,<-h2];exact hM)⟩;unfold offJ;have hj:jc m s a b k<=jc m s' a' b' k:=by
  unfold jc;obtain⟨p1,p2⟩:=b1;obtain⟨p3,p4⟩:=b2;obtain⟨p5,p6⟩:=b3;obtain⟨p7,p8⟩:=b4;have c1:=Zf6 (mOp m k) (szAt s a.Mask) (szAt s b.Mask) (szAt s (orI a.Mask b.Mask));have c2:=Zf6 (mOp m k) (szAt s' a'.Mask) (szAt s' b'.Mask) (szAt s' (orI a'.Mask b'.Mask));rw[w_id (x:=a.Cost+b.Cost) (by omega) (by omega),w_id (x:=a'.Cost+b'.Cost) (by omega) (by omega),w_id (by omega) (by omega),w_id (by omega) (by omega)];have:=hz.op (Zor ha k) a.Mask b.Mask (orI a.Mask b.Mask);rw[<-h1,<-h2];omega
 have hs:R1 ((l[(o+1).toNat]?).getD zE) ((l'[(o+1).toNat]?).getD zE)/\(((l[(o+1).toNat]?).getD zE).Mask≠0->(((l[(o+1).toNat]?).getD zE).Order=o/\((l[(o+1).toNat]?).getD zE).Mask=M)/\((l'[(o+1).toNat]?).getD zE).Order=o/\((l'[(o+1).toNat]?).getD zE).Mask=M):=by
  rcases h.get (o+1).toNat with⟨e1,e2⟩|⟨e,e',e1,e2,r⟩
  .rw[e1,e2];exact⟨⟨rfl,rfl,Int.le_refl _⟩,λhn=>absurd rfl hn⟩
  .have q1:=so _ _ e1;have q2:=so' _ _ e2;rw[e1,e2];refine⟨r,λhn=>?_⟩;have k1:=q1 hn;have k2:=q2 (by rw[<-r.1];exact hn);simp only[Option.getD_some];exact⟨⟨by omega,k1.2⟩,by omega,k2.2⟩
 refine h.set ?_ _;obtain⟨⟨r1,r2,r3⟩,r4⟩:=hs;unfold offE;rw[<-h1,<-h2,hM,<-r1];split
 .exact⟨rfl,rfl,hj⟩
 .rename_i hn;obtain⟨⟨q1,q2⟩,q3,q4⟩:=r4 hn;split<;>split
  .exact⟨rfl,rfl,hj⟩
  .exact⟨q4.symm,q3.symm,by show jc m s a b k<=_;omega⟩
  .exact⟨q2,q1,by show _<=jc m s' a' b' k;omega⟩
  .exact⟨r1,r2,r3⟩
theorem srt_le{qa:List Atom}{A:Int}(hA:M16 A){E E':List Za}(h:RL E E')(hE:Held m s qa A E)(c:Held m s' qa A E')(v:Int):(srt m s A E v).Cost<=(srt m s' A E' v).Cost/\Bd (srt m s A E v).Cost/\Bd (srt m s' A E' v).Cost:=by
 have b1:=hE.bd hA _ hE.best;have b2:=c.bd hA _ c.best;have c1:=Zf6 m.Sort_ (szAt s A) 0 (szAt s A);have c2:=Zf6 m.Sort_ (szAt s' A) 0 (szAt s' A);have hb:=h.best;have ho:=hz.op0 (Zor ha 2) A A;have h2:mOp m 2=m.Sort_:=rfl;rw[h2]at ho;unfold srt Bd;simp only;rw[w_id (x:=(Z3 E).Cost+Zbb m.Sort_ (szAt s A) 0 (szAt s A)) (by omega) (by omega),w_id (x:=(Z3 E').Cost+Zbb m.Sort_ (szAt s' A) 0 (szAt s' A)) (by omega) (by omega)];omega
theorem inp_le{qa:List Atom}{A:Int}(hA:M16 A){E E':List Za}(h:RL E E')(hE:Held m s qa A E)(c:Held m s' qa A E')(v:Int):(inp m s A E v).Mask=A/\(inp m s' A E' v).Mask=A/\(inp m s A E v).Cost<=(inp m s' A E' v).Cost/\Bd (inp m s A E v).Cost/\Bd (inp m s' A E' v).Cost:=by
 obtain⟨s1,s2,s3⟩:=srt_le ha hz hA h hE c v;have n1:(srt m s A E v).Mask=A:=rfl;have n2:(srt m s' A E' v).Mask=A:=rfl;unfold inp;rcases h.ofO v with⟨e1,e2⟩|⟨e,e',e1,e2,r⟩
 .rw[e1,e2];exact⟨n1,n2,s1,s2,s3⟩
 .have m1:=List.mem_of_find?_eq_some e1;have m2:=List.mem_of_find?_eq_some e2;have b1:=hE.bd hA _ m1;have b2:=c.bd hA _ m2;have k1:=hE.mask _ m1;have k2:=c.mask _ m2;have k3:=r.2.2;have q1:Bd e.Cost:=⟨by omega,by omega⟩;have q2:Bd e'.Cost:=⟨by omega,by omega⟩;rw[e1,e2];simp only;split<;>split
  .exact⟨k1,k2,k3,q1,q2⟩
  .exact⟨k1,n2,by omega,q1,s3⟩
  .exact⟨n1,k2,by omega,s2,q2⟩
  .exact⟨n1,n2,s1,s2,s3⟩
theorem Zbjh{M:Int}{b b':Za}(h2:b.Mask=b'.Mask)(h4:b.Cost<=b'.Cost)(b3:Bd b.Cost)(b4:Bd b'.Cost):∀{E E':List Za},RL E E'->(∀e∈E,-1<=e.Order/\orI e.Mask b.Mask=M/\Bd e.Cost)->(∀e∈E',Bd e.Cost)->∀{l l':List Za},RS M l l'->RS M (E.foldl (Ze1 m s b) l) (E'.foldl (Ze1 m s' b') l')
 |[],[],_,_,_,_,_,h=>h
 |e::E,e'::E',hr,h1,h1',l,l',h=>by
  obtain⟨k1,k2,k3⟩:=h1 e (by simp);have k4:=h1' e' (by simp);simp only[Yr];refine Zbjh h2 h4 b3 b4 hr.2 (λx hx=>h1 x (by simp[hx])) (λx hx=>h1' x (by simp[hx])) ?_;unfold Ze1;rw[<-hr.1.2.1]
  exact off_le ha hz 5 0 e.Order k1 h k2 hr.1.1 h2 hr.1.2.2 h4 k3 k4 b3 b4
 |[],_::_,hr,_,_,_,_,_=>hr.elim
 |_::_,[],hr,_,_,_,_,_=>hr.elim
theorem Zbji{qa:List Atom}{A B M:Int}(hp:Pair qa A B M){E E' F F':List Za}(hr:RL E E')(hf:RL F F')(hE:Held m s qa A E)(c:Held m s' qa A E')(hF:Held m s qa B F)(cc:Held m s' qa B F'):∀(sh:List Int),(∀v∈sh,-1<=v)->∀{l l':List Za},RS M l l'->RS M (sh.foldl (Zfg m s A B E F) l) (sh.foldl (Zfg m s' A B E' F') l')
 |[],_,_,_,h=>h
 |v::sh,hv,l,l',h=>by
  simp only[Yr];refine Zbji hp hr hf hE c hF cc sh (λx hx=>hv x (by simp[hx])) ?_;obtain⟨p1,p2,p3,p4,p5⟩:=inp_le ha hz hp.a16 hr hE c v;obtain⟨q1,q2,q3,q4,q5⟩:=inp_le ha hz hp.b16 hf hF cc v;unfold Zfg;exact off_le ha hz 4 v v (hv v (by simp)) h (by rw[p1,q1];exact hp.or) (by rw[p1,p2]) (by rw[q1,q2]) p3 q3 p4 p5 q4 q5
theorem split_le{qa:List Atom}{A B M:Int}(hp:Pair qa A B M){E E' F F':List Za}(hr:RL E E')(hf:RL F F')(hE:Held m s qa A E)(c:Held m s' qa A E')(hF:Held m s qa B F)(cc:Held m s' qa B F')(sh:List Int)(hv:∀v∈sh,-1<=v){l l':List Za}(h:RS M l l'):RS M (Zhh m s A B sh E F l) (Zhh m s' A B sh E' F' l'):=by
 unfold Zhh;have f1:=hF.bd hp.b16 _ hF.best;have f2:=cc.bd hp.b16 _ cc.best;have e1:=hE.bd hp.a16 _ hE.best;have e2:=c.bd hp.a16 _ c.best;have m1:=hE.mask _ hE.best;have m2:=c.mask _ c.best;have m3:=hF.mask _ hF.best;have m4:=cc.mask _ cc.best;refine Zbji ha hz hp hr hf hE c hF cc sh hv (Zbjh ha hz (by rw[m3,m4]) hf.best ⟨by omega,by omega⟩ ⟨by omega,by omega⟩ hr (λe he=>⟨(hE.ord e he).1,by rw[hE.mask e he,m3];exact hp.or,by have:=hE.bd hp.a16 e he;exact⟨by omega,by omega⟩⟩) (λe he=>by have:=c.bd hp.a16 e he;exact⟨by omega,by omega⟩) ?_);exact off_le ha hz 3 0 (-1) (by omega) h (by rw[m1,m3];exact hp.or) (by rw[m1,m2]) (by rw[m3,m4]) hr.best hf.best ⟨by omega,by omega⟩ ⟨by omega,by omega⟩ ⟨by omega,by omega⟩ ⟨by omega,by omega⟩
theorem Zbjj{qa:List Atom}{M:Int}{t t':List Za}(ht:RL t t'):∀(ps:List (Int×List Int)),(∀p∈ps,Zig m s qa t M p.1 p.2/\Zig m s' qa t' M p.1 p.2/\∀v∈p.2,-1<=v)->∀{l l':List Za},RS M l l'->RS M (ps.foldl (oneJ m s M t) l) (ps.foldl (oneJ m s' M t') l')
 |[],_,_,_,h=>h
 |p::ps,hp,l,l',h=>by
  simp only[Yr];refine Zbjj ht ps (λx hx=>hp x (by simp[hx])) ?_;obtain⟨o1,o2,o3⟩:=hp p (by simp);unfold oneJ;exact split_le ha hz o1.pair (ht.ofM _) (ht.ofM _) o1.left o2.left o1.right o2.right p.2 o3 h
end
theorem rs_zero(M:Int):RS M (List.replicate 5 zE) (List.replicate 5 zE):=by
 refine⟨⟨⟨rfl,rfl,Int.le_refl _⟩,⟨rfl,rfl,Int.le_refl _⟩,⟨rfl,rfl,Int.le_refl _⟩,⟨rfl,rfl,Int.le_refl _⟩,⟨rfl,rfl,Int.le_refl _⟩,trivial⟩,?_,?_⟩ <;>
 .intro k e he hn;have:=Ys he;rw[Yc0 this]at hn;exact absurd rfl hn
theorem Zbjk{m:Zd}{q:Zc}{s s':List Int}(ha:Zcl m)(hz:SzLe s s')(b:Base m q s)(b':Base m q s'):∀i,i<=(Zn q.Atoms).length->RL (Z8 m s q i) (Z8 m s' q i)
 |0,_=>trivial
 |i+1,hi=>by
  have ih:=Zbjk ha hz b b' i (by omega);have hlt:i<(Zn q.Atoms).length:=by omega
  obtain⟨h1,h2,h3,h4⟩:=Zlt hlt;have i1:=Zjx b i (by omega);have i2:=Zjx b' i (by omega);simp only[Z8];rw[show(Zn q.Atoms).getD i 0=(Zn q.Atoms)[i] by simp[List.getD,hlt]];refine ih.app ?_;generalize (Zn q.Atoms)[i]=M at h1 h2 h3 h4;have o1:=Zst b i1 h1 h3 h4;have o2:=Zst b' i2 h1 h3 h4;have big:RL ((Zjv m s M (Z8 m s q i) (Zcn q M)).filter sm) ((Zjv m s' M (Z8 m s' q i) (Zcn q M)).filter sm):=by
   refine(Zbjj ha hz (qa:=q.Atoms) ih (Zcn q M) (λp hp=>⟨o1 p hp,o2 p hp,?_⟩) (rs_zero M)).1.sm;unfold Zcn at hp;obtain⟨A,_,rfl⟩:=Yx.1 hp;exact λv hv=>(Zbim b.hv v hv).1.1
  unfold entM;split
  .refine⟨⟨rfl,rfl,?_⟩,trivial⟩;exact hz.op0 ha.1 M M
  .exact big
theorem opt_le{m:Zd}{q:Zc}{s s':List Int}(ha:Zcl m)(hz:SzLe s s')(b:Base m q s)(b':Base m q s')(hc:Zb2 q.Ze q.Atoms (Zu q.Ze q.Atoms)=true):(opt m q s).Cost<=(opt m q s').Cost/\-200000000000<=(opt m q s).Cost/\(opt m q s').Cost<=200000000000/\(opt m q s).Cost<=200000000000/\-200000000000<=(opt m q s').Cost:=by
 have h1:=((Zbjk ha hz b b' _ (Yf _)).ofM (Zu q.Ze q.Atoms)).best;have f:=Zoq q.Ze q.Atoms;have t1:=Zsw b hc;have t2:=Zsw b' hc;have k1:=t1.bd ⟨f.1,by omega⟩ _ t1.best;have k2:=t2.bd ⟨f.1,by omega⟩ _ t2.best;unfold opt tab at *
 exact⟨h1,k1.1,k2.2,k1.2,k2.1⟩
theorem Zbjl{lo hi:List Int}(h:Z6 lo hi=true):∀k,k<=lo.length->∀(idx:Int) (out:List Int),0<=idx->out.length=lo.length->(∀(i:Nat) (h1:i<out.length),lo.getD i 0<=out[i]/\out[i]<=hi.getD i 0)->∀(i:Nat) (h1:i<(locK lo hi k idx out).length),lo.getD i 0<=(locK lo hi k idx out)[i]/\(locK lo hi k idx out)[i]<=hi.getD i 0
 |0,_,idx,out,_,_,ho=>ho
 |k+1,hk,idx,out,h0,hl,ho=>by
  obtain⟨d1,d2,_,d3,d4⟩:=Zsx h (k:=k) (by omega);simp only[locK];refine Zbjl h k (by omega) _ _ (Int.ediv_nonneg h0 (by omega)) (by simp[hl]) ?_;intro i h1;rw[List.getElem_set];split
  .rename_i e;subst e;have m1:=Int.emod_nonneg idx (show dimD lo hi k≠0 by omega);have m2:=Int.emod_lt_of_pos idx (show 0<dimD lo hi k by omega);have m3:dimD lo hi k=hi.getD k 0-lo.getD k 0+1:=rfl;omega
  .exact ho i (by simpa using h1)
theorem loc_mid2{b:Box}(h:Z6 b.Low b.High=true){idx:Int}(h0:0<=idx):∀(i:Nat) (h1:i<(locB b idx).length),b.Low.getD i 0<=(locB b idx)[i]/\(locB b idx)[i]<=b.High.getD i 0:=by
 obtain⟨b1,b2,b3,b4⟩:=Zeu h;refine Zbjl h _ (Yf _) idx b.Low h0 rfl (λi h1=>?_);have:=b4 i h1 (by omega);have e1:b.Low.getD i 0=b.Low[i]:=by simp[List.getD,h1]
 have e2:b.High.getD i 0=b.High[i]'(by omega):=by simp[List.getD,show i<b.High.length by omega]
 rw[e1,e2];omega
theorem Zbxg{m:Zd}{q:Zc}{r:Region}(hm:LeM m)(hq:LeQ q)(h:Zbt m q r)(hp:Zhi m q r=true){l:List Int}(hl:Z9 l=true)(hn:l.length=r.Box.Low.length)(cd:∀(i:Nat) (h1:i<r.Box.Low.length) (h2:i<l.length),r.Box.Low[i]<=l[i])(cc:∀(i:Nat) (h1:i<l.length) (h2:i<r.Box.High.length),l[i]<=r.Box.High[i]):Zcc m q.Ze q.Atoms r.Plan.Steps (Zbh l)*100<=r.Percent*(opt m q (Zbh l)).Cost/\Zlv m q r l=true:=by
 obtain⟨f1,f2,f3,f4,f5,f6,f7⟩:=Zgp h;obtain⟨b1,b2,b3,b4⟩:=Zeu f5;have z1:=Zbje f2 hl (by omega) cd;have z2:=Zbje hl f3 (by omega) cc;have k1:=Zop hm h.2.2 hq f1 f2 f4;have k2:=Zop hm h.2.2 hq f1 hl (by omega);have k3:=Zop hm h.2.2 hq f1 f3 (by omega);have p1:=plan_le h.2.2 z2 q.Ze q.Atoms r.Plan.Steps k2.hsv k3.hsv;have p2:=opt_le h.2.2 z1 k1 k2 h.2.1;have pc:=Zwl.1 f6;have e1:∀c:Int,-200000000000<=c->c<=200000000000->-200000000000000<=r.Percent*c/\r.Percent*c<=200000000000000:=by
  intro c c1 c2;have:=mul_b (a:=c) (l:=r.Percent) (A:=200000000000) (L:=1000) (by omega) (by omega) (by omega) (by omega);rw[Int.mul_comm];omega
 unfold Zhi at hp;simp only[decide_eq_true_eq]at hp;have q1:=e1 _ p2.2.1 p2.2.2.2.1;have q2:=e1 _ p2.2.2.2.2 p2.2.2.1;rw[w_id (by omega) (by omega),w_id (by omega) (by omega)]at hp;have q3:r.Percent*(opt m q (Zbh r.Box.Low)).Cost<=r.Percent*(opt m q (Zbh l)).Cost:=Int.mul_le_mul_of_nonneg_left p2.1 (by omega);refine⟨by omega,?_⟩;unfold Zlv;rw[w_id (by omega) (by omega),w_id (by omega) (by omega)];simp only[Bool.not_eq_true',decide_eq_false_iff_not];omega
theorem Zbxh{m:Zd}{q:Zc}{r:Region}(hm:LeM m)(hq:LeQ q)(h:Zf9 m q r=true)(h4:Zbu r.Box.Low r.Box.High<=400):holds m q r=true:=by
 unfold Zf9 at h;simp only[Yc,decide_eq_true_eq]at h;obtain⟨h1,h2⟩:=h;obtain⟨f1,f2,f3,f4,f5,f6,f7⟩:=Zgp h1;obtain⟨b1,b2,b3,b4⟩:=Zeu f5;unfold holds;simp only[Yc,decide_eq_true_eq];refine⟨h1,h4,?_⟩;rw[Yl];intro l hl;unfold Zcy at hl;obtain⟨i,_,rfl⟩:=Yx.1 hl;obtain⟨k1,k2⟩:=loc_B f5 (idx:=(i:Int)) (by omega);have k3:=loc_mid2 f5 (idx:=(i:Int)) (by omega);refine(Zbxg hm hq h1 h2 k1 k2 (λj g1 g2=>?_) (λj g1 g2=>?_)).2
 .have:=(k3 j g2).1
  rwa [show r.Box.Low.getD j 0=r.Box.Low[j] by simp[List.getD,g1]]at this
 .have:=(k3 j g1).2
  rwa [show r.Box.High.getD j 0=r.Box.High[j] by simp[List.getD,g2]]at this
end Go.Proofs.YtcfaekfjkeobhaaGreat
