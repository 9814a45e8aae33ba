/-
  Parts of the proofs for this seat: UA UB WL UC UD UE SX WI L38.
-/
import Derived.Test.YteaiinkcanpleaaGreatP36
set_option linter.all false
set_option maxRecDepth 100000
set_option maxHeartbeats 4000000
namespace Go.Proofs.YteaiinkcanpleaaGreat
open Go.AM
def qT{b:Box}(h4:ZH b.Low b.High<=400)(h1:1<=ZH b.Low b.High):Xr b.Low b.High=true/\vol b.Low b.High=ZH b.Low b.High:=by
 rcases tf (Xr b.Low b.High)with e|e
 .unfold ZH at h1;rw[e]at h1;simp at h1
 .refine⟨e,?_⟩;unfold ZH at h4|-;rw[Ya e]at h4|-;unfold WZ at h4|-;split at h4
  .omega
  .rw[Yb (by assumption)]
def Z2B(b:Box)(hb:Dl b)(l:WL)(hl:Le l):LU b l=some (Bo (MF b.Low b.High l),[]):=by
 refine X0.2.1.2.1 _ _ _ ⟨_,Z0W b hb,?_⟩;unfold MF;rcases tf (Xr b.Low b.High)with e|e
 .rw[e];simp
 rw[e,Ya rfl];refine⟨_,Z0V l b.Low hl,?_⟩;rcases tf (dom l b.Low)with e2|e2
 .rw[e2];simp
 rw[e2,Ya rfl];exact⟨_,Z0V b.High l hb.2,Om⟩
def AbB{b:Box}(h:Xr b.Low b.High=true){l:WL}(hl:dom l b.Low=true)(hh:dom b.High l=true):∀k,k<=l.length->∀n,0<=n->n<Uo b.Low b.High k->∃v,gH b l n k=some (I v,[])/\v<vol b.Low b.High:=by
 obtain⟨b1,b2,b3,b4⟩:=Vp h;have e1:=Z0R hl;have e2:=Z0R hh;refine down _ ?_ ?_
 .intro n _ hn;rw[e1,Z28 h]at hn;exact⟨n,X0.2.1.2.2 _ _ _ _ _ (by rw[Ao]),hn⟩
 .intro k hk ih n h0 hn;have hk1:k<b.Low.length:=by omega
  have hk2:k<b.High.length:=by omega
  obtain⟨d1,d2,g1,d3,d4⟩:=Tw h hk1;have hd:Xg b.Low b.High k=b.High[k]-b.Low[k]+1:=by
   unfold Xg;rw[g1,show b.High.getD k 0=b.High[k] by simp[List.getD,hk2]]
  have c1:b.Low[k]<=l[k]:=by
   have:=hl;unfold dom at this;simp only[Yg]at this;exact ZpZ this.2 k hk hk1
  have c2:l[k]<=b.High[k]:=by
   have:=hh;unfold dom at this;simp only[Yg]at this;exact ZpZ this.2 k hk2 hk
  have hv:=Zrf h (k+1) Z;have hp:=Zqa (show k+1<=16 by omega);have hv2:=hv.2;rw[Uo]at hv2;have g3:=b4 k hk1 hk2;have m1:(n+1)*Xg b.Low b.High k<=Uo b.Low b.High k*Xg b.Low b.High k:=Int.mul_le_mul_of_nonneg_right Z Z;have m0:0<=n*Xg b.Low b.High k:=Int.mul_nonneg h0 Z;rw[Int.add_mul,Int.one_mul]at m1;obtain⟨v,e,hv'⟩:=ih (n*Xg b.Low b.High k+l[k]-b.Low[k]) Z (by rw[Uo];omega);refine⟨v,X0.2.1.2.2 _ _ _ _ _ ?_,hv'⟩;rw[An];refine⟨Z,_,gE hk2,_,gE hk1,_,gE hk,?_⟩;rw[wS hk Z,show w (w (b.High[k]-b.Low[k])+1)=Xg b.Low b.High k by rw[WD (x:=b.High[k]-b.Low[k]) Z Z,WD Z Z,hd],WD (x:=n*Xg b.Low b.High k) Z Z,WD (x:=n*Xg b.Low b.High k+l[k]) Z Z,WD (x:=n*Xg b.Low b.High k+l[k]-b.Low[k]) Z Z];exact e
def AbC{b:Box}(h:Xr b.Low b.High=true){l:WL}(hl:l.length<=1000):∃v,zQ b l=some (I v,[])/\v<vol b.Low b.High:=by
 obtain⟨b1,b2,b3,b4⟩:=Vp h;have hv:=Zrg h;have hx:=Z2B b ⟨Z,Z⟩ l Z;rcases tf (MF b.Low b.High l)with e|e
 .rw[e]at hx;exact⟨-1,X0.2.2.1.1 _ _ _ ⟨_,hx,by rw[Yb Om]⟩,Z⟩
 .rw[e]at hx;unfold MF at e;simp only[Yg]at e;obtain⟨v,e2,hv⟩:=AbB h e.1.2 e.2 0 (Yc _) 0 Z (by simp[Uo]);exact⟨v,X0.2.2.1.1 _ _ _ ⟨_,hx,by rw[Ya rfl];exact e2⟩,hv⟩
def AbD{b:Box}(h:Xr b.Low b.High=true){l:WL}(hl:l.length<=1000){k:Nat}(hk:k<l.length):∃v,zR b l k=some (I v,[])/\v<vol b.Low b.High:=by
 obtain⟨v,e,hv⟩:=AbC h (l:=l.set k (w (l[k]+1))) (by simp;omega);exact⟨v,X0.2.2.1.2 _ _ _ _ ⟨Z,Z,_,gE hk,v,by rw[Yh];exact e,rfl⟩,hv⟩
structure U8 (s:ZY):Prop where
 v1:1<=ZH s.Box.Low s.Box.High
 v4:ZH s.Box.Low s.Box.High<=400
 cl:(s.Costs.length:Int)=ZH s.Box.Low s.Box.High
 hl:(s.Choices.length:Int)=ZH s.Box.Low s.Box.High
 co:∀c∈s.Costs,1<=c/\c<=28000000000
 ch:∀c∈s.Choices,0<=c/\c<s.Plans.length
 pl:s.Plans.length<=400
 ps:∀p∈s.Plans,p.Steps.length<=1000
def U8.box{s:ZY}(h:U8 s):Xr s.Box.Low s.Box.High=true:=(qT h.v4 h.v1).1
def U8.leX{s:ZY}(h:U8 s):Dl s.Box:=by
 obtain⟨b1,b2,b3,b4⟩:=Vp h.box;exact⟨Z,Z⟩
def U8.vol{s:ZY}(h:U8 s):vol s.Box.Low s.Box.High=ZH s.Box.Low s.Box.High:=(qT h.v4 h.v1).2
def qU{s:ZY}(h:U8 s):∀i,i<=s.Costs.length->fZ s (ZH s.Box.Low s.Box.High) i=some (Bo true,[]):=by
 have h1:=h.cl;have h2:=h.hl;have h3:=h.pl;have h4:=h.v4;refine down _ ?_ ?_
 .exact X0.1.1.2.2 _ _ _ _ (by rw[Ao])
 .intro i hi ih;have hi2:i<s.Choices.length:=by omega
  have c1:=h.co _ (Yf hi);have c2:=h.ch _ (Yf hi2);apply X0.1.1.2.2;rw[An,wS hi Z,WD (x:=(s.Plans.length:Int)-1) Z Z];refine⟨Z,_,gE hi,_,ZM _ _ _,?_⟩;rw[Ya (by simp[Al];omega)];refine⟨_,gE hi2,_,ZM _ _ _,?_⟩;rw[Ya (by simp[Al];omega)];exact ih
def GJ{s:ZY}(h:U8 s):J3 s=some (Bo true,[]):=by
 refine X0.1.2.1.1 _ _ ⟨_,SE s.Box h.leX,_,ZM _ _ _,?_⟩;have:=h.v1;have:=h.v4;rw[Ya (by simp[Al];omega),Ya h.cl,Ya h.hl];exact qU h 0 (Yc _)
def AbE{s:ZY}(h:U8 s):∀i,i<=s.Costs.length->∀lo hi,1<=lo->lo<=hi->hi<=28000000000->∃lo' hi',gB s lo hi i=some (.tup [I lo',I hi'],[])/\1<=lo'/\lo'<=hi'/\hi'<=28000000000:=by
 have h1:=h.cl;have h4:=h.v4;refine down _ ?_ ?_
 .intro lo hi a b c;exact⟨lo,hi,X0.1.2.1.2 _ _ _ _ _ (by rw[Ao]),a,b,c⟩
 .intro i hi ih lo hi' a b c;have c1:=h.co _ (Yf hi);obtain⟨x,y,e,hh⟩:=ih (if s.Costs[i]<lo then s.Costs[i]else lo) (if hi'<s.Costs[i]then s.Costs[i]else hi') (by split<;>omega) (by split<;>split<;>omega) (by split<;>omega);refine⟨x,y,X0.1.2.1.2 _ _ _ _ _ ?_,hh⟩;rw[An,wS hi Z];exact⟨Z,_,gE hi,e⟩
def AbF{s:ZY}(h:U8 s):∃lo hi,gA s=some (.tup [I lo,I hi],[])/\1<=lo/\lo<=hi/\hi<=28000000000:=by
 have h1:=h.cl;have h2:=h.v1;have hp:0<s.Costs.length:=by omega
 have c1:=h.co _ (Yf hp);obtain⟨x,y,e,hh⟩:=AbE h 0 (Yc _) s.Costs[0] s.Costs[0] c1.1 Z c1.2;exact⟨x,y,X0.1.2.2.1 _ _ ⟨_,GJ h,by rw[Ya rfl];exact⟨_,Yd hp,e⟩⟩,hh⟩
def Cm(P:WL->Prop)(R:Rs):Prop:=∃o:WL,R=some (.own 0,[.arr Z9 1 true (o.map ic)])/\P o
def Cm.of{P:WL->Prop}{R R':Rs}(h:Cm P R')(q:∀r,R'=some r->R=some r):Cm P R:=by
 obtain⟨o,e,ho⟩:=h;exact⟨o,q _ e,ho⟩
def Cm.imp{P Q:WL->Prop}{R:Rs}(h:Cm P R)(q:∀o,P o->Q o):Cm Q R:=by
 obtain⟨o,e,ho⟩:=h;exact⟨o,e,q _ ho⟩
def qW{hi c:Int}(hr:2<=c/\c<=8)(hh:hi<=28000000000):∀(n:Nat),n<=100->∀(b:Int) (out:WL),1<=b->hi<=b*2 ^ n->out.length+n<=200->Cm (λo=>out.length<=o.length/\o.length<=out.length+n) (gF out hi c b)
 |0,_,b,out,h1,h2,h3=>⟨out,X0.1.2.2.2.1 _ _ _ _ _ (by rw[Ao]),Z,Z⟩
 |n+1,hn,b,out,h1,h2,h3=>by
  by_cases e:b<hi
  .have hb:b*2<=b*c:=Int.mul_le_mul_of_nonneg_left hr.1 Z;have hb8:b*c<=b*8:=Int.mul_le_mul_of_nonneg_left hr.2 Z;have hw:w (b*c)=b*c:=WD Z Z;have hp:b*2*2 ^ n<=b*c*2 ^ n:=Int.mul_le_mul_of_nonneg_right hb (Int.pow_nonneg Z);have ih:=qW hr hh n Z (b*c) (out++[b*c]) Z (by rw[Int.pow_succ,Int.mul_comm (2 ^ n) 2,<-Int.mul_assoc]at h2;omega) (by simp;omega);refine(ih.of λr hr=>X0.1.2.2.2.1 _ _ _ _ _ (by rw[Ya e,hw];exact⟨Z,hr⟩)).imp λo ho=>?_
   simp only[Yu,List.length_singleton]at ho;omega
  .exact⟨out,X0.1.2.2.2.1 _ _ _ _ _ (by rw[Yb e]),Z,Z⟩
def AbG{lo hi c:Int}(hr:2<=c/\c<=8)(h1:1<=lo)(h2:lo<=hi)(hh:hi<=28000000000):Cm (λo=>1<=o.length/\o.length<=41) (gC lo hi c):=by
 have hp:lo*1<=lo*1:=Int.le_refl _;have h40:hi<=lo*2 ^ 40:=by
  have:1*2 ^ 40<=lo*2 ^ 40:=Int.mul_le_mul_of_nonneg_right h1 (Int.pow_nonneg Z)
  omega
 have e:=qW hr hh 40 Z lo [lo] h1 h40 Om;refine(e.of λr hr'=>X0.1.2.2.2.2 _ _ _ _ ⟨_,ZM _ _ _,?_⟩).imp λo ho=>?_
 .rw[Ya (by simp[Al];omega)];refine⟨_,ZM _ _ _,?_⟩;rw[Ya (by simp[Al];omega)];refine⟨_,ZM _ _ _,?_⟩;rw[Ya (by simp[Al];omega)];exact hr'
 .simp at ho;omega
section
variable{s:ZY}(hs:U8 s)
include hs
theorem AbH{P:WL->Prop}(c:Int){out l:WL}(hl:l.length<=1000)(ho:out.length<=1000)(i:Int)(cc:∀o,(o=out\/o=out++[i])->Cm P (Hz s o c (w (i+1)))):∀k,k<=l.length->∀top,Cm P (gI s out l c i top k):=by
 have h1:=hs.cl;have h4:=hs.v4;refine down _ ?_ ?_
 .intro top;rcases tf top with e|e<;>subst e
  .exact(cc _ (.inl rfl)).of λr hr=>X0.2.2.2.2.1 _ _ _ _ _ _ _ _ (by rw[Ao,Yb Om];exact hr)
  .exact(cc _ (.inr rfl)).of λr hr=>X0.2.2.2.2.1 _ _ _ _ _ _ _ _ (by rw[Ao,Ya rfl];exact⟨Z,hr⟩)
 .intro k hk ih top;obtain⟨v,e,hv⟩:=AbD hs.box hl hk;rw[hs.vol]at hv;have h5:=wS hk Z;rcases tf top with e2|e2<;>subst e2
  .exact(ih false).of λr hr=>X0.2.2.2.2.1 _ _ _ _ _ _ _ _ (by rw[An,h5];exact⟨_,e,by rw[Yb Om];exact hr⟩)
  .by_cases e3:v<0
   .exact(ih true).of λr hr=>X0.2.2.2.2.1 _ _ _ _ _ _ _ _ (by rw[An,h5];exact⟨_,e,by rw[Ya rfl,Ya e3];exact hr⟩)
   .exact(ih _).of λr hr=>X0.2.2.2.2.1 _ _ _ _ _ _ _ _ (by rw[An,h5];exact⟨_,e,by rw[Ya rfl,Yb e3];exact⟨Z,_,Yd (show v.toNat<s.Costs.length by omega),hr⟩⟩)
theorem AbI(c:Int):∀i,i<=s.Costs.length->∀out:WL,(∀x∈out,0<=x/\x<ZH s.Box.Low s.Box.High)->out.length<=i->Cm (λo=>o.length<=400/\∀x∈o,0<=x/\x<ZH s.Box.Low s.Box.High) (Hz s out c i):=by
 have h1:=hs.cl;have h4:=hs.v4;refine down _ ?_ ?_
 .intro out ho hl;exact⟨out,X0.2.2.2.1 _ _ _ _ _ (by rw[Ao]),Z,ho⟩
 .intro i hi ih out ho hl;have h5:=wS hi Z;by_cases e:c<s.Costs[i]
  .exact(ih out ho Z).of λr hr=>X0.2.2.2.1 _ _ _ _ _ (by rw[An,h5];exact⟨Z,_,gE hi,by rw[Ya e];exact hr⟩)
  .have hv:=hs.vol;have hb:=qQ s.Box hs.leX hs.box (idx:=(i:Int)) Z Z;obtain⟨k1,k2⟩:=Tx hs.box (show(0:Int)<=(i:Int) by omega);have l1:=Qw k1
   have:=AbH hs (P:=λo=>o.length<=400/\∀x∈o,0<=x/\x<ZH s.Box.Low s.Box.High) c (out:=out) (l:=WC s.Box i) Z Z (i:Int) (by
    rintro o (rfl|rfl)
    .rw[h5];exact ih _ ho Z
    .rw[h5];exact ih _ (λx hx=>by
      rcases Yl.1 hx with hx|hx
      .exact ho x hx
      .simp at hx;omega) (by simp;omega)) 0 (Yc _) true
   exact this.of λr hr=>X0.2.2.2.1 _ _ _ _ _ (by rw[An];exact⟨Z,_,gE hi,by rw[Yb e];exact⟨_,_,hb,hr⟩⟩)
theorem AbJ(c:Int):Cm (λo=>o.length<=400/\∀x∈o,0<=x/\x<ZH s.Box.Low s.Box.High) (LV s c) :=
 (AbI hs c 0 (Yc _) [] Om Om).of λr hr=>X0.2.2.2.2.2 _ _ _ ⟨_,GJ hs,by rw[Ya rfl];exact hr⟩
theorem AbK(f:WL)(hf:f.length<=1000):∀i,i<=f.length->∀out:WL,out.length<=i->Cm (λo=>o.length<=f.length) (RQ s out f i):=by
 have h2:=hs.hl;have h1:=hs.v1;have h4:=hs.v4;refine down _ ?_ ?_
 .intro out hl;exact⟨out,X6.1.1.1.1 _ _ _ _ _ (by rw[Ao]),Z⟩
 .intro i hi ih out hl;have h5:=wS hi Z;have hw:w ((s.Choices.length:Int)-1)=(s.Choices.length:Int)-1:=WD Z Z;rcases tf (Al f[i] 0 ((s.Choices.length:Int)-1))with e|e
  .exact(ih out Z).of λr hr=>X6.1.1.1.1 _ _ _ _ _ (by
    rw[An,h5,hw]
    exact⟨_,GJ hs,by rw[Ya rfl];exact⟨Z,_,gE hi,_,ZM _ _ _,by rw[e,Yb Om];exact hr⟩⟩)
  .have e':0<=f[i]/\f[i]<=(s.Choices.length:Int)-1:=by simpa[Al]using e
   have hx:=Yd (show f[i].toNat<s.Choices.length by omega);rcases tf (has out s.Choices[f[i].toNat])with e2|e2
   .exact(ih (out++[s.Choices[f[i].toNat]]) (by simp;omega)).of λr hr=>X6.1.1.1.1 _ _ _ _ _ (by
     rw[An,h5,hw]
     exact⟨_,GJ hs,by rw[Ya rfl];exact⟨Z,_,gE hi,_,ZM _ _ _,by rw[e,Ya rfl];exact⟨e'.1,_,hx,_,Qq _ _ Z,by rw[e2,Yb Om];exact⟨Z,hr⟩⟩⟩⟩)
   .exact(ih out Z).of λr hr=>X6.1.1.1.1 _ _ _ _ _ (by
     rw[An,h5,hw]
     exact⟨_,GJ hs,by rw[Ya rfl];exact⟨Z,_,gE hi,_,ZM _ _ _,by rw[e,Ya rfl];exact⟨e'.1,_,hx,_,Qq _ _ Z,by rw[e2,Ya rfl];exact hr⟩⟩⟩)
theorem AbL(f:WL)(hf:f.length<=1000):Cm (λo=>o.length<=f.length) (gJ s f) :=
 (AbK hs f hf 0 (Yc _) [] Om).of λr hr=>X6.1.1.1.2 _ _ _ hr
def qX(m:Zf)(q:Zc)(s:ZY)(k i:Int):Int:=Vt m q.Zh q.Atoms ((s.Plans[k.toNat]?).getD ⟨[]⟩).Steps (ZG (WC s.Box i))
def cvB(m:Zf)(q:Zc)(s:ZY)(c k i:Int):Bool:=Al k 0 ((s.Plans.length:Int)-1) && decide (0<=qX m q s k i) && decide (qX m q s k i<=c)
abbrev DK(m:Zf)(q:Zc)(s:ZY)(budget k:Int)(left:WL):WL:=left.filter (cvB m q s budget k)
variable{m:Zf}{q:Zc}(hm:Ba m)(hq:AI q)
include hm hq
theorem qY(c k:Int){i:Int}(h0:0<=i)(h1:i<ZH s.Box.Low s.Box.High):gO m q s k i c=some (Bo (cvB m q s c k i),[]):=by
 have hv:=hs.vol;have h4:=hs.pl;have hb:=qQ s.Box hs.leX hs.box (idx:=i) h0 Z;obtain⟨k1,k2⟩:=Tx hs.box h0;have l1:=Qw k1;refine X6.2.2.2.2.2 _ _ _ _ _ _ _ ⟨_,_,hb,?_⟩;rw[Ya rfl];refine⟨_,GJ hs,?_⟩;rw[Ya rfl];refine⟨_,ZM _ _ _,?_⟩;rw[WD (x:=(s.Plans.length:Int)-1) Z Z];unfold cvB;rcases tf (Al k 0 ((s.Plans.length:Int)-1))with e|e
 .rw[e,Yb Om];simp
 .have e':0<=k/\k<=(s.Plans.length:Int)-1:=by simpa[Al]using e
  have hk:k.toNat<s.Plans.length:=by omega
  rw[e,Ya rfl];refine⟨e'.1,_,Yd hk,_,Z1Z m hm q hq _ _ Z k1,?_⟩;have ec:qX m q s k i=Vt m q.Zh q.Atoms s.Plans[k.toNat].Steps (ZG (WC s.Box i)):=by unfold qX;rw[Yd hk];rfl
  rw[<-ec];by_cases e3:0<=qX m q s k i
  .rw[Ya e3];simp[e3]
  .rw[Yb e3];simp[e3]
theorem AbM(c k:Int)(f:WL)(hl:f.length<=1000)(hf:∀x∈f,0<=x/\x<ZH s.Box.Low s.Box.High):∀i,i<=f.length->∀out:WL,out.length<=i->RX m q s out k f c i=some (.own 0,[.arr Z9 1 true ((out++DK m q s c k (f.drop i)).map ic)]):=by
 refine down _ ?_ ?_
 .intro out ho;apply X4.1.1.1.1;rw[Ao];simp[DK]
 .intro i hi ih out ho;have hx:=hf _ (Yf hi);apply X4.1.1.1.1;rw[An,wS hi Z,Yi hi];refine⟨Z,_,gE hi,_,qY hs hm hq c k hx.1 hx.2,?_⟩;unfold DK at ih|-;rcases tf (cvB m q s c k f[i])with e|e
  .rw[e,Yb Om,List.filter_cons_of_neg (by simp[e])];exact ih _ Z
  .rw[e,Ya rfl,List.filter_cons_of_pos e];refine⟨Z,?_⟩;rw[ih _ (by simp;omega)];simp
theorem OC(c k:Int)(f:WL)(hl:f.length<=1000)(hf:∀x∈f,0<=x/\x<ZH s.Box.Low s.Box.High):gP m q s k f c=some (.own 0,[.arr Z9 1 true ((DK m q s c k f).map ic)]) :=
 X4.1.1.1.2 _ _ _ _ _ _ _ (by simpa using AbM hs hm hq c k f hl hf 0 (Yc _) [] Om)
end
section
variable{s:ZY}(hs:U8 s){m:Zf}{q:Zc}(hm:Ba m)(hq:AI q)
theorem AbN{P:WL->Prop}(out l f:WL)(c:Int)(hf:f.length<=1000)(cc:∀left:WL,left.length<=f.length->(∀x∈left,x∈f)->Cm P (HB m q s out l left c)):∀i,i<=f.length->∀left:WL,left.length<=i->(∀x∈left,x∈f)->Cm P (RZ m q s out l left f c i):=by
 refine down _ ?_ ?_
 .intro left h1 h2;exact(cc left h1 h2).of λr hr=>X4.1.1.2.1 _ _ _ _ _ _ _ _ _ _ (by rw[Ao];exact hr)
 .intro i hi ih left h1 h2;have h5:=wS hi Z;rcases tf (has left f[i])with e|e
  .exact(ih (left++[f[i]]) (by simp;omega) (λx hx=>by
    rcases Yl.1 hx with hx|hx
    .exact h2 x hx
    .rw[List.mem_singleton.1 hx];exact Yf hi)).of λr hr=>X4.1.1.2.1 _ _ _ _ _ _ _ _ _ _ (by
     rw[An,h5]
     exact⟨Z,_,gE hi,_,Qq _ _ Z,by rw[e,Yb Om];exact⟨Z,hr⟩⟩)
  .exact(ih left Z h2).of λr hr=>X4.1.1.2.1 _ _ _ _ _ _ _ _ _ _ (by
     rw[An,h5]
     exact⟨Z,_,gE hi,_,Qq _ _ Z,by rw[e,Ya rfl];exact hr⟩)
abbrev OD(m:Zf)(q:Zc)(s:ZY)(budget k:Int)(left:WL):WL:=left.filter λx=>!has (DK m q s budget k left) x
theorem AbO{P:WL->Prop}(out l left gone:WL)(c:Int)(hl:left.length<=1000)(hg:gone.length<=1000)(ho:out.length<=1000){j:Nat}(hj:j<l.length)
  (cc:Cm P (HB m q s (out++[l[j]]) l (left.filter λx=>!has gone x) c)):∀i,i<=left.length->∀nx:WL,nx++((left.drop i).filter λx=>!has gone x)=(left.filter λx=>!has gone x)->Cm P (gU m q s out l left gone nx c j i):=by
 have hfl:(left.filter λx=>!has gone x).length<=left.length:=GN _ _;refine down _ ?_ ?_
 .intro nx hx;rw[Ym,List.filter_nil,E0]at hx;subst hx;exact cc.of λr hr=>X4.1.2.1.2 _ _ _ _ _ _ _ _ _ _ _ _ (by rw[Ao];exact⟨Z,_,gE hj,Z,hr⟩)
 .intro i hi ih nx hx;have h5:=wS hi Z;have hnl:nx.length<=left.length:=by
   have:=congrArg List.length hx;simp only[Yu]at this;omega
  rw[Yi hi]at hx;rcases tf (has gone left[i])with e|e
  .rw[List.filter_cons_of_pos (by simp[e])]at hx
   exact(ih (nx++[left[i]]) (by simpa using hx)).of λr hr=>X4.1.2.1.2 _ _ _ _ _ _ _ _ _ _ _ _ (by
     rw[An,h5]
     exact⟨Z,_,gE hi,_,Qq _ _ Z,by rw[e,Yb Om];exact⟨Z,hr⟩⟩)
  .rw[List.filter_cons_of_neg (by simp[e])]at hx
   exact(ih nx hx).of λr hr=>X4.1.2.1.2 _ _ _ _ _ _ _ _ _ _ _ _ (by
     rw[An,h5]
     exact⟨Z,_,gE hi,_,Qq _ _ Z,by rw[e,Ya rfl];exact hr⟩)
include hs hm hq
theorem AbP{P:WL->Prop}(out l left:WL)(c:Int)(hl:left.length<=1000)(cl:l.length<=1000)(ho:out.length<=1000)(cc:∀x∈left,0<=x/\x<ZH s.Box.Low s.Box.High)(hP:P out)
  (cd:∀(j:Nat) (hj:j<l.length),DK m q s c l[j] left≠[]->Cm P (HB m q s (out++[l[j]]) l (OD m q s c l[j] left) c)):∀k,k<=l.length->∀best most:Int,(best=-1\/∃(j:Nat) (hj:j<l.length),best=j/\DK m q s c l[j] left≠[])->0<=most->Cm P (gT m q s out l left c best most k):=by
 refine down _ ?_ ?_
 .intro best most hb hm0;rcases hb with rfl|⟨j,hj,rfl,hc⟩
  .exact⟨out,X4.1.2.1.1 _ _ _ _ _ _ _ _ _ _ _ (by rw[Ao,An]),hP⟩
  .have hcl:(DK m q s c l[j] left).length<=left.length:=GN _ _;have:=AbO (m:=m) (q:=q) (s:=s) out l left (DK m q s c l[j] left) c hl Z ho hj (cd j hj hc) 0 (Yc _) [] Om
   exact this.of λr hr=>X4.1.2.1.1 _ _ _ _ _ _ _ _ _ _ _ (by
    rw[Ao,Ao]
    exact⟨Z,_,gE hj,_,OC hs hm hq c _ left hl cc,hr⟩)
 .intro k hk ih best most hb hm0;have h5:=wS hk Z;by_cases e:most<((DK m q s c l[k] left).length:Int)
  .exact(ih (k:Int) ((DK m q s c l[k] left).length:Int) (.inr ⟨k,hk,rfl,λh=>by rw[h]at e;simp at e;omega⟩) Z).of λr hr=>X4.1.2.1.1 _ _ _ _ _ _ _ _ _ _ _ (by
    rw[An,h5]
    exact⟨Z,_,gE hk,_,OC hs hm hq c _ left hl cc,by rw[Ya e];exact hr⟩)
  .exact(ih best most hb hm0).of λr hr=>X4.1.2.1.1 _ _ _ _ _ _ _ _ _ _ _ (by
    rw[An,h5]
    exact⟨Z,_,gE hk,_,OC hs hm hq c _ left hl cc,by rw[Yb e];exact hr⟩)
theorem qZ(l:WL)(c:Int)(cc:l.length<=1000):∀(n:Nat) (left:WL),left.length<=n->(∀x∈left,0<=x/\x<ZH s.Box.Low s.Box.High)->∀out:WL,out.length+n<=1000->Cm (λo=>o.length<=out.length+n) (HB m q s out l left c)
 |n,[],_,_,out,_=>⟨out,X4.1.1.2.2 _ _ _ _ _ _ _ _ (by rw[Yb Om]),Z⟩
 |0,x::left,hn,_,_,_=>by simp at hn
 |n+1,x::left,hn,hleft,out,ho=>by
  have:=AbP hs hm hq (P:=λo=>o.length<=out.length+(n+1)) out l (x::left) c Z cc Z hleft Z (λj hj hc=>by
   have hsub:(OD m q s c l[j] (x::left)).length<=n:=by
    have:(OD m q s c l[j] (x::left)).length<(x::left).length:=by
     obtain⟨y,hy⟩:=List.exists_mem_of_ne_nil _ hc;refine List.length_filter_lt_length_iff_exists.2 ⟨y,(CR.1 hy).1,?_⟩
     have:has (DK m q s c l[j] (x::left)) y=true:=Ko.2 hy
     simp[this]
    omega
   exact(qZ l c cc n _ hsub (λy hy=>hleft y ((CR.1 hy).1)) (out++[l[j]]) (by simp;omega)).imp λo h=>by simp at h;omega) 0 (Yc _) (-1) 0 (.inl rfl) Z
  exact this.of λr hr=>X4.1.1.2.2 _ _ _ _ _ _ _ _ (by rw[Ya Om];exact hr)
theorem rA(f:WL)(c:Int)(hf:f.length<=400)(cc:∀x∈f,0<=x/\x<ZH s.Box.Low s.Box.High):Cm (λo=>o.length<=400) (RY m q s f c):=by
 obtain⟨l,e,hl⟩:=AbL hs f Z;exact(AbN (m:=m) (q:=q) (s:=s) [] l f c Z (λleft h1 h2=>(qZ hs hm hq l c Z 400 left Z (λx hx=>cc x (h2 x hx)) [] Om).imp λo h=>by simpa using h) 0 (Yc _) [] Om Om).of λr hr=>X4.1.2.2.1 _ _ _ _ _ _ ⟨_,e,hr⟩
end
def q3{a b c d:Int}(hb:0<b)(hd:0<d):(c / d<a / b->c*b<a*d)/\(a*d-c*b=(b*d)*(a / b-c / d)+((a % b)*d-(c % d)*b)):=by
 have e1:=Int.mul_ediv_add_emod a b;have e2:=Int.mul_ediv_add_emod c d;have a0:=Int.emod_nonneg a (show b≠0 by omega);have a1:=Int.emod_lt_of_pos a hb;have c0:=Int.emod_nonneg c (show d≠0 by omega);have c1:=Int.emod_lt_of_pos c hd;generalize a / b=x at *
 generalize c / d=y at *
 generalize a % b=α at *
 generalize c % d=γ at *
 have key:a*d-c*b=(b*d)*(x-y)+(α*d-γ*b):=by
  rw[<-e1,<-e2,Int.add_mul,Int.add_mul,Int.mul_sub,show b*x*d=b*d*x by ac_rfl,show d*y*b=b*d*y by ac_rfl];omega
 refine⟨λh=>?_,key⟩;have h1:b*d*1<=b*d*(x-y):=Int.mul_le_mul_of_nonneg_left Z (Int.le_of_lt (Int.mul_pos hb hd));have h2:γ*b<d*b:=Int.mul_lt_mul_of_pos_right c1 hb;have h3:0<=α*d:=Int.mul_nonneg a0 Z;rw[Int.mul_comm d b]at h2;omega
def ZDO:∀(n:Nat) (a b c d:Int),0<=a->0<b->0<=c->0<d->a<=9223372036854775807->b<=9223372036854775807->c<=9223372036854775807->d<=9223372036854775807->b+d<=n->jN a b c d=some (Bo (decide (c*b<a*d)),[])
 |0,a,b,c,d,ha,hb,hc,hd,_,_,_,_,hn=>by omega
 |n+1,a,b,c,d,ha,hb,hc,hd,ma,mb,mc,md,hn=>by
  obtain⟨k1,k2⟩:=q3 (a:=a) (c:=c) hb hd;obtain⟨k3,_⟩:=q3 (a:=c) (c:=a) hd hb;have a0:=Int.emod_nonneg a (show b≠0 by omega);have a1:=Int.emod_lt_of_pos a hb;have c0:=Int.emod_nonneg c (show d≠0 by omega);have c1:=Int.emod_lt_of_pos c hd;have q1:=Int.ediv_nonneg ha (show 0<=b by omega);have q2:=Int.ediv_nonneg hc (show 0<=d by omega);have q3:=Int.ediv_le_self b ha;have q4:=Int.ediv_le_self d hc;refine kL.2.1 _ _ _ _ _ ⟨Z,Z,?_⟩;rw[Int.tdiv_eq_ediv_of_nonneg ha,Int.tdiv_eq_ediv_of_nonneg hc,Int.tmod_eq_emod_of_nonneg ha,Int.tmod_eq_emod_of_nonneg hc,Xn (x:=a / b) Z Z,Xn (x:=c / d) Z Z];by_cases e:a / b=c / d
  .rw[Ya e];rw[e,Int.sub_self,Int.mul_zero]at k2;by_cases g:c % d=0
   .have k2':a*d-c*b=a % b*d:=by rw[k2,g];omega
    rw[Ya g,g];by_cases f:0<a % b
    .have:=Int.mul_pos f hd
     have:c*b<a*d:=by omega
     rw[Ya f];simp[this]
    .have f0:a % b=0:=by omega
     have:a*d-c*b=0:=by rw[k2',f0];omega
     have:¬c*b<a*d:=by omega
     rw[Yb f];simp[this]
   .rw[Yb g];by_cases f:a % b=0
    .have:=Int.mul_pos (show 0<c % d by omega) hb;have k2':a*d-c*b=- (c % d*b):=by rw[k2,f];omega
     have:¬c*b<a*d:=by omega
     rw[Ya f,Ao];simp[this]
    .rw[Yb f];have ih:=ZDO n d (c % d) b (a % b) Z Z Z Z Z Z Z Z Z;rw[ih];have e1:b*(c % d)=(c % d)*b:=Int.mul_comm _ _;have e2:d*(a % b)=(a % b)*d:=Int.mul_comm _ _;rw[e1,e2];congr 4;exact propext ⟨λh=>by omega,λh=>by omega⟩
  .rw[Yb e];congr 4;refine propext ⟨k1,λh=>?_⟩;rcases Int.lt_trichotomy (c / d) (a / b)with g|g|g
   .exact g
   .exact absurd g.symm e
   .have:=k3 g;omega
def ZQN{a b c d:Int}(ha:0<=a)(hb:0<b)(hc:0<=c)(hd:0<d)(ma:a<=9223372036854775807)(mb:b<=9223372036854775807)(mc:c<=9223372036854775807)(md:d<=9223372036854775807):jM a b c d=some (Bo (decide (c*b<a*d)),[]) :=
 kL.2.2 _ _ _ _ _ (ZDO (b+d).toNat a b c d ha hb hc hd ma mb mc md Z)
def rB{m:Zf}(ha:Va m)(k:Int):Wi (BI m k):=by
 obtain⟨h1,h2,h3,h4,h5⟩:=ha;unfold BI
 repeat' split
 all_goals assumption
def ZQO{m:Zf}(ha:Va m){sizes:WL}(hc:Um sizes)(info:List Zp)(x:Zk)(y:Zp):1<=Vs m info sizes x y/\Vs m info sizes x y<=2000000000:=by
 refine⟨?_,(Ot _ _ _ _).2⟩;unfold Vs;obtain⟨a,a1,a2⟩:∃a,(0<=a/\a<=7)/\(if y.Left<0 then Z6 sizes y.Mask else Z6 sizes (Vr info y.Left))=XJ a:=by split<;>exact p9 hc _
 obtain⟨b,b1,b2⟩:∃a,(0<=a/\a<=7)/\(if y.Right<0 then 0 else Z6 sizes (Vr info y.Right))=XJ a:=by
  split
  .exact⟨0,Z,Sm⟩
  .exact p9 hc _
 obtain⟨c,c1,c2⟩:=p9 hc y.Mask;rw[a2,b2,c2];exact ZDp (rB ha _) a1 b1 c1
def ZDP{m:Zf}(ha:Va m){sizes:WL}(hc:Um sizes)(info:List Zp):∀(xs:List Zk) (ys:List Zp),∀c∈VT m info sizes xs ys,1<=c/\c<=2000000000
 |[],_,c,h=>by simp[VT]at h
 |_::_,[],c,h=>by simp[VT]at h
 |x::xs,y::ys,c,h=>by
  rw[VT]at h
  cases h with
  |head=>exact ZQO ha hc info x y
  |tail _ h=>exact ZDP ha hc info xs ys c h
def ZDQ:∀(xs:WL) (n:Int),(∀x∈xs,1<=x/\x<=2000000000)->0<=n->n+2000000000*xs.length<=1000000000000->n+xs.length<=VU xs n/\VU xs n<=n+2000000000*xs.length
 |[],n,_,_,_=>by simp[VU]
 |x::xs,n,h,h0,hB=>by
  have h1:=h x Om;simp only[Yx,Ys,Yt]at hB|-;have:=ZDQ xs (n+x) (λy hy=>h y (by simp[hy])) Z Z;rw[VU,Yv,Xn (x:=n+x) Z Z];rw[VU]at this;omega
def ZDR{m:Zf}(ha:Va m){n:Int}{qa:List Zg}{steps:List Zk}{sizes:WL}(hc:Um sizes)(hs:WT n qa sizes=true)(hi:(Wh n qa steps).isSome=true):1<=Vt m n qa steps sizes/\Vt m n qa steps sizes<=28000000000:=by
 have hh:Jb n qa steps sizes=true:=by simp[Jb,hi,hs]
 have hne:=ZqS (m:=m).2 hh;have hl:=Z1X (m:=m) (n:=n) (qa:=qa) (steps:=steps) (sizes:=sizes);unfold Vt;rw[Ya hh];have hp:∀c∈Qe m n qa steps sizes,1<=c/\c<=2000000000:=by
  unfold Qe
  cases Wh n qa steps with
  |none=>simp
  |some info=>simp only[hs,if_true];exact ZDP ha hc info steps info
 have:=ZDQ _ 0 hp Z Z
 have:0<(Qe m n qa steps sizes).length:=Y5.2 hne
 omega
def ZQP{m:Zf}{n:Int}{qa:List Zg}{sizes:WL}{steps:List Zk}{y:MO}{c:Int}(hv:Zx n qa=true)(hl:1<=steps.length/\steps.length<=14)(h:XF m sizes qa steps [] 0=some ([y],c)):(Wh n qa steps).isSome=true:=by
 have g:=Z2g m sizes qa steps [] [] 0 (λs h=>by simp at h);simp only[Df,List.reverse_nil]at g;have hr:Al (steps.length:Int) 1 14=true:=by simp[Al];omega
 cases hg:WQ qa steps 0 [] []with
 |none=>rw[hg]at g;simp only[vw,Dr]at g;rw[g]at h;cases h
 |some p =>
  obtain⟨Br,st'⟩:=p;rw[hg]at g;obtain⟨tail,a,b,d⟩:=g;simp only[vw,Dr]at d;rw[d]at h;simp only[EZ]at a;subst a
  cases h':st'.reverse with
  |nil=>rw[h']at h;simp at h
  |cons s rs =>
   rw[h']at h;simp only[Yz,Y4,Ds,Ycx,List.map_eq_nil_iff]at h;have hlen:st'.length=1:=by rw[<-List.length_reverse,h',h.1.2];rfl
   simp[Wh,hv,hr,hg,hlen]
def ZDS{m:Zf}{q:Zc}{sizes:WL}(bb:Vm m q sizes)(ha:Va m)(hc:XM q.Zh q.Atoms (Z3 q.Zh q.Atoms)=true):1<=(opt m q sizes).Cost/\(opt m q sizes).Cost<=28000000000:=by
 have H:=Tv bb hc;have hb:=H.best;have hm:=H.makes _ hb;have hl:=H.len _ hb;have h16:AU (Z3 q.Zh q.Atoms):=((Z26 bb.hv).m16 bb.hv).1;have h4:=Un h16;have hl2:1<=(opt m q sizes).Ze.Steps.length/\(opt m q sizes).Ze.Steps.length<=14:=by unfold opt;omega
 have e:=hm.cost bb.hv hl2 bb.hsv;have:=ZDR ha bb.hcl bb.hsv (ZQP bb.hv hl2 hm);have e2:Vt m q.Zh q.Atoms (opt m q sizes).Ze.Steps sizes=(opt m q sizes).Cost:=e;rw[e2]at this;exact this
def ZQQ{m:Zf}{q:Zc}{b:Zu}(hm:Ba m)(hq:AI q)(h:VX m q b){l:WL}(h1:Xl l=true)(h2:l.length=b.Box.Low.length){p:Int}(hp:p.toNat<b.Plans.length):1<=pc m q b l p/\pc m q b l p<=28000000000:=by
 have hf:=VG h.1;have bb:=Is hm hq h h1 h2;refine ZDR h.2.2 bb.hcl bb.hsv ?_;have hpl:=hf.pl _ (Yf hp);have e:qR b p=b.Plans[p.toNat]:=by unfold qR;rw[Yd hp];rfl
 rw[e]
 cases hi:Wh q.Zh q.Atoms b.Plans[p.toNat].Steps with
 |none =>
  unfold Gi at hpl;rw[hi]at hpl;have:=kQ hf.hv
  simp at hpl;omega
 |some _=>rfl
def rC{q:Zc}{b:Zu}(hf:Ty q b){k:Nat}(hk:k<b.Budgets.length):0<=BC b k/\BC b k<=1000000000000:=by
 have h1:=hf.bu _ (Yf hk);have h2:=hf.sl;unfold BC QF;rw[Yd hk];simp only[Al,Yg,decide_eq_true_eq]at h1 h2;have hr:Al b.Budgets[k] 0 1000000000000=true/\Al b.Slack 0 100=true:=by simp[Al];omega
 have m1:b.Budgets[k]*(100+b.Slack)<=500000000000*200:=Int.mul_le_mul h1.2 Z Z Z;have m2:0<=b.Budgets[k]*(100+b.Slack):=Int.mul_nonneg Z Z;simp only[Option.getD_some];rw[Ya hr,Int.tdiv_eq_ediv_of_nonneg m2];constructor
 .exact Int.ediv_nonneg m2 Z
 .omega
def Wq(m:Zf)(q:Zc)(b:Zu)(l:WL)(sl:Int):WL->Int->Int×Bool
 |[],t=>(t,false)
 |p::ps,t=>if pc m q b l p<=sl then(w (t+pc m q b l p),true)else Wq m q b l sl ps (w (t+sl))
def Vn(m:Zf)(q:Zc)(b:Zu)(l:WL):WA->Nat->Int->Int×Bool
 |[],_,t=>(t,false)
 |c::cs,k,t=>if(Wq m q b l (BC b k) c t).2=true then Wq m q b l (BC b k) c t else Vn m q b l cs (k+1) (Wq m q b l (BC b k) c t).1
def Zrj{m:Zf}{q:Zc}{b:Zu}{l:WL}{sl p t:Int}{ps:WL}(e:pc m q b l p<=sl):Wq m q b l sl (p::ps) t=(w (t+pc m q b l p),true):=Ya e
def Zrk{m:Zf}{q:Zc}{b:Zu}{l:WL}{sl p t:Int}{ps:WL}(e:¬pc m q b l p<=sl):Wq m q b l sl (p::ps) t=Wq m q b l sl ps (w (t+sl)):=Yb e
def rD{m:Zf}{q:Zc}{b:Zu}{l:WL}{k:Nat}{t:Int}{c:WL}{cs:WA}(e:(Wq m q b l (BC b k) c t).2=true):Vn m q b l (c::cs) k t=Wq m q b l (BC b k) c t:=Ya e
def Zrl{m:Zf}{q:Zc}{b:Zu}{l:WL}{k:Nat}{t:Int}{c:WL}{cs:WA}(e:(Wq m q b l (BC b k) c t).2=false):Vn m q b l (c::cs) k t=Vn m q b l cs (k+1) (Wq m q b l (BC b k) c t).1:=Yb (by rw[e];simp)
def tot(m:Zf)(q:Zc)(b:Zu)(l:WL):Int:=(Vn m q b l b.Contours 0 0).1
def Qy:WA->Int
 |[]=>0
 |c::cs=>c.length+Qy cs
def ZDT:∀cs,0<=Qy cs
 |[]=>by simp[Qy]
 |c::cs=>by have:=ZDT cs;simp[Qy];omega
section
variable{m:Zf}{q:Zc}{b:Zu}(hm:Ba m)(hq:AI q)(hb:CE b)(h:VX m q b){l:WL}(h1:Xl l=true)(h2:l.length=b.Box.Low.length)
include hm hq hb h h1 h2
theorem ZQR(k:Nat)(hk:k<b.Contours.length):∀i,i<=b.Contours[k].length->∀t z,
  ((Wq m q b l (BC b k) (b.Contours[k].drop i) t).2=true->z=(.tup [I (Wq m q b l (BC b k) (b.Contours[k].drop i) t).1,Bo true],[]))->((Wq m q b l (BC b k) (b.Contours[k].drop i) t).2=false->Ml m q b l (Wq m q b l (BC b k) (b.Contours[k].drop i) t).1 b.Contours b.Contours.length ((k+1:Nat):Int)=some z)->Ss m q b l t (BC b k) b.Contours b.Contours.length k b.Contours[k] b.Contours[k].length i=some z:=by
 have hf:=VG h.1;have hc:=hf.co _ (Yf hk);have hlen:=hb.2.2.2.2.2 _ (Yf hk);have hcl:=hb.2.2.2.2.1;have l1:=Qw h1;refine down _ ?_ ?_
 .intro t z _ h0;rw[Ym]at h0;have h5:=Z7 (i:=k) Z;apply kL.1.1;rw[Ao,show w ((k:Int)+1)=((k+1:Nat):Int)from by rw[show w ((k:Int)+1)=(k:Int)+1 from h5];simp];exact h0 rfl
 .intro i hi ih t z h1' h0;have h5:=Z7 (i:=i) Z;obtain⟨p1,p2⟩:=hc.2 _ (Yf hi);rw[Yi hi]at h1' h0;apply kL.1.1;rw[An];refine⟨Z,b.Contours[k][i],by rw[Yh];exact Yd hi,p1,_,Zri p2,_,ZCT m hm q hq _ l Z h1,?_⟩;rw[show w ((i:Int)+1)=((i+1:Nat):Int)from by rw[show w ((i:Int)+1)=(i:Int)+1 from h5];simp];show if pc m q b l b.Contours[k][i]<=BC b k then _ else _;by_cases e:pc m q b l b.Contours[k][i]<=BC b k
  .rw[Zrj e]at h1';rw[Ya e,h1' rfl];rfl
  .rw[Zrk e]at h1' h0;rw[Yb e];exact ih _ z h1' h0
theorem ZQS:∀k,k<=b.Contours.length->∀t,Ml m q b l t b.Contours b.Contours.length k=some (if(Vn m q b l (b.Contours.drop k) k t).2=true then .tup [I (Vn m q b l (b.Contours.drop k) k t).1,Bo true]else .tup [I 0,Bo false],[]):=by
 have hf:=VG h.1;have hcl:=hb.2.2.2.2.1;refine down _ ?_ ?_
 .intro t;apply W8.2.2.2.2.2;rw[Ao];simp[Vn]
 .intro k hk ih t;have hk2:k<b.Budgets.length:=by have:=hf.cl;omega
  apply W8.2.2.2.2.2;rw[An];refine⟨Z,b.Contours[k],by rw[Yh];exact Yd hk,b.Budgets[k],by rw[Yh];exact Yd hk2,_,ZAB _ _,?_⟩;have es:QF b.Budgets[k] b.Slack=BC b k:=by unfold BC;rw[Yd hk2];rfl
  rw[es,Yi hk];refine ZQR hm hq hb h h1 h2 k hk 0 (Yc _) t _ (λe=>?_) (λe=>?_)
  .rw[Yo]at e|-;rw[rD e,Ya e]
  .rw[Yo]at e|-;rw[Zrl e];exact ih _
theorem ZQT:HQ m q b l=some (if(Vn m q b l b.Contours 0 0).2=true then .tup [I (tot m q b l),Bo true]else .tup [I 0,Bo false],[]) :=
 kL.1.2 _ _ _ _ _ (ZQS hm hq hb h h1 h2 0 (Yc _) 0)
theorem ZQU(k:Nat)(hk:k<b.Contours.length):∀i,i<=b.Contours[k].length->∀t z,
  ((Wq m q b l (BC b k) (b.Contours[k].drop i) t).2=true->z=(I (Wq m q b l (BC b k) (b.Contours[k].drop i) t).1,[]))->((Wq m q b l (BC b k) (b.Contours[k].drop i) t).2=false->St m q b l (Wq m q b l (BC b k) (b.Contours[k].drop i) t).1 ((k+1:Nat):Int)=some z)->jU m q b l t k (BC b k) i=some z:=by
 have hf:=VG h.1;have hc:=hf.co _ (Yf hk);have hlen:=hb.2.2.2.2.2 _ (Yf hk);have hcl:=hb.2.2.2.2.1;have l1:=Qw h1;refine down _ ?_ ?_
 .intro t z _ h0;rw[Ym]at h0;have h5:=Z7 (i:=k) Z;refine JB.1.2.1 _ _ _ _ _ _ _ _ _ ⟨Z,b.Contours[k],by rw[Yh];exact Yd hk,?_⟩;rw[Ao,show w ((k:Int)+1)=((k+1:Nat):Int)from by rw[show w ((k:Int)+1)=(k:Int)+1 from h5];simp];exact h0 rfl
 .intro i hi ih t z h1' h0;have h5:=Z7 (i:=i) Z;obtain⟨p1,p2⟩:=hc.2 _ (Yf hi);rw[Yi hi]at h1' h0;refine JB.1.2.1 _ _ _ _ _ _ _ _ _ ⟨Z,b.Contours[k],by rw[Yh];exact Yd hk,?_⟩;rw[An];refine⟨Z,b.Contours[k][i],by rw[Yh];exact Yd hi,p1,_,Zri p2,_,Z1Z m hm q hq _ l Z h1,?_⟩;rw[show w ((i:Int)+1)=((i+1:Nat):Int)from by rw[show w ((i:Int)+1)=(i:Int)+1 from h5];simp];show if pc m q b l b.Contours[k][i]<=BC b k then _ else _;by_cases e:pc m q b l b.Contours[k][i]<=BC b k
  .rw[Zrj e]at h1';rw[Ya e,h1' rfl];rfl
  .rw[Zrk e]at h1' h0;rw[Yb e];exact ih _ z h1' h0
theorem ZQV:∀k,k<=b.Budgets.length->∀t,St m q b l t k=some (if(Vn m q b l (b.Contours.drop k) k t).2=true then I (Vn m q b l (b.Contours.drop k) k t).1 else I (-1),[]):=by
 have hf:=VG h.1;have hcl:=hb.2.2.2.2.1;have hbl:=hb.2.2.1;have hec:=hf.cl;refine down _ ?_ ?_
 .intro t;apply JB.1.1;rw[Ao,<-hec,Ym];simp[Vn]
 .intro k hk ih t;have hk2:k<b.Contours.length:=by omega
  apply JB.1.1;rw[An];refine⟨Z,b.Budgets[k],by rw[Yh];exact Yd hk,_,Z0Z _ _,?_⟩;have es:QF b.Budgets[k] b.Slack=BC b k:=by unfold BC;rw[Yd hk];rfl
  rw[es,Yi hk2];refine ZQU hm hq hb h h1 h2 k hk2 0 (Yc _) t _ (λe=>?_) (λe=>?_)
  .rw[Yo]at e|-;rw[rD e,Ya e]
  .rw[Yo]at e|-;rw[Zrl e];exact ih _
theorem ZQW:ZpO m q b l=some (if(Vn m q b l b.Contours 0 0).2=true then I (tot m q b l)else I (-1),[]) :=
 JB.1.2.2 _ _ _ _ _ (ZQV hm hq hb h h1 h2 0 (Yc _) 0)
omit hb in
theorem ZDU{sl:Int}(hs:0<=sl/\sl<=1000000000000):∀(c:WL) (t:Int),(∀p∈c,p.toNat<b.Plans.length)->0<=t->t+1000000000000*c.length<=9000000000000000000->
  t<=(Wq m q b l sl c t).1/\(Wq m q b l sl c t).1<=t+1000000000000*c.length/\((Wq m q b l sl c t).2=true->t+1<=(Wq m q b l sl c t).1)
 |[],t,_,_,_=>by simp[Wq]
 |p::ps,t,hp,h0,hB=>by
  have hpc:=ZQQ hm hq h h1 h2 (hp p Om);simp only[Yx,Ys,Yt]at hB|-;by_cases e:pc m q b l p<=sl
  .rw[Zrj e,Xn (x:=t+pc m q b l p) Z Z];exact⟨by simp;omega,by simp;omega,λ_=>by simp;omega⟩
  .rw[Zrk e,Xn (x:=t+sl) Z Z];have:=ZDU hs ps (t+sl) (λx hx=>hp x (by simp[hx])) Z Z;exact⟨Z,Z,λhh=>by have:=this.2.2 hh;omega⟩
omit hb in
theorem ZDV:∀(cs:WA) (k:Nat) (t:Int),(∀c∈cs,∀p∈c,p.toNat<b.Plans.length)->k+cs.length<=b.Budgets.length->0<=t->t+1000000000000*Qy cs<=9000000000000000000->
  t<=(Vn m q b l cs k t).1/\(Vn m q b l cs k t).1<=t+1000000000000*Qy cs/\((Vn m q b l cs k t).2=true->t+1<=(Vn m q b l cs k t).1)
 |[],k,t,_,_,_,_=>by simp[Vn,Qy]
 |c::cs,k,t,hp,hk,h0,hB=>by
  have hf:=VG h.1;have hn:=ZDT cs;simp only[Qy]at hB|-;simp only[Yx]at hk;have hc:=ZDU hm hq h h1 h2 (rC hf (k:=k) Z) c t (hp c Om) h0 Z;rcases tf (Wq m q b l (BC b k) c t).2 with e|e
  .rw[Zrl e];have:=ZDV cs (k+1) (Wq m q b l (BC b k) c t).1 (λx hx=>hp x (by simp[hx])) Z Z Z;exact⟨Z,Z,λhh=>by have:=this.2.2 hh;omega⟩
  .rw[rD e];exact⟨Z,Z,λ_=>hc.2.2 e⟩
end
def ZDW{m:Zf}{q:Zc}{b:Zu}{l:WL}{sl:Int}:∀{c:WL} {t:Int},(c.any λp=>decide (pc m q b l p<=sl))=true->(Wq m q b l sl c t).2=true
 |[],t,h=>by simp at h
 |p::ps,t,h=>by
  by_cases e:pc m q b l p<=sl
  .rw[Zrj e]
  .rw[Zrk e];simp only[GM,rR,decide_eq_true_eq]at h;exact ZDW (h.resolve_left e)
def ZDX{m:Zf}{q:Zc}{b:Zu}{l:WL}:∀{cs:WA} {k j:Nat} {t:Int} (hj:j<cs.length),(cs[j].any λp=>decide (pc m q b l p<=BC b (k+j)))=true->(Vn m q b l cs k t).2=true
 |c::cs,k,0,t,_,h=>by
  have:=ZDW (t:=t) h;simp only[DE,List.getElem_cons_zero]at this
  rw[rD this];exact this
 |c::cs,k,j+1,t,hj,h=>by
  rcases tf (Wq m q b l (BC b k) c t).2 with e|e
  .rw[Zrl e];refine ZDX (j:=j) (by simpa using hj) ?_;rw[show k+1+j=k+(j+1) by omega];simpa using h
  .rw[rD e];exact e
def ZQX{m:Zf}{q:Zc}{b:Zu}(hf:Ty q b){l:WL}(h:DB m q b l=true):(Vn m q b l b.Contours 0 0).2=true:=by
 unfold DB at h;simp only[Yg,decide_eq_true_eq]at h;have hk:=Z2A h.1;have hk2:(WU b.Budgets (opt m q (ZG l)).Cost).toNat<b.Contours.length:=by have:=hf.cl;omega
 refine ZDX (j:=(WU b.Budgets (opt m q (ZG l)).Cost).toNat) hk2 ?_;rw[Yw];have:=h.2;unfold Tz Zrh at this;rw[Yd hk2]at this;exact this
abbrev WS:=WL×Int×Int
def wst(m:Zf)(q:Zc)(b:Zu)(s:WS)(l:WL):WS:=if s.2.1*(opt m q (ZG l)).Cost<tot m q b l*s.2.2 then(l,tot m q b l,(opt m q (ZG l)).Cost)else s
def KQ(m:Zf)(q:Zc)(b:Zu):WL:=((Xm b.Box).foldl (wst m q b) ([],0,1)).1
structure OE (s:WS):Prop where
 t0:0<=s.2.1
 t1:s.2.1<=9000000000000000000
 o0:1<=s.2.2
 o1:s.2.2<=28000000000
structure OF (m:Zf) (q:Zc) (b:Zu) (l:WL):Prop where
 h1:Xl l=true
 h2:l.length=b.Box.Low.length
 fd:(Vn m q b l b.Contours 0 0).2=true
 t0:1<=tot m q b l
 t1:tot m q b l<=9000000000000000000
 o0:1<=(opt m q (ZG l)).Cost
 o1:(opt m q (ZG l)).Cost<=28000000000
def rE{m:Zf}{q:Zc}{b:Zu}(hm:Ba m)(hq:AI q)(h:VX m q b)(hp:It m q b=true)(hE:Qy b.Contours<=2000000):∀l∈Xm b.Box,OF m q b l:=by
 intro l hl;have hf:=VG h.1;obtain⟨h1,h2⟩:=ZDM hf l hl;unfold It at hp;simp only[Yg]at hp;have hc:=Yp.1 hp.2 l hl;have hfd:=ZQX hf hc;have hb:=ZDV hm hq h h1 h2 b.Contours 0 0 (λc hc p hp=>((hf.co c hc).2 p hp).2) (by have:=hf.cl;omega) Z Z;have ho:=ZDS (Is hm hq h h1 h2) h.2.2 h.2.1;have ht:=hb.2.2 hfd;exact⟨h1,h2,hfd,by unfold tot;omega,by unfold tot;omega,ho.1,ho.2⟩
def ZDY{m:Zf}{q:Zc}{b:Zu}{s:WS}{l:WL}(hs:OE s)(hl:OF m q b l):OE (wst m q b s l):=by
 unfold wst;split
 .exact⟨by have:=hl.t0;simp;omega,hl.t1,hl.o0,hl.o1⟩
 .exact hs
def AbQ(a b:Ze)(h:a.Steps.length=b.Steps.length)(hl:a.Steps.length<=1000):∀i,i<=a.Steps.length->∃z,LS a b i=some (Bo z,[]):=by
 refine down _ ?_ ?_
 .exact⟨_,Z0F _ _ _ _ (by rw[Ao])⟩
 .intro i hi ih;obtain⟨z,e⟩:=ih;have h5:=wS hi Z;by_cases hc:a.Steps[i].Kind=(b.Steps[i]' Z).Kind/\a.Steps[i].Zg=(b.Steps[i]' Z).Zg/\a.Steps[i].Order=(b.Steps[i]' Z).Order
  .exact⟨z,Z0F _ _ _ _ (by rw[An,h5];exact⟨Z,_,gE hi,_,gE Z,by rw[Ya hc];exact e⟩)⟩
  .exact⟨_,Z0F _ _ _ _ (by rw[An,h5];exact⟨Z,_,gE hi,_,gE Z,by rw[Yb hc]⟩)⟩
def AbR(a b:Ze)(hl:a.Steps.length<=1000):∃z,zL a b=some (Bo z,[]):=by
 by_cases h:a.Steps.length=b.Steps.length
 .obtain⟨z,e⟩:=AbQ a b h hl 0 (Yc _);exact⟨z,WN.2.2.1.2 _ _ _ (by rw[An];exact e)⟩
 .exact⟨_,WN.2.2.1.2 _ _ _ (by rw[Ao])⟩
def AbS(p:Ze)(l:List Ze)(hl:l.length<=1000)(hs:∀x∈l,x.Steps.length<=1000):∀i,i<=l.length->∃k,fX p l i=some (I k,[])/\k<l.length:=by
 refine down _ ?_ ?_
 .exact⟨_,WN.2.2.2.1 _ _ _ _ (by rw[Ao]),Z⟩
 .intro i hi ih;obtain⟨k,e,hk⟩:=ih;obtain⟨z,e2⟩:=AbR l[i] p (hs _ (Yf hi));have h5:=wS hi Z;rcases tf z with hz|hz<;>subst hz
  .exact⟨k,WN.2.2.2.1 _ _ _ _ (by rw[An,h5];exact⟨Z,_,gE hi,_,e2,by rw[Yb Om];exact e⟩),hk⟩
  .exact⟨i,WN.2.2.2.1 _ _ _ _ (by rw[An,h5];exact⟨Z,_,gE hi,_,e2,by rw[Ya rfl]⟩),Z⟩
def AbT(p:Ze)(l:List Ze)(hl:l.length<=1000)(hs:∀x∈l,x.Steps.length<=1000):∃k,fW l p=some (I k,[])/\k<l.length:=by
 obtain⟨k,e,hk⟩:=AbS p l hl hs 0 (Yc _);exact⟨k,WN.2.2.2.2 _ _ _ e,hk⟩
def rF(p:Ze):fV p=some (I (-1),[]):=WN.2.2.1.1 _ _ (WN.2.1.2.2 _ _ _ (by rw[Ao]))
def rG(R:Rs):Prop:=∃s:ZY,R=some (.tup [.agg (s.c.map .t),Bo true],[])/\U8 s
def rG.of{R R':Rs}(h:rG R')(q:∀r,R'=some r->R=some r):rG R:=by
 obtain⟨o,e,ho⟩:=h;exact⟨o,q _ e,ho⟩
section
variable{m:Zf}{q:Zc}{b:Box}(hm:Ba m)(hq:AI q)(ha:Va m)(hc:XM q.Zh q.Atoms (Z3 q.Zh q.Atoms)=true)(hv:Zx q.Zh q.Atoms=true)(h1:1<=ZH b.Low b.High)(h4:ZH b.Low b.High<=400)(hl:(b.Low.length:Int)=Z3 q.Zh q.Atoms+1)
include hm hq ha hc hv h1 h4 hl
theorem ZDZ{i:Int}(h0:0<=i)(hi:i<ZH b.Low b.High):∃(l z:WL) (c:Bool) (fr:Bool) (ent:List Zd) (st:List Zk) (a1 a2 a3:Int),
  Qn b i=some (.tup [.own 0,Bo c],[.arr Z9 1 true (l.map ic)])/\Kk l=some (.own 0,[.arr Z9 1 true (z.map ic)])/\
  J2 (shapes q) z m q=some (.own 2,[.arr 108 3 true ((shapes q).map ZX.c),.arr Z9 1 true (z.map ic),.arr 77 4 fr (ent.map Zd.c)])/\
  Us ent (Z3 q.Zh q.Atoms)=some (.tup [.agg [I a1,I a2,I a3,.own 0],Bo true],[.arr 149 3 true (st.map Zk.c)])/\1<=a3/\a3<=28000000000/\st.length<=1000:=by
 obtain⟨hb,hvv⟩:=qT h4 h1;obtain⟨b1,b2,b3,b4⟩:=Vp hb;have hx:Dl b:=⟨Z,Z⟩;obtain⟨k1,k2⟩:=Tx hb h0;have l1:=Qw k1;have bb:=ZDC hm ha hq hv k1 Z;have hle:=Ow bb (Yj (Z2 q.Atoms).length);have hs:=Zql (WC b i) Z;rw[k1,Ya rfl]at hs;obtain⟨fr,ht⟩:=Z24 bb;have ho:=ZDS bb ha hc;have hst:=qJ bb (Yj (Z2 q.Atoms).length);have hne:=(Tv bb hc).ne;refine⟨_,_,_,_,_,_,_,_,_,qQ b hx hb h0 Z,hs,ht,Z25 _ _ Z hne hst,ho.1,ho.2,?_⟩;have H:=(Tv bb hc);have hl:=H.len _ H.best;have h16:AU (Z3 q.Zh q.Atoms):=((Z26 bb.hv).m16 bb.hv).1;have h4:=Un h16;show(opt m q (ZG (WC b i))).Ze.Steps.length<=1000;unfold opt;omega
theorem Z2C:∀n:Nat,∀i:Nat,(i:Int)+n=ZH b.Low b.High->1<=i->∀(cs hs:WL) (ps:List Ze),cs.length=i->hs.length=i->ps.length<=i->(∀c∈cs,1<=c/\c<=28000000000)->(∀c∈hs,0<=c/\c<ps.length)->(∀p∈ps,p.Steps.length<=1000)->
  rG (RO m q b b.Low b.High cs hs ps (shapes q) (ZH b.Low b.High) (Z3 q.Zh q.Atoms) i)
 |0,i,hi,_,cs,hs,ps,e1,e2,e3,p1,p2,p3=>⟨⟨⟨b.Low,b.High⟩,cs,hs,ps⟩,X0.1.1.1.2 _ _ _ _ _ _ _ _ _ _ _ _ _ (by rw[Ao];rfl),h1,h4,by show(cs.length:Int)=ZH b.Low b.High;omega,by show(hs.length:Int)=ZH b.Low b.High;omega,p1,p2,by show ps.length<=400;omega,p3⟩
 |n+1,i,hi,h0,cs,hs,ps,e1,e2,e3,p1,p2,p3=>by
  obtain⟨l,z,c,fr,ent,st,a1,a2,a3,r1,r2,r3,r4,r5,r6,r7⟩:=ZDZ hm hq ha hc hv h1 h4 hl (i:=(i:Int)) Z Z;obtain⟨k,ek,hk⟩:=AbT ⟨st⟩ ps Z p3;have h5:w ((i:Int)+1)=((i+1:Nat):Int):=wS (n:=i+1) Z Z;by_cases ek2:k<0
  .have ih:=Z2C n (i+1) Z Z (cs++[a3]) (hs++[(ps.length:Int)]) (ps++[⟨st⟩]) (by simp;omega) (by simp;omega) (by simp;omega) (λx hx=>by
     rcases Yl.1 hx with hx|hx
     .exact p1 x hx
     .rw[List.mem_singleton.1 hx];exact⟨r5,r6⟩) (λx hx=>by
     simp only[Yu,List.length_singleton];rcases Yl.1 hx with hx|hx
     .have:=p2 x hx;omega
     .rw[List.mem_singleton.1 hx];omega) (λx hx=>by
     rcases Yl.1 hx with hx|hx
     .exact p3 x hx
     .rw[List.mem_singleton.1 hx];exact r7)
   exact ih.of λr hr=>X0.1.1.1.2 _ _ _ _ _ _ _ _ _ _ _ _ _ (by
    rw[An,h5]
    exact⟨_,_,r1,_,r2,_,_,r3,.inr ⟨_,_,_,_,r4,_,ek,by rw[Ya ek2];exact⟨Z,Z,Z,hr⟩⟩⟩)
  .have ih:=Z2C n (i+1) Z Z (cs++[a3]) (hs++[k]) ps (by simp;omega) (by simp;omega) Z (λx hx=>by
     rcases Yl.1 hx with hx|hx
     .exact p1 x hx
     .rw[List.mem_singleton.1 hx];exact⟨r5,r6⟩) (λx hx=>by
     rcases Yl.1 hx with hx|hx
     .exact p2 x hx
     .rw[List.mem_singleton.1 hx];omega) p3
   exact ih.of λr hr=>X0.1.1.1.2 _ _ _ _ _ _ _ _ _ _ _ _ _ (by
    rw[An,h5]
    exact⟨_,_,r1,_,r2,_,_,r3,.inr ⟨_,_,_,_,r4,_,ek,by rw[Yb ek2];exact⟨Z,Z,hr⟩⟩⟩)
theorem rH:rG (zP m q b b.Low b.High (shapes q) (ZH b.Low b.High) (Z3 q.Zh q.Atoms) 0):=by
 obtain⟨l,z,c,fr,ent,st,a1,a2,a3,r1,r2,r3,r4,r5,r6,r7⟩:=ZDZ hm hq ha hc hv h1 h4 hl (i:=0) Z Z;have ih:=Z2C hm hq ha hc hv h1 h4 hl ((ZH b.Low b.High)-1).toNat 1 Z Z [a3] [0] [⟨st⟩] rfl rfl Om (by simp;omega) Om (by simpa using r7)
 exact ih.of λr hr=>X0.1.1.1.1 _ _ _ _ _ _ _ _ _ _ (by
    rw[An]
    exact⟨_,_,r1,_,r2,_,_,r3,.inr ⟨_,_,_,_,r4,_,rF _,by rw[An];exact hr⟩⟩)
end
def AbU{m:Zf}{q:Zc}{b:Box}(hm:Ba m)(hq:AI q)(hb:Dl b):∃(s:ZY) (z:Bool),fY m q b=some (.tup [.agg (s.c.map .t),Bo z],[])/\(z=true->U8 s):=by
 have bad:∀R:Rs,(R=some (.tup [.agg [L 1 (([]:WL).map ic),L 1 (([]:WL).map ic),L 1 (([]:WL).map ic),L 1 (([]:WL).map ic),L 1 (([]:List Ze).map Ze.c)],Bo false],[]))->∃(s:ZY) (z:Bool),R=some (.tup [.agg (s.c.map .t),Bo z],[])/\(z=true->U8 s):=λR e=>⟨⟨⟨[],[]⟩,[],[],[]⟩,false,e,λh=>by cases h⟩
 have e1:=SE b hb;have e2:=lP m hm;have e3:=VN q hq;have e4:=Gm q hq (Z3 q.Zh q.Atoms);have f16:=Oa q.Zh q.Atoms;by_cases ha:Va m
 .rcases tf (XM q.Zh q.Atoms (Z3 q.Zh q.Atoms))with hc|hc
  .exact bad _ (X0.1.1.2.1 _ _ _ _ ⟨_,e1,_,e2,by rw[Ya (by simp[ha])];exact⟨_,e3,_,e4,by rw[Yb (by simp[hc])]⟩⟩)
  .rcases tf (Al (ZH b.Low b.High) 1 400)with hn|hn
   .exact bad _ (X0.1.1.2.1 _ _ _ _ ⟨_,e1,_,e2,by rw[Ya (by simp[ha])];exact⟨_,e3,_,e4,by rw[Ya hc];exact⟨_,ZM _ _ _,by rw[Yb (by simp[hn])]⟩⟩⟩)
   .have hn':1<=ZH b.Low b.High/\ZH b.Low b.High<=400:=by simpa[Al]using hn
    by_cases hl:(b.Low.length:Int)=Z3 q.Zh q.Atoms+1
    .have hv:Zx q.Zh q.Atoms=true:=by
      have:=hc;unfold XM at this;simp only[Yg]at this;exact this.1.1.1
     obtain⟨b1,b2,b3,_⟩:=Vp (qT hn'.2 hn'.1).1;obtain⟨s,e,hs⟩:=rH hm hq ha hc hv hn'.1 hn'.2 hl;refine⟨s,true,X0.1.1.2.1 _ _ _ _ ⟨_,e1,_,e2,?_⟩,λ_=>hs⟩;rw[Ya (by simp[ha])];refine⟨_,e3,_,e4,?_⟩;rw[Ya hc];refine⟨_,ZM _ _ _,?_⟩;rw[Ya hn,Ya (by rw[WD Z Z];exact hl)];have hcp:KI b=some (.agg [.own 0,.own 1],[.arr Z9 1 true (b.Low.map ic),.arr Z9 1 true (b.High.map ic)]):=XV.2.2.2.1 b _ ⟨Z,Z,rfl⟩;exact⟨_,_,hcp,_,Z23 q hq hv,e⟩
    .exact bad _ (X0.1.1.2.1 _ _ _ _ ⟨_,e1,_,e2,by rw[Ya (by simp[ha])];exact⟨_,e3,_,e4,by rw[Ya hc];exact⟨_,ZM _ _ _,by rw[Ya hn,Yb (by rw[WD Z Z];exact hl)]⟩⟩⟩)
 .exact bad _ (X0.1.1.2.1 _ _ _ _ ⟨_,e1,_,e2,by rw[Yb (by simp[ha])]⟩)
structure CT (b:Zu):Prop where
 lo:b.Box.Low.length<=100
 hi:b.Box.High.length<=100
 bu:b.Budgets.length<=100
 pl:b.Plans.length<=400
 ps:∀p∈b.Plans,p.Steps.length<=1000
 co:b.Contours.length<=100
 cc:∀c∈b.Contours,c.length<=400
def CT.le{b:Zu}(h:CT b):CE b:=by
 obtain⟨h1,h2,h3,h4,_,h5,h6⟩:=h;exact⟨Z,Z,Z,Z,Z,λc hc=>by have:=h6 c hc;omega⟩
def ZEa:∀{cs:WA},(∀c∈cs,c.length<=400)->Qy cs<=400*cs.length
 |[],_=>by simp[Qy]
 |c::cs,h=>by
  have h1:=h c Om;have h2:=ZEa (cs:=cs) λx hx=>h x (by simp[hx])
  simp only[Qy,Yx,Ys,Yt];omega
def CT.ent{b:Zu}(h:CT b):Qy b.Contours<=2000000:=by
 have:=ZEa h.cc;have:=h.co;omega
def rI(l:List Ze)(hl:l.length<=1000)(hs:∀x∈l,x.Steps.length<=1000):∀i,i<=l.length->gG (l.take i) l i=some (.own 0,[.arr 75 1 true (l.map Ze.c)]):=by
 refine down _ ?_ ?_
 .apply X0.2.1.1.1;rw[Ao,Yq]
 .intro i hi ih;have:=hs _ (Yf hi);apply X0.2.1.1.1;rw[An,wS hi Z];refine⟨Z,_,gE hi,Z,by simp;omega,?_⟩;rw[ET hi];exact ih
def Z2D(l:List Ze)(hl:l.length<=1000)(hs:∀x∈l,x.Steps.length<=1000):LT l=some (.own 0,[.arr 75 1 true (l.map Ze.c)]) :=
 X0.2.1.1.2 _ _ (by simpa using rI l hl hs 0 (Yc _))
def Dp(R:Rs):Prop:=∃(b:Zu) (z:Bool),R=some (.tup [.agg (b.c.map .t),Bo z],[])/\CT b
def Dp.of{R R':Rs}(h:Dp R')(q:∀r,R'=some r->R=some r):Dp R:=by
 obtain⟨o,z,e,ho⟩:=h;exact⟨o,z,q _ e,ho⟩
def sm0:CT ⟨0,0,0,⟨[],[]⟩,[],[],[]⟩:=⟨Om,Om,Om,Om,Om,Om,Om⟩
def Dp.no{R:Rs}(e:R=some (.tup [.agg [I 0,I 0,I 0,L 1 (([]:WL).map ic),L 1 (([]:WL).map ic),L 1 (([]:WL).map ic),L 1 (([]:List Ze).map Ze.c),L 1 (([]:WA).map AF)],Bo false],[])):Dp R :=
 ⟨⟨0,0,0,⟨[],[]⟩,[],[],[]⟩,false,e,sm0⟩
section
variable{s:ZY}(hs:U8 s){m:Zf}{q:Zc}(hm:Ba m)(hq:AI q)
include hs hm hq
theorem ZEb(c cc:Int):∃f o:WL,∃z,LV s c=some (.own 0,[.arr Z9 1 true (f.map ic)])/\KK c cc=some (I z,[])/\RY m q s f z=some (.own 0,[.arr Z9 1 true (o.map ic)])/\o.length<=400:=by
 obtain⟨f,e1,f1,f2⟩:=AbJ hs c;obtain⟨o,e2,h⟩:=rA hs hm hq f (QF c cc) f1 f2;exact⟨f,o,_,e1,Z0Z _ _,e2,h⟩
theorem rJ{bs x x1:WL}{x2:List Ze}(hb:bs.length<=100)(hx:x.length<=100)(cc:x1.length<=100)(cd:x2.length<=400)(cl:∀p∈x2,p.Steps.length<=1000)(V R S sl:Int):∀k,k<=bs.length->∀x3:WA,x3.length<=k->(∀c∈x3,c.length<=400)->Dp (gV m q s 0 0 0 bs V R S x x1 x2 x3 sl k):=by
 refine down _ ?_ ?_
 .intro x3 h1 h2;have sm:CT ⟨V,R,S,⟨x,x1⟩,bs,x2,x3⟩:=⟨hx,cc,hb,cd,cl,by show x3.length<=100;omega,h2⟩;have hv:=Z29 q ⟨V,R,S,⟨x,x1⟩,bs,x2,x3⟩ hq sm.le;rcases tf (JE q.Zh q.Atoms ⟨V,R,S,⟨x,x1⟩,bs,x2,x3⟩)with e|e
  .rw[e]at hv;exact Dp.no (X4.2.2.1.2 _ _ _ _ _ _ _ _ _ _ _ _ _ _ _ _ _ (by rw[Ao];exact⟨_,hv,by rw[Yb Om]⟩))
  .rw[e]at hv;exact⟨_,true,X4.2.2.1.2 _ _ _ _ _ _ _ _ _ _ _ _ _ _ _ _ _ (by rw[Ao];exact⟨_,hv,by rw[Ya rfl];rfl⟩),sm⟩
 .intro k hk ih x3 h1 h2;obtain⟨f,o,z,e1,e2,e3,h⟩:=ZEb hs hm hq bs[k] sl
  exact(ih (x3++[o]) (by simp;omega) (λc hc=>by
   rcases Yl.1 hc with hc|hc
   .exact h2 c hc
   .rw[List.mem_singleton.1 hc];exact h)).of λr hr=>X4.2.2.1.2 _ _ _ _ _ _ _ _ _ _ _ _ _ _ _ _ _ (by
    rw[An,wS hk Z]
    exact⟨Z,_,gE hk,_,e1,_,e2,_,e3,Z,hr⟩)
theorem AbV(v cc c:Int)(hr:2<=cc/\cc<=8):Dp (z9 m q s v cc c):=by
 obtain⟨lo,hi,e1,c1,c2,c3⟩:=AbF hs;obtain⟨bs,e2,d1,d2⟩:=AbG hr c1 c2 c3;have e3:=lP m hm;by_cases ha:Va m
 .rcases tf (Al v 1 999)with hv|hv
  .exact Dp.no (X4.2.2.2.1 _ _ _ _ _ _ _ ⟨_,_,e1,_,e2,_,e3,by rw[Ya (by simp[ha])];exact⟨_,GJ hs,by rw[Ya rfl];exact⟨_,ZM _ _ _,by rw[Yb (by simp[hv])]⟩⟩⟩)
  .rcases tf (Al c 0 100)with hsl|hsl
   .exact Dp.no (X4.2.2.2.1 _ _ _ _ _ _ _ ⟨_,_,e1,_,e2,_,e3,by rw[Ya (by simp[ha])];exact⟨_,GJ hs,by rw[Ya rfl];exact⟨_,ZM _ _ _,by rw[Ya hv,Ao];exact⟨_,ZM _ _ _,by rw[Yb (by simp[hsl])]⟩⟩⟩⟩)
   .obtain⟨b1,b2,b3,_⟩:=Vp hs.box;obtain⟨f,o,z,g1,g2,g3,h⟩:=ZEb hs hm hq (bs[0]' Z) c;have hcp:KI s.Box=some (.agg [.own 0,.own 1],[.arr Z9 1 true (s.Box.Low.map ic),.arr Z9 1 true (s.Box.High.map ic)]):=XV.2.2.2.1 _ _ ⟨Z,Z,rfl⟩;have hpl:=hs.pl;have:=rJ hs hm hq (bs:=bs) (x:=s.Box.Low) (x1:=s.Box.High) (x2:=s.Plans) Z Z Z hs.pl hs.ps v cc c c 1 Z [o] Om (by simpa using h)
    exact this.of λr hr'=>X4.2.2.2.1 _ _ _ _ _ _ _ ⟨_,_,e1,_,e2,_,e3,by
     rw[Ya (by simp[ha])];refine⟨_,GJ hs,?_⟩;rw[Ya rfl];refine⟨_,ZM _ _ _,?_⟩;rw[Ya hv,Ao];refine⟨_,ZM _ _ _,?_⟩;rw[Ya hsl];refine⟨_,_,hcp,_,Z2D s.Plans Z hs.ps,X4.2.2.1.1 _ _ _ _ _ _ _ _ _ _ _ _ _ _ _ _ ?_⟩;rw[An]
     exact⟨Z,_,Yd Z,_,g1,_,g2,_,g3,hr'⟩⟩
 .exact Dp.no (X4.2.2.2.1 _ _ _ _ _ _ _ ⟨_,_,e1,_,e2,_,e3,by rw[Yb (by simp[ha])]⟩)
end
def AbW{m:Zf}{st:Zq}{q:Zc}(hm:Ba m)(cd:U5 st)(hq:AI q)(c cc:Int)(hr:2<=c/\c<=8):Dp (gW m st q c cc):=by
 obtain⟨e1,l1,l2⟩:=ZPj cd hq;rcases tf (okB st q)with h|h
 .rw[h]at e1;exact Dp.no (X4.2.2.2.2 _ _ _ _ _ _ ⟨_,_,e1,by rw[Yb Om]⟩)
 .rw[h]at e1;obtain⟨s,z,e2,hs⟩:=AbU hm hq (b:=pN st q) ⟨Z,Z⟩;rcases tf z with hz|hz<;>subst hz
  .exact Dp.no (X4.2.2.2.2 _ _ _ _ _ _ ⟨_,_,e1,by rw[Ya rfl];exact⟨_,_,e2,by rw[Yb Om]⟩⟩)
  .obtain⟨b,z,e3,hb⟩:=AbV (hs rfl) hm hq st.ZN.Version c cc hr;exact⟨b,z,X4.2.2.2.2 _ _ _ _ _ _ ⟨_,_,e1,by rw[Ya rfl];exact⟨_,_,e2,by rw[Ya rfl];exact⟨_,_,e3,rfl⟩⟩⟩,hb⟩
def AbX{b:Zu}(h:CT b)(z1 z2 z3 v1 v2 v3:Int)(x x1 x2:WL)(x3:List Ze):∀i,i<=b.Contours.length->gX b z1 z2 z3 v1 v2 v3 x x1 x2 x3 (b.Contours.take i) i=some (.agg [I v1,I v2,I v3,.own 0,.own 1,.own 2,.own 3,.own 4],[.arr Z9 1 true (x.map ic),.arr Z9 1 true (x1.map ic),.arr Z9 1 true (x2.map ic),.arr 75 1 true (x3.map Ze.c),.arr 32 1 true (b.Contours.map AF)]):=by
 have hc:=h.co;refine down _ ?_ ?_
 .apply Xq.1.1.1.2;rw[Ao,Yq]
 .intro i hi ih;have:=h.cc _ (Yf hi);apply Xq.1.1.1.2;rw[An,wS hi Z];refine⟨Z,_,gE hi,Z,by simp;omega,?_⟩;rw[ET hi];exact ih
def ZEc{b:Zu}(h:CT b):KI b.Box=some (.agg [.own 0,.own 1],[.arr Z9 1 true (b.Box.Low.map ic),.arr Z9 1 true (b.Box.High.map ic)]):=by
 have:=h.lo;have:=h.hi;exact XV.2.2.2.1 _ _ ⟨Z,Z,rfl⟩
def rK{b:Zu}(h:CT b)(e:b.Contours=[]):R2 b=some (.agg [I b.Version,I b.Ratio,I b.Slack,.own 0,.own 1,.own 2,.own 3,.t .nil],[.arr Z9 1 true (b.Box.Low.map ic),.arr Z9 1 true (b.Box.High.map ic),.arr Z9 1 true (b.Budgets.map ic),.arr 75 1 true (b.Plans.map Ze.c)]):=by
 have:=h.bu;have:=h.pl;refine Xq.1.1.2.1 _ _ ⟨_,_,ZEc h,Z,_,Z2D b.Plans Z h.ps,Xq.1.1.1.1 _ _ _ _ _ _ _ _ _ _ _ _ _ ?_⟩;rw[Yb (by simp[e])]
def rL{b:Zu}(h:CT b)(e:0<b.Contours.length):R2 b=some (.agg [I b.Version,I b.Ratio,I b.Slack,.own 0,.own 1,.own 2,.own 3,.own 4],[.arr Z9 1 true (b.Box.Low.map ic),.arr Z9 1 true (b.Box.High.map ic),.arr Z9 1 true (b.Budgets.map ic),.arr 75 1 true (b.Plans.map Ze.c),.arr 32 1 true (b.Contours.map AF)]):=by
 have:=h.bu;have:=h.pl;have hc:=h.cc _ (Yf e);have:=AbX h 0 0 0 b.Version b.Ratio b.Slack b.Box.Low b.Box.High b.Budgets b.Plans 1 Z;refine Xq.1.1.2.1 _ _ ⟨_,_,ZEc h,Z,_,Z2D b.Plans Z h.ps,Xq.1.1.1.1 _ _ _ _ _ _ _ _ _ _ _ _ _ ?_⟩;rw[An];refine⟨Z,_,Yd e,Z,?_⟩;rw[show w (0+1)=((1:Nat):Int) by decide,show[b.Contours[0]]=b.Contours.take 1 by rw[NI e]];exact this
def AbY(R:Rs):Prop:=∃(c:Zo) (b:Zu),GC c/\CT b/\((R=some (.agg [I b.Version,I b.Ratio,I b.Slack,.own 1,.own 2,.own 3,.own 4,.t .nil],[cB c,.arr Z9 1 true (b.Box.Low.map ic),.arr Z9 1 true (b.Box.High.map ic),.arr Z9 1 true (b.Budgets.map ic),.arr 75 1 true (b.Plans.map Ze.c)])/\b.Contours=[])\/
 R=some (.agg [I b.Version,I b.Ratio,I b.Slack,.own 1,.own 2,.own 3,.own 4,.own 5],[cB c,.arr Z9 1 true (b.Box.Low.map ic),.arr Z9 1 true (b.Box.High.map ic),.arr Z9 1 true (b.Budgets.map ic),.arr 75 1 true (b.Plans.map Ze.c),.arr 32 1 true (b.Contours.map AF)]))
def ZQY{c:Zo}(g:GC c){b:Zu}(h:CT b):AbY (gY c b):=by
 obtain⟨c1,n,e1,g1,n0,_⟩:=W2 g 14;obtain⟨p0,q0,f0,k0,_⟩:=U0 g1 [0,2,999,1000] Om Om;obtain⟨p1,q1,f1,k1,_⟩:=U0 g1 [0,1,5,1000000] Om Om;obtain⟨p2,q2,f2,k2,_⟩:=U0 g1 [1,9,3] Om Om;obtain⟨p3,q3,f3,k3,_⟩:=U0 g1 [(-1),101,10] Om Om;obtain⟨V,R,S,⟨lo,hi⟩,bs,ps,cs⟩:=b;have h':=h;obtain⟨s1,s2,s3,s4,s5,s6,s7⟩:=h';simp only at s1 s2 s3 s4 s5 s6 s7;rcases cs with _|⟨x,xs⟩
 .have hcp:=rK h rfl;by_cases a0:n=0
  .exact⟨p0,⟨q0,R,S,⟨lo,hi⟩,bs,ps,[]⟩,k0,⟨s1,s2,s3,s4,s5,s6,s7⟩,.inl ⟨Xq.1.1.2.2 _ _ _ (.inl ⟨_,_,_,_,_,_,_,hcp,_,_,e1,by rw[Ya a0];exact⟨_,_,_,f0,rfl⟩⟩),rfl⟩⟩
  by_cases a1:n=1
  .by_cases hb:0<bs.length
   .exact⟨p1,⟨V,R,S,⟨lo,hi⟩,bs.set 0 q1,ps,[]⟩,k1,⟨s1,s2,by simpa using s3,s4,s5,s6,s7⟩,.inl ⟨Xq.1.1.2.2 _ _ _ (.inl ⟨_,_,_,_,_,_,_,hcp,_,_,e1,by rw[Yb a0,Ya a1,Ya (by show(0:Int)<(bs.length:Int);omega)];exact⟨_,_,_,f1,_,Yd hb,rfl⟩⟩),rfl⟩⟩
   .exact⟨c1,⟨V,R,S,⟨lo,hi⟩,bs,ps,[]⟩,g1,h,.inl ⟨Xq.1.1.2.2 _ _ _ (.inl ⟨_,_,_,_,_,_,_,hcp,_,_,e1,by rw[Yb a0,Ya a1,Yb (by show ¬(0:Int)<(bs.length:Int);omega)]⟩),rfl⟩⟩
  by_cases a2:n=2
  .exact⟨c1,⟨V,R,S,⟨lo,hi⟩,bs,ps,[]⟩,g1,h,.inl ⟨Xq.1.1.2.2 _ _ _ (.inl ⟨_,_,_,_,_,_,_,hcp,_,_,e1,by rw[Yb a0,Yb a1,Ya a2]⟩),rfl⟩⟩
  by_cases a3:n=3
  .exact⟨p2,⟨V,q2,S,⟨lo,hi⟩,bs,ps,[]⟩,k2,⟨s1,s2,s3,s4,s5,s6,s7⟩,.inl ⟨Xq.1.1.2.2 _ _ _ (.inl ⟨_,_,_,_,_,_,_,hcp,_,_,e1,by rw[Yb a0,Yb a1,Yb a2,Ya a3];exact⟨_,_,_,f2,rfl⟩⟩),rfl⟩⟩
  by_cases a4:n=4
  .exact⟨p3,⟨V,R,q3,⟨lo,hi⟩,bs,ps,[]⟩,k3,⟨s1,s2,s3,s4,s5,s6,s7⟩,.inl ⟨Xq.1.1.2.2 _ _ _ (.inl ⟨_,_,_,_,_,_,_,hcp,_,_,e1,by rw[Yb a0,Yb a1,Yb a2,Yb a3,Ya a4];exact⟨_,_,_,f3,rfl⟩⟩),rfl⟩⟩
  .exact⟨c1,⟨V,R,S,⟨lo,hi⟩,bs,ps,[]⟩,g1,h,.inl ⟨Xq.1.1.2.2 _ _ _ (.inl ⟨_,_,_,_,_,_,_,hcp,_,_,e1,by rw[Yb a0,Yb a1,Yb a2,Yb a3,Yb a4]⟩),rfl⟩⟩
 .have hcp:=rL h Om;by_cases a0:n=0
  .exact⟨p0,⟨q0,R,S,⟨lo,hi⟩,bs,ps,x::xs⟩,k0,⟨s1,s2,s3,s4,s5,s6,s7⟩,.inr (Xq.1.1.2.2 _ _ _ (.inr ⟨_,_,_,_,_,_,_,_,hcp,_,_,e1,by rw[Ya a0];exact⟨_,_,_,f0,rfl⟩⟩))⟩
  by_cases a1:n=1
  .by_cases hb:0<bs.length
   .exact⟨p1,⟨V,R,S,⟨lo,hi⟩,bs.set 0 q1,ps,x::xs⟩,k1,⟨s1,s2,by simpa using s3,s4,s5,s6,s7⟩,.inr (Xq.1.1.2.2 _ _ _ (.inr ⟨_,_,_,_,_,_,_,_,hcp,_,_,e1,by rw[Yb a0,Ya a1,Ya (by show(0:Int)<(bs.length:Int);omega)];exact⟨_,_,_,f1,_,Yd hb,rfl⟩⟩))⟩
   .exact⟨c1,⟨V,R,S,⟨lo,hi⟩,bs,ps,x::xs⟩,g1,h,.inr (Xq.1.1.2.2 _ _ _ (.inr ⟨_,_,_,_,_,_,_,_,hcp,_,_,e1,by rw[Yb a0,Ya a1,Yb (by show ¬(0:Int)<(bs.length:Int);omega)]⟩))⟩
  by_cases a2:n=2
  .have hw:w (((x::xs).length:Int)-1)=(xs.length:Int):=by
    rw[WD Om (by simp at s6|-;omega)];simp
   refine⟨c1,⟨V,R,S,⟨lo,hi⟩,bs,ps,(x::xs).set xs.length [0]⟩,g1,⟨s1,s2,s3,s4,s5,by simpa using s6,λc hc=>?_⟩,.inr (Xq.1.1.2.2 _ _ _ (.inr ⟨_,_,_,_,_,_,_,_,hcp,_,_,e1,by
    rw[Yb a0,Yb a1,Ya a2];show if(0:Int)<((x::xs).length:Int)then _ else _;rw[Ya Om];show 0<=w (((x::xs).length:Int)-1)/\(∃e13:WL,(x::xs)[(w (((x::xs).length:Int)-1)).toNat]?=some e13/\_);rw[hw]
    exact⟨Z,_,Yd Om,rfl⟩⟩))⟩
   rcases Iw hc with hc|rfl
   .exact s7 c hc
   .simp
  by_cases a3:n=3
  .exact⟨p2,⟨V,q2,S,⟨lo,hi⟩,bs,ps,x::xs⟩,k2,⟨s1,s2,s3,s4,s5,s6,s7⟩,.inr (Xq.1.1.2.2 _ _ _ (.inr ⟨_,_,_,_,_,_,_,_,hcp,_,_,e1,by rw[Yb a0,Yb a1,Yb a2,Ya a3];exact⟨_,_,_,f2,rfl⟩⟩))⟩
  by_cases a4:n=4
  .exact⟨p3,⟨V,R,q3,⟨lo,hi⟩,bs,ps,x::xs⟩,k3,⟨s1,s2,s3,s4,s5,s6,s7⟩,.inr (Xq.1.1.2.2 _ _ _ (.inr ⟨_,_,_,_,_,_,_,_,hcp,_,_,e1,by rw[Yb a0,Yb a1,Yb a2,Yb a3,Ya a4];exact⟨_,_,_,f3,rfl⟩⟩))⟩
  .exact⟨c1,⟨V,R,S,⟨lo,hi⟩,bs,ps,x::xs⟩,g1,h,.inr (Xq.1.1.2.2 _ _ _ (.inr ⟨_,_,_,_,_,_,_,_,hcp,_,_,e1,by rw[Yb a0,Yb a1,Yb a2,Yb a3,Yb a4]⟩))⟩
def OG{c:Zo}(g:GC c):∃(c':Zo) (m:Zf) (s:Zq) (q:Zc) (cc cd:Int),cQ c=some (.tup [.agg (m.c.map .t),.agg (s.c.map .t),.agg (q.c.map .t),I cc,I cd],[cB c'])/\GC c'/\Ba m/\U5 s/\AI q/\2<=cc/\cc<=8:=by
 obtain⟨c1,m,e1,g1,h1⟩:=ZMB g;obtain⟨c2,s,e2,g2,h2⟩:=ZPs g1;obtain⟨c3,q,e3,g3,h3⟩:=ZPm g2;obtain⟨c4,r,e4,g4,h4⟩:=U0 g3 [2,2,3,4] Om Om;obtain⟨c5,l,e5,g5,h5⟩:=U0 g4 [0,20,50,100] Om Om;refine⟨c5,m,s,q,r,l,Sw.1.1 _ _ ⟨_,_,e1,_,_,e2,_,_,e3,_,_,_,e4,_,_,_,e5,rfl⟩,g5,h1.le,h2,h3,?_⟩;simp at h4;omega
def AbZ{c:Zo}(g:GC c):∃(c':Zo) (m:Zf) (s:Zq) (q:Zc) (b:Zu),Zpf c=some (.tup [.agg (m.c.map .t),.agg (s.c.map .t),.agg (q.c.map .t),.agg (b.c.map .t)],[cB c'])/\Ba m/\AI q/\CT b:=by
 obtain⟨c1,m,s,q,r,l,e1,g1,hm,hs,hq,hr⟩:=OG g;obtain⟨b,z,e2,hb⟩:=AbW hm hs hq r l hr;obtain⟨c2,b2,g2,hb2,e3|e3⟩:=ZQY g1 hb
 .obtain⟨V,R,S,⟨lo,hi⟩,bs,ps,cs⟩:=b2;obtain⟨e3,rfl⟩:=e3;exact⟨c2,m,s,q,_,Xq.1.2.1.1 _ _ ⟨_,_,_,_,_,_,e1,_,_,e2,.inl ⟨_,_,_,_,_,_,_,_,e3,rfl⟩⟩,hm,hq,hb2⟩
 .exact⟨c2,m,s,q,b2,Xq.1.2.1.1 _ _ ⟨_,_,_,_,_,_,e1,_,_,e2,.inr ⟨_,_,_,_,_,_,_,_,_,e3,rfl⟩⟩,hm,hq,hb2⟩
def OH(a:WL)(ha:a.length<=1048576):∃(m:Zf) (q:Zc) (b:Zu),L1 a=some (.tup [.agg (m.c.map .t),.agg (q.c.map .t),.agg (b.c.map .t)],[])/\Ba m/\AI q/\CT b:=by
 obtain⟨c,e,g⟩:=ZMA a ha;obtain⟨c',m,s,q,b,e2,h⟩:=AbZ g;exact⟨m,q,b,Xq.1.2.1.2 _ _ ⟨_,e,_,_,_,_,_,e2,rfl⟩,h⟩
def ZQZ(f:Nat)(xs:XQ)(h0:V2)(r:AV)(hr:V2)(h:ext f xs h0=some (r,hr)):W5 Tryz.prog f xs h0 r hr:=by cases h
def sound{f:Nat}{xs:XQ}{h0:V2}{r:AV}{hr:V2}(h:C f xs h0=some (r,hr)):W5 Tryz.prog f xs h0 r hr:=ZFp (YG _ _) ZQZ h
def ZRa{m:Zf}{q:Zc}{b:Zu}{l:WL}(F:OF m q b l):wst m q b ([],0,1) l=(l,tot m q b l,(opt m q (ZG l)).Cost):=by
 have:=F.t0;unfold wst;rw[Ya (by simp;omega)]
def ZEd{m:Zf}{q:Zc}{b:Zu}(hf:Ty q b){l:WL}(F:OF m q b l):l≠[]:=by
 intro e;have:=F.h2;rw[e]at this;have:=hf.len;have:=kQ hf.hv;simp at *;omega
def OI{m:Zf}{q:Zc}{b:Zu}{s:WS}{l:WL}(hs:s.1≠[])(hl:l≠[]):(wst m q b s l).1≠[]:=by
 unfold wst;split<;>assumption
section
variable{m:Zf}{q:Zc}{b:Zu}(hm:Ba m)(hq:AI q)(hb:CE b)(h:VX m q b)
include hm hq hb h
theorem ZEe{l:WL}(F:OF m q b l):HQ m q b l=some (.tup [I (tot m q b l),Bo true],[])/\J9 m q l=some (I (opt m q (ZG l)).Cost,[]):=by
 have s1:=ZQT hm hq hb h F.h1 F.h2;rw[Ya F.fd]at s1;have l1:=Qw F.h1;exact⟨s1,Z27 Z F.h1 (Is hm hq h F.h1 F.h2) h.2.2 h.2.1⟩
theorem ZRb{ls:WA}(c:ls.length<=1000)(hF:∀l∈ls,OF m q b l):∀i,i<=ls.length->∀s:WS,OE s->s.1≠[]->
  Ga m q b ls s.1 s.2.1 s.2.2 ls.length i=some (.tup [L 1 (((ls.drop i).foldl (wst m q b) s).1.map ic),Bo true],[]):=by
 refine down _ ?_ ?_
 .intro s _ _;apply ZAt;rw[Ao];simp
 .intro i hi ih s hs hne;have F:=hF _ (Yf hi);obtain⟨s1,s2⟩:=ZEe hm hq hb h F;have g1:=F.t0;have g2:=F.t1;have g3:=F.o0;have g4:=F.o1;have g5:=hs.t0;have g6:=hs.t1;have g7:=hs.o0;have g8:=hs.o1;have ih:=ih _ (ZDY hs F) (OI hne (ZEd (VG h.1) F));apply ZAt;rw[An,wS hi Z];refine⟨Z,_,gE hi,_,_,s1,_,s2,hne,_,ZQN Z Z Z Z Z Z Z Z,?_⟩;rw[Yi hi,Yv];unfold wst at ih|-;by_cases e:s.2.1*(opt m q (ZG ls[i])).Cost<tot m q b ls[i]*s.2.2
  .rw[Ya e]at ih|-;rw[Ya (by simpa using e)];exact ih
  .rw[Yb e]at ih|-;rw[Yb (by simpa using e)];exact ih
end
def ZRc{m:Zf}{q:Zc}{b:Zu}(hm:Ba m)(hq:AI q)(hb:CE b)(hE:Qy b.Contours<=2000000):Mm m q b =
  if GI m q b=true then some (.tup [L 1 ((KQ m q b).map ic),Bo true],[])else some (.tup [.t .nil,Bo false],[]):=by
 have s0:=ZQL hm hq hb;rcases tf (GI m q b)with e|e
 .rw[Yb (by simp[e])];exact Uu.1.1.2.1 _ _ _ _ ⟨_,s0,by rw[e,Yb Om]⟩
 .rw[Ya e];have h:VX m q b/\It m q b=true:=by unfold GI at e;simpa using e
  have hf:=VG h.1.1;have hL:=rE hm hq h.1 h.2 hE;have hx:=ZDI b.Box ⟨hb.1,hb.2.1⟩;rw[Ya hf.v2]at hx;have hv1:=hf.v1;have hv2:=hf.v2;have hlen:(Xm b.Box).length=(ZH b.Box.Low b.Box.High).toNat:=by simp[Xm]
  have h0:0<(Xm b.Box).length:=by omega
  have F:=hL _ (Yf h0);obtain⟨s1,s2⟩:=ZEe hm hq hb h.1 F;have g:OE ((Xm b.Box)[0],tot m q b (Xm b.Box)[0],(opt m q (ZG (Xm b.Box)[0])).Cost):=⟨by have:=F.t0;simp;omega,F.t1,F.o0,F.o1⟩;have al:=ZRb hm hq hb h.1 Z hL 1 Z _ g (ZEd hf F);have ew:KQ m q b=((List.drop 1 (Xm b.Box)).foldl (wst m q b) ((Xm b.Box)[0],tot m q b (Xm b.Box)[0],(opt m q (ZG (Xm b.Box)[0])).Cost)).1:=by
   unfold KQ
   conv=>lhs;rw[<-Yo (l:=Xm b.Box),Yi h0,Yv,ZRa F]
  rw[<-ew]at al;refine Uu.1.1.2.1 _ _ _ _ ⟨_,s0,?_⟩;rw[e,Ya rfl];refine .inr ⟨_,hx,Uu.1.1.1 _ _ _ _ _ _ _ _ _ ?_⟩;rw[An];exact⟨Z,_,Yd h0,_,_,s1,_,s2,al⟩
open Go.ChangeShapes Go.WideShapes
def Ab0(code:WL)(hl:code.length<=1048576)(hb:∀n∈code,0<=n/\n<=255)(i:Nat)(hi:i<=100):∃v:Int,ZpP code i=some (I v,[])/\0<=v:=by
 by_cases h:i<code.length
 .have:=hb _ (Yf h);exact⟨w code[i],JB.2.2.1 _ _ _ (by rw[An];exact⟨Z,code[i],gE h,rfl⟩),by rw[Xn Z Z];omega⟩
 .refine⟨_,JB.2.2.1 _ _ _ (by rw[Ao]),?_⟩;rw[show w ((i:Int)*37)=(i:Int)*37 from Xn Z Z,show w ((code.length:Int)*11)=(code.length:Int)*11 from Xn Z Z,Xn Z Z];exact Int.tmod_nonneg _ Z
def ZEf{m:Zf}{q:Zc}{b:Zu}:∀{ls:WA} {s:WS},(∀l∈ls,OF m q b l)->OE s->
  (let r:=ls.foldl (wst m q b) s;OE r/\(r=s\/∃l∈ls,r=(l,tot m q b l,(opt m q (ZG l)).Cost))/\s.2.1*r.2.2<=r.2.1*s.2.2/\∀l∈ls,tot m q b l*r.2.2<=r.2.1*(opt m q (ZG l)).Cost)
 |[],s,_,g=>⟨g,.inl rfl,Int.le_refl _,λl hl=>by cases hl⟩
 |x::ls,s,h,g=>by
  have F:=h x Om;have g':=ZDY g F;obtain⟨i1,i2,i3,i4⟩:=ZEf (ls:=ls) (s:=wst m q b s x) (λl hl=>h l (by simp[hl])) g';rw[Yv];generalize ls.foldl (wst m q b) (wst m q b s x)=r at *
  have t0:=F.t0;have o0:=F.o0;have s0:=g.t0;have s1:=g.o0;have r0:=i1.t0;have r1:=i1.o0;refine⟨i1,?_,?_⟩
  .rcases i2 with e|⟨l,hl,e⟩
   .unfold wst at e;split at e
    .exact .inr ⟨x,Om,e⟩
    .exact .inl e
   .exact .inr ⟨l,by simp[hl],e⟩
  .have key:∀{A B C D E F:Int},0<B->0<D->0<F->A*D<=C*B->C*F<=E*D->A*F<=E*B:=by
    intro A B C D E F hB hD hF h1 h2;have h3:A*D*F<=C*B*F:=Int.mul_le_mul_of_nonneg_right h1 Z;have h4:C*F*B<=E*D*B:=Int.mul_le_mul_of_nonneg_right h2 Z;have h5:A*F*D<=E*B*D:=by
     rw[show A*F*D=A*D*F by ac_rfl,show E*B*D=E*D*B by ac_rfl];rw[show C*B*F=C*F*B by ac_rfl]at h3;omega
    exact Int.le_of_mul_le_mul_right h5 hD
   unfold wst at i3;split at i3
   .rename_i e;simp only at i3;refine⟨key Z Z Z (Int.le_of_lt e) i3,λl hl=>?_⟩;rcases Y1.1 hl with rfl|hl
    .exact i3
    .exact i4 l hl
   .rename_i e;refine⟨i3,λl hl=>?_⟩;rcases Y1.1 hl with rfl|hl
    .exact key Z Z Z (Int.not_lt.1 e) i3
    .exact i4 l hl
def OJ{t o u n:Int}(ho:0<o)(hn:0<n)(h:u*o<=t*n):u / n<=t / o:=by
 have h1:u / n*n<=u:=Int.ediv_mul_le u Z;have h2:u / n*n*o<=u*o:=Int.mul_le_mul_of_nonneg_right h1 Z;have h3:u / n*o*n<=t*n:=by rw[show u / n*o*n=u / n*n*o by ac_rfl];omega
 exact(Int.le_ediv_iff_mul_le ho).2 (Int.le_of_mul_le_mul_right h3 hn)
def Z2E:∀{xs ys:WL},(∀(i:Nat) (h1:i<xs.length) (h2:i<ys.length),ys[i]<=xs[i])->Uv xs ys=true
 |[],_,_=>by simp[Uv]
 |_::_,[],_=>by simp[Uv]
 |x::xs,y::ys,h=>by
  rw[Uv,Yg];exact⟨decide_eq_true (h 0 Om Om),Z2E λi h1 h2=>h (i+1) (by simpa using h1) (by simpa using h2)⟩
def ZEg{lo hi:WL}(h:Xr lo hi=true):∀k,k<=lo.length->∀(idx:Int) (out:WL),0<=idx->(∀(j:Nat) (h1:j<out.length) (h2:j<lo.length) (h3:j<hi.length),lo[j]<=out[j]/\out[j]<=hi[j])->∀(j:Nat) (h1:j<(Qx lo hi k idx out).length) (h2:j<lo.length) (h3:j<hi.length),lo[j]<=(Qx lo hi k idx out)[j]/\(Qx lo hi k idx out)[j]<=hi[j]
 |0,_,idx,out,_,ho=>ho
 |k+1,hk,idx,out,h0,ho=>by
  obtain⟨b1,_⟩:=Vp h;have hk1:k<lo.length:=by omega
  have hk2:k<hi.length:=by omega
  obtain⟨d1,d2,e1,d3,d4⟩:=Tw h hk1;have hd:Xg lo hi k=hi[k]-lo[k]+1:=by
   unfold Xg;rw[e1,show hi.getD k 0=hi[k] by simp[List.getD,hk2]]
  have m1:=Int.emod_nonneg idx (show Xg lo hi k≠0 by omega);have m2:=Int.emod_lt_of_pos idx (show 0<Xg lo hi k by omega);simp only[Qx];refine ZEg h k Z _ _ (Int.ediv_nonneg h0 Z) ?_;intro j h1 h2 h3;rw[List.getElem_set];split
  .rename_i e;subst e;omega
  .exact ho j (by simpa using h1) h2 h3
def ZRd{b:Box}(h:Xr b.Low b.High=true){i:Int}(h0:0<=i):MF b.Low b.High (WC b i)=true:=by
 obtain⟨b1,b2,b3,b4⟩:=Vp h;have hl:=(Tx h h0).2;have:=ZEg h b.Low.length (Yj _) i b.Low h0 (λj h1 h2 h3=>by have:=b4 j h2 h3;omega);unfold MF dom;simp only[Yg,decide_eq_true_eq];exact⟨⟨h,hl,Z2E λj h1 h2=>(this j h1 h2 Z).1⟩,Z,Z2E λj h1 h2=>(this j h2 Z h1).2⟩
section
variable{m:Zf}{q:Zc}{b:Zu}(hm:Ba m)(hq:AI q)(hb:CT b)(h:VX m q b)(hp:It m q b=true)
include hm hq hb h hp
omit hm hq hb hp in
theorem ZEh{l:WL}(hl:l∈Xm b.Box):MF b.Box.Low b.Box.High l=true:=by
 unfold Xm at hl;rw[Yn]at hl;obtain⟨i,_,rfl⟩:=hl;exact ZRd (VG h.1).box Z
theorem ZEi{l:WL}(hl:l∈Xm b.Box):Su m q b l=some (.tup [I (tot m q b l),Bo true],[])/\Gb m q l=some (I (opt m q (ZG l)).Cost,[]):=by
 have F:=rE hm hq h hp hb.ent l hl;have hf:=VG h.1;have bb:=Is hm hq h F.h1 F.h2;have l1:=Qw F.h1;have hx:=Z2B b.Box ⟨hb.le.1,hb.le.2.1⟩ l Z;rw[ZEh h hl]at hx;have ht:=ZQW hm hq hb.le h F.h1 F.h2;rw[Ya F.fd]at ht;have t0:=F.t0;refine⟨JB.2.1 _ _ _ _ _ ⟨_,lP m hm,?_⟩,ZDN F.h1 bb hm h.2.2 h.2.1⟩;rw[Ya (by simp[h.2.2])];refine⟨_,Z29 q b hq hb.le,?_⟩;rw[Ya h.1];refine⟨_,hx,?_⟩;rw[Ya rfl];exact⟨_,ht,by rw[Ao]⟩
theorem rM(code:WL)(hl:code.length<=1048576)(hc:∀n∈code,0<=n/\n<=255){x:WL}(hx:x∈Xm b.Box)
  (hw:∀l∈Xm b.Box,tot m q b l*(opt m q (ZG x)).Cost<=tot m q b x*(opt m q (ZG l)).Cost):∀k:Nat,k<=8->Sv m q b code x (tot m q b x) true (opt m q (ZG x)).Cost k=some (Bo true,[]):=by
 have hf:=VG h.1;have hlx:Dl b.Box:=⟨hb.le.1,hb.le.2.1⟩;have hv1:=hf.v1;have hv2:=hf.v2;have hvv:=(qT hv2 hv1).2;have Fx:=rE hm hq h hp hb.ent x hx;have x1:=Fx.t0;have x2:=Fx.o0;have x3:=Fx.t1;refine down _ ?_ ?_
 .have l1:=Qw Fx.h1;have hi:=Z2B b.Box hlx x Z;rw[ZEh h hx]at hi;apply JB.2.2.2;rw[Ao,Ya rfl];exact⟨_,hi,rfl⟩
 .intro k hk ih;obtain⟨v,e1,h0⟩:=Ab0 code hl hc k Z;have t0:0<=Int.tmod v (ZH b.Box.Low b.Box.High):=Int.tmod_nonneg _ h0;have t1:Int.tmod v (ZH b.Box.Low b.Box.High)<ZH b.Box.Low b.Box.High:=Int.tmod_lt_of_pos _ Z;have hbl:=qQ b.Box hlx hf.box t0 Z;have hm':WC b.Box (Int.tmod v (ZH b.Box.Low b.Box.High))∈Xm b.Box:=by
   unfold Xm;exact Yn.2 ⟨(Int.tmod v (ZH b.Box.Low b.Box.High)).toNat,Y3.2 Z,by rw[Int.toNat_of_nonneg t0]⟩
  generalize WC b.Box (Int.tmod v (ZH b.Box.Low b.Box.High))=l at *
  obtain⟨s1,s2⟩:=ZEi hm hq hb h hp hm';have F:=rE hm hq h hp hb.ent l hm';have y1:=F.t0;have y2:=F.o0;have y3:=F.t1;have hd:=OJ Z Z (hw l hm');apply JB.2.2.2;rw[An,wS hk Z];refine⟨_,e1,_,SE b.Box hlx,Z,_,_,hbl,_,_,s1,_,s2,Z,Z,?_⟩;have a1:=Int.ediv_le_self (opt m q (ZG x)).Cost (show 0<=tot m q b x by omega);have a2:=Int.ediv_le_self (opt m q (ZG l)).Cost (show 0<=tot m q b l by omega);have a3:=Int.ediv_nonneg (show 0<=tot m q b x by omega) (show 0<=(opt m q (ZG x)).Cost by omega);have a4:=Int.ediv_nonneg (show 0<=tot m q b l by omega) (show 0<=(opt m q (ZG l)).Cost by omega);rw[Int.tdiv_eq_ediv_of_nonneg Z,Int.tdiv_eq_ediv_of_nonneg Z,Xn Z Z,Xn Z Z,Ao];exact ih
end
def OK(ts:V5)(h:WV [.int .u8] ts):∃n:Int,ts=kc .u8 n/\(0<=n/\n<=255):=by
 obtain⟨t,us,rfl,h1,h2⟩:=Z2F h;cases FB h2
 cases h1 with
 |int hw =>
  refine⟨_,rfl,?_⟩;have h':=Bool.and_eq_true_iff.1 hw;exact⟨of_decide_eq_true h'.1,of_decide_eq_true h'.2⟩
def decB{t:T}(h:G7 (.slice [.int .u8]) t):∃xs:WL,t=.lst 1 (xs.map (kc .u8))/\OkL (λn=>0<=n/\n<=255) xs:=ZFr OK h
def ZEk(a:WL)(ha:OkL (λn=>0<=n/\n<=255) a):C ZFt [L 1 (a.map (kc .u8))] []=some (Bo true,[]):=by
 show Mp a=_;by_cases hbig:1048576<(a.length:Int)
 .exact ZLt a (by have:=Xz.1.1.1.1 a _ rfl;rwa [decide_eq_true hbig]at this)
 have h0:FK a=some (Bo false,[]):=by have:=Xz.1.1.1.1 a _ rfl;rwa [decide_eq_false hbig]at this
 obtain⟨m,q,b,h1,hm,hq,hb⟩:=OH a Z;have h2:=ZRc hm hq hb.le hb.ent;have h3:=ZQM hm hq hb.le;rcases tf (GI m q b)with e|e
 .rw[Yb (by simp[e])]at h2;rw[e]at h3;exact law_no a h0 h1 h2 h3
 .rw[Ya e]at h2;rw[e]at h3;have h:VX m q b/\It m q b=true:=by unfold GI at e;simpa using e
  have hf:=VG h.1.1;have hL:=rE hm hq h.1 h.2 hb.ent;have g0:OE ([],0,1):=⟨Om,Om,Om,Om⟩;obtain⟨g,g1,g2,g3⟩:=ZEf (s:=([],0,1)) hL g0;have hlen:(Xm b.Box).length=(ZH b.Box.Low b.Box.High).toNat:=by simp[Xm]
  have hv1:=hf.v1;have hpos:0<(Xm b.Box).length:=by omega
  have Fz:=hL _ (Yf hpos);have hz:=g3 _ (Yf hpos);have z1:=Fz.t0;have z2:=Fz.o0;have gr:=g.o0;obtain⟨x,hx,ex⟩:∃x∈Xm b.Box,(Xm b.Box).foldl (wst m q b) ([],0,1)=(x,tot m q b x,(opt m q (ZG x)).Cost):=by
   rcases g1 with e|e
   .exfalso;rw[e]at hz;simp at hz;omega
   .exact e
  have hwx:KQ m q b=x:=by unfold KQ;rw[ex]
  rw[hwx]at h2;rw[ex]at g3;obtain⟨s1,s2⟩:=ZEi hm hq hb h.1 h.2 hx;exact ZLu a h0 h1 h2 h3 s1 s2 (rM hm hq hb h.1 h.2 a Z ha.2 hx g3 0 (Yc _))
