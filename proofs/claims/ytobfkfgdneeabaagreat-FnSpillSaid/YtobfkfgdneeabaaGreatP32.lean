/-
  Parts of the proofs for this seat: TB SQ2 SR BA BB BC BD EW EY EZ EP ST ST2 OM FT.
-/
import Derived.Test.YtobfkfgdneeabaaGreatP31
set_option linter.all false
set_option maxRecDepth 100000
set_option maxHeartbeats 4000000
namespace Go.Proofs.YtobfkfgdneeabaaGreat
open Go.AM
theorem ZEp(a:Int):SU a=some (.agg [.own 0],[.arr 118 3 true (([(⟨1,a,0⟩:Zn)]).map Zn.c)]):=Ur.2.1.1 _ _ rfl
def ZQZ(p:Zr)(h:p.Steps.length<=1000):Zp8 p=some (.agg [.own 0],[.arr 118 3 true (p.Steps.map Zn.c)]):=WN.2.2.2.2.1 _ _ ⟨E,rfl⟩
def V7(a b:List Zn)(k v:Int):List Zn:=a++b++[(⟨k,0,v⟩:Zn)]
def XA(a:List Zn)(v:Int):List Zn:=a++[(⟨2,0,v⟩:Zn)]
def bB(a b:Zr)(k v:Int)(ha:a.Steps.length<=1000)(hb:b.Steps.length<=1000):Jx a b k v=some (.agg [.own 0],[.arr 118 3 true ((V7 a.Steps b.Steps k v).map Zn.c)]) :=
 Ur.2.1.2 _ _ _ _ _ ⟨E,E,E,rfl⟩
def Zro(a:Zr)(v:Int)(ha:a.Steps.length<=1000):S2 a v=some (.agg [.own 0],[.arr 118 3 true ((XA a.Steps v).map Zn.c)]) :=
 X6.2.2.2.1 _ _ _ ⟨E,E,rfl⟩
def ZRa(steps:List Zn)(hl:steps.length<=100):∀i,i<=steps.length->∀out,out.length<=i->TZ out steps steps.length i=some (.own 0,[.arr X5 1 true ((out++Ck (steps.drop i) i).map ic)]):=by
 refine down _ ?_ ?_
 .intro out ho;apply WN.2.1.1.2;rw[Ao,Yl];simp[Ck]
 .intro i hi ih out ho;have h5:=Xn (i:=i) E;apply WN.2.1.1.2;rw[An,Zn6 hi];refine⟨E,_,Yh hi,?_⟩;rw[show w ((i:Int)+1)=((i+1:Nat):Int)from h5];by_cases c:3<=(steps[i]).Kind
  .rw[Ya (by simpa using c),Ya c];refine⟨E,?_⟩;rw[ih _ (by simp;omega)];simp
  .rw[Yb (by simpa using c),Yb c];exact ih _ E
def ZEq(p:Zr)(hl:p.Steps.length<=100):TY p=some (.own 0,[.arr X5 1 true ((Ck p.Steps 0).map ic)]):=by
 have:=ZRa p.Steps hl 0 (Yc _) [] (Yc _);exact WN.2.1.2.1 _ _ (by simpa using this)
def ZRb(q:Zc)(hq:AW q)(p:Zr){info:List Zf}(he:ZG q.Zi q.Atoms p.Steps=some info){i:Int}(h0:0<=i)(h1:i.toNat<info.length):T0 q p i=some (Zrh (WU info p.Steps i)):=by
 have q1:=aK q p hq;rw[he]at q1;obtain⟨l1,l2,l3,l4⟩:=Um he;obtain⟨lf,l5⟩:=Z2N he;obtain⟨b0,b1⟩:=ZDY lf h0;have w1:w ((info.length:Int)-1)=(info.length:Int)-1:=ZF E E;have w2:w (i+1)=i+1:=ZF E E;refine WN.2.2.2.2.2 _ _ _ _ (.inr ⟨info,q1,_,Uu _ _ _,?_⟩);rw[Ya (by rw[w1];simp[Am];omega)];refine⟨_,ZQD lf h0 h1,b0,?_⟩;rw[w2];refine⟨E,E,E,_,ZQZ _ ?_,rfl⟩;show(List.drop _ (List.take _ _)).length<=_;rw[Ry,Y0];omega
def ZRc(q:Zc)(hq:AW q)(p:Zr){info:List Zf}(he:ZG q.Zi q.Atoms p.Steps=some info){i:Int}(h0:0<=i)(h1:i.toNat<info.length):YJ q p i=some (Zrh (WU info p.Steps i)):=by
 have q1:=G4 q p hq;rw[he]at q1;obtain⟨l1,l2,l3,l4⟩:=Um he;obtain⟨lf,l5⟩:=Z2N he;obtain⟨b0,b1⟩:=ZDY lf h0;have w1:w ((info.length:Int)-1)=(info.length:Int)-1:=ZF E E;have w2:w (i+1)=i+1:=ZF E E;refine ZO0 _ _ _ _ ⟨info,true,q1,?_⟩;rw[Ya rfl];refine⟨_,ZS _ _ _,?_⟩;rw[Ya (by rw[w1];simp[Am];omega)];refine⟨_,ZQE lf h0 h1,b0,?_⟩;rw[w2];refine⟨E,E,E,?_,rfl⟩;rw[Ry,Y0];omega
def ZRd(q:Zc)(hq:AW q)(p:Zr){info:List Zf}(he:ZG q.Zi q.Atoms p.Steps=some info)(mask:Int):∀i,i<=p.Steps.length->
  nV q p info mask true i=some (ZDZ info p.Steps (D4 info mask (Ck (p.Steps.drop i) i))):=by
 obtain⟨l1,l2,l3,l4⟩:=Um he;have l6:=(Zn5 he).2;refine down _ ?_ ?_
 .apply W1.2.1.2.1;rw[Ao,Yl];rfl
 .intro i hi ih;have h5:=Xn (i:=i) E;have hi':i<info.length:=by omega
  have hk:=l6 _ _ _ (Yh hi') (Yh hi);apply W1.2.1.2.1;rw[An,Ya rfl];refine⟨E,_,Yh hi',?_⟩;rw[Zn6 hi,show w ((i:Int)+1)=((i+1:Nat):Int)from h5];by_cases c:3<=p.Steps[i].Kind
  .rw[Ya (by simpa using hk.2 c),Ya c,D4];simp only[Yj,Yh hi'];by_cases c2:info[i].Mask=mask
   .rw[Ya c2,Ya c2];exact .inl ⟨_,ZRc q hq p he E E,rfl⟩
   .rw[Yb c2,Yb c2];exact ih
  .rw[Yb (λhc=>c (hk.1 (by simpa using hc))),Yb c];exact ih
def ZRe(q:Zc)(hq:AW q)(p:Zr)(mask:Int):YK q p mask=some (Zri q p mask):=by
 have q1:=G4 q p hq;apply W1.2.1.2.2;unfold Zri
 cases he:ZG q.Zi q.Atoms p.Steps with
 |none =>
  rw[he]at q1;refine⟨[],false,q1,W1.2.1.2.1 _ _ _ _ _ _ _ ?_⟩
  simp;rfl
 |some info =>
  rw[he]at q1;refine⟨info,true,q1,?_⟩;have:=ZRd q hq p he mask 0 (Yc _);rw[Yq]at this;exact this
def spD(info:List Zf)(cc:List Zn):Option Int->XR
 |some j=>(.tup [.agg ((⟨WU info cc j⟩:Zr).c.map .t),Bo true],[])
 |none=>(.tup [.agg ((⟨[]⟩:Zr).c.map .t),Bo false],[])
def Zrp(q:Zc)(p:Zr)(mask:Int):XR:=match ZG q.Zi q.Atoms p.Steps with
 |some info=>spD info p.Steps (D4 info mask (Ck p.Steps 0))
 |none=>(.tup [.agg ((⟨[]⟩:Zr).c.map .t),Bo false],[])
def ZRf(q:Zc)(hq:AW q)(p:Zr){info:List Zf}(he:ZG q.Zi q.Atoms p.Steps=some info)(mask:Int)(js:V2)(hj:∀j∈js,0<=j/\j.toNat<info.length)(hl:js.length<=1000):∀i,i<=js.length->
  mR q p info js mask js.length i=some (spD info p.Steps (D4 info mask (js.drop i))):=by
 refine down _ ?_ ?_
 .apply UI.1.1.1;rw[Ao,Yl];rfl
 .intro i hi ih;have h5:=Xn (i:=i) E;obtain⟨j0,j1⟩:=hj _ (Ye hi);apply UI.1.1.1;rw[An];refine⟨E,_,Yh hi,j0,_,Yh j1,?_⟩;rw[Yg hi,D4,Yh j1];simp only;by_cases c:info[js[i].toNat].Mask=mask
  .rw[Ya (by simpa using c),Ya (by simpa using c)];exact .inr ⟨_,ZRb q hq p he j0 j1,rfl⟩
  .rw[Yb (by simpa using c),Yb (by simpa using c),show w ((i:Int)+1)=((i+1:Nat):Int)from h5];exact ih
def ZEr(q:Zc)(hq:AW q)(p:Zr)(mask:Int):Iv q p mask=some (Zrp q p mask):=by
 have q1:=aK q p hq;apply UI.1.1.2;unfold Zrp
 cases he:ZG q.Zi q.Atoms p.Steps with
 |none=>rw[he]at q1;exact .inl ⟨q1,rfl⟩
 |some info =>
  rw[he]at q1;obtain⟨l1,l2,l3,l4⟩:=Um he;have hjl:=ZsS p.Steps 0;refine .inr ⟨info,q1,_,ZEq p E,?_⟩;have:=ZRf q hq p he mask (Ck p.Steps 0) (λj hj=>by have:=Zn7 hj;omega) E 0 (Yc _);rw[Yq]at this;exact this
def AB:Option (Ze×(Bool×Int×Int×List Zu))->Run
 |none=>⟨false,0,0,[],⟨[],[]⟩⟩
 |some (s,false,c,st,o)=>⟨false,c,st,o,⟨[],[]⟩⟩
 |some (s,true,c,st,o)=>⟨true,c,st,o,⟨s.Vars,Ua s.Rows⟩⟩
theorem ZEs(nl:Bool)(x:Option (Ze×(Bool×Int×Int×List Zu))):r6 nl x=(.tup [.agg ((AB x).c.map .t),Bo x.isSome],[]):=by
 match x with
 |none=>rfl
 |some (s,false,c,st,o)=>rfl
 |some (s,true,c,st,o)=>rfl
def QN(q:Zc)(p:Zr)(mask:Int):Option (List Zn):=match ZG q.Zi q.Atoms p.Steps with
 |some info=>(D4 info mask (Ck p.Steps 0)).map (WU info p.Steps)
 |none=>none
def ZRg(q:Zc)(p:Zr)(mask:Int):Zri q p mask=match QN q p mask with|some l=>Zrh l|none=>noP:=by
 unfold Zri QN
 cases ZG q.Zi q.Atoms p.Steps with
 |none=>rfl
 |some info=>simp only;cases D4 info mask (Ck p.Steps 0)<;>rfl
noncomputable def AQ(m:Zt)(d:Zj)(q:Zc)(p:Zr)(mask c:Int):Option (Ze×(Bool×Int×Int×List Zu)):=match QN q p mask with
 |some l=>Ld m d q ⟨l⟩ c
 |none=>none
def ZEt(q:Zc)(p:Zr)(mask:Int):Zrp q p mask=match QN q p mask with|some l=>(.tup [.agg ((⟨l⟩:Zr).c.map .t),Bo true],[])|none=>(.tup [.agg ((⟨[]⟩:Zr).c.map .t),Bo false],[]):=by
 unfold Zrp QN
 cases ZG q.Zi q.Atoms p.Steps with
 |none=>rfl
 |some info=>simp only;cases D4 info mask (Ck p.Steps 0)<;>rfl
def ZEu{m:Zt}(hm:Ci m){d:Zj}(hd:BA d){q:Zc}(hq:AW q)(p:Zr)(mask cc:Int):YA m d q p mask cc=some (.tup [.agg ((AB (AQ m d q p mask cc)).c.map .t),Bo (AQ m d q p mask cc).isSome],[]):=by
 have hS:=ZEr q hq p mask;rw[ZEt]at hS;apply W0.1.1.1.1;unfold AQ
 cases e:QN q p mask with
 |none=>rw[e]at hS;exact⟨_,_,hS,rfl⟩
 |some l =>
  grind [ZQL,ZEs]
def ZEv{m:Zt}(hm:Ci m){d:Zj}(hd:BA d){q:Zc}(hq:AW q)(p:Zr)(mask cc:Int):NO m d q p mask cc=some (.tup [.agg ((AB (AQ m d q p mask cc)).c.map .t),Bo (AQ m d q p mask cc).isSome],[]):=by
 have hS:=ZRe q hq p mask;rw[ZRg]at hS;apply Us.2.1.2.2;unfold AQ
 cases e:QN q p mask with
 |none=>rw[e]at hS;exact .inr ⟨hS,rfl⟩
 |some l =>
  rw[e]at hS;have hR:=ZQM hm hd hq ⟨l⟩ cc;rw[ZEs]at hR;exact .inl ⟨_,hS,_,_,hR,rfl⟩
def B6(b:Box):Prop:=b.Low.length<=4294967296/\b.High.length<=4294967296
def B6.x{b:Box}(h:B6 b):LeX b:=by obtain⟨h1,h2⟩:=h;exact⟨E,E⟩
def bxR(lo hi:V2):V3:=[.arr 3 1 true (lo.map ic),.arr 3 1 true (hi.map ic)]
def Z2T(b:Box)(h:B6 b):M0 b=some (.agg [.own 0,.own 1],bxR b.Low b.High):=by
 obtain⟨h1,h2⟩:=h;exact Wy.1.1.2.2 _ _ ⟨_,IX _ E,_,IX _ E,rfl⟩
def Z2U(b:Box)(h:B6 b):II b=some (.agg [.own 0,.own 1],bxR b.Low b.High):=by
 obtain⟨h1,h2⟩:=h;exact W1.1.2.2.1 _ _ ⟨E,E,rfl⟩
def bC{c:Prop}[Decidable c]{a b:Prop}(h1:c->a)(h2:¬c->b):if c then a else b:=by
 simp_all
def bD(n:Int)(qa:List Zd):0<=ZU n qa/\ZU n qa<=15:=by
 unfold ZU
 grind [Jv]
def ZEw(q:Zc)(hq:AW q)(b:Box)(h:B6 b):TX q b=some (Bo (VU q.Zi q.Atoms b.Low b.High),[]):=by
 have hf:=bD q.Zi q.Atoms;refine WN.2.1.1.1 _ _ _ ⟨_,Zq8 b h.x,?_⟩;unfold VU;rcases tf (WR b.Low b.High)with e|e
 .simp_all
 .rw[e,Ya rfl];refine⟨_,ZOK q hq,?_⟩;rw[wA E E];simp
def ZEx{lo hi:V2}{k:Int}(h1:lo.length=hi.length)(h2:k.toNat<lo.length):lo[k.toNat]?=some lo[k.toNat]/\hi[k.toNat]?=some (hi[k.toNat]' E)/\opn lo hi k=decide (lo[k.toNat]<hi[k.toNat]' E):=by
 have m3:k.toNat<hi.length:=by omega
 exact⟨Yh h2,Yh m3,by simp[opn,Yh h2,Yh m3]⟩
def ZRh(lo hi:V2)(info:List Zf)(js:V2)(hj:∀i∈js,0<=i/\i.toNat<info.length)(c:js.length<=1000)(h1:lo.length=hi.length)(hm:∀y∈info,0<=y.Mask/\y.Mask.toNat<lo.length):∀k,k<=js.length->
  mP ⟨lo,hi⟩ info js js.length k=some (I ((tj lo hi info (js.drop k)).getD 0),[]):=by
 refine down _ ?_ ?_
 .apply WN.2.1.2.2;rw[Ao,Yl];rfl
 .intro k hk ih;obtain⟨j1,j2⟩:=hj _ (Ye hk);obtain⟨m1,m2⟩:=hm _ (Ye j2);obtain⟨o1,o2,o3⟩:=ZEx h1 m2;apply WN.2.1.2.2;rw[An,wS hk E];refine⟨E,_,Yh hk,j1,_,Yh j2,m1,_,o1,_,o2,?_⟩;rw[Yg hk,tj,Yh j2]
  simp_all
def ZEy(q:Zc)(hq:AW q)(p:Zr)(b:Box)(h:B6 b):M8 q p b=some (I (Xw q.Zi q.Atoms p.Steps b.Low b.High),[]):=by
 have q1:=aK q p hq;apply WN.2.2.1.1;unfold Xw
 cases he:ZG q.Zi q.Atoms p.Steps with
 |none=>rw[he]at q1;exact .inl ⟨q1,rfl⟩
 |some info =>
  rw[he]at q1;obtain⟨l1,l2,l3,l4⟩:=Um he;refine .inr ⟨info,q1,_,ZEw q hq b h,?_⟩;rcases tf (VU q.Zi q.Atoms b.Low b.High)with e|e
  .simp_all
  .obtain⟨m1,m2⟩:=Z6f he e;rw[e,Ya rfl];simp only[e,if_true];refine⟨_,ZEq p E,?_⟩;have hjl:=ZsS p.Steps 0;have:=ZRh b.Low b.High info (Ck p.Steps 0) (λi hi=>by have:=Zn7 hi;omega) E m1 m2 0 (Yc _);have te:=gK (lo:=b.Low) (hi:=b.High) l2 (Zn5 he).2 0 (Yc _);simp only[Yq]at te this;rw[te]at this;rcases tf (Mo b.Low b.High info)with e4|e4
   .simp_all [Z6e]
   .simp_all
def ZRi(lo hi:V2)(info:List Zf)(c:info.length<=1000)(h1:lo.length=hi.length)(hm:∀y∈info,0<=y.Mask/\y.Mask.toNat<lo.length):∀k,k<=info.length->
  nS ⟨lo,hi⟩ info k=some (I (tgt lo hi (info.drop k)),[]):=by
 refine down _ ?_ ?_
 .apply W1.1.2.2.2.1;rw[Ao,Yl];rfl
 .intro k hk ih;obtain⟨m1,m2⟩:=hm _ (Ye hk);obtain⟨o1,o2,o3⟩:=ZEx h1 m2;apply W1.1.2.2.2.1;rw[An,wS hk E];refine⟨E,_,Yh hk,?_⟩;rw[Yg hk,tgt]
  grind
def ZEz(q:Zc)(hq:AW q)(p:Zr)(b:Box)(h:B6 b):NA q p b=some (I (Xw q.Zi q.Atoms p.Steps b.Low b.High),[]):=by
 have q1:=G4 q p hq;have hf:=bD q.Zi q.Atoms;apply W1.1.2.2.2.2;unfold Xw
 cases he:ZG q.Zi q.Atoms p.Steps with
 |none =>
  simp_all
 |some info =>
  rw[he]at q1;obtain⟨l1,l2,l3,l4⟩:=Um he;refine⟨info,true,q1,?_⟩;rw[Ya rfl];refine⟨_,aJ b h.x,?_⟩;rcases tf (WR b.Low b.High)with e|e
  .rw[e,Yb Om];simp[VU,e]
  .rw[e,Ya rfl];refine⟨_,W5 q hq,?_⟩;rw[wA E E];by_cases c:(b.Low.length:Int)=ZU q.Zi q.Atoms+1
   .have e2:VU q.Zi q.Atoms b.Low b.High=true:=by simp[VU,e,c]
    obtain⟨m1,m2⟩:=Z6f he e2;rw[Ya c];simp only[e2,if_true];exact ZRi b.Low b.High info E m1 m2 0 (Yc _)
   .have e2:VU q.Zi q.Atoms b.Low b.High=false:=by simp[VU,e,c]
    simp_all
def DH(lo hi:V2)(x:Zu):Bool×V2×V2 :=
 if WR lo hi=true/\Am x.Mask 0 (lo.length-1)=true then
  match lo[x.Mask.toNat]?,hi[x.Mask.toNat]? with
  |some e,some f =>
   if WR (lo.set x.Mask.toNat (if e<x.Class then x.Class else e)) (if x.Exact=true then hi.set x.Mask.toNat (if x.Class<f then x.Class else f)else hi)=true then(true,lo.set x.Mask.toNat (if e<x.Class then x.Class else e),if x.Exact=true then hi.set x.Mask.toNat (if x.Class<f then x.Class else f)else hi)else(false,lo,hi)
  |_,_=>(false,lo,hi)
 else(false,lo,hi)
def aoR(r:Bool×V2×V2):XR:=(.tup [.agg [.own 0,.own 1],Bo r.1],bxR r.2.1 r.2.2)
def ZRj(b:Box)(h:B6 b)(x:Zu):ZpU b x=some (aoR (DH b.Low b.High x)):=by
 obtain⟨h1,h2⟩:=h;refine W0.1.1.1.2 _ _ _ ⟨_,_,Z2T b ⟨h1,h2⟩,_,Zq8 b (B6.x ⟨h1,h2⟩),?_⟩;unfold DH;rcases tf (WR b.Low b.High)with e|e
 .rw[e,Yb Om,Yb Z];rfl
 .rw[e,Ya rfl];refine⟨_,Uu _ _ _,?_⟩;rw[show w ((b.Low.length:Int)-1)=(b.Low.length:Int)-1 from ZF E E];rcases tf (Am x.Mask 0 (b.Low.length-1))with f|f
  .rw[f,Yb Om,Yb Z];rfl
  .rw[f,Ya rfl,Ya ⟨rfl,rfl⟩];simp only[Am,Yf,decide_eq_true_eq]at f;have hl:b.Low.length=b.High.length:=by
    simp only[WR,Yf]at e
    grind [ZsR]
   have g1:b.Low[x.Mask.toNat]?=some (b.Low[x.Mask.toNat]' E):=List.getElem?_eq_getElem E;have g2:b.High[x.Mask.toNat]?=some (b.High[x.Mask.toNat]' E):=List.getElem?_eq_getElem E;rw[g1,g2];refine⟨f.1,_,rfl,?_⟩;dsimp only;by_cases k:x.Exact=true
   .rw[Ya k];refine⟨_,rfl,_,Zq8 ⟨_,_⟩ (B6.x ⟨by simp only[Y7];omega,by simp only[Y7];omega⟩),?_⟩;simp only[Ya k];refine bC ?_ ?_
    .intro c;rw[Ya c];rfl
    .intro c;rw[Yb c];rfl
   .rw[Yb k];refine⟨_,Zq8 ⟨_,_⟩ (B6.x ⟨by simp only[Y7];omega,h2⟩),?_⟩;simp only[Yb k];refine bC ?_ ?_
    .intro c;rw[Ya c];rfl
    .intro c;rw[Yb c];rfl
def ZRk(b:Box)(h:B6 b)(x:Zu):Zqu b x=some (aoR (DH b.Low b.High x)):=by
 obtain⟨h1,h2⟩:=h;refine Us.2.2.1 _ _ _ ⟨_,_,Z2U b ⟨h1,h2⟩,_,aJ b (B6.x ⟨h1,h2⟩),?_⟩;unfold DH;rcases tf (WR b.Low b.High)with e|e
 .rw[e,Yb Om,Yb Z];rfl
 .rw[e,Ya rfl];refine⟨_,ZS _ _ _,?_⟩;rw[show w ((b.Low.length:Int)-1)=(b.Low.length:Int)-1 from ZF E E];rcases tf (Am x.Mask 0 (b.Low.length-1))with f|f
  .rw[f,Yb Om,Yb Z];rfl
  .rw[f,Ya rfl,Ya ⟨rfl,rfl⟩];simp only[Am,Yf,decide_eq_true_eq]at f;have hl:b.Low.length=b.High.length:=by
    simp only[WR,Yf]at e
    grind [ZsR]
   have g1:b.Low[x.Mask.toNat]?=some (b.Low[x.Mask.toNat]' E):=List.getElem?_eq_getElem E;have g2:b.High[x.Mask.toNat]?=some (b.High[x.Mask.toNat]' E):=List.getElem?_eq_getElem E;rw[g1,g2];refine⟨f.1,_,rfl,?_⟩;dsimp only;by_cases k:x.Exact=true
   .rw[Ya k];refine⟨_,rfl,_,aJ ⟨_,_⟩ (B6.x ⟨by simp only[Y7];omega,by simp only[Y7];omega⟩),?_⟩;simp only[Ya k];refine bC ?_ ?_
    .intro c;rw[Ya c];rfl
    .intro c;rw[Yb c];rfl
   .rw[Yb k];refine⟨_,aJ ⟨_,_⟩ (B6.x ⟨by simp only[Y7];omega,h2⟩),?_⟩;simp only[Yb k];refine bC ?_ ?_
    .intro c;rw[Ya c];rfl
    .intro c;rw[Yb c];rfl
def Z2V(lo hi:V2)(x:Zu):DH lo hi x=(false,lo,hi)\/∃lo' hi',DH lo hi x=(true,lo',hi')/\lo'.length=lo.length/\hi'.length=hi.length:=by
 unfold DH;by_cases c:WR lo hi=true/\Am x.Mask 0 (lo.length-1)=true
 .rw[Ya c]
  cases lo[x.Mask.toNat]? with
  |none=>exact .inl rfl
  |some e =>
   cases hi[x.Mask.toNat]? with
   |none=>exact .inl rfl
   |some f =>
    dsimp only;have hl:(if x.Exact=true then hi.set x.Mask.toNat (if x.Class<f then x.Class else f)else hi).length=hi.length:=by
     grind
    revert hl;generalize (if x.Exact=true then hi.set x.Mask.toNat (if x.Class<f then x.Class else f)else hi)=h';generalize (if e<x.Class then x.Class else e)=e';intro hl;by_cases k:WR (lo.set x.Mask.toNat e') h'=true
    .rw[Ya k];exact .inr ⟨_,_,rfl,by rw[Y7],hl⟩
    .rw[Yb k];exact .inl rfl
 .rw[Yb c];exact .inl rfl
def Bi:List Zu->V2->V2->Int->V2×V2×Int
 |[],lo,hi,n=>(lo,hi,n)
 |x::xs,lo,hi,n=>if(DH lo hi x).1=true then Bi xs (DH lo hi x).2.1 (DH lo hi x).2.2 (w (n+1))else Bi xs lo hi n
def Zrq:∀(l:List Zu) (lo hi:V2) (n:Int),(Bi l lo hi n).1.length=lo.length/\(Bi l lo hi n).2.1.length=hi.length
 |[],_,_,_=>⟨rfl,rfl⟩
 |x::xs,lo,hi,n=>by
  unfold Bi;rcases Z2V lo hi x with e|⟨lo',hi',e,e1,e2⟩
  .rw[e,Yb Z];exact Zrq xs lo hi n
  .rw[e,Ya rfl];have:=Zrq xs lo' hi' (w (n+1));exact⟨this.1.trans e1,this.2.trans e2⟩
def ZE0{l:List Zu}{i:Nat}(c:i<l.length)(lo hi:V2)(n:Int):Bi (l.drop i) lo hi n=if(DH lo hi l[i]).1=true then Bi (l.drop (i+1)) (DH lo hi l[i]).2.1 (DH lo hi l[i]).2.2 (w (n+1))else Bi (l.drop (i+1)) lo hi n:=by
 rw[Yg c,Bi]
def laR(r:V2×V2×Int):XR:=(.tup [.agg [.own 0,.own 1],I r.2.2],bxR r.1 r.2.1)
def ZRl(l:List Zu)(hl:l.length<=1000):∀i,i<=l.length->∀(lo hi:V2) (n:Int),B6 ⟨lo,hi⟩->YB lo hi n l l.length i=some (laR (Bi (l.drop i) lo hi n)):=by
 refine down _ ?_ ?_
 .intro lo hi n h;apply W0.1.1.2.1;rw[Ao,Yl];rfl
 .intro i hi0 ih lo hi n h;apply W0.1.1.2.1;rw[An,wS hi0 E];have hA:=ZRj ⟨lo,hi⟩ h l[i];rw[ZE0 hi0];refine⟨E,_,Yh hi0,?_⟩;rcases Z2V lo hi l[i]with e|⟨lo',hi',e,e1,e2⟩
  .rw[e,Yb Z];rw[e]at hA;refine⟨lo,hi,false,hA,?_⟩;rw[Yb Om];exact ih _ _ _ h
  .rw[e,Ya rfl];rw[e]at hA;refine⟨lo',hi',true,hA,?_⟩;rw[Ya rfl];exact ih _ _ _ ⟨by show lo'.length<=_;have:=h.1;simp only at this;omega,by show hi'.length<=_;have:=h.2;simp only at this;omega⟩
def ZRm(l:List Zu)(hl:l.length<=1000):∀i,i<=l.length->∀(lo hi:V2) (n:Int),B6 ⟨lo,hi⟩->YV lo hi l n i=some (laR (Bi (l.drop i) lo hi n)):=by
 refine down _ ?_ ?_
 .intro lo hi n h;apply Us.2.2.2.1;rw[Ao,Yl];rfl
 .intro i hi0 ih lo hi n h;apply Us.2.2.2.1;rw[An,wS hi0 E];have hA:=ZRk ⟨lo,hi⟩ h l[i];rw[ZE0 hi0];refine⟨E,_,Yh hi0,?_⟩;rcases Z2V lo hi l[i]with e|⟨lo',hi',e,e1,e2⟩
  .rw[e,Yb Z];rw[e]at hA;refine⟨lo,hi,false,hA,?_⟩;rw[Yb Om];exact ih _ _ _ h
  .rw[e,Ya rfl];rw[e]at hA;refine⟨lo',hi',true,hA,?_⟩;rw[Ya rfl];exact ih _ _ _ ⟨by show lo'.length<=_;have:=h.1;simp only at this;omega,by show hi'.length<=_;have:=h.2;simp only at this;omega⟩
def ZRn(b:Box)(h:B6 b)(l:List Zu)(hl:l.length<=1000):ZpW b l=some (laR (Bi l b.Low b.High 0)) :=
 W0.1.1.2.2 _ _ _ ⟨_,_,Z2T b h,ZRl l hl 0 (Yc _) _ _ _ h⟩
def ZRo(b:Box)(h:B6 b)(l:List Zu)(hl:l.length<=1000):oL b l=some (laR (Bi l b.Low b.High 0)) :=
 Us.2.2.2.2 _ _ _ ⟨_,_,Z2U b h,ZRm l hl 0 (Yc _) _ _ _ h⟩
def Ba(x:Option (Ze×(Bool×Int×Int×List Zu))):Bool×Int×List Zu:=((AB x).Done,(AB x).Cost,(AB x).Seen)
theorem ZE1(m:Zt)(l:List Ze)(cd:Int):∀(xs:List Zn) (ys:List Zf) (i:Nat) (c st:Int) (cc:List Zu),(A6 m l cd xs ys i c st cc).2.2.2.length<=cc.length+xs.length
 |[],_,_,_,_,_=>by unfold A6;exact Yi _
 |x::xs,[],_,_,_,_=>by unfold A6;exact Nat.le_add_right _ _
 |x::xs,y::ys,i,c,st,cc=>by
  unfold A6;split
  .grind
  .have:=ZE1 m l cd xs ys (i+1) (w (c+CN m l x y i)) (w (st+1)) (if 3<=x.Kind then cc++[Hh l y i]else cc)
   grind
theorem ZRp{m:Zt}{d:Zj}{q:Zc}{p:Zr}{Ay:Int}{s:Ze}{r:Bool×Int×Int×List Zu}(h:Ld m d q p Ay=some (s,r)):VS s/\r.2.2.2.length<=14:=by
 unfold Ld at h
 cases e:ZG q.Zi q.Atoms p.Steps with
 |none=>rw[e]at h;cases h
 |some info =>
  rw[e]at h;dsimp only at h;split at h
  .rename_i hq;cases h;have P:PI q p info:=⟨e⟩;have hg:=rT hq.1 P;have R:Kw q p info (Xz d q p.Steps info):=⟨P,hg.1,hg.2⟩;have hv:=P.val;refine⟨R.last.2,?_⟩
   grind [ZE1,List.length_nil]
  .cases h
def ZE2{m:Zt}{d:Zj}{q:Zc}{p:Zr}{mask Ay:Int}{s:Ze}{r:Bool×Int×Int×List Zu}(h:AQ m d q p mask Ay=some (s,r)):VS s/\r.2.2.2.length<=14:=by
 unfold AQ at h
 grind [ZRp]
noncomputable def WK(m:Zt)(d:Zj)(q:Zc)(p:Zr)(c:Int):Nat->V2->V2->Int->V2×V2×Int
 |0,lo,hi,t=>(lo,hi,t)
 |k+1,lo,hi,t =>
  if Xw q.Zi q.Atoms p.Steps lo hi=0 then(lo,hi,t)
  else if(Ba (AQ m d q p (Xw q.Zi q.Atoms p.Steps lo hi) c)).1=true then
   WK m d q p c k (Bi (Ba (AQ m d q p (Xw q.Zi q.Atoms p.Steps lo hi) c)).2.2 lo hi 0).1 (Bi (Ba (AQ m d q p (Xw q.Zi q.Atoms p.Steps lo hi) c)).2.2 lo hi 0).2.1 (w (t+(Ba (AQ m d q p (Xw q.Zi q.Atoms p.Steps lo hi) c)).2.1))
  else((Bi (Ba (AQ m d q p (Xw q.Zi q.Atoms p.Steps lo hi) c)).2.2 lo hi 0).1,(Bi (Ba (AQ m d q p (Xw q.Zi q.Atoms p.Steps lo hi) c)).2.2 lo hi 0).2.1,w (t+(Ba (AQ m d q p (Xw q.Zi q.Atoms p.Steps lo hi) c)).2.1))
def Li(ok:Bool)(r:V2×V2×Int):XR:=(.tup [.agg ((⟨r.1,r.2.1⟩:Box).c.map .t),I r.2.2,Bo ok],[])
def ZE3(m:Zt)(d:Zj)(q:Zc)(p:Zr)(mask Ay:Int):(Ba (AQ m d q p mask Ay)).2.2.length<=1000:=by
 cases e:AQ m d q p mask Ay with
 |none=>simp[Ba,AB]
 |some v =>
  obtain⟨s,f,c,st,o⟩:=v;have:=(ZE2 e).2;cases f<;>simp only[Ba,AB]at*<;> omega
def B6.la{lo hi:V2}(h:B6 ⟨lo,hi⟩)(l:List Zu)(n:Int):B6 ⟨(Bi l lo hi n).1,(Bi l lo hi n).2.1⟩:=by
 have:=Zrq l lo hi n;exact⟨by have:=h.1;simp only at *;omega,by have:=h.2;simp only at *;omega⟩
section
variable{m:Zt}(hm:Ci m){d:Zj}(hd:BA d){q:Zc}(hq:AW q)(p:Zr)(Ay:Int)
include hm hd hq
theorem ZE4:∀k:Nat,k<=4->∀(lo hi:V2) (t:Int),B6 ⟨lo,hi⟩->YC m d q p lo hi Ay t (4-(k:Int))=some (Li true (WK m d q p Ay k lo hi t))
 |0,_,lo,hi,t,h=>by
  apply W0.1.2.1.1
  rw[Ao];rfl
 |k+1,hk,lo,hi,t,h=>by
  apply W0.1.2.1.1;rw[An,show w (4-((k+1:Nat):Int)+1)=4-(k:Int) by rw[show 4-((k+1:Nat):Int)+1=4-(k:Int) by omega];exact ZF E E];refine⟨_,ZEy q hq p ⟨lo,hi⟩ h,?_⟩;rw[WK];generalize Xw q.Zi q.Atoms p.Steps lo hi=z;by_cases c:z=0
  .rw[Ya c,Ya c];rfl
  rw[Yb c,Yb c];have hR:=ZEu hm hd hq p z Ay;have hl:=ZE3 m d q p z Ay;have A1:=ZRn ⟨lo,hi⟩ h (Ba (AQ m d q p z Ay)).2.2 hl;have hZ:=h.la (Ba (AQ m d q p z Ay)).2.2 0;have ih:=ZE4 k E _ _ (w (t+(Ba (AQ m d q p z Ay)).2.1)) hZ;have fin:if(Ba (AQ m d q p z Ay)).1=true then YC m d q p (Bi (Ba (AQ m d q p z Ay)).2.2 lo hi 0).1 (Bi (Ba (AQ m d q p z Ay)).2.2 lo hi 0).2.1 Ay (w (t+(Ba (AQ m d q p z Ay)).2.1)) (4-(k:Int))=some (Li true (if(Ba (AQ m d q p z Ay)).1=true then WK m d q p Ay k (Bi (Ba (AQ m d q p z Ay)).2.2 lo hi 0).1 (Bi (Ba (AQ m d q p z Ay)).2.2 lo hi 0).2.1 (w (t+(Ba (AQ m d q p z Ay)).2.1))else((Bi (Ba (AQ m d q p z Ay)).2.2 lo hi 0).1,(Bi (Ba (AQ m d q p z Ay)).2.2 lo hi 0).2.1,w (t+(Ba (AQ m d q p z Ay)).2.1))))
    else some (.tup [.agg ((⟨(Bi (Ba (AQ m d q p z Ay)).2.2 lo hi 0).1,(Bi (Ba (AQ m d q p z Ay)).2.2 lo hi 0).2.1⟩:Box).c.map .t),I (w (t+(Ba (AQ m d q p z Ay)).2.1)),Bo true],[])=some (Li true (if(Ba (AQ m d q p z Ay)).1=true then WK m d q p Ay k (Bi (Ba (AQ m d q p z Ay)).2.2 lo hi 0).1 (Bi (Ba (AQ m d q p z Ay)).2.2 lo hi 0).2.1 (w (t+(Ba (AQ m d q p z Ay)).2.1))else((Bi (Ba (AQ m d q p z Ay)).2.2 lo hi 0).1,(Bi (Ba (AQ m d q p z Ay)).2.2 lo hi 0).2.1,w (t+(Ba (AQ m d q p z Ay)).2.1)))):=by
   refine bC (λe=>?_) (λe=>?_)
   .rw[Ya e];exact ih
   .rw[Yb e];rfl
  exact⟨_,_,hR,_,_,_,A1,fin⟩
theorem ZE5:∀k:Nat,k<=4->∀(lo hi:V2) (t:Int),B6 ⟨lo,hi⟩->YW m d q p lo hi Ay t (4-(k:Int))=some (Li true (WK m d q p Ay k lo hi t))
 |0,_,lo,hi,t,h=>by
  apply XM.1.1.1.1
  rw[Ao];rfl
 |k+1,hk,lo,hi,t,h=>by
  apply XM.1.1.1.1;rw[An,show w (4-((k+1:Nat):Int)+1)=4-(k:Int) by rw[show 4-((k+1:Nat):Int)+1=4-(k:Int) by omega];exact ZF E E];refine⟨_,ZEz q hq p ⟨lo,hi⟩ h,?_⟩;rw[WK];generalize Xw q.Zi q.Atoms p.Steps lo hi=z;by_cases c:z=0
  .rw[Ya c,Ya c];rfl
  rw[Yb c,Yb c];have hR:=ZEv hm hd hq p z Ay;have hl:=ZE3 m d q p z Ay;have A1:=ZRo ⟨lo,hi⟩ h (Ba (AQ m d q p z Ay)).2.2 hl;have hZ:=h.la (Ba (AQ m d q p z Ay)).2.2 0;have ih:=ZE5 k E _ _ (w (t+(Ba (AQ m d q p z Ay)).2.1)) hZ;have fin:if(Ba (AQ m d q p z Ay)).1=true then YW m d q p (Bi (Ba (AQ m d q p z Ay)).2.2 lo hi 0).1 (Bi (Ba (AQ m d q p z Ay)).2.2 lo hi 0).2.1 Ay (w (t+(Ba (AQ m d q p z Ay)).2.1)) (4-(k:Int))=some (Li true (if(Ba (AQ m d q p z Ay)).1=true then WK m d q p Ay k (Bi (Ba (AQ m d q p z Ay)).2.2 lo hi 0).1 (Bi (Ba (AQ m d q p z Ay)).2.2 lo hi 0).2.1 (w (t+(Ba (AQ m d q p z Ay)).2.1))else((Bi (Ba (AQ m d q p z Ay)).2.2 lo hi 0).1,(Bi (Ba (AQ m d q p z Ay)).2.2 lo hi 0).2.1,w (t+(Ba (AQ m d q p z Ay)).2.1))))
    else some (.tup [.agg ((⟨(Bi (Ba (AQ m d q p z Ay)).2.2 lo hi 0).1,(Bi (Ba (AQ m d q p z Ay)).2.2 lo hi 0).2.1⟩:Box).c.map .t),I (w (t+(Ba (AQ m d q p z Ay)).2.1)),Bo true],[])=some (Li true (if(Ba (AQ m d q p z Ay)).1=true then WK m d q p Ay k (Bi (Ba (AQ m d q p z Ay)).2.2 lo hi 0).1 (Bi (Ba (AQ m d q p z Ay)).2.2 lo hi 0).2.1 (w (t+(Ba (AQ m d q p z Ay)).2.1))else((Bi (Ba (AQ m d q p z Ay)).2.2 lo hi 0).1,(Bi (Ba (AQ m d q p z Ay)).2.2 lo hi 0).2.1,w (t+(Ba (AQ m d q p z Ay)).2.1)))):=by
   refine bC (λe=>?_) (λe=>?_)
   .rw[Ya e];exact ih
   .rw[Yb e];rfl
  exact⟨_,_,hR,_,_,_,A1,fin⟩
end
def ZRq(q:Zc)(hq:AW q)(p:Zr):mL q p=some (Bo (ZG q.Zi q.Atoms p.Steps).isSome,[]):=by
 have q1:=aK q p hq;apply WN.1.1.2.1
 grind
def ZRr(q:Zc)(hq:AW q)(p:Zr):nN q p=some (Bo (ZG q.Zi q.Atoms p.Steps).isSome,[]):=by
 have q1:=G4 q p hq;apply W1.1.1.1.1
 cases he:ZG q.Zi q.Atoms p.Steps with
 |none=>rw[he]at q1;exact⟨[],false,q1,rfl⟩
 |some info=>rw[he]at q1;exact⟨_,true,q1,rfl⟩
open Classical in
noncomputable def Qq(m:Zt)(d:Zj)(q:Zc)(p:Zr)(b:Box)(c:Int):Bool×(V2×V2×Int) :=
 if VJ m/\ZN d q=true/\(ZG q.Zi q.Atoms p.Steps).isSome=true/\VU q.Zi q.Atoms b.Low b.High=true/\Am c 0 1000000000000=true then(true,WK m d q p c 4 b.Low b.High 0)else(false,b.Low,b.High,0)
def ZRs{m:Zt}(hm:Ci m){d:Zj}(hd:BA d){q:Zc}(hq:AW q)(p:Zr)(b:Box)(hb:B6 b)(c:Int):nJ m d q p b c=some (Li (Qq m d q p b c).1 (Qq m d q p b c).2):=by
 refine W0.1.2.1.2 _ _ _ _ _ _ _ ⟨_,_,Z2T b hb,_,ZC9 m hm,?_⟩;unfold Qq;by_cases a:VJ m
 .rw[Ya (by simpa using a)];refine⟨_,ZqF d hd q hq,?_⟩;rcases tf (ZN d q)with f|f
  .rw[f,Yb Om,Yb Z];rfl
  rw[f,Ya rfl];refine⟨_,ZRq q hq p,?_⟩;rcases tf (ZG q.Zi q.Atoms p.Steps).isSome with g|g
  .rw[g,Yb Om,Yb Z];rfl
  rw[g,Ya rfl];refine⟨_,ZEw q hq b hb,?_⟩;rcases tf (VU q.Zi q.Atoms b.Low b.High)with h|h
  .rw[h,Yb Om,Yb Z];rfl
  rw[h,Ya rfl];refine⟨_,Uu _ _ _,?_⟩;rcases tf (Am c 0 1000000000000)with k|k
  .rw[k,Yb Om,Yb Z];rfl
  rw[k,Ya rfl,Ya ⟨a,rfl,rfl,rfl,rfl⟩];exact ZE4 hm hd hq p c 4 E b.Low b.High 0 hb
 .rw[Yb (by simpa using a),Yb (λh=>a h.1)];rfl
def ZRt{m:Zt}(hm:Ci m){d:Zj}(hd:BA d){q:Zc}(hq:AW q)(p:Zr)(b:Box)(hb:B6 b)(cc:Int):oM m d q p b cc=some (Li (Qq m d q p b cc).1 (Qq m d q p b cc).2):=by
 have hf:=bD q.Zi q.Atoms;have hC:=Z2U b hb;refine XM.1.1.1.2 _ _ _ _ _ _ _ ⟨_,Z2k m hm,?_⟩;unfold Qq;by_cases a:VJ m
 .rw[Ya (by simpa using a)];refine⟨_,IY d hd q hq,?_⟩;rcases tf (ZN d q)with f|f
  .rw[f,Yb Om,Yb Z];exact⟨_,_,hC,rfl⟩
  rw[f,Ya rfl];refine⟨_,ZRr q hq p,?_⟩;rcases tf (ZG q.Zi q.Atoms p.Steps).isSome with g|g
  .rw[g,Yb Om,Yb Z];exact⟨_,_,hC,rfl⟩
  rw[g,Ya rfl];refine⟨_,aJ b hb.x,?_⟩;rcases tf (WR b.Low b.High)with h|h
  .rw[h,Yb Om,Yb (by simp[VU,h])];exact⟨_,_,hC,rfl⟩
  rw[h,Ya rfl];refine⟨_,W5 q hq,?_⟩;rw[wA E E];by_cases c:(b.Low.length:Int)=ZU q.Zi q.Atoms+1
  .have e2:VU q.Zi q.Atoms b.Low b.High=true:=by simp[VU,h,c]
   rw[Ya c];refine⟨_,ZS _ _ _,?_⟩;rcases tf (Am cc 0 1000000000000)with k|k
   .rw[k,Yb Om,Yb Z];exact⟨_,_,hC,rfl⟩
   rw[k,Ya rfl,Ya ⟨a,rfl,rfl,e2,rfl⟩];exact⟨_,_,hC,ZE5 hm hd hq p cc 4 E b.Low b.High 0 hb⟩
  .rw[Yb c,Yb (by simp[VU,h,c])];exact⟨_,_,hC,rfl⟩
 .rw[Yb (by simpa using a),Yb (λh=>a h.1)];exact⟨_,_,hC,rfl⟩
def ZE6(m:Zt)(d:Zj)(q:Zc)(p:Zr)(c:Int):∀(k:Nat) (lo hi:V2) (t:Int),(WK m d q p c k lo hi t).1.length=lo.length/\(WK m d q p c k lo hi t).2.1.length=hi.length
 |0,_,_,_=>⟨rfl,rfl⟩
 |k+1,lo,hi,t=>by
  unfold WK;split
  .exact⟨rfl,rfl⟩
  .have h:=Zrq (Ba (AQ m d q p (Xw q.Zi q.Atoms p.Steps lo hi) c)).2.2 lo hi 0;split
   .have:=ZE6 m d q p c k (Bi (Ba (AQ m d q p (Xw q.Zi q.Atoms p.Steps lo hi) c)).2.2 lo hi 0).1 (Bi (Ba (AQ m d q p (Xw q.Zi q.Atoms p.Steps lo hi) c)).2.2 lo hi 0).2.1 (w (t+(Ba (AQ m d q p (Xw q.Zi q.Atoms p.Steps lo hi) c)).2.1));exact⟨this.1.trans h.1,this.2.trans h.2⟩
   .exact h
def ZRu(m:Zt)(d:Zj)(q:Zc)(p:Zr)(b:Box)(Ay:Int):(Qq m d q p b Ay).2.1.length=b.Low.length/\(Qq m d q p b Ay).2.2.1.length=b.High.length:=by
 unfold Qq;split
 .exact ZE6 m d q p Ay 4 b.Low b.High 0
 .exact⟨rfl,rfl⟩
def X1(row cols:V2):V2:=cols.map λc=>row.getD c.toNat 0
def Z2W(d:Zj)(q:Zc)(m:Int):XS:=IZ d m q.Atoms 0 [List.replicate q.Zi.toNat (-1)]
def Zrr(d:Zj)(q:Zc)(m:Int):XS:=(Z2W d q m).map λx=>X1 x (ZX m q.Atoms q.Zi.toNat)
def Z2X(d:Zj)(m:Int)(n:Nat):∀(ts:List Zd) (i:Nat) (l:XS),(∀a∈ts,WT d a=true)->(∀x∈l,x.length=n)->(∀x∈IZ d m ts i l,x.length=n)/\(IZ d m ts i l).length<=8 ^ ts.length*l.length
 |[],_,l,_,h=>⟨h,by simp[IZ]⟩
 |a::ts,i,l,ha,h=>by
  rw[IZ];have hp:=Nat.pow_succ 8 ts.length;by_cases e:Ai (As m i) 1=0
  .rw[Ya e];obtain⟨h1,h2⟩:=Z2X d m n ts (i+1) l (λb hb=>ha b (by simp[hb])) h;refine⟨h1,Yz h2 (DI _ ?_)⟩;rw[Ys];omega
  .rw[Yb e]
   obtain⟨h1,h2⟩:=Z2X d m n ts (i+1) (l.flatMap (G8 a.Vars (Ux d a))) (λb hb=>ha b (by simp[hb])) (by
    intro y hy;obtain⟨x,hx,hy⟩:=DV.1 hy
    rw[Z2m hy];exact h x hx)
   refine⟨h1,Yz h2 ?_⟩;have h8:(Ux d a).length<=8:=by
    have:=ha a Z;unfold Ux;unfold WT at this
    cases e3:ZZ d a.Name with
    |none=>simp
    |some t =>
     obtain⟨hv,ht,_⟩:=aT e3;exact Qn (QJ hv ht)
   have:=qK (G8 a.Vars (Ux d a)) 8 (λx=>Yz (ZP6 _ _ _) h8) l;rw[Ys,hp,Nat.mul_assoc];exact Nat.mul_le_mul_left _ this
def JC(cc c row r:V2):Bool:=(cc.zip r).all λp=>(c.zip row).all λz=>decide (z.1≠p.1) || decide (z.2=p.2)
def ZRv(t:Zl)(a:Zd)(c row r:V2)(i k:Nat)(R:XR)(hi:t.Rows[i]?=some r)(hk:k<a.Vars.length)(cc:k<r.length)(cd:row.length<=c.length)(h8:row.length<=1000):∀j,j<=row.length->∀b:Bool,
  YZ t a c row i (b && ((c.zip row).drop j).all λz=>decide (z.1≠a.Vars[k]) || decide (z.2=r[k])) (w ((k:Int)+1))=some R->
  oU t a c row i b k j=some R:=by
 have hz:(c.zip row).length=row.length:=by rw[List.length_zip];omega
 refine down _ ?_ ?_
 .simp_all [XM.2.2.1.1,FK]
 .intro j hj ih b h;apply XM.2.2.1.1;rw[An,wS hj E];rw[Yg (l:=c.zip row) (i:=j) E,Y6,List.getElem_zip]at h;rcases tf b with e|e
  .simp_all
  .subst e;rw[Ya rfl];have hjv:j<c.length:=by omega
   refine⟨E,_,gE hjv,E,_,gE hk,?_⟩;by_cases e2:c[j]=a.Vars[k]
   .rw[Ya e2];refine⟨_,gE hj,E,_,by rw[Yj];exact hi,_,gE cc,ih _ ?_⟩;simpa[e2]using h
   .simp_all
def ZRw(t:Zl)(a:Zd)(c row r:V2)(i:Nat)(R:XR)(hi:t.Rows[i]?=some r)(hr:r.length=a.Vars.length)(hl:Le a.Vars)(cc:row.length<=c.length)(h8:row.length<=1000):∀k,k<=a.Vars.length->∀b:Bool,
  (if(b && ((a.Vars.zip r).drop k).all λp=>(c.zip row).all λz=>decide (z.1≠p.1) || decide (z.2=p.2))=true then some (Bo true,[])=some R else YY t a c row (w ((i:Int)+1))=some R)->
  YZ t a c row i b k=some R:=by
 have hz:(a.Vars.zip r).length=a.Vars.length:=by rw[List.length_zip];omega
 refine down _ ?_ ?_
 .simp_all [XM.2.1.2.2,FK]
 .intro k hk ih b h;apply XM.2.1.2.2;rw[An];have hkr:k<r.length:=by omega
  refine ZRv t a c row r i k R hi hk hkr cc h8 0 (Yc _) b ?_
  grind [wS,List.drop_eq_getElem_cons,Bool.and_assoc]
def ZRx(t:Zl)(a:Zd)(c row:V2)(hT:t.Rows.length<=8)(hr:∀r∈t.Rows,r.length=a.Vars.length)(hl:Le a.Vars)(cc:row.length<=c.length)(h8:row.length<=1000):∀i,i<=t.Rows.length->
  YY t a c row i=some (Bo ((t.Rows.drop i).any (JC a.Vars c row)),[]):=by
 refine down _ ?_ ?_
 .simp[XM.2.1.2.1]
 .intro i hi ih;apply XM.2.1.2.1;rw[An];refine ZRw t a c row t.Rows[i] i _ (Yh hi) (hr _ (Ye hi)) hl cc h8 0 (Yc _) true ?_;rw[wS hi E,Yg hi,HB,Yq,Yk];change if JC a.Vars c row t.Rows[i]=true then _ else _
  simp_all
def Z2Y(t:Zl)(a:Zd)(c row:V2)(hT:t.Rows.length<=8)(hr:∀r∈t.Rows,r.length=a.Vars.length)(hl:Le a.Vars)(cc:row.length<=c.length)(h8:row.length<=1000) :
  Zqz t a c row=some (Bo (t.Rows.any (JC a.Vars c row)),[]):=XM.2.2.1.2 _ _ _ _ _ (by simpa using ZRx t a c row hT hr hl cc h8 0 (Yc _))
def CW(ps:List (Zl×Zd))(c row:V2):Bool:=ps.all λp=>p.1.Rows.any (JC p.2.Vars c row)
def CO(ok:V2->Bool):Nat->V2->XS
 |0,row=>if ok row=true then[row]else[]
 |n+1,row=>if ok row=true then(List.range' 0 10).flatMap λv:Nat=>CO ok n (row++[(v:Int)])else[]
def ZE7(ok:V2->Bool):∀n row,(CO ok n row).length<=10 ^ n
 |0,row=>by unfold CO;split<;>simp
 |n+1,row=>by
  unfold CO;split
  .have:=qK (λv:Nat=>CO ok n (row++[(v:Int)])) (10 ^ n) (λv=>ZE7 ok n _) (List.range' 0 10)
   grind
  .simp
def Z2Z(p:Zl×Zd):Prop:=p.1.Rows.length<=8/\(∀r∈p.1.Rows,r.length=p.2.Vars.length)/\Le p.2.Vars
abbrev Zrs(ps:List (Zl×Zd))(fr:Bool)(vars row:V2)(b:Bool)(out:XS):Rs :=
 some (.own 4,[.arr 112 3 true ((ps.map Prod.fst).map Zl.c),.arr 110 2 fr ((ps.map Prod.snd).map Zd.c),.arr 3 1 true (vars.map ic),.arr 3 1 true (row.map ic),.arr 38 1 b (out.map Ae)])
def OT(ps:List (Zl×Zd))(fr:Bool)(vars:V2)(c:∀p∈ps,Z2Z p)(cc:ps.length<=8)(hv:vars.length<=4):∀n row,row.length+n=vars.length->
  ∃b,aA (ps.map Prod.fst) fr (ps.map Prod.snd) vars row=Zrs ps fr vars row b (CO (CW ps vars) n row):=by
 intro n
 induction n with
 |zero =>
  intro row hn
  have:∀i,i<=ps.length->aB (ps.map Prod.fst) fr (ps.map Prod.snd) vars row i=Zrs ps fr vars row true (if CW (ps.drop i) vars row=true then[row]else[]):=by
   refine down _ ?_ ?_
   .apply XM.2.2.2.1;rw[Yb Z,An,Yl];exact⟨E,by simp[CW]⟩
   .intro i hi ih;have h1:i<(ps.map Prod.fst).length:=by simpa using hi
    have h2:i<(ps.map Prod.snd).length:=by simpa using hi
    obtain⟨a1,a2,a3⟩:=c _ (Ye hi);apply XM.2.2.2.1;rw[An,wS hi E];refine⟨E,_,gE h1,_,gE h2,_,Z2Y _ _ _ _ (by simpa using a1) (by simpa using a2) (by simpa using a3) E E,?_⟩;rw[Yg hi,CW,Y6];simp only[List.getElem_map];rcases tf (ps[i].1.Rows.any (JC ps[i].2.Vars vars row))with e|e
    .simp_all
    .rw[e,Ya rfl,Yk];exact ih
  exact⟨true,XM.2.2.2.2.2 _ _ _ _ _ _ (by have t:=this 0 (Yc _);rw[Yq]at t;rw[CO];exact t)⟩
 |succ n IH =>
  intro row hn;have hloop:∀v,v<=10->∀fr1 (out:XS),out.length<=10 ^ n*v->∃b,aC (ps.map Prod.fst) fr (ps.map Prod.snd) vars row fr1 out v=Zrs ps fr vars row b (out++(List.range' v (10-v)).flatMap λu:Nat=>CO (CW ps vars) n (row++[(u:Int)])):=by
   have h4:10 ^ n<=10000:=Yz (Nat.pow_le_pow_right E (show n<=4 by omega)) Om;refine down _ ?_ ?_
   .simp[XM.2.2.2.2.1]
   .intro v hv9 ih fr1 out ho;obtain⟨b1,hb1⟩:=IH (row++[(v:Int)]) (by simp;omega);have hlen:=ZE7 (CW ps vars) n (row++[(v:Int)]);have hm:10 ^ n*(v+1)=10 ^ n*v+10 ^ n:=Ydl _ _;have hm2:10 ^ n*v<=10000*10:=LF h4 E;obtain⟨b2,hb2⟩:=ih (fr1 && flat ((CO (CW ps vars) n (row++[(v:Int)])).map Ae)) (out++CO (CW ps vars) n (row++[(v:Int)])) (by rw[Yo];omega);refine⟨b2,XM.2.2.2.2.1 _ _ _ _ _ _ _ _ _ ?_⟩;rw[An];refine⟨E,E,.inr ⟨_,_,_,_,_,_,_,hb1,E,?_⟩⟩;rw[wS (n:=10) hv9 E,show 10-v=(10-(v+1))+1 by omega,Fs,Es,<-D6];exact hb2
  have:∀i,i<=ps.length->∃b,aB (ps.map Prod.fst) fr (ps.map Prod.snd) vars row i=Zrs ps fr vars row b (if CW (ps.drop i) vars row=true then(List.range' 0 10).flatMap λu:Nat=>CO (CW ps vars) n (row++[(u:Int)])else[]):=by
   refine down _ ?_ ?_
   .obtain⟨b,hb⟩:=hloop 0 E true [] Z;refine⟨b,XM.2.2.2.1 _ _ _ _ _ _ _ ?_⟩;rw[Yb Z,Ao,Yl];rw[show CW [] vars row=true from rfl,Ya rfl];exact hb
   .intro i hi ih;have h1:i<(ps.map Prod.fst).length:=by simpa using hi
    have h2:i<(ps.map Prod.snd).length:=by simpa using hi
    obtain⟨a1,a2,a3⟩:=c _ (Ye hi);obtain⟨b,ih⟩:=ih;rw[Yg hi,CW,Y6];rcases tf (ps[i].1.Rows.any (JC ps[i].2.Vars vars row))with e|e
    .refine⟨true,XM.2.2.2.1 _ _ _ _ _ _ _ ?_⟩;rw[An,wS hi E];refine⟨E,_,gE h1,_,gE h2,_,Z2Y _ _ _ _ (by simpa using a1) (by simpa using a2) (by simpa using a3) E E,?_⟩
     simp_all
    .refine⟨b,XM.2.2.2.1 _ _ _ _ _ _ _ ?_⟩;rw[An,wS hi E];refine⟨E,_,gE h1,_,gE h2,_,Z2Y _ _ _ _ (by simpa using a1) (by simpa using a2) (by simpa using a3) E E,?_⟩;simp only[List.getElem_map];rw[e,Ya rfl,Yk];exact ih
  obtain⟨b,t⟩:=this 0 (Yc _);rw[Yq]at t;exact⟨b,XM.2.2.2.2.2 _ _ _ _ _ _ (by rw[CO];exact t)⟩
def WP(d:Zj)(m:Int):List Zd->Nat->List (Zl×Zd)
 |[],_=>[]
 |a::ts,i=>match ZZ d a.Name with
  |none=>WP d m ts (i+1)
  |some t=>if Ai (As m i) 1=1 then(t,a)::WP d m ts (i+1)else WP d m ts (i+1)
def sG{d:Zj}{a:Zd}{t:Zl}(hl:Le a.Vars)(hf:WT d a=true)(h:ZZ d a.Name=some t):Z2Z (t,a):=by
 obtain⟨hv,ht,_⟩:=aT h;have hT:=QJ hv ht;refine⟨Qn hT,?_,hl⟩;intro row hrow;unfold ZO at hT;simp only[Yf]at hT;have:=Ym.1 hT.2.1 row hrow;unfold B3 at this;unfold WT at hf
 grind
def Abh(d:Zj)(hd:BA d)(q:Zc)(hq:AW q)(hv:Zx q.Zi q.Atoms=true)(hf:∀a∈q.Atoms,WT d a=true)(m:Int)(hm:MQ q.Atoms m)(ys:XS):∀i,i<=q.Atoms.length->∀(ps:List (Zl×Zd)) (fr:Bool),(∀p∈ps,Z2Z p)->ps.length<=i->
  CO (CW (ps++WP d m (q.Atoms.drop i) i) (ZI q m)) (ZI q m).length []=ys->
  ∃b,NQ d q (ps.map Prod.fst) fr (ps.map Prod.snd) m i=some (.tup [.agg [.own 0,.own 1],Bo true],[.arr 3 1 true ((ZI q m).map ic),.arr 38 1 b (ys.map Ae)]):=by
 have h4:=XF hv;have hv4:=OS q hv m;refine down _ ?_ ?_
 .intro ps fr hps hpl he;rw[Yl,WP,CX]at he;obtain⟨b,hb⟩:=OT ps fr (ZI q m) hps E hv4 (ZI q m).length [] Z;refine⟨b,Ut.1.1.1 _ _ _ _ _ _ _ _ ?_⟩;rw[Ao];refine⟨_,sC q hq hv m hm,.inr ⟨_,_,_,_,_,_,_,hb,?_⟩⟩;rw[he]
 .intro i hi ih ps fr hps hpl he;have hl:=hq.2 _ (Ye hi);have hf1:=hf _ (Ye hi);rw[Yg hi,WP]at he
  cases e3:ZZ d q.Atoms[i].Name with
  |none=>unfold WT at hf1;rw[e3]at hf1;simp at hf1
  |some t =>
   rw[e3]at he;simp only at he;by_cases e:Ai (As m i) 1=1
   .rw[Ya e]at he
    obtain⟨b,hb⟩:=ih (ps++[(t,q.Atoms[i])]) false (by
     intro p hp;rcases Yp.1 hp with e1|e1
     .exact hps p e1
     .rw[List.mem_singleton.1 e1];exact sG hl hf1 e3) (by simp;omega) (by rw[D6];exact he)
    refine⟨b,Ut.1.1.1 _ _ _ _ _ _ _ _ ?_⟩;rw[An,wS hi hq.1];refine⟨E,?_⟩;rw[Ya e];refine⟨E,_,gE hi,?_⟩;have hk:=G6 d hd q.Atoms[i].Name;rw[e3]at hk;simp only[QK]at hk;rw[Y5,Y5]at hb;by_cases e4:t.Rows=[]
    .rw[Ya e4]at hk;refine .inl ⟨_,_,_,hk,by simp;omega,by simp;omega,?_⟩;rw[<-e4];exact hb
    .rw[Yb e4]at hk;exact .inr ⟨_,_,_,hk,by simp;omega,by simp;omega,hb⟩
   .rw[Yb e]at he;obtain⟨b,hb⟩:=ih ps fr hps E he;refine⟨b,Ut.1.1.1 _ _ _ _ _ _ _ _ ?_⟩;rw[An,wS hi hq.1];refine⟨E,?_⟩;rw[Yb e];exact hb
def bE(d:Zj)(q:Zc)(m:Int):XS:=CO (CW (WP d m q.Atoms 0) (ZI q m)) (ZI q m).length []
def ZRy(d:Zj)(hd:BA d)(q:Zc)(hq:AW q)(hf:ZN d q=true)(m:Int)(h1:1<=m)(hm:MQ q.Atoms m)(hF:m<=ZU q.Zi q.Atoms):Zq1 d q m=some (I ((bE d q m).length:Int),[]):=by
 have hf':=hf;unfold ZN at hf';simp only[Yf,Ym]at hf';obtain⟨b,hb⟩:=Abh d hd q hq hf'.1 hf'.2 m hm (bE d q m) 0 (Yc _) [] true Z Z rfl
 have:aD d q m=some (.tup [.agg [.own 0,.own 1],Bo true],[.arr 3 1 true ((ZI q m).map ic),.arr 38 1 b ((bE d q m).map Ae)]):=by
  refine Ut.1.1.2 _ _ _ _ ⟨_,IY d hd q hq,?_⟩;rw[hf,Ya rfl];refine⟨_,W5 q hq,_,ZS _ _ _,?_⟩;rw[show Am m 1 (ZU q.Zi q.Atoms)=true by simp[Am];omega,Ya rfl];exact hb
 grind [Ut.1.2.1]
abbrev gi(x:V2)(v:Int):Int:=x.getD v.toNat 0
def OU{x:V2}{v u y:Int}(hv:0<=v/\v<x.length)(hu:0<=u):gi (x.set v.toNat y) u=if u=v then y else gi x u:=by
 grind
def ZE8(vs ys x:V2):Prop:=∀p∈vs.zip ys,gi x p.1=p.2
def Z3a:∀(vs ys:V2) (ok:Bool) (x x':V2),ys.length=vs.length->(∀v∈vs,0<=v/\v<x.length)->(∀y∈ys,y≠-1)->x'.length=x.length->
  ((G7 vs ys ok x=(true,x'))↔ok=true/\(∀u:Int,0<=u->u<x.length->gi x u≠-1->gi x' u=gi x u)/\ZE8 vs ys x'/\(∀u:Int,0<=u->u<x.length->u ∉ vs->gi x' u=gi x u))
 |[],[],ok,x,x',_,_,_,hl=>by
  simp only[G7,Dj];constructor
  .rintro⟨rfl,rfl⟩;exact⟨rfl,λ_ _ _ _=>rfl,λp hp=>by simp at hp,λ_ _ _ _=>rfl⟩
  .rintro⟨h1,_,_,h2⟩;refine⟨h1,D9 hl.symm λi h3 h4=>?_⟩;have:=h2 i E E Z
   simp_all
 |v::vs,y::ys,ok,x,x',hy,hv,hy1,hl=>by
  have hv0:=hv v Z;rw[G7,Z3a vs ys _ _ x' (by simpa using hy) (by rw[Y7];exact λu hu=>hv u (by simp[hu])) (λu hu=>hy1 u (by simp[hu])) (by rw[Y7];exact hl),Y7];simp only[Yf,RF,decide_eq_true_eq];have hy0:=hy1 y Z;constructor
  .rintro⟨⟨h1,h2⟩,h3,h4,h5⟩;have hxv:gi x' v=y:=by have:=h3 v hv0.1 hv0.2;rw[OU hv0 hv0.1,Ya rfl]at this;exact this hy0
   refine⟨h1,λu hu0 hu1 hu2=>?_,?_,λu hu0 hu1 hu2=>?_⟩
   .grind
   .intro p hp;rw[List.zip_cons_cons]at hp;rcases Yy.1 hp with e|e
    .rw[e];exact hxv
    .exact h4 p e
   .grind
  .rintro⟨h1,h3,h4,h5⟩;have hxv:gi x' v=y:=h4 (v,y) Z;refine⟨⟨h1,?_⟩,λu hu0 hu1 hu2=>?_,λp hp=>h4 p (by rw[List.zip_cons_cons];exact List.mem_cons_of_mem _ hp),λu hu0 hu1 hu2=>?_⟩
   .grind
   .grind
   .grind
def Abi(p:Zl×Zd)(x:V2):Prop:=∃r∈p.1.Rows,ZE8 p.2.Vars r x
def OV:List (Zl×Zd)->XS->XS
 |[],l=>l
 |p::ps,l=>OV ps (l.flatMap (G8 p.2.Vars p.1.Rows))
def ZE9(n:Nat)(p:Zl×Zd):Prop:=(∀r∈p.1.Rows,r.length=p.2.Vars.length/\∀y∈r,0<=y/\y<=9)/\∀v∈p.2.Vars,0<=v/\v<n
def ZEA{vs:V2}{rows:XS}{x y:V2}:y∈G8 vs rows x↔∃r∈rows,G7 vs r true x=(true,y):=by
 unfold G8;rw[Eu];constructor
 .rintro⟨r,hr,h⟩;refine⟨r,hr,?_⟩;unfold ZqG at h
  grind
 .rintro⟨r,hr,h⟩;exact⟨r,hr,by unfold ZqG;rw[h];rfl⟩
def ZEB{n:Nat}:∀(ps:List (Zl×Zd)) (l:XS) (x':V2),(∀p∈ps,ZE9 n p)->(∀x∈l,x.length=n)->x'.length=n->
  (x'∈OV ps l↔∃x∈l,(∀u:Int,0<=u->u<n->gi x u≠-1->gi x' u=gi x u)/\(∀p∈ps,Abi p x')/\∀u:Int,0<=u->u<n->(∀p∈ps,u ∉ p.2.Vars)->gi x' u=gi x u)
 |[],l,x',_,hl,hx=>by
  unfold OV;constructor
  .exact λh=>⟨x',h,λ_ _ _ _=>rfl,Z,λ_ _ _ _=>rfl⟩
  .rintro⟨x,hx1,_,_,h⟩
   have:x'=x:=by
    refine D9 (by rw[hx,hl x hx1]) λi h3 h4=>?_
    have:=h i E E Z;unfold gi at this;simpa[h3,h4]using this
   rw[this];exact hx1
 |p::ps,l,x',hp,hl,hx=>by
  obtain⟨hr,hv⟩:=hp p Z
  rw[OV,ZEB ps _ x' (λq hq=>hp q (by simp[hq])) (by
   intro y hy;obtain⟨x,hx,hy⟩:=DV.1 hy
   rw[Z2m hy];exact hl x hx) hx]
  constructor
  .rintro⟨y,hy,h1,h2,h3⟩;obtain⟨x,hx1,hy⟩:=DV.1 hy;obtain⟨r,hr1,hf⟩:=ZEA.1 hy;have hxl:=hl x hx1;have hyl:y.length=x.length:=Z2m hy;obtain⟨_,g1,g2,g3⟩:=(Z3a p.2.Vars r true x y (hr r hr1).1 (by rw[hxl];exact hv) (λc hc=>by have:=(hr r hr1).2 c hc;omega) hyl).1 hf;rw[hxl]at g1 g3;refine⟨x,hx1,λu hu0 hu1 hu2=>?_,λq hq=>?_,λu hu0 hu1 hu2=>?_⟩
   .have:=g1 u hu0 hu1 hu2;rw[<-this];exact h1 u hu0 hu1 (by rw[this];exact hu2)
   .rcases Yy.1 hq with e|e
    .subst e;refine⟨r,hr1,λz hz=>?_⟩;have hz1:=g2 z hz;have hm:=List.of_mem_zip hz;have hz2:=(hr r hr1).2 z.2 hm.2;have hz3:=hv z.1 hm.1;rw[h1 z.1 hz3.1 hz3.2 (by rw[hz1];omega)];exact hz1
    .exact h2 q e
   .rw[h3 u hu0 hu1 (λq hq=>hu2 q (by simp[hq]))];exact g3 u hu0 hu1 (hu2 p Z)
  .rintro⟨x,hx1,h1,h2,h3⟩;obtain⟨r,hr1,hf⟩:=h2 p Z;have hxl:=hl x hx1
   let y:V2:=(List.range n).map λu:Nat=>if(u:Int)∈p.2.Vars then gi x' u else gi x u
   have hyl:y.length=n:=by simp[y]
   have hyg:∀u:Int,0<=u->u<n->gi y u=if u∈p.2.Vars then gi x' u else gi x u:=by
    intro u hu0 hu1;have e:((u.toNat:Nat):Int)=u:=by omega
    have hu2:u.toNat<n:=by omega
    show y.getD u.toNat 0=_;rw[CF];simp[y,hu2,e]
   refine⟨y,DV.2 ⟨x,hx1,ZEA.2 ⟨r,hr1,?_⟩⟩,λu hu0 hu1 hu2=>?_,λq hq=>h2 q (by simp[hq]),λu hu0 hu1 hu2=>?_⟩
   .refine(Z3a p.2.Vars r true x y (hr r hr1).1 (by rw[hxl];exact hv) (λc hc=>by have:=(hr r hr1).2 c hc;omega) (by rw[hyl,hxl])).2 ⟨rfl,?_,?_,?_⟩
    .intro u hu0 hu1 hu2;rw[hyg u hu0 E];split
     .exact h1 u hu0 E hu2
     .rfl
    .intro z hz;have hm:=List.of_mem_zip hz;have hz3:=hv z.1 hm.1;rw[hyg _ hz3.1 hz3.2,Ya hm.1];exact hf z hz
    .intro u hu0 hu1 hu2;rw[hyg u hu0 E,Yb hu2]
   .rw[hyg u hu0 hu1]at hu2|-;split at hu2
    .rename_i e;rw[Ya e]
    .rename_i e;rw[Yb e];exact h1 u hu0 hu1 hu2
   .rw[hyg u hu0 hu1];split
    .rfl
    .rename_i e;refine h3 u hu0 hu1 λq hq=>?_
     rcases Yy.1 hq with e1|e1
     .rw[e1];exact e
     .exact hu2 q e1
def ZEC(d:Zj){m:Int}(hm:Bf m):∀(ts:List Zd) (i:Nat) (l:XS),i+ts.length<=4->(∀a∈ts,WT d a=true)->IZ d m ts i l=OV (WP d m ts i) l
 |[],_,_,_,_=>rfl
 |a::ts,i,l,h4,hf=>by
  rw[Ys]at h4;have hf1:=hf a Z;rw[IZ,WP,ZEC d hm ts (i+1) _ E (λb hb=>hf b (by simp[hb]))];have hb:=JA hm (i:=i) E;unfold Zw at hb
  cases e:ZZ d a.Name with
  |none=>unfold WT at hf1;rw[e]at hf1;simp at hf1
  |some t =>
   simp only;by_cases e1:Ai (As m i) 1=1
   .rw[Ya e1,Yb (by rw[hb];simp[e1]),OV];unfold Ux;rw[e]
   .simp_all
def Z3b(d:Zj)(m u:Int):∀(ts:List Zd) (i:Nat),(∀a∈ts,WT d a=true)->(Xu m ts i u=true↔∃p∈WP d m ts i,u∈p.2.Vars)
 |[],_,_=>by simp[Xu,WP]
 |a::ts,i,hf=>by
  have hf1:=hf a Z;have ih:=Z3b d m u ts (i+1) (λb hb=>hf b (by simp[hb]));unfold Xu WP
  cases e:ZZ d a.Name with
  |none=>unfold WT at hf1;rw[e]at hf1;simp at hf1
  |some t =>
   simp only[RF,Yf,Xj];unfold Zw;by_cases e1:Ai (As m i) 1=1
   .simp_all
   .simp_all
def ZED(d:Zj)(q:Zc)(hf:∀a∈q.Atoms,WT d a=true)(m u:Int):u∈ZI q m↔(0<=u/\u<q.Zi.toNat)/\∃p∈WP d m q.Atoms 0,u∈p.2.Vars:=by
 unfold ZI ZX pV;simp only[Yn,Ep,Y8];constructor
 .rintro⟨v,⟨h1,h2⟩,rfl⟩;exact⟨E,(Z3b d m v q.Atoms 0 hf).1 h2⟩
 .rintro⟨h1,h2⟩;refine⟨u.toNat,⟨E,?_⟩,E⟩;rw[show((u.toNat:Nat):Int)=u by omega];exact(Z3b d m u q.Atoms 0 hf).2 h2
def Z3c(q:Zc)(m:Int):(ZI q m).Nodup:=by
 unfold ZI ZX
 grind [List.nodup_range]
def lk:V2->V2->Int->Int
 |v::vs,y::ys,u=>if u=v then y else lk vs ys u
 |_,_,_=>-1
theorem Z3d:∀{vs ys:V2},vs.Nodup->∀z∈vs.zip ys,lk vs ys z.1=z.2
 |[],_,_,z,h=>by simp at h
 |_::_,[],_,z,h=>by simp at h
 |v::vs,y::ys,hn,z,h=>by
  rw[List.zip_cons_cons]at h;unfold lk;rcases Yy.1 h with e|e
  .rw[e];simp
  .have:=(LA.1 hn).1;rw[Yb (λe2=>this (by rw[<-e2];exact(List.of_mem_zip e).1))];exact Z3d (LA.1 hn).2 z e
theorem ZEE:∀{vs ys:V2} {u:Int},u ∉ vs->lk vs ys u=-1
 |[],_,_,_=>by simp[lk]
 |_::_,[],_,_=>by simp[lk]
 |v::vs,y::ys,u,h=>by
  unfold lk;rw[Yb (λe=>h (by simp[e]))];exact ZEE (λe=>h (by simp[e]))
theorem ZEF{vs ys:V2}(h:ys.length=vs.length){u:Int}(hu:u∈vs):∃z∈vs.zip ys,z.1=u:=by
 obtain⟨i,hi,rfl⟩:=cO hu;exact⟨(vs[i],ys[i]),by rw[List.mem_iff_getElem];exact⟨i,by rw[List.length_zip];omega,Z⟩,rfl⟩
def OW{vs ys:V2}(hn:vs.Nodup)(h:ys.length=vs.length):vs.map (lk vs ys)=ys:=by
 refine D9 (by simp[h]) λi h1 h2=>?_
 rw[List.getElem_map];exact Z3d hn (vs[i]'(by simpa using h1),ys[i]) (by rw[List.mem_iff_getElem];exact⟨i,by rw[List.length_zip];simp at h1;omega,Z⟩)
def ZRz{vs:V2}{f:Int->Int}:∀z∈vs.zip (vs.map f),z.2=f z.1:=by
 grind [List.getElem_of_mem]
theorem bF{Hj vars y r:V2}:JC Hj vars y r=true↔∀p∈Hj.zip r,∀z∈vars.zip y,z.1=p.1->z.2=p.2:=by
 unfold JC
 grind
def Zrt{ps:List (Zl×Zd)}{vars y:V2}:CW ps vars y=true↔∀p∈ps,∃r∈p.1.Rows,JC p.2.Vars vars y r=true:=by
 unfold CW;simp
def ZR0{d:Zj}{a:Zd}{t:Zl}(hf:WT d a=true)(h:ZZ d a.Name=some t):∀r∈t.Rows,r.length=a.Vars.length/\∀y∈r,0<=y/\y<=9:=by
 obtain⟨hv,ht,_⟩:=aT h;have hT:=QJ hv ht;intro row hrow;unfold ZO at hT;simp only[Yf]at hT;have:=Ym.1 hT.2.1 row hrow;unfold B3 at this;unfold WT at hf;rw[h]at hf;simp only[Yf,decide_eq_true_eq,Ym,N8,Am]at this hf
 grind
def Z3e{d:Zj}{m:Int}{n:Nat}:∀{ts:List Zd} {i:Nat},(∀a∈ts,(∀v∈a.Vars,0<=v/\v<n)/\WT d a=true)->∀p∈WP d m ts i,ZE9 n p
 |[],_,_,p,hp=>by simp[WP]at hp
 |a::ts,i,h,p,hp=>by
  have ih:=Z3e (m:=m) (ts:=ts) (i:=i+1) (λb hb=>h b (by simp[hb])) p;unfold WP at hp
  cases e:ZZ d a.Name with
  |none=>rw[e]at hp;exact ih hp
  |some t =>
   rw[e]at hp;simp only at hp;split at hp
   .rcases Yy.1 hp with e1|e1
    .rw[e1];exact⟨ZR0 (h a Z).2 e,(h a Z).1⟩
    .exact ih e1
   .exact ih hp
def ZEG(d:Zj)(q:Zc)(hf:ZN d q=true)(m:Int)(hm:Bf m)(y:V2) :
  y∈Zrr d q m↔y.length=(ZI q m).length/\CW (WP d m q.Atoms 0) (ZI q m) y=true:=by
 unfold ZN at hf;simp only[Yf,Ym]at hf;obtain⟨hv,hf⟩:=hf;have h4:=XF hv;have hn:=Kf hv
 have hav:∀a∈q.Atoms,(∀v∈a.Vars,0<=v/\v<(q.Zi.toNat:Nat))/\WT d a=true:=λa ha=>⟨λv hv1=>by
  have:=gI hv a ha v hv1;simp only[Am,Yf,decide_eq_true_eq]at this
  omega,hf a ha⟩
 have hps:=Z3e (m:=m) (i:=0) hav;have hmem:=ZED d q hf m;have hnd:=Z3c q m;have hE:Z2W d q m=OV (WP d m q.Atoms 0) [List.replicate q.Zi.toNat (-1)]:=ZEC d hm q.Atoms 0 _ E hf;have hG:=λx' hx=>ZEB (n:=q.Zi.toNat) (WP d m q.Atoms 0) [List.replicate q.Zi.toNat (-1)] x' hps Z hx
 have hEl:=λx (hx:x∈Z2W d q m)=>(Z2X d m q.Zi.toNat q.Atoms 0 [List.replicate q.Zi.toNat (-1)] hf Z).1 x hx
 have hrep:∀u:Int,0<=u->u<q.Zi.toNat->gi (List.replicate q.Zi.toNat (-1)) u=-1:=by
  grind
 unfold Zrr;rw[Yn,Zrt];constructor
 .rintro⟨x,hx,rfl⟩;have hxl:=hEl x hx;rw[hE,hG x hxl]at hx;obtain⟨x0,hx0,_,h2,_⟩:=hx;refine⟨by simp[X1],λp hp=>?_⟩;obtain⟨r,hr,hl⟩:=h2 p hp;refine⟨r,hr,bF.2 λa ha z hz e=>?_⟩;rw[ZRz (f:=λc=>x.getD c.toNat 0) z hz,<-hl a ha,e]
 .rintro⟨hl,ho⟩
  let x:V2:=(List.range q.Zi.toNat).map λu:Nat=>lk (ZI q m) y u
  have hxl:x.length=q.Zi.toNat:=by simp[x]
  have hxg:∀u:Int,0<=u->u<q.Zi.toNat->gi x u=lk (ZI q m) y u:=by
   grind
  refine⟨x,?_,?_⟩
  .rw[hE,hG x hxl];refine⟨_,List.mem_singleton.2 rfl,λu h0 h1 h2=>absurd (hrep u h0 h1) h2,λp hp=>?_,λu h0 h1 h2=>?_⟩
   .obtain⟨r,hr,hfit⟩:=ho p hp;refine⟨r,hr,λa ha=>?_⟩;have ha1:=(List.of_mem_zip ha).1;have ha2:=(hps p hp).2 a.1 ha1;have ha3:=(hmem a.1).2 ⟨ha2,p,hp,ha1⟩
    grind [ZEF,Z3d,bF]
   .grind [ZEE]
  .have:X1 x (ZI q m)=(ZI q m).map (lk (ZI q m) y):=CZ λu hu=>hxg u ((hmem u).1 hu).1.1 ((hmem u).1 hu).1.2
   simp_all [OW]
def sH{ok:V2->Bool}(cc:∀a b,ok (a++b)=true->ok a=true):∀n row y,y∈CO ok n row↔∃z:V2,z.length=n/\(∀c∈z,0<=c/\c<=9)/\y=row++z/\ok y=true
 |0,row,y=>by
  unfold CO;constructor
  .simp_all
  .simp_all
 |n+1,row,y=>by
  unfold CO;constructor
  .intro h;split at h
   .obtain⟨v,hv,h⟩:=DV.1 h;obtain⟨z,h1,h2,h3,h4⟩:=(sH cc n _ y).1 h
    grind
   .cases h
  .rintro⟨z,hz,hc,rfl,ho⟩;rw[Ya (cc _ _ ho)]
   match z,hz,hc,ho with
   |v::z,hz,hc,ho =>
    have hv:=hc v Z;refine DV.2 ⟨v.toNat,List.mem_range'_1.2 E,(sH cc n _ _).2 ⟨z,by simpa using hz,λc h=>hc c (by simp[h]),?_,ho⟩⟩
    grind
def ZEH{ok:V2->Bool}(c:∀a b,ok (a++b)=true->ok a=true):∀n row,(CO ok n row).Nodup
 |0,row=>by unfold CO;split<;>simp
 |n+1,row=>by
  unfold CO;split
  .refine List.pairwise_flatMap.2 ⟨λv _=>ZEH c n _,?_⟩;refine(List.nodup_range' (s:=0) (n:=10) 1 Om).imp ?_;intro a b hab x hx y hy e;obtain⟨z,_,_,h1,_⟩:=(sH c n _ x).1 hx;obtain⟨z2,_,_,h2,_⟩:=(sH c n _ y).1 hy;rw[h1,h2]at e;simp at e;omega
  .simp
def ZR1(ps:List (Zl×Zd))(cc:V2):∀a b,CW ps cc (a++b)=true->CW ps cc a=true:=by
 intro a b h;rw[Zrt]at h|-;intro p hp;obtain⟨r,hr,h⟩:=h p hp;refine⟨r,hr,bF.2 λc hc z hz=>bF.1 h c hc z ?_⟩;obtain⟨i,h1,rfl⟩:=cO hz;rw[List.length_zip]at h1;rw[List.mem_iff_getElem];exact⟨i,by rw[List.length_zip,Yo];omega,by simp only[List.getElem_zip];rw[List.getElem_append_left]⟩
def sJ{a b c:Int}:Am a b c=true↔b<=a/\a<=c:=by simp[Am]
theorem OX{l:V2}(h:l.Nodup){i j:Nat}(hi:i<l.length)(hj:j<l.length)(e:l[i]=l[j]):i=j:=by
 have hp:=Lz.1 h
 grind
theorem Z3f{vs y:V2}(hn:vs.Nodup){j:Nat}(hj:j<vs.length)(hy:y.length=vs.length):XU vs y vs[j]=y[j]:=by
 obtain⟨h1,h2,h3⟩:=XT (Xj.2 (Ye hj));have e:(AD vs vs[j]).toNat=j:=by
  grind [List.getElem?_eq_some_iff,OX]
 unfold XU Xp
 simp_all
theorem sK{vs y:V2}(hn:vs.Nodup)(hy:y.length=vs.length):vs.map (XU vs y)=y:=by
 refine D9 (by simp[hy]) λj h1 h2=>?_
 simp_all [List.getElem_map,Z3f]
def sL(d:Zj)(q:Zc)(m:Int)(y:V2):Prop:=y.length=(ZI q m).length/\∀(i:Nat) (a:Zd),q.Atoms[i]?=some a->Zw m i=true->a.Vars.map (XU (ZI q m) y)∈Ux d a
theorem ZR2{a b c:V2}(h1:ZH a b<0)(h2:ZH b c<0):ZH a c<0:=by
 grind [I8,UM,Kv]
def ZEI:∀(rows:XS) (p:Option (V2)),WJ DF p rows=true->(∀x,p=some x->∀r∈rows,ZH x r<0)/\rows.Pairwise λa b=>ZH a b<0
 |[],p,_=>⟨λ_ _ _ h=>(by cases h),.nil⟩
 |r::rows,p,h=>by
  unfold WJ at h;simp only[Yf]at h;obtain⟨h1,h2⟩:=h;obtain⟨h3,h4⟩:=ZEI rows (some r) h2;refine⟨?_,Y4.2 ⟨h3 r rfl,h4⟩⟩;rintro x rfl s hs;have hx:ZH x r<0:=by simpa[BD,DF]using h1
  grind [ZR2]
def ZR3{rows:XS}(h:WJ DF none rows=true):rows.Nodup:=(ZEI rows none h).2.imp λ{a b} hab he=>by
 simp_all [KX]
theorem ZEJ{vs y Hj r:V2}(hn:vs.Nodup)(hy:y.length=vs.length)(hs:∀v∈Hj,v∈vs)(hr:r.length=Hj.length):JC Hj vs y r=true↔Hj.map (XU vs y)=r:=by
 rw[bF];constructor
 .intro h;refine D9 (by simp[hr]) λk h1 h2=>?_
  have hk:k<Hj.length:=by simpa using h1
  rw[List.getElem_map];obtain⟨j,hj,e⟩:=cO (hs _ (Ye hk));have:=h (Hj[k],r[k]) (by rw[List.mem_iff_getElem];exact⟨k,by rw[List.length_zip];omega,by rw[List.getElem_zip]⟩) (vs[j],y[j]) (by rw[List.mem_iff_getElem];exact⟨j,by rw[List.length_zip];omega,by rw[List.getElem_zip]⟩) e
  grind [Z3f]
 .grind [List.getElem_of_mem,List.length_zip,Z3f]
def Z3g{d:Zj}{m:Int}{p:Zl×Zd}:∀{ts:List Zd} {i:Nat},p∈WP d m ts i↔∃j a,ts[j]?=some a/\Zw m (i+j)=true/\ZZ d a.Name=some p.1/\p.2=a
 |[],i=>by simp[WP]
 |b::ts,i=>by
  have ih:=Z3g (d:=d) (m:=m) (p:=p) (ts:=ts) (i:=i+1);have split:(∃j a,(b::ts)[j]?=some a/\Zw m (i+j)=true/\ZZ d a.Name=some p.1/\p.2=a)↔((Zw m i=true/\ZZ d b.Name=some p.1/\p.2=b)\/∃j a,ts[j]?=some a/\Zw m (i+1+j)=true/\ZZ d a.Name=some p.1/\p.2=a):=by
   constructor
   .grind
   .rintro(⟨h2,h3,h4⟩|⟨j,a,h1,h2,h3,h4⟩)
    .exact⟨0,b,rfl,by simpa using h2,h3,h4⟩
    .exact⟨j+1,a,by simpa using h1,by rw[show i+(j+1)=i+1+j by omega];exact h2,h3,h4⟩
  rw[split];unfold WP
  cases e:ZZ d b.Name with
  |none=>simp[ih]
  |some t =>
   dsimp only;by_cases hm:Ai (As m i) 1=1
   .rw[Ya hm,Yy,ih];constructor
    .rintro(h|h)
     .rw[h];exact .inl ⟨by simp[Zw,hm],rfl,rfl⟩
     .exact .inr h
    .grind
   .rw[Yb hm,ih];constructor
    .exact .inr
    .rintro(⟨h2,_⟩|h)
     .simp[Zw,hm]at h2
     .exact h
theorem bG{q:Zc}(hv:Zx q.Zi q.Atoms=true){m:Int}{i:Nat}{a:Zd}(hi:q.Atoms[i]?=some a)(hm:Zw m i=true):∀v∈a.Vars,v∈ZI q m:=by
 intro v hv1;have ha:a∈q.Atoms:=Yu hi;rw[Od hv];have hb:=sJ.1 (gI hv a ha v hv1);have hn:=Kf hv;have key:∀(l:List Zd) (k i:Nat),l[i]?=some a->Zw m (k+i)=true->Xu m l k (v.toNat:Nat)=true:=by
  intro l
  induction l with
  |nil=>intro k i h;simp at h
  |cons b l ih =>
   intro k i h hm;unfold Xu
   cases i with
   |zero =>
    grind [Xj]
   |succ i=>rw[ih (k+1) i (by simpa using h) (by rw[show k+1+i=k+(i+1) by omega];exact hm)];simp
 unfold Bz pV;rw[key q.Atoms 0 i hi (by simpa using hm)];simp[Am];omega
section
variable{d:Zj}{q:Zc}(hf:ZN d q=true)
include hf
theorem JD:Zx q.Zi q.Atoms=true:=by unfold ZN at hf;simp only[Yf]at hf;exact hf.1
theorem ZR4{m:Int}(hm:Bf m)(y:V2):y∈Zrr d q m↔sL d q m y:=by
 have hv:=JD hf;have hn:=Z3c q m;rw[ZEG d q hf m hm];unfold sL;refine and_congr_right λhy=>?_
 rw[Zrt];have ok:∀{i:Nat} {a:Zd},q.Atoms[i]?=some a->∃t,ZZ d a.Name=some t/\Ux d a=t.Rows/\∀r∈t.Rows,r.length=a.Vars.length:=by
  intro i a hi;obtain⟨t,t1,_,t3,_,t5,_⟩:=qZ hf (Yu hi)
  grind [G9]
 constructor
 .intro h i a hi OY;obtain⟨t,t1,t2,t3⟩:=ok hi;obtain⟨r,hr,hf⟩:=h (t,a) (Z3g.2 ⟨i,a,hi,by simpa using OY,t1,rfl⟩)
  grind [ZEJ,bG]
 .intro h p hp;obtain⟨i,a,hi,OY,t1,rfl⟩:=Z3g.1 hp;rw[Yt]at OY
  grind [ZEJ,bG]
end
structure Ek (d:Zj) (q:Zc) (m:Int) (s:Ze):Prop where
 nodup:s.Rows.Nodup
 mem:∀r,r∈s.Rows↔sL d q m r
section
variable{d:Zj}{q:Zc}(hf:ZN d q=true)
include hf
theorem ZR5{x:Zn}{c:List Zf}{y:Zf}(F:QL q.Atoms x c y)(hk:x.Kind=1):Ek d q y.Mask (UL d q x.Zd):=by
 have hv:=JD hf;obtain⟨h1,rfl⟩:=F.scan hk;have hr:=sJ.1 h1;have h4:=XF hv;obtain⟨i,hi⟩:∃i:Nat,x.Zd=i:=⟨x.Zd.toNat,E⟩;have hlt:i<q.Atoms.length:=by omega
 have ha:q.Atoms[i]?=some q.Atoms[i]:=Yh hlt;show Ek d q (Ac 1 x.Zd) _;rw[hi];generalize q.Atoms[i]=a at ha;have hV:ZE a.Vars=ZI q (Ac 1 (i:Int)):=Z2v hv ha;have hnd:=ZCU hv (Yu ha);have hn:(ZE a.Vars).Nodup:=(qQ a.Vars).nodup_iff.2 hnd;obtain⟨t,t1,_,t3,_,t5,t6⟩:=qZ hf (Yu ha);have hs:UL d q (i:Int)=⟨ZE a.Vars,(Ux d a).map λr=>(ZE a.Vars).map (XU a.Vars r)⟩:=by
  unfold UL;rw[Yj,ha];rfl
 -- what a Aaa row reads as again
 have back:∀r∈Ux d a,a.Vars.map (XU (ZE a.Vars) ((ZE a.Vars).map (XU a.Vars r)))=r:=by
  grind [G9,List.map_congr_left,KW,Xj,J7,sK]
 rw[hs];constructor
 .show((Ux d a).map _).Nodup;refine List.pairwise_map.2 ?_;have hnr:(Ux d a).Nodup:=by
   simp_all [ZR3]
  grind [List.Pairwise.imp_of_mem]
 .intro r;show r∈(Ux d a).map _↔_;rw[Yn];have one:∀j:Nat,j<4->(Zw (Ac 1 (i:Int)) j=true↔j=i):=by
   intro j hj;have:=qU ⟨i,E⟩ ⟨j,hj⟩
   simp_all
  constructor
  .rintro⟨t',ht',rfl⟩;refine⟨by rw[Y1,hV],λj b hj hmj=>?_⟩
   grind
  .rintro⟨hl,hm⟩
   grind [List.map_congr_left,KW,Xj,J7,sK]
end
def ZR6{x:Nat}{rows:XS}(h:rows.Nodup):(UJ x rows).Nodup:=by
 unfold UJ
 grind [List.Pairwise.imp,List.nodup_range]
def ZR7{d:Zj}{q:Zc}{u:Zf}{s:Ze}(G:GS q u s)(T:Ek d q u.Mask s){v:Int}(hv:has s.Vars v=true):Ek d q u.Mask (Oe s v):=by
 have hk:∀r∈s.Rows,0<=kx (AD s.Vars v).toNat r/\kx (AD s.Vars v).toNat r<=9:=λr hr=>(ZqM (G.rows r hr) (XT hv).2.1).2
 exact⟨ZR6 T.nodup,λr=>(ZCV hk r).trans (T.mem r)⟩
def ZEK{av x bv y:V2}:agr av x bv y=true↔∀(i:Nat) (h:i<av.length),AD bv av[i]<0\/x.getD i 0=Xp y (AD bv av[i]):=by
 unfold agr
 simp_all
section
variable{d:Zj}{q:Zc}(hf:ZN d q=true){u z:Zf}{a b:Ze}(A:GS q u a)(B:GS q z b)(TA:Ek d q u.Mask a)(TB:Ek d q z.Mask b)(hu:0<=u.Mask/\u.Mask<16)(hz:0<=z.Mask/\z.Mask<16)
include hf A B hu hz
theorem Z3h:Ar a.Vars b.Vars=ZI q (Az u.Mask z.Mask):=by rw[A.vars,B.vars];exact Z2u (JD hf) hu hz
theorem ZEL(v:Int):v∈Ar a.Vars b.Vars↔v∈a.Vars\/v∈b.Vars:=qR (by rw[A.vars];exact I3 (JD hf) _) (by rw[B.vars];exact I3 (JD hf) _) v
theorem sM:(Ar a.Vars b.Vars).Nodup/\a.Vars.Nodup/\b.Vars.Nodup:=by
 rw[Z3h hf A B hu hz,A.vars,B.vars];simp[Z3c]
abbrev Hk(a b:Ze)(x y:V2):V2:=(Ar a.Vars b.Vars).map (BL a.Vars x b.Vars y)
theorem sN{x y:V2}(hx:x∈a.Rows)(hy:y∈b.Rows)(h:agr a.Vars x b.Vars y=true):(∀v∈a.Vars,XU (Ar a.Vars b.Vars) (Hk a b x y) v=XU a.Vars x v)/\∀v∈b.Vars,XU (Ar a.Vars b.Vars) (Hk a b x y) v=XU b.Vars y v:=by
 have hs:=ZEL hf A B hu hz;have hxl:=G9 (A.rows x hx);have h1:∀v∈a.Vars,XU (Ar a.Vars b.Vars) (Hk a b x y) v=XU a.Vars x v:=by
  intro v hv;rw[KW (Xj.2 ((hs v).2 (.inl hv)))];unfold BL;rw[Ya (VK.2 (Xj.2 hv))];rfl
 refine⟨h1,λv hv=>?_⟩;rw[KW (Xj.2 ((hs v).2 (.inr hv)))];unfold BL;by_cases ha:v∈a.Vars
 .rw[Ya (VK.2 (Xj.2 ha))];obtain⟨g1,g2,g3⟩:=XT (Xj.2 ha);have e:a.Vars[(AD a.Vars v).toNat]=v:=(Y2.1 g3).2;have:=ZEK.1 h _ g2;rw[e]at this;rcases this with c|c
  .have:=VK.2 (Xj.2 hv);omega
  .exact c
 .rw[Yb (λc=>ha (Xj.1 (VK.1 c)))];rfl
include TA TB
theorem JE{x y:V2}(hx:x∈a.Rows)(hy:y∈b.Rows)(h:agr a.Vars x b.Vars y=true):sL d q (Az u.Mask z.Mask) (Hk a b x y)/\x=a.Vars.map (XU (Ar a.Vars b.Vars) (Hk a b x y))/\y=b.Vars.map (XU (Ar a.Vars b.Vars) (Hk a b x y)):=by
 obtain⟨h1,h2⟩:=sN hf A B hu hz hx hy h;obtain⟨n1,n2,n3⟩:=sM hf A B hu hz;have hvars:=Z3h hf A B hu hz;refine⟨⟨by rw[Y1,hvars],λi c hi hm=>?_⟩,?_,?_⟩
 .have hi4:i<4:=by have:=(Y2.1 hi).1;have:=XF (JD hf);omega
  rw[ZqK hu hz hi4,RF]at hm;rw[<-hvars];rcases hm with hm|hm
  .have hin:=bG (JD hf) hi hm;rw[CZ λv hv=>h1 v (by rw[A.vars];exact hin v hv)];have:=((TA.mem x).1 hx).2 i c hi hm
   rwa [show ZI q u.Mask=a.Vars from A.vars.symm]at this
  .have hin:=bG (JD hf) hi hm;rw[CZ λv hv=>h2 v (by rw[B.vars];exact hin v hv)];have:=((TB.mem y).1 hy).2 i c hi hm
   rwa [show ZI q z.Mask=b.Vars from B.vars.symm]at this
 .rw[CZ h1];exact(sK n2 (G9 (A.rows x hx))).symm
 .rw[CZ h2];exact(sK n3 (G9 (B.rows y hy))).symm
theorem ZEM{r:V2}(h:sL d q (Az u.Mask z.Mask) r):a.Vars.map (XU (Ar a.Vars b.Vars) r)∈a.Rows/\b.Vars.map (XU (Ar a.Vars b.Vars) r)∈b.Rows/\agr a.Vars (a.Vars.map (XU (Ar a.Vars b.Vars) r)) b.Vars (b.Vars.map (XU (Ar a.Vars b.Vars) r))=true/\r=Hk a b (a.Vars.map (XU (Ar a.Vars b.Vars) r)) (b.Vars.map (XU (Ar a.Vars b.Vars) r)):=by
 obtain⟨n1,n2,n3⟩:=sM hf A B hu hz;have hvars:=Z3h hf A B hu hz;have hs:=ZEL hf A B hu hz;obtain⟨hl,hm⟩:=h;rw[<-hvars]at hl hm;have hv:=JD hf;have h4:=XF hv;refine⟨(TA.mem _).2 ⟨by rw[Y1,A.vars],λi c hi OY=>?_⟩,(TB.mem _).2 ⟨by rw[Y1,B.vars],λi c hi OY=>?_⟩,?_,?_⟩
 .have hin:=bG hv hi OY;have hi4:i<4:=by have:=(Y2.1 hi).1;omega
  rw[show ZI q u.Mask=a.Vars from A.vars.symm];rw[CZ (g:=XU (Ar a.Vars b.Vars) r) λv hvv=>KW (Xj.2 (by rw[A.vars];exact hin v hvv)) _]
  grind [ZqK]
 .have hin:=bG hv hi OY;have hi4:i<4:=by have:=(Y2.1 hi).1;omega
  rw[show ZI q z.Mask=b.Vars from B.vars.symm];rw[CZ (g:=XU (Ar a.Vars b.Vars) r) λv hvv=>KW (Xj.2 (by rw[B.vars];exact hin v hvv)) _]
  grind [ZqK]
 .rw[ZEK];intro i hi;by_cases c:AD b.Vars a.Vars[i]<0
  .exact .inl c
  .right;have hb:has b.Vars a.Vars[i]=true:=VK.1 E;have:=KW hb (XU (Ar a.Vars b.Vars) r);unfold XU at this|-
   simp_all
 .conv=>lhs;rw[<-sK n1 hl]
  refine CZ λv hvv=>?_
  unfold BL;by_cases ha:v∈a.Vars
  .rw[Ya (VK.2 (Xj.2 ha))];exact(KW (Xj.2 ha) _).symm
  .rw[Yb (λc=>ha (Xj.1 (VK.1 c)))];exact(KW (Xj.2 (((hs v).1 hvv).resolve_left ha)) _).symm
theorem ZEN:Ek d q (Az u.Mask z.Mask) (VL a b):=by
 have inv:∀x∈a.Rows,∀y∈b.Rows,∀r,BB (Ar a.Vars b.Vars) a.Vars x b.Vars y=some r->agr a.Vars x b.Vars y=true/\r=Hk a b x y:=by
  intro x _ y _ r h;unfold BB at h
  simp_all
 constructor
 .show(Wp _ a b).Nodup;unfold Wp;refine List.pairwise_flatMap.2 ⟨λx hx=>?_,?_⟩
  .rw[List.pairwise_filterMap];refine List.Pairwise.imp_of_mem ?_ TB.nodup;intro y y' hy hy' hne r hr r' hr' e;obtain⟨g1,e1⟩:=inv x hx y hy r hr;obtain⟨g2,e2⟩:=inv x hx y' hy' r' hr';apply hne;rw[(JE hf A B TA TB hu hz hx hy g1).2.2,(JE hf A B TA TB hu hz hx hy' g2).2.2,<-e1,<-e2,e]
  .refine List.Pairwise.imp_of_mem ?_ TA.nodup;intro x x' hx hx' hne r hr r' hr' e;obtain⟨y,hy,hr⟩:=Eu.1 hr;obtain⟨y',hy',hr'⟩:=Eu.1 hr';obtain⟨g1,e1⟩:=inv x hx y hy r hr;obtain⟨g2,e2⟩:=inv x' hx' y' hy' r' hr';apply hne;rw[(JE hf A B TA TB hu hz hx hy g1).2.1,(JE hf A B TA TB hu hz hx' hy' g2).2.1,<-e1,<-e2,e]
 .intro r;show r∈Wp _ a b↔_;unfold Wp;simp only[DV,Eu];constructor
  .grind [JE]
  .intro h;obtain⟨h1,h2,h3,h4⟩:=ZEM hf A B TA TB hu hz h;exact⟨_,h1,_,h2,by unfold BB;rw[Ya h3];exact congrArg some h4.symm⟩
theorem ZR8:Ek d q (Az u.Mask z.Mask) (I4 a b):=by
 have inv:∀x∈a.Rows,∀y∈b.Rows,∀r,BB (Ar a.Vars b.Vars) a.Vars x b.Vars y=some r->agr a.Vars x b.Vars y=true/\r=Hk a b x y:=by
  intro x _ y _ r h;unfold BB at h
  simp_all
 constructor
 .show(UK _ a b).Nodup;unfold UK;refine List.pairwise_flatMap.2 ⟨λy hy=>?_,?_⟩
  .rw[List.pairwise_filterMap];refine List.Pairwise.imp_of_mem ?_ TA.nodup;intro x x' hx hx' hne r hr r' hr' e;obtain⟨g1,e1⟩:=inv x hx y hy r hr;obtain⟨g2,e2⟩:=inv x' hx' y hy r' hr';apply hne;rw[(JE hf A B TA TB hu hz hx hy g1).2.1,(JE hf A B TA TB hu hz hx' hy g2).2.1,<-e1,<-e2,e]
  .refine List.Pairwise.imp_of_mem ?_ TB.nodup;intro y y' hy hy' hne r hr r' hr' e;obtain⟨x,hx,hr⟩:=Eu.1 hr;obtain⟨x',hx',hr'⟩:=Eu.1 hr';obtain⟨g1,e1⟩:=inv x hx y hy r hr;obtain⟨g2,e2⟩:=inv x' hx' y' hy' r' hr';apply hne;rw[(JE hf A B TA TB hu hz hx hy g1).2.2,(JE hf A B TA TB hu hz hx' hy' g2).2.2,<-e1,<-e2,e]
 .intro r;show r∈UK _ a b↔_;unfold UK;simp only[DV,Eu];constructor
  .grind [JE]
  .intro h;obtain⟨h1,h2,h3,h4⟩:=ZEM hf A B TA TB hu hz h;exact⟨_,h2,_,h1,by unfold BB;rw[Ya h3];exact congrArg some h4.symm⟩
end
def Hl(d:Zj)(q:Zc)(info:List Zf)(c:List Ze):Prop:=∀(j:Nat) (s:Ze),c[j]?=some s->∃y,info[j]?=some y/\GS q y s/\Ek d q y.Mask s
def Hl.gs{d:Zj}{q:Zc}{info:List Zf}{out:List Ze}(G:Hl d q info out):DS q info out:=λj s h=>by obtain⟨y,h1,h2,_⟩:=G j s h;exact⟨y,h1,h2⟩
def Z3i{d:Zj}{q:Zc}{info:List Zf}{out:List Ze}(G:Hl d q info out){i:Nat}{s:Int}{u:Zf}(hi:out.length=i)(h0:0<=s)(h:(info.take i)[s.toNat]?=some u):GS q u (out.getD s.toNat ⟨[],[]⟩)/\Ek d q u.Mask (out.getD s.toNat ⟨[],[]⟩):=by
 obtain⟨h1,h2,h3⟩:=Og G.gs hi h0 h;obtain⟨y,e1,e2,e3⟩:=G _ _ h2
 simp_all
def sO{d:Zj}{q:Zc}(h:ZN d q=true){info:List Zf}{out:List Ze}(G:Hl d q info out)(hM:∀y∈info,0<=y.Mask/\y.Mask<16){i:Nat}(hi:out.length=i){x:Zn}{y:Zf}(F:QL q.Atoms x (info.take i) y):Ek d q y.Mask (Fl d q x y out):=by
 have hq:=JD h;have hm:∀{s:Nat} {u:Zf},(info.take i)[s]?=some u->0<=u.Mask/\u.Mask<16:=λhs=>hM _ (DK (Yu hs))
 unfold Fl;by_cases k1:x.Kind=1
 .rw[Ya k1];exact ZR5 h F k1
 .rw[Yb k1];by_cases k2:x.Kind=2
  .rw[Ya k2];obtain⟨s,u,f1,f2,f3,rfl⟩:=F.sort k2;obtain⟨A,TA⟩:=Z3i G hi f1 f2;exact ZR7 A TA (Z21 hq A f3 s).2
  .rw[Yb k2];obtain⟨s,u,t,z,o,f1,f2,f3,f4,f5,rfl,f6⟩:=F.join k1 k2;obtain⟨A,TA⟩:=Z3i G hi f1 f2;obtain⟨B,TB⟩:=Z3i G hi f3 f4;rcases f6 with⟨k,rfl⟩|⟨k,rfl⟩|⟨k,g1,g2,g3,g4,rfl⟩
   .rw[Ya k];exact ZR8 h A B TA TB (hm f2) (hm f4)
   .rw[Ao];exact ZEN h A B TA TB (hm f2) (hm f4)
   .rw[Ao];exact ZEN h A B TA TB (hm f2) (hm f4)
theorem ZR9{d:Zj}{q:Zc}{info:List Zf}{out:List Ze}(G:Hl d q info out){i:Nat}(hi:out.length=i){y:Zf}(hy:info[i]?=some y){s:Ze}(g:GS q y s)(t:Ek d q y.Mask s):Hl d q info (out++[s]):=by
 intro j s' hs;by_cases hj:j<out.length
 .rw[cQ hj]at hs;exact G j s' hs
 .grind
def ZRA{d:Zj}{q:Zc}(h:ZN d q=true){info:List Zf}(hM:∀y∈info,0<=y.Mask/\y.Mask<16){c:List Zn}(hl:info.length=c.length)(hF:∀(j:Nat) (y:Zf) (x:Zn),info[j]?=some y->c[j]?=some x->QL q.Atoms x (info.take j) y) :
  ∀i,i<=c.length->∀(cc:List Ze),cc.length=i->Hl d q info cc->Hl d q info (V0 d q (c.drop i) (info.drop i) cc):=by
 refine down _ ?_ ?_
 .intro cc ho G;rw[Yl];exact G
 .intro i hi ih cc ho G;have hi2:i<info.length:=by omega
  have hx:c[i]?=some c[i]:=Yh hi;have hy:info[i]?=some info[i]:=Yh hi2;have hg:=ZqN h G.gs hM ho (hF i _ _ hy hx);have ht:=sO h G hM ho (hF i _ _ hy hx);rw[Yg hi,Yg hi2,V0]
  grind [ZR9]
def ZRB{d:Zj}{q:Zc}(h:ZN d q=true){p:Zr}{info:List Zf}(P:PI q p info):Hl d q info (Xz d q p.Steps info):=by
 have:=ZRA h P.mask P.val.2.1 (qY P.eq) 0 (Yc _) [] rfl (λj s h=>by simp at h);simpa[Xz]using this
def ZRC(d:Zj)(q:Zc)(hf:ZN d q=true)(m:Int)(hm:Bf m)(ys:XS)(hy:ys.Nodup)(he:∀y,y∈ys↔y∈Zrr d q m):ys.length=(bE d q m).length:=by
 have mono:=ZR1 (WP d m q.Atoms 0) (ZI q m);refine List.Perm.length_eq ((List.perm_ext_iff_of_nodup hy (ZEH mono _ _)).2 λy=>?_);rw[he y,ZEG d q hf m hm];rw[sH mono];constructor
 .rintro⟨hl,ho⟩;refine⟨y,hl,λc hc=>?_,rfl,ho⟩;unfold ZN at hf;simp only[Yf,Ym]at hf;obtain⟨hv,hf⟩:=hf;obtain⟨j,hj,rfl⟩:=cO hc;have hjv:j<(ZI q m).length:=by omega
  obtain⟨_,p,hp,hu⟩:=(ZED d q hf m _).1 (Ye hjv);obtain⟨r,hr,hfit⟩:=Zrt.1 ho p hp
  have hP:=Z3e (n:=q.Zi.toNat) (m:=m) (i:=0) (λa ha=>⟨λv hv1=>by
   have:=gI hv a ha v hv1;simp only[Am,Yf,decide_eq_true_eq]at this
   omega,hf a ha⟩) p hp
  obtain⟨a,ha,ha1⟩:=ZEF (hP.1 r hr).1 hu;have:=bF.1 hfit a ha ((ZI q m)[j],y[j]) (by rw[List.mem_iff_getElem];exact⟨j,by rw[List.length_zip];omega,Z⟩) ha1.symm;simp only at this;rw[this];exact(hP.1 r hr).2 _ (List.of_mem_zip ha).2
 .simp_all
def ZRD{d:Zj}{q:Zc}(h:ZN d q=true){p:Zr}{info:List Zf}(P:PI q p info){i:Nat}{y:Zf}(hy:info[i]?=some y):((Xz d q p.Steps info).getD i ⟨[],[]⟩).Rows.length=(bE d q y.Mask).length:=by
 have hl:=(rT h P).2;have hi:i<info.length:=(Y2.1 hy).1;have hi2:i<(Xz d q p.Steps info).length:=by rw[hl,<-P.val.2.1];exact hi
 obtain⟨y',e1,_,T⟩:=ZRB h P i _ (Yh hi2);rw[hy]at e1;cases e1;rw[CF,Yh hi2];have hm:=P.mask y (Yu hy);exact ZRC d q h y.Mask hm _ T.nodup λr=>(T.mem r).trans (ZR4 h hm r).symm
def ZRE{a:Int}(h:0<=a/\a<=7):Am (ZT a) 0 4096=true:=by
 have:a=0\/a=1\/a=2\/a=3\/a=4\/a=5\/a=6\/a=7:=by omega
 rcases this with rfl|rfl|rfl|rfl|rfl|rfl|rfl|rfl<;>decide
def ZRF{o:Zy}(hv:XZ o=true){a b c:Int}(ha:0<=a/\a<=7)(hb:0<=b/\b<=7)(hc:0<=c/\c<=7):WB o (ZT a) (ZT b) (ZT c)=Bw o [a,b,c]:=by
 unfold WB Bw
 simp_all [ZRE]
def ZRG{m:Zt}(h:VJ m)(k:Int):VZ (BC m k):=by
 obtain⟨h1,h2,h3,h4,h5⟩:=h;unfold BC
 grind
def ZRH{n:Int}(h0:0<=n)(h1:n<=4096):0<=X4 n/\X4 n<=7:=by
 unfold X4;omega
def Z3j{o:Zy}(h:VZ o){a b n:Int}(ha:Am a 0 7=true)(hb:Am b 0 7=true)(hn:Am n 0 7=true):1<=WB o (ZT a) (ZT b) (ZT n):=by
 simp[Am]at ha hb hn;rw[ZRF h.1 ⟨ha.1,ha.2⟩ ⟨hb.1,hb.2⟩ ⟨hn.1,hn.2⟩];exact Int.not_lt.1 λq=>h.2.2 ⟨[a,b,n],⟨a,b,n,rfl,⟨ha.1,ha.2⟩,⟨hb.1,hb.2⟩,⟨hn.1,hn.2⟩⟩,q⟩
def sP(n:Int):Uo n=some (I (X4 n),[]):=by
 apply ZY.2.1.2.2;unfold X4;by_cases h0:n<0
 .simp_all
 rw[Yb h0,Yb h0];apply ZY.2.1.2.1;rw[Ya Om];refine⟨_,VI _,?_⟩;rw[show ZT 0=0 from by decide];by_cases h1:n<=0
 .simp_all
 rw[Yb h1,Yb h1,show w (0+1)=1 from by decide];apply ZY.2.1.2.1;rw[Ya Om];refine⟨_,VI _,?_⟩;rw[show ZT 1=1 from by decide];by_cases h1:n<=1
 .simp_all
 rw[Yb h1,Yb h1,show w (1+1)=2 from by decide];apply ZY.2.1.2.1;rw[Ya Om];refine⟨_,VI _,?_⟩;rw[show ZT 2=4 from by decide];by_cases h1:n<=4
 .simp_all
 rw[Yb h1,Yb h1,show w (2+1)=3 from by decide];apply ZY.2.1.2.1;rw[Ya Om];refine⟨_,VI _,?_⟩;rw[show ZT 3=16 from by decide];by_cases h1:n<=16
 .simp_all
 rw[Yb h1,Yb h1,show w (3+1)=4 from by decide];apply ZY.2.1.2.1;rw[Ya Om];refine⟨_,VI _,?_⟩;rw[show ZT 4=64 from by decide];by_cases h1:n<=64
 .simp_all
 rw[Yb h1,Yb h1,show w (4+1)=5 from by decide];apply ZY.2.1.2.1;rw[Ya Om];refine⟨_,VI _,?_⟩;rw[show ZT 5=256 from by decide];by_cases h1:n<=256
 .simp_all
 rw[Yb h1,Yb h1,show w (5+1)=6 from by decide];apply ZY.2.1.2.1;rw[Ya Om];refine⟨_,VI _,?_⟩;rw[show ZT 6=1024 from by decide];by_cases h1:n<=1024
 .simp_all
 rw[Yb h1,Yb h1,show w (6+1)=7 from by decide];apply ZY.2.1.2.1;rw[Ya Om];refine⟨_,VI _,?_⟩;rw[show ZT 7=4096 from by decide];by_cases h1:n<=4096
 .simp_all
 rw[Yb h1,Yb h1,show w (7+1)=8 from by decide];simp[ZY.2.1.2.1]
def ZRI(xs:V2)(hl:xs.length<=1000):∀i,i<=xs.length->oY ((xs.take i).map X4) xs i=some (.own 0,[.arr 3 1 true ((xs.map X4).map ic)]):=by
 refine down _ ?_ ?_
 .simp[Ut.2.1.2]
 .intro i hi ih;apply Ut.2.1.2;rw[An,wS hi E];refine⟨E,_,gE hi,_,sP _,by simp;omega,?_⟩
  grind [List.take_succ_eq_append_getElem]
def OZ(d:Zj)(q:Zc)(m:Int):Int:=((bE d q m).length:Int)
def Lj(q:Zc):Nat:=2 ^ q.Atoms.length
def Z3k(q:Zc):(2:Int) ^ q.Atoms.length=(Lj q:Int):=by unfold Lj;simp
theorem Zru{q:Zc}(hv:Zx q.Zi q.Atoms=true):ZU q.Zi q.Atoms=(Lj q:Int)-1/\Lj q<=16/\2<=Lj q:=by
 have h4:=XF hv;refine⟨by rw[Lh hv,Z3k],Yz (Nat.pow_le_pow_right E h4.2) Om,?_⟩;exact Yz (show 2<=2 ^ 1 by decide) (Nat.pow_le_pow_right E h4.1)
def Jb(d:Zj)(q:Zc):V2:=(List.range (Lj q)).map λm:Nat=>if WW q.Zi q.Atoms m=true then OZ d q m else 0
def Zrv(d:Zj)(q:Zc):(Jb d q).length=Lj q:=by simp[Jb]
def ZEO(d:Zj)(q:Zc){i:Nat}(h:i<(Jb d q).length):(Jb d q)[i]=if WW q.Zi q.Atoms i=true then OZ d q i else 0:=by simp[Jb]
theorem ZRJ{d:Zj}(hd:BA d){q:Zc}(hq:AW q)(hf:ZN d q=true):oW d q=some (.own 0,[.arr 3 1 true ((Jb d q).map ic)]):=by
 have hf':=hf;unfold ZN at hf';simp only[Yf,Ym]at hf';obtain⟨hv,hfo⟩:=hf';obtain⟨hfe,hp,hp2⟩:=Zru hv;have hp':=Z3k q;have hloop:∀i,i<=Lj q->aE d q ((Jb d q).take i) i=some (.own 0,[.arr 3 1 true ((Jb d q).map ic)]):=by
  have hsl:=Zrv d q;refine down _ ?_ ?_
  .refine Ut.1.2.2 _ _ _ _ _ ⟨_,W5 q hq,?_⟩
   grind
  .intro i hi ih;refine Ut.1.2.2 _ _ _ _ _ ⟨_,W5 q hq,?_⟩;rw[An];refine⟨_,IY d hd q hq,?_⟩;rw[hf,Ya rfl,wS hi E];refine⟨_,QM q hq _,?_⟩;rw[Yx E]at ih;rw[ZEO]at ih;rcases tf (WW q.Zi q.Atoms i)with e|e
   .grind
   .have e':=e;simp only[WW,Yf,decide_eq_true_eq]at e';have hmc:=Zrl hv e'.1.1.2;rw[e]at ih|-;rw[Ya rfl]at ih|-;exact⟨_,ZRy d hd q hq hf i E hmc E,by rw[Y0];omega,ih⟩
 have:=hloop 0 (Yc _)
 simp_all [Ut.2.1.1]
def Vg(d:Zj)(q:Zc):V2:=if ZN d q=true then(Jb d q).map X4 else[]
def ZRK{d:Zj}(hd:BA d){q:Zc}(hq:AW q):oX d q=some (.own 0,[.arr 3 1 true ((Vg d q).map ic)]):=by
 unfold Vg;rcases tf (ZN d q)with hf|hf
 .rw[hf,Yb Om];have h16:0<=ZU q.Zi q.Atoms:=by
   by_cases hv:Zx q.Zi q.Atoms=true
   .grind [Zru]
   .unfold ZU;rw[Yb hv];omega
  have hT:oW d q=some (.own 0,[.arr 3 1 true (([]:V2).map ic)]):=Ut.2.1.1 _ _ _ (Ut.1.2.2 _ _ _ _ _ ⟨_,W5 q hq,by
   rw[Ya h16]
   exact⟨_,IY d hd q hq,by rw[hf,Yb Om]⟩⟩)
  simp_all [Ut.2.2.1,Ut.2.1.2]
 .rw[hf,Ya rfl];have hv:Zx q.Zi q.Atoms=true:=by unfold ZN at hf;simp only[Yf]at hf;exact hf.1
  have hl:=Zrv d q;have h16:=(Zru hv).2.1;have:=ZRI (Jb d q) E 0 (Yc _)
  grind [Ut.2.2.1,ZRJ]
def ZRL{d:Zj}{q:Zc}(hf:ZN d q=true){m:Int}(h0:0<=m)(h1:m<2 ^ q.Atoms.length)(hc:WW q.Zi q.Atoms m=true):(Vg d q)[m.toNat]?=some (X4 (OZ d q m)):=by
 have hl:=Zrv d q;have hp:=Z3k q;have hi:m.toNat<(Jb d q).length:=by omega
 have hg:=ZEO d q hi;have hm:((m.toNat:Nat):Int)=m:=by omega
 rw[hm,Ya hc]at hg;unfold Vg
 simp_all
def ZRM(d:Zj)(q:Zc):(Vg d q).length<=16:=by
 unfold Vg;split
 .rename_i hf;have hv:Zx q.Zi q.Atoms=true:=by unfold ZN at hf;simp only[Yf]at hf;exact hf.1
  simp_all [Zrv,Zru,Y1]
 .simp
