/-
  Parts of the proofs for this seat: NF EV STL STM PS1 PS2 PS3 SS CM CE.
-/
import Derived.Sort.LotA
import Derived.Test.YthpdbpfamhcgiaaGreatP26
set_option linter.all false
set_option maxRecDepth 100000
set_option maxHeartbeats 4000000
namespace Go.Proofs.YthpdbpfamhcgiaaGreat
open Go.AM
abbrev Zpx(a b:V1):Prop:=∃v:Int,a=some (I v,[])/\b=some (I v,[])
abbrev twoB(a b:V1):Prop:=∃v:Bool,a=some (Bo v,[])/\b=some (Bo v,[])
def wn{i n:Nat}(h:i<n)(hn:n<=4294967296):w ((i:Int)+1)=((i+1:Nat):Int):=wS h (by omega)
def w64{x:Int}(h:-9223372036854775808<=x)(h2:x<=9223372036854775807):w x=x:=ZL h h2
def Zl7{a b c:Int}:inR a b c=true↔b<=a/\a<=c:=by simp[inR]
def l_tot1(xs:List ZR)(hx:xs.length<=4294967296)(h:10000<xs.length):∀i,i<=xs.length->∀n:Int,Zfr xs n xs xs.length i=some (I (-1),[]):=by
 refine down _ (λn=>?_) λi hi ih n=>?_
 .apply WH.1.1.2.1;rw[Ynx,Ypx]
 .apply WH.1.1.2.1;rw[Ypx,wn hi hx];refine⟨by omega,_,gE hi,_,X0 _ _ _,?_⟩;split
  .exact ih _
  .rfl
def l_tot(xs:List ZR)(hx:xs.length<=4294967296):∀i,i<=xs.length->xs.length<=10000\/i<=10000->∀n:Int,Zpx (Zfr xs n xs xs.length i) (ZkJ xs n i):=by
 refine down _ (λh n=>⟨n,WH.1.1.2.1 _ _ _ _ _ _ ?_,Wd.2.1.1.1 _ _ _ _ ?_⟩) λi hi ih h n=>?_
 .rw[Ynx,Ynx]
 .rw[Ynx]
 .rcases tf (inR xs[i].Zv 0 1000000000000)with e|e
  .refine⟨-1,WH.1.1.2.1 _ _ _ _ _ _ ?_,Wd.2.1.1.1 _ _ _ _ ?_⟩
   .rw[Ypx];exact⟨by omega,_,gE hi,_,X0 _ _ _,by rw[e];rfl⟩
   .rw[Ypx];exact⟨by omega,_,gE hi,_,Xx _ _ _,by rw[e];rfl⟩
  by_cases h1:10000<=i
  .refine⟨-1,l_tot1 xs hx (by omega) i (by omega) n,Wd.2.1.1.1 _ _ _ _ ?_⟩;rw[Ypx];exact⟨by omega,_,gE hi,_,Xx _ _ _,by rw[e,Ya rfl,Ypx]⟩
  .obtain⟨v,a,b⟩:=ih (by omega) (w (n+xs[i].Zv));refine⟨v,WH.1.1.2.1 _ _ _ _ _ _ ?_,Wd.2.1.1.1 _ _ _ _ ?_⟩
   .rw[Ypx,wn hi hx];exact⟨by omega,_,gE hi,_,X0 _ _ _,by rw[e];exact a⟩
   .rw[Ypx,wn hi hx];exact⟨by omega,_,gE hi,_,Xx _ _ _,by rw[e,Ya rfl,Ynx];exact b⟩
def x_tot(xs:List ZR)(hx:xs.length<=4294967296):Zpx (Zfq xs) (Zgu xs) :=
 let ⟨v,a,b⟩:=l_tot xs hx 0 (Yc _) (.inr (Yc _)) 0
 ⟨v,WH.1.1.2.2 _ _ a,Wd.2.1.1.2 _ _ b⟩
def l_gcd2(n:Nat):∀a b:Int,b.natAbs<=n->0<=a/\a<=4611686018427387904->0<=b/\b<=4611686018427387904->∃g,Zfo a b=some (I g,[])/\ZgB a b=some (I g,[])/\0<=g/\(g=0->a=0/\b=0):=by
 have base:∀a:Int,0<=a/\a<=4611686018427387904->∃g,Zfo a 0=some (I g,[])/\ZgB a 0=some (I g,[])/\0<=g/\(g=0->a=0/\(0:Int)=0):=λa ha =>
  ⟨a,ZgU.1 _ _ _ (by rw[Ya rfl,w64 (x:=0-a) (by omega) (by omega),Ynx]),WJ.2.2.2.1 _ _ _ (by rw[Ya rfl]),ha.1,λz=>⟨z,rfl⟩⟩
 induction n with
 |zero =>
  intro a b h ha hb;obtain rfl:b=0:=by omega
  exact base a ha
 |succ n ih =>
  intro a b h ha hb;by_cases e:b=0
  .subst e;exact base a ha
  have h1:(a.tmod b).natAbs<b.natAbs:=by rw[Int.natAbs_tmod];exact Nat.mod_lt _ (by omega)
  have h2:=Int.tmod_nonneg b ha.1;obtain⟨g,i,s,p,k⟩:=ih b (a.tmod b) (by omega) hb ⟨h2,by omega⟩;exact⟨g,ZgU.1 _ _ _ (by rw[Yb e];exact⟨e,i⟩),WJ.2.2.2.1 _ _ _ (by rw[Yb e];exact⟨e,s⟩),p,λz=>absurd (k z).1 e⟩
def Z9t{a b:Int}(ha:0<=a/\a<=4611686018427387904)(hb:0<=b/\b<=4611686018427387904):∃g,Zar a b=some (I g,[])/\(ZdS a=some (I a,[])/\ZdT a b=some (I g,[]))/\0<=g/\(g=0->a=0/\b=0) :=
 let ⟨g,i,s,k⟩:=l_gcd2 _ a b (Yj _) ha hb
 ⟨g,ZgU.2.1 _ _ _ i,⟨WJ.2.2.1.2 _ _ (by rw[Ynx]),WJ.2.2.2.2.1 _ _ _ s⟩,k⟩
def Z9u(r:XO)(h:0<=r.Num):twoB (J9 r) (ZbJ r):=by
 rcases tf (inR r.Den 1 2147483647)with e|e
 .exact⟨false,ZgU.2.2 _ _ ⟨_,X0 _ _ _,by rw[e];rfl⟩,WJ.2.2.2.2.2 _ _ ⟨_,Xx _ _ _,by rw[e];rfl⟩⟩
 rcases tf (inR r.Num (-2147483647) 2147483647)with e2|e2
 .exact⟨false,ZgU.2.2 _ _ ⟨_,X0 _ _ _,by rw[e,Ya rfl];exact⟨_,X0 _ _ _,by rw[e2];rfl⟩⟩,WJ.2.2.2.2.2 _ _ ⟨_,Xx _ _ _,by rw[e,Ya rfl];exact⟨_,Xx _ _ _,by rw[e2];rfl⟩⟩⟩
 have h1:=Zl7.1 e;have h2:=Zl7.1 e2;obtain⟨g,i,⟨s1,s2⟩,_⟩:=Z9t (a:=r.Num) (b:=r.Den) ⟨h,by omega⟩ ⟨by omega,by omega⟩;exact⟨decide (g=1),ZgU.2.2 _ _ ⟨_,X0 _ _ _,by rw[e,Ya rfl];exact⟨_,X0 _ _ _,by rw[e2];exact⟨_,i,rfl⟩⟩⟩,WJ.2.2.2.2.2 _ _ ⟨_,Xx _ _ _,by rw[e,Ya rfl];exact⟨_,Xx _ _ _,by rw[e2];exact⟨_,s1,_,s2,rfl⟩⟩⟩⟩
abbrev twoR(a b:V1):Prop:=∃r:XO,∃o:Bool,0<=r.Num/\a=some (.tup [.agg (r.c.map .t),Bo o],[])/\b=some (.tup [.agg (r.c.map .t),Bo o],[])
def x_mk2{n d:Int}(hn:1<=n/\n<=4611686018427387904)(hd:1<=d/\d<=4611686018427387904):twoR (Zfp n d) (ZgC n d):=by
 obtain⟨g,i,⟨s1,s2⟩,p,k⟩:=Z9t (a:=n) (b:=d) ⟨by omega,hn.2⟩ ⟨by omega,hd.2⟩;have hg:¬g=0:=λz=>by have:=k z;omega
 have h1:(n.tdiv g).natAbs<=n.natAbs:=by rw[Int.natAbs_tdiv];exact Nat.div_le_self _ _
 have h2:0<=n.tdiv g:=Int.tdiv_nonneg (by omega) p;have wn':w (0-n)=0-n:=ZL (by omega) (by omega);have wd':w (0-d)=0-d:=ZL (by omega) (by omega);have hq:0<=w (n.tdiv g):=by rw[show w (n.tdiv g)=n.tdiv g from ZL (by omega) (by omega)];exact h2
 obtain⟨c,vi,vs⟩:=Z9u ⟨w (n.tdiv g),w (d.tdiv g)⟩ hq
 have key:∀r,(if c=true then some (AV.tup [.agg [I (w (n.tdiv g)),I (w (d.tdiv g))],Bo true],([]:V7))=some r else some (AV.tup [.agg [I 0,I 0],Bo false],[])=some r)->Zfp n d=some r/\ZgC n d=some r:=λr h =>
  ⟨ZLk (by rw[Ynx,Ynx,Ynx,Ynx];exact⟨_,i,hg,_,vi,h⟩),
  ZLN (by rw[Ynx,Ynx,Ynx,Ynx];exact⟨_,s1,_,s2,hg,_,vs,h⟩)⟩
 cases c with
 |false=>exact⟨⟨0,0⟩,false,Int.le_refl _,key _ rfl⟩
 |true=>exact⟨⟨w (n.tdiv g),w (d.tdiv g)⟩,true,hq,key _ rfl⟩
def l_bd(b:ZM)(h:b.ZO.length<=4294967296):∀i,i<=b.ZO.length->∀n:Int,Zpx (ZiZ n b.ZO b.ZO.length i) (Zle b n i):=by
 refine down _ (λn=>⟨n,WQ.2.2.2.2.1 _ _ _ _ _ (by rw[Ynx]),WJ.2.1.2.2 _ _ _ _ (by rw[Ynx])⟩) λi hi ih n=>?_
 obtain⟨v,a,s⟩:=ih (if n<(b.ZO[i].length:Int)then(b.ZO[i].length:Int)else n);exact⟨v,WQ.2.2.2.2.1 _ _ _ _ _ (by rw[Ypx,wn hi h];exact⟨by omega,_,gE hi,a⟩),WJ.2.1.2.2 _ _ _ _ (by rw[Ypx,wn hi h];exact⟨by omega,_,gE hi,s⟩)⟩
def x_fac(b:ZM)(h:b.ZO.length<=4294967296):twoR (Zja b) (ZgD b):=by
 obtain⟨v,a,s⟩:=l_bd b h 0 (Yc _) 0;have a:=WQ.2.2.2.2.2 _ _ a;have s:=WJ.2.2.1.1 _ _ s;have hI:=WH.1.1.1.1 b;have hS:=Wn.1.1.1.1 b;rcases tf (inR v 1 10000)with e|e
 .exact⟨⟨0,0⟩,false,Int.le_refl _,hI _ ⟨_,a,_,X0 _ _ _,by rw[e];rfl⟩,hS _ ⟨_,s,_,Xx _ _ _,by rw[e];rfl⟩⟩
 rcases tf (inR b.Xk 2 8)with e2|e2
 .exact⟨⟨0,0⟩,false,Int.le_refl _,hI _ ⟨_,a,_,X0 _ _ _,by rw[e];exact⟨_,X0 _ _ _,by rw[e2];rfl⟩⟩,hS _ ⟨_,s,_,Xx _ _ _,by rw[e];exact⟨_,Xx _ _ _,by rw[e2];rfl⟩⟩⟩
 rcases tf (inR b.XL 0 100)with e3|e3
 .exact⟨⟨0,0⟩,false,Int.le_refl _,hI _ ⟨_,a,_,X0 _ _ _,by rw[e];exact⟨_,X0 _ _ _,by rw[e2];exact⟨_,X0 _ _ _,by rw[e3];rfl⟩⟩⟩,hS _ ⟨_,s,_,Xx _ _ _,by rw[e];exact⟨_,Xx _ _ _,by rw[e2];exact⟨_,Xx _ _ _,by rw[e3];rfl⟩⟩⟩⟩
 have h1:=Zl7.1 e;have h2:=Zl7.1 e2;have h3:=Zl7.1 e3;have f1:100<=v*(100+b.XL)/\v*(100+b.XL)<=2000000:=⟨by have:=Int.mul_le_mul h1.1 (show(100:Int)<=100+b.XL by omega) (by omega) (by omega);omega,by have:=Int.mul_le_mul h1.2 (show 100+b.XL<=(200:Int) by omega) (by omega) (by omega);omega⟩;have f2:200<=v*(100+b.XL)*b.Xk/\v*(100+b.XL)*b.Xk<=16000000:=⟨by have:=Int.mul_le_mul f1.1 h2.1 (by omega) (by omega);omega,by have:=Int.mul_le_mul f1.2 h2.2 (by omega) (by omega);omega⟩;have f3:400<=v*(100+b.XL)*b.Xk*b.Xk/\v*(100+b.XL)*b.Xk*b.Xk<=128000000:=⟨by have:=Int.mul_le_mul f2.1 h2.1 (by omega) (by omega);omega,by have:=Int.mul_le_mul f2.2 h2.2 (by omega) (by omega);omega⟩
 obtain⟨r,o,k,i,j⟩:=x_mk2 (n:=w ((w ((w (v*(w (100+b.XL))))*b.Xk))*b.Xk)) (d:=w (100*(w (b.Xk-1)))) (by
  rw[show w (100+b.XL)=100+b.XL from ZL (by omega) (by omega),show w (v*(100+b.XL))=v*(100+b.XL)from ZL (by omega) (by omega),show w (v*(100+b.XL)*b.Xk)=v*(100+b.XL)*b.Xk from ZL (by omega) (by omega),show w (v*(100+b.XL)*b.Xk*b.Xk)=v*(100+b.XL)*b.Xk*b.Xk from ZL (by omega) (by omega)]
  omega) (by
  rw[show w (b.Xk-1)=b.Xk-1 from ZL (by omega) (by omega),show w (100*(b.Xk-1))=100*(b.Xk-1)from ZL (by omega) (by omega)]
  omega)
 exact⟨r,o,k,hI _ ⟨_,a,_,X0 _ _ _,by rw[e];exact⟨_,X0 _ _ _,by rw[e2];exact⟨_,X0 _ _ _,by rw[e3];exact⟨_,_,i,rfl⟩⟩⟩⟩,hS _ ⟨_,s,_,Xx _ _ _,by rw[e];exact⟨_,Xx _ _ _,by rw[e2];exact⟨_,Xx _ _ _,by rw[e3];exact⟨_,_,j,rfl⟩⟩⟩⟩⟩
def x_inF(t:Int)(r:XO)(o:Int)(h:0<=r.Num):twoB (ZjN t r o) (Zly t r o):=by
 obtain⟨c,i,s⟩:=Z9u r h;have hI:=WY.1.1.2.1 t r o;have hS:=WB.2.2.2.1 t r o
 cases c with
 |false=>exact⟨false,hI _ ⟨_,i,rfl⟩,hS _ ⟨_,s,rfl⟩⟩
 |true =>
 refine⟨inR r.Num 0 1000000 && !decide (10000<r.Den) && inR t 0 100000000000000 && inR o 0 1000000000000 && decide (w (t*r.Den)<=w (r.Num*o)),hI _ ⟨_,i,_,X0 _ _ _,?_⟩,hS _ ⟨_,s,?_⟩⟩
 .rcases tf (inR r.Num 0 1000000)with e|e
  .rw[e];simp
  rw[e,Ya rfl];by_cases e1:10000<r.Den
  .rw[Ya e1];simp[e1]
  rw[Yb e1];refine⟨_,X0 _ _ _,?_⟩;rcases tf (inR t 0 100000000000000)with e2|e2
  .rw[e2];simp
  rw[e2,Ya rfl];refine⟨_,X0 _ _ _,?_⟩;rcases tf (inR o 0 1000000000000)with e3|e3
  .rw[e3];simp
  rw[e3,Ya rfl];simp[e1]
 .rw[Ya rfl,Ynx];refine⟨_,Xx _ _ _,?_⟩;rcases tf (inR t 0 100000000000000)with e2|e2
  .rw[e2];simp
  rw[e2,Ya rfl];refine⟨_,Xx _ _ _,?_⟩;rcases tf (inR o 0 1000000000000)with e3|e3
  .rw[e3];simp
  rw[e3,Ya rfl];by_cases e:1000000<r.Num
  .rw[Ya e,show inR r.Num 0 1000000=false by simp[inR];omega];simp
  rw[Yb e,show inR r.Num 0 1000000=true by simp[inR];omega];by_cases e1:10000<r.Den
  .rw[Ya e1];simp[e1]
  .rw[Yb e1];simp[e1]
def UZ:V6->V6->Bool->V6->Bool×V6
 |v::vs,y::ys,ok,x=>UZ vs ys (ok && (decide (x.getD v.toNat 0=-1) || decide (x.getD v.toNat 0=y))) (x.set v.toNat y)
 |_,_,ok,x=>(ok,x)
theorem Z9v:∀(vs ys:V6) (ok:Bool) (x:V6),(UZ vs ys ok x).2.length=x.length
 |[],_,_,_=>rfl
 |_::_,[],_,_=>rfl
 |v::vs,y::ys,ok,x=>by unfold UZ;rw[Z9v,Ybm]
def Zek:Bool×V6->V4
 |(true,x)=>[x]
 |(false,_)=>[]
def Zl8(vs x r:V6):Option (V6):=if(UZ vs r true x).1=true then some (UZ vs r true x).2 else none
def UB(vs:V6)(rows:V4)(x:V6):V4:=rows.filterMap (Zl8 vs x)
def ZzY(vs:V6)(rows:V4)(x:V6):(UB vs rows x).length<=rows.length:=List.length_filterMap_le _ _
def Zpy{vs:V6}{rows:V4}{x y:V6}(h:y∈UB vs rows x):y.length=x.length:=by
 unfold UB at h;obtain⟨r,_,hr⟩:=Ydc.1 h;unfold Zl8 at hr
 grind [Z9v]
theorem gD{xs:V6}{i:Nat}(h:i<xs.length):xs[i]?=some (xs.getD i 0):=by
 simp_all
def l_ev0(db:Zp)(co:V6)(a:Ze)(cl:YA)(cc:Int)(rows next cn:V4)(m:Int)(c row:V6)(cd:List Ze)(x3 x4 x5 x6 x7 x8:Int)(r:V3)(n:Nat)
  (hr:row.length=a.Za.length) (hv:∀v∈a.Za,0<=v/\v<n) (hl:Le a.Za) (hn:next.length+1<=68719476736):∀k,k<=a.Za.length->∀ok x,x.length=n->
  Zfn db co a cl cc rows (next++Zek (UZ (a.Za.drop k) (row.drop k) ok x)) cn m c cd x3 x4 x5 x6 x7 (w (x8+1))=some r->
  ZiX db co a cl cc rows next x cn m c row ok cd x3 x4 x5 x6 x7 x8 a.Za a.Za.length k=some r:=by
 refine down _ ?_ ?_
 .intro ok x hx h;apply WQ.2.1.2.2;rw[Ynx];rw[Yk]at h;simp only[UZ]at h;rcases tf ok with e|e
  .subst e;rw[Yb (by simp)];simpa[Zek]using h
  .subst e;rw[Ya rfl];exact⟨hn,by simpa[Zek]using h⟩
 .intro k hk ih ok x hx h;have hkr:k<row.length:=by omega
  apply WQ.2.1.2.2;rw[Yi hk,Yi hkr]at h;simp only[UZ]at h;obtain⟨h0,h1⟩:=hv _ (Ye hk);have hx1:a.Za[k].toNat<x.length:=by omega
  rw[Ypx,wS hk hl];refine⟨by omega,_,gE hk,?_⟩;rcases tf ok with e|e
  .subst e;rw[Yb (by simp)];refine⟨_,gE hkr,h0,_,gD hx1,?_⟩;exact ih _ _ (by rw[Ybm];exact hx) (by simpa using h)
  .subst e;rw[Ya rfl];refine⟨h0,_,gD hx1,?_⟩;by_cases e2:x.getD a.Za[k].toNat 0=-1
   .rw[Ya e2];refine⟨_,gE hkr,ih _ _ (by rw[Ybm];exact hx) ?_⟩;simpa only[e2,decide_true,Bool.true_or,Bool.and_true]using h
   .rw[Yb e2];refine⟨_,gE hkr,ih _ _ (by rw[Ybm];exact hx) ?_⟩;simp only[e2,decide_false,Yda,Yn]at h;exact h
def l_ev1(db:Zp)(cn:V6)(a:Ze)(cd:YA)(c:Int)(rows cl:V4)(m:Int)(values:V6)(cc:List Ze)(x3 x4 x5 x6:Int)(r:V3)(n:Nat)
  (hr:∀row∈rows,row.length=a.Za.length) (hR:rows.length<=1000000) (hv:∀v∈a.Za,0<=v/\v<n) (hl:Le a.Za) (hx:values.length=n) (co:n<=1000):∀i,i<=rows.length->∀next:V4,next.length+(rows.length-i)<=1000000->
  Zfm db cn a cd c rows (next++UB a.Za (rows.drop i) values) cl m cc x3 x4 x5 (w (x6+1))=some r->
  Zfn db cn a cd c rows next cl m values cc x3 x4 x5 x6 rows.length i=some r:=by
 refine down _ ?_ ?_
 .intro next hB h
  apply WQ.2.1.1.2;rw[Ynx];rw[Yk]at h;simpa[UB]using h
 .intro i hi ih next hB h
  apply WQ.2.1.1.2;rw[Ypx];refine⟨by omega,_,gE hi,_,Zeg _ (by omega),?_⟩;refine l_ev0 db cn a cd c rows next cl m values rows[i] cc x3 x4 x5 x6 rows.length i r n (hr _ (Ye hi)) hv hl (by omega) 0 (Yc _) true values hx ?_
  rw[wS hi (by omega)];rw[Yi hi]at h;unfold UB at h;rw[List.filterMap_cons]at h;simp only[Ym];rw[show Zl8 a.Za values rows[i]=if(UZ a.Za rows[i] true values).1=true then some (UZ a.Za rows[i] true values).2 else none from rfl]at h;revert h;generalize UZ a.Za rows[i] true values=p;intro h;obtain⟨b,y⟩:=p;rcases tf b with e|e
  .subst e;refine ih _ (by simp[Zek];omega) ?_;simpa[Zek,UB]using h
  .subst e;refine ih _ (by simp[Zek];omega) ?_;simpa[Zek,UB,Y6]using h
def l_ev2(db:Zp)(cc:V6)(a:Ze)(cl:YA)(cd:Int)(rows list:V4)(m:Int)(c:List Ze)(x3 x4:Int)(r:V3)(n:Nat)
  (hr:∀row∈rows,row.length=a.Za.length) (hR:rows.length<=8) (hL:list.length<=4096) (hv:∀v∈a.Za,0<=v/\v<n) (hl:Le a.Za) (hx:∀x∈list,x.length=n) (cn:n<=1000):∀i,i<=list.length->∀next:V4,next.length+rows.length*(list.length-i)<=40000->
  ZcU db cc (next++(list.drop i).flatMap (UB a.Za rows)) m c x3 (w (x4+1))=some r->
  Zfm db cc a cl cd rows next list m c x3 x4 list.length i=some r:=by
 refine down _ ?_ ?_
 .intro next hB h
  apply WQ.1.2.2.2.2;rw[Ynx];rw[Yk]at h;simpa using h
 .intro i hi ih next hB h
  apply WQ.1.2.2.2.2;rw[Ypx];refine⟨by omega,_,gE hi,?_⟩;have hm:rows.length*(list.length-i)=rows.length*(list.length-(i+1))+rows.length:=by
   rw[show list.length-i=(list.length-(i+1))+1 by omega,Ydd]
  refine l_ev1 db cc a cl cd rows list m list[i] c x3 x4 list.length i r n hr (by omega) hv hl (hx _ (Ye hi)) cn 0 (Yc _) next (by omega) ?_
  rw[wS hi (by omega),Ym];have hj:=ZzY a.Za rows list[i];refine ih _ (by rw[Yq];omega) ?_;rw[Yi hi,Ybq,<-Y6]at h;exact h
def JM(d:Zp)(a:Ze):V4:=match X7 d a.Zq with
 |none=>[]
 |some t=>t.Rows
def Ji(d:Zp)(m:Int):List Ze->Nat->V4->V4
 |[],_,l=>l
 |a::ts,i,l=>Ji d m ts (i+1) (if andI (shrI m i) 1=0 then l else l.flatMap (UB a.Za (JM d a)))
def Zhk{α β:Type}(f:α->List β)(k:Nat)(hf:∀x,(f x).length<=k):∀l:List α,(l.flatMap f).length<=k*l.length
 |[]=>by simp
 |x::l=>by rw[Ybq,Yq,Yw,Ydd];have:=hf x;have:=Zhk f k hf l;omega
def l_ev3(d:Zp)(hd:LeD d)(c:V6)(m:Int)(atoms:List Ze)(r:V3)(n:Nat)(cc:n<=1000)
  (ha:∀a∈atoms,Le a.Za/\(∀v∈a.Za,0<=v/\v<n)/\WZ d a=true) (h4:atoms.length<=4):∀i,i<=atoms.length->∀list:V4,list.length<=8 ^ i->(∀x∈list,x.length=n)->
  ZiW c (Ji d m (atoms.drop i) i list) (Ji d m (atoms.drop i) i list).length 0=some r->
  ZcU d c list m atoms atoms.length i=some r:=by
 refine down _ ?_ ?_
 .intro list hL hx h;apply WQ.1.2.2.2.1;rw[Ynx];rw[Yk]at h;exact h
 .intro i hi ih list hL hx h;obtain⟨h1,h2,h3⟩:=ha _ (Ye hi);have hp:8 ^ i<=512:=Yr (Nat.pow_le_pow_right (by omega) (show i<=3 by omega)) (by decide);apply WQ.1.2.2.2.1;rw[Yi hi]at h;rw[Ypx];refine⟨by omega,_,gE hi,by omega,?_⟩;rw[Ji]at h;by_cases e:andI (shrI m i) 1=0
  .rw[Ya e]at h|-;rw[wS hi (by omega)];exact ih _ (Yr hL (Nat.pow_le_pow_right (by omega) (by omega))) hx h
  .rw[Yb e]at h|-;unfold WZ at h3;unfold JM at h;have hk:=ZaF d hd atoms[i].Zq
   cases e3:X7 d atoms[i].Zq with
   |none=>rw[e3]at h3;simp at h3
   |some t =>
    rw[e3]at h3 h hk;simp only[decide_eq_true_eq]at h3 h;obtain⟨hv,ht,_⟩:=Zej e3;have hT:=Qx hv ht;have h8:=Zei hT;have hrow:∀row∈t.Rows,row.length=atoms[i].Za.length:=by
     intro row hrow;unfold XU at hT;simp only[Yg]at hT;have:=Yl.1 hT.2.1 row hrow;unfold rwB at this;simp only[Yg,decide_eq_true_eq]at this;omega
    refine .inr ⟨_,_,_,hk,?_⟩;have hfl:=Zhk (UB atoms[i].Za t.Rows) 8 (λx=>Yr (ZzY _ _ _) h8) list;refine l_ev2 d c atoms[i] t.Zq t.Zu t.Rows list m atoms atoms.length i r n hrow h8 (by omega) h2 h1 hx cc 0 (Yc _) [] ?_ ?_
    .have:t.Rows.length*(list.length-0)<=8*512:=Ycb h8 (by omega)
     simp at this|-;omega
    .rw[wS hi (by omega),Ybi,Ym];refine ih _ ?_ ?_ h
     .rw[Nat.pow_succ];omega
     .intro y hy;obtain⟨x,hx1,hy1⟩:=Ybw.1 hy;rw[Zpy hy1];exact hx x hx1
end Go.Proofs.YthpdbpfamhcgiaaGreat
namespace Go.Stb
open Go.Sort
variable{α:Type}[Inhabited α](k:α->Int)
def ltK(x y:α):Bool:=decide (k x<k y)
def Srt(a b:Nat)(d:Array α):Prop:=∀x y,a<=x->x<y->y<b->k d[x]!<=k d[y]!
structure Stp (a b:Nat) (d e:Array α):Prop where
 size:e.size=d.size
 out:∀x,(x<a\/b<=x)->e[x]! = d[x]!
 pres:∀P:α->Prop,(∀x,a<=x->x<b->P d[x]!)->∀x,a<=x->x<b->P e[x]!
 stab:∀v:Int,e.toList.filter (λx=>decide (k x=v))=d.toList.filter (λx=>decide (k x=v))
variable{k}
omit [Inhabited α] in
theorem swoK:SWO (ltK k) where
 irrefl x:=by simp[ltK]
 trans x y z h1 h2:=by simp only[ltK,decide_eq_true_eq]at *;omega
 ntrans x y z h1 h2:=by simp only[ltK,decide_eq_false_iff_not]at *;omega
theorem Stp.refl(a b:Nat)(d:Array α):Stp k a b d d:=⟨rfl,λ_ _=>rfl,λP h=>h,λ_=>rfl⟩
theorem Stp.trans{a b:Nat}{d e f:Array α}(h:Stp k a b d e)(g:Stp k a b e f):Stp k a b d f :=
 ⟨g.size.trans h.size,λx hx=>(g.out x hx).trans (h.out x hx),λP hp=>g.pres P (h.pres P hp),λv=>(g.stab v).trans (h.stab v)⟩
theorem Stp.mono{a b a' b':Nat}{d e:Array α}(h:Stp k a b d e)(ha:a'<=a)(hb:b<=b'):Stp k a' b' d e where
 size:=h.size
 out x hx:=h.out x (by omega)
 pres P hp x h1 h2:=by
  by_cases hx:a<=x/\x<b
  .exact h.pres P (λy y1 y2=>hp y (by omega) (by omega)) x hx.1 hx.2
  .rw[h.out x (by omega)];exact hp x h1 h2
 stab:=h.stab
theorem Srt.out{a b c d:Nat}{x y:Array α}(h:Srt k a b x)(g:Stp k c d x y)(hd:b<=c\/d<=a):Srt k a b y:=by
 intro i j h1 h2 h3;rw[g.out i (by omega),g.out j (by omega)];exact h i j h1 h2 h3
theorem Srt.sub{a b a' b':Nat}{x:Array α}(h:Srt k a b x)(ha:a<=a')(hb:b'<=b):Srt k a' b' x :=
 λi j h1 h2 h3=>h i j (by omega) h2 (by omega)
theorem Srt.le{a b:Nat}{x:Array α}(h:Srt k a b x){i j:Nat}(h1:a<=i)(h2:i<=j)(h3:j<b):k x[i]!<=k x[j]!:=by
 by_cases e:i=j
 .simp_all
 .exact h i j h1 (by omega) h3
theorem Zpz(d:Array α)(x:Nat)(h:x<d.size):d.toList[x]?=some d[x]!:=by
 simp_all
theorem ZzZ{l:List α}{e:Array α}(hl:l.length=e.size)(h:∀x,x<e.size->l[x]?=some e[x]!):e.toList=l:=by
 apply List.ext_getElem?
 grind
omit [Inhabited α] in
theorem Z9w(p x y s:List α)(v:Int)(h:∀a∈x,∀b∈y,k a≠k b):(p++y++x++s).filter (λa=>decide (k a=v))=(p++x++y++s).filter (λa=>decide (k a=v)):=by
 simp only[List.filter_append];by_cases hx:x.filter (λa=>decide (k a=v))=[]
 .rw[hx];simp
 .by_cases hy:y.filter (λa=>decide (k a=v))=[]
  .rw[hy];simp
  .obtain⟨a,ha⟩:=List.exists_mem_of_ne_nil _ hx;obtain⟨b,hb⟩:=List.exists_mem_of_ne_nil _ hy
   grind
theorem ZNi(d:Array α)(i:Nat)(h:i+1<d.size):(swp d (i+1) i).toList=d.toList.take i++[d[i+1]!]++[d[i]!]++d.toList.drop (i+2):=by
 refine ZzZ (by simp[swp_size];omega) λx hx=>?_
 rw[swp_size]at hx;rw[swp_get d h (show i<d.size by omega)];by_cases h1:x<i
 .grind
 .by_cases h2:x=i
  .grind
  .by_cases h3:x=i+1
   .grind
   .rw[if_neg h2,if_neg h3,List.getElem?_append_right (by simp;omega),List.getElem?_drop]
    grind
theorem Z0a(d:Array α)(i:Nat)(h:i+1<d.size):d.toList=d.toList.take i++[d[i]!]++[d[i+1]!]++d.toList.drop (i+2):=by
 refine ZzZ (by simp;omega) λx hx=>?_
 by_cases h1:x<i
 .grind
 .by_cases h2:x=i
  .grind
  .by_cases h3:x=i+1
   .grind
   .rw[List.getElem?_append_right (by simp;omega),List.getElem?_drop]
    grind
theorem Zp0(d:Array α)(i:Nat)(h:i+1<d.size)(hk:k d[i+1]!<k d[i]!):Stp k i (i+2) d (swp d (i+1) i):=by
 have g:=swp_get d h (show i<d.size by omega);refine⟨swp_size _ _ _,λx hx=>by rw[g,if_neg (by omega),if_neg (by omega)],λP hp x h1 h2=>?_,λv=>?_⟩
 .grind
 .rw[ZNi d i h,Z0a d i h];have hl:(d.toList.take i++[d[i]!]++[d[i+1]!]++d.toList.drop (i+2)).take i=d.toList.take i:=by rw[<-Z0a d i h]
  have hr:(d.toList.take i++[d[i]!]++[d[i+1]!]++d.toList.drop (i+2)).drop (i+2)=d.toList.drop (i+2):=by rw[<-Z0a d i h]
  rw[hl,hr];exact Z9w _ _ _ _ v (by simp;omega)
theorem ZNj(d:Array α)(i j:Nat)(hi:i<d.size)(hj:j<d.size):swp d i j=swp d j i:=by
 refine Array.ext (by rw[swp_size,swp_size]) λx h1 h2=>?_
 have g1:=swp_get d hi hj x;have g2:=swp_get d hj hi x
 grind
theorem Z0b(a:Nat):∀(j:Nat) (d:Array α) (b:Nat),a<=j->j<b->b<=d.size->Stp k a b d (insInner (ltK k) a j d)
 |0,d,b,_,_,_=>by unfold insInner;exact .refl _ _ _
 |j+1,d,b,haj,hjb,hb=>by
  unfold insInner;split
  .rename_i hc;simp only[Bool.and_eq_true,decide_eq_true_eq,ltK]at hc;exact((Zp0 d j (by omega) hc.2).mono (by omega) (by omega)).trans (Z0b a j _ b (by omega) (by omega) (by rw[swp_size];exact hb))
  .exact .refl _ _ _
theorem Z9x(a b:Nat):∀(n i:Nat) (d:Array α),b-i=n->a<i->b<=d.size->Stp k a b d (insOuter (ltK k) a b i d)
 |0,i,d,hn,_,_=>by rw[insOuter,if_neg (by omega)];exact .refl _ _ _
 |n+1,i,d,hn,hai,hb=>by
  rw[insOuter,if_pos (by omega)];have h1:=Z0b (k:=k) a i d b (by omega) (by omega) hb;exact h1.trans (Z9x a b n (i+1) _ (by omega) (by omega) (by rw[h1.size];exact hb))
theorem ZNk(d:Array α)(a b:Nat)(hb:b<=d.size):Stp k a b d (insertionSort (ltK k) d a b):=Z9x a b _ _ d rfl (by omega) hb
theorem ZNl(d:Array α)(a b:Nat)(c:a<=b)(hb:b<=d.size):Srt k a b (insertionSort (ltK k) d a b):=by
 have h:=(insertionSort_holds (lt:=ltK k) swoK d a b c hb).2;intro x y h1 h2 h3;have:=h x y h1 h2 h3;simp only[ltK,decide_eq_false_iff_not]at this;omega
def swr(a b:Nat):Nat->Array α->Array α
 |0,d=>d
 |n+1,d=>swp (swr a b n d) (a+n) (b+n)
theorem JN(a b:Nat):∀(n:Nat) (d:Array α),(swr a b n d).size=d.size
 |0,d=>rfl
 |n+1,d=>by rw[swr,swp_size,JN]
theorem Z9y(a b:Nat):∀(n:Nat) (d:Array α),a+n<=b->b+n<=d.size->∀x,(swr a b n d)[x]! = if a<=x/\x<a+n then d[b+(x-a)]! else if b<=x/\x<b+n then d[a+(x-b)]! else d[x]!
 |0,d,_,_,x=>by rw[if_neg (by omega),if_neg (by omega)];rfl
 |n+1,d,h1,h2,x=>by
  have ih:=Z9y a b n d (by omega) (by omega);rw[swr,swp_get _ (by rw[JN];omega) (by rw[JN];omega),ih,ih,ih]
  grind
theorem Z0c(d:Array α)(p x m y s:List α)(h:d.toList=p++(x++(m++(y++s))))(c:y.length=x.length){a b n:Nat}(ha:a=p.length)(hb:b=a+x.length+m.length)(hn:n=x.length) :
  (swr a b n d).toList=p++(y++(m++(x++s))):=by
 have hs:d.size=p.length+(x.length+(m.length+(y.length+s.length))):=by
  grind [Array.length_toList]
 have hd:∀i,i<d.size->(p++(x++(m++(y++s))))[i]?=some d[i]!:=λi hi=>by rw[<-h];exact Zpz d i hi
 refine ZzZ (by rw[JN,hs];simp;omega) λi hi=>?_
 rw[JN]at hi;rw[Z9y a b n d (by omega) (by omega)];by_cases e0:i<p.length
 .grind
 .rw[List.getElem?_append_right (by omega)];by_cases e1:i-p.length<y.length
  .have:=hd (b+(i-a)) (by omega)
   grind
  .rw[List.getElem?_append_right (by omega)];by_cases e2:i-p.length-y.length<m.length
   .grind
   .rw[List.getElem?_append_right (by omega)];by_cases e3:i-p.length-y.length-m.length<x.length
    .have:=hd (a+(i-b)) (by omega);rw[List.getElem?_append_right (by omega),List.getElem?_append_left (by omega)]at this
     grind
    .grind
structure Rot (a m b:Nat) (d:Array α) (i j:Nat) (e:Array α):Prop where
 size:e.size=d.size
 ex:∀P X Y S,d.toList=P++(X++(Y++S))->P.length=a->a+X.length=m->m+Y.length=b->
  ∃p x y s,e.toList=p++(x++(y++s))/\p.length=m-i/\x.length=i/\y.length=j/\p++(y++(x++s))=P++(Y++(X++S))
omit [Inhabited α] in
theorem Rot.start{a m b:Nat}(d:Array α)(h1:a<=m)(h2:m<=b):Rot a m b d (m-a) (b-m) d :=
 ⟨rfl,λP X Y S h p1 p2 p3=>⟨P,X,Y,S,h,by omega,by omega,by omega,rfl⟩⟩
theorem Rot.gt{a m b i j:Nat}{d e:Array α}(R:Rot a m b d i j e)(h:j<i)(hi:i<=m):Rot a m b d (i-j) j (swr (m-i) m j e):=by
 refine⟨(JN _ _ _ _).trans R.size,λP X Y S h0 p1 p2 p3=>?_⟩;obtain⟨p,x,y,s,he,q1,q2,q3,q4⟩:=R.ex P X Y S h0 p1 p2 p3;refine⟨p++y,x.drop j,x.take j,s,?_,by simp;omega,by simp;omega,by simp;omega,?_⟩
 .grind [Z0c,List.append_assoc,List.take_append_drop]
 .grind [List.append_assoc,List.take_append_drop]
theorem Rot.lt{a m b i j:Nat}{d e:Array α}(R:Rot a m b d i j e)(h:i<j)(hi:i<=m):Rot a m b d i (j-i) (swr (m-i) (m+j-i) i e):=by
 refine⟨(JN _ _ _ _).trans R.size,λP X Y S h0 p1 p2 p3=>?_⟩;obtain⟨p,x,y,s,he,q1,q2,q3,q4⟩:=R.ex P X Y S h0 p1 p2 p3;refine⟨p,y.drop (j-i),y.take (j-i),x++s,?_,by omega,by simp;omega,by simp;omega,?_⟩
 .rw[Z0c e p x (y.take (j-i)) (y.drop (j-i)) s (by rw[he,<-List.append_assoc (y.take (j-i)),List.take_append_drop]) (by simp;omega) (by omega) (by simp;omega) (by omega)]
 .grind [List.append_assoc,List.take_append_drop]
theorem Rot.eq{a m b i:Nat}{d e:Array α}(R:Rot a m b d i i e)(hi:i<=m):∀P X Y S,d.toList=P++(X++(Y++S))->P.length=a->a+X.length=m->m+Y.length=b->(swr (m-i) m i e).toList=P++(Y++(X++S)):=by
 intro P X Y S h0 p1 p2 p3;obtain⟨p,x,y,s,he,q1,q2,q3,q4⟩:=R.ex P X Y S h0 p1 p2 p3;rw[Z0c e p x [] y s he (by omega) (by omega) (by simp;omega) (by omega),<-q4];rfl
structure Rtd (a m b:Nat) (d e:Array α):Prop where
 size:e.size=d.size
 lo:∀x,a<=x->x<a+(b-m)->e[x]! = d[m+(x-a)]!
 hi:∀x,a+(b-m)<=x->x<b->e[x]! = d[a+(x-(a+(b-m)))]!
 out:∀x,(x<a\/b<=x)->e[x]! = d[x]!
 list:e.toList=d.toList.take a++((d.toList.drop m).take (b-m)++((d.toList.drop a).take (m-a)++d.toList.drop b))
omit [Inhabited α] in
theorem Z0d(d:Array α)(a m b:Nat)(h1:a<=m)(h2:m<=b)(h3:b<=d.size):d.toList=d.toList.take a++((d.toList.drop a).take (m-a)++((d.toList.drop m).take (b-m)++d.toList.drop b)):=by
 have e1:d.toList.drop b=(d.toList.drop m).drop (b-m):=by rw[List.drop_drop];congr 1;omega
 have e2:d.toList.drop m=(d.toList.drop a).drop (m-a):=by rw[List.drop_drop];congr 1;omega
 grind [List.take_append_drop]
theorem rtd_of{a m b:Nat}{d e:Array α}(h1:a<=m)(h2:m<=b)(h3:b<=d.size)(h:∀P X Y S,d.toList=P++(X++(Y++S))->P.length=a->a+X.length=m->m+Y.length=b->e.toList=P++(Y++(X++S))):Rtd a m b d e:=by
 have hl:=h _ _ _ _ (Z0d d a m b h1 h2 h3) (by simp;omega) (by simp;omega) (by simp;omega);have hs:e.size=d.size:=by rw[<-Array.length_toList,hl];simp;omega
 have hg:∀x,x<d.size->some e[x]! = (d.toList.take a++((d.toList.drop m).take (b-m)++((d.toList.drop a).take (m-a)++d.toList.drop b)))[x]?:=λx hx=>by rw[<-hl,Zpz e x (by omega)]
 refine⟨hs,λx p q=>?_,λx p q=>?_,λx p=>?_,hl⟩
 .grind
 .grind
 .by_cases hx:x<d.size
  .have:=hg x hx;rcases p with p|p
   .grind
   .rw[List.getElem?_append_right (by simp;omega),List.getElem?_append_right (by simp;omega),List.getElem?_append_right (by simp;omega),List.getElem?_drop,Zpz d _ (by simp;omega)]at this;rw[Option.some.inj this];congr 1;simp;omega
  .simp_all
theorem Rtd.stp{a m b:Nat}{d e:Array α}(R:Rtd a m b d e)(h1:a<=m)(h2:m<=b)(h3:b<=d.size)(hk:∀x y,a<=x->x<m->m<=y->y<b->k d[y]!<k d[x]!):Stp k a b d e:=by
 refine⟨R.size,R.out,λP hp x p q=>?_,λv=>?_⟩
 .by_cases hx:x<a+(b-m)
  .rw[R.lo x p hx];exact hp _ (by omega) (by omega)
  .rw[R.hi x (by omega) q];exact hp _ (by omega) (by omega)
 .have hc:=Z0d d a m b h1 h2 h3;have hl:=R.list;generalize hP:d.toList.take a=P at hc hl;generalize hX:(d.toList.drop a).take (m-a)=X at hc hl;generalize hY:(d.toList.drop m).take (b-m)=Y at hc hl;generalize d.toList.drop b=S at hc hl;rw[hl,hc]
  have:=Z9w (k:=k) P X Y S v (λx hx y hy=>by
   rw[<-hX]at hx;rw[<-hY]at hy;obtain⟨i,hi,ei⟩:=List.getElem_of_mem hx;obtain⟨j,hj,ej⟩:=List.getElem_of_mem hy;simp only[List.length_take,List.length_drop,Array.length_toList]at hi hj;rw[List.getElem_take,List.getElem_drop]at ei ej;have:=hk (a+i) (m+j) (by omega) (by omega) (by omega) (by omega);rw[getElem!_pos d _ (by omega),getElem!_pos d _ (by omega)]at this;rw[<-ei,<-ej,Array.getElem_toList,Array.getElem_toList]
   omega)
  simpa only[List.append_assoc]using this
end Go.Stb
namespace Go.Stb
open Go.Sort
variable{α:Type}[Inhabited α]{k:α->Int}
structure Shl (a q:Nat) (d e:Array α):Prop where
 size:e.size=d.size
 aq:a<=q
 le:∀x,a<=x->x<q->e[x]! = d[x+1]!
 at_:e[q]! = d[a]!
 out:∀x,(x<a\/q<x)->e[x]! = d[x]!
theorem Shl.start(a:Nat)(d:Array α):Shl a a d d:=⟨rfl,Nat.le_refl _,λx h1 h2=>by omega,rfl,λ_ _=>rfl⟩
theorem Shl.next{a q:Nat}{d e:Array α}(h:Shl a q d e)(hq:q+1<d.size):Shl a (q+1) d (swp e (q+1) q):=by
 have hs:=h.size;have haq:=h.aq;have g:=swp_get e (show q+1<e.size by omega) (show q<e.size by omega);refine⟨(swp_size _ _ _).trans hs,by omega,λx h1 h2=>?_,?_,λx hx=>?_⟩
 .rw[g];by_cases e1:x=q
  .subst e1;rw[if_pos rfl,h.out _ (by omega)]
  .rw[if_neg e1,if_neg (by omega)];exact h.le x h1 (by omega)
 .rw[g,if_neg (by omega),if_pos rfl,h.at_]
 .rw[g,if_neg (by omega),if_neg (by omega)];exact h.out x (by omega)
theorem Shl.stp{a q:Nat}{d e:Array α}(h:Shl a q d e)(hq:q+1<d.size)(hk:k d[q+1]!<k d[a]!):Stp k q (q+2) e (swp e (q+1) q) :=
 Zp0 e q (by rw[h.size];exact hq) (by rw[h.at_,h.out _ (by omega)];exact hk)
theorem Shl.srt{a i b:Nat}{d e:Array α}(h:Shl a i d e)(hs:Srt k (a+1) b d)(h1:i=a\/k d[i]!<k d[a]!)(h2:i+1=b\/k d[a]!<=k d[i+1]!)(c:i<b):Srt k a b e:=by
 have hi:=h.aq;intro x y hx hxy hy;by_cases e1:y<i
 .rw[h.le x hx (by omega),h.le y (by omega) e1];exact hs _ _ (by omega) (by omega) (by omega)
 .by_cases e2:y=i
  .subst e2;rw[h.le x hx hxy,h.at_];have:=hs.le (i:=x+1) (j:=y) (by omega) (by omega) (by omega);omega
  .rw[h.out y (by omega)];by_cases e3:x=i
   .subst e3;rw[h.at_];have:=hs.le (i:=x+1) (j:=y) (by omega) (by omega) hy;omega
   .by_cases e4:x<i
    .rw[h.le x hx e4];exact hs _ _ (by omega) (by omega) hy
    .rw[h.out x (by omega)];exact hs _ _ (by omega) hxy hy
structure Shr (q m:Nat) (d e:Array α):Prop where
 size:e.size=d.size
 qm:q<=m
 le:∀x,q<x->x<=m->e[x]! = d[x-1]!
 at_:e[q]! = d[m]!
 out:∀x,(x<q\/m<x)->e[x]! = d[x]!
theorem Shr.start(m:Nat)(d:Array α):Shr m m d d:=⟨rfl,Nat.le_refl _,λx h1 h2=>by omega,rfl,λ_ _=>rfl⟩
theorem Shr.next{q m:Nat}{d e:Array α}(h:Shr (q+1) m d e)(hm:m<d.size):Shr q m d (swp e (q+1) q):=by
 have hs:=h.size;have hqm:=h.qm;have g:=swp_get e (show q+1<e.size by omega) (show q<e.size by omega);refine⟨(swp_size _ _ _).trans hs,by omega,λx h1 h2=>?_,?_,λx hx=>?_⟩
 .rw[g,if_neg (by omega)];by_cases e1:x=q+1
  .subst e1;rw[if_pos rfl,h.out _ (by omega)];rfl
  .rw[if_neg e1];exact h.le x (by omega) h2
 .rw[g,if_pos rfl,h.at_]
 .rw[g,if_neg (by omega),if_neg (by omega)];exact h.out x (by omega)
theorem Shr.stp{q m:Nat}{d e:Array α}(h:Shr (q+1) m d e)(hm:m<d.size)(hk:k d[m]!<k d[q]!):Stp k q (q+2) e (swp e (q+1) q):=by
 have:=h.qm;exact Zp0 e q (by rw[h.size];omega) (by rw[h.at_,h.out _ (by omega)];exact hk)
theorem Shr.srt{a i m:Nat}{d e:Array α}(h:Shr i m d e)(hs:Srt k a m d)(h1:i=a\/k d[i-1]!<=k d[m]!)(h2:i=m\/k d[m]!<k d[i]!)(c:a<=i):Srt k a (m+1) e:=by
 have hi:=h.qm;intro x y hx hxy hy;by_cases e1:i<x
 .rw[h.le x e1 (by omega),h.le y (by omega) (by omega)];exact hs _ _ (by omega) (by omega) (by omega)
 .by_cases e2:x=i
  .subst e2;rw[h.at_,h.le y hxy (by omega)];have:=hs.le (i:=x) (j:=y-1) (by omega) (by omega) (by omega);omega
  .rw[h.out x (by omega)];by_cases e3:y=i
   .subst e3;rw[h.at_];have:=hs.le (i:=x) (j:=y-1) (by omega) (by omega) (by omega);omega
   .by_cases e4:i<y
    .rw[h.le y e4 (by omega)];exact hs.le (by omega) (by omega) (by omega)
    .rw[h.out y (by omega)];exact hs _ _ (by omega) hxy (by omega)
structure Cut (k:α->Int) (a m b mid s:Nat) (d:Array α):Prop where
 am:a<m
 mb:m<b
 sz:b<=d.size
 l1:a<mid
 l2:mid<b
 s1:a<=s
 s2:s<=m
 s3:s<=mid
 s4:mid+m<=s+b
 lo:Srt k a m d
 hi:Srt k m b d
 c1:(s=a\/mid+m=s+b)\/k d[s-1]!<=k d[mid+m-s]!
 c2:(s=mid\/s=m)\/k d[mid+m-s-1]!<k d[s]!
theorem ZNm{s m e:Nat}(d:Array α)(h1:s<=m)(h2:m<=e)(h3:e<=d.size)(h:s=m\/e=m):Rtd s m e d d:=by
 refine⟨rfl,λx p q=>?_,λx p q=>?_,λ_ _=>rfl,?_⟩
 .congr 1;omega
 .congr 1;omega
 .have hc:=Z0d d s m e h1 h2 h3;rcases h with h|h
  .grind
  .grind
structure Zp1 (k:α->Int) (a b mid s t:Nat) (d e:Array α):Prop where
 stp:Stp k a b d e
 q1:Srt k a s e
 q2:Srt k s mid e
 q3:Srt k mid t e
 q4:Srt k t b e
 cross:∀x y,a<=x->x<mid->mid<=y->y<b->k e[x]!<=k e[y]!
theorem Cut.turn{a m b mid s:Nat}{d e:Array α}(C:Cut k a m b mid s d)(R:Rtd s m (mid+m-s) d e):Zp1 k a b mid s (mid+m-s) d e:=by
 obtain⟨am,mb,sz,l1,l2,s1,s2,s3,s4,lo,hi,c1,c2⟩:=C;have hlo:∀x,s<=x->x<mid->e[x]! = d[m+(x-s)]!:=λx p q=>R.lo x p (by omega)
 have hhi:∀x,mid<=x->x<mid+m-s->e[x]! = d[s+(x-mid)]!:=λx p q=>by
  rw[R.hi x (by omega) q];congr 1;omega
 refine⟨?_,?_,?_,?_,?_,?_⟩
 .refine(R.stp s2 (by omega) (by omega) λx y p q r t=>?_).mono s1 (by omega);have h1:=lo.le (i:=s) (j:=x) s1 p q;have h2:=hi.le (i:=y) (j:=mid+m-s-1) r (by omega) (by omega);omega
 .intro x y p q r;rw[R.out x (by omega),R.out y (by omega)];exact lo x y p q (by omega)
 .intro x y p q r;rw[hlo x p (by omega),hlo y (by omega) r];exact hi _ _ (by omega) (by omega) (by omega)
 .intro x y p q r;rw[hhi x p (by omega),hhi y (by omega) r];exact lo _ _ (by omega) (by omega) (by omega)
 .intro x y p q r;rw[R.out x (by omega),R.out y (by omega)];exact hi x y (by omega) q r
 .intro x y p q r t;by_cases hx:x<s
  .rw[R.out x (by omega)];by_cases hy:y<mid+m-s
   .rw[hhi y r hy];exact lo.le p (by omega) (by omega)
   .rw[R.out y (by omega)];have h1:=lo.le (i:=x) (j:=s-1) p (by omega) (by omega);have h2:=hi.le (i:=mid+m-s) (j:=y) (by omega) (by omega) t;omega
  .rw[hlo x (by omega) q];by_cases hy:y<mid+m-s
   .rw[hhi y r hy];have h1:=hi.le (i:=m+(x-s)) (j:=mid+m-s-1) (by omega) (by omega) (by omega);have h2:=lo.le (i:=s) (j:=s+(y-mid)) s1 (by omega) (by omega);omega
   .rw[R.out y (by omega)];exact hi.le (by omega) (by omega) t
theorem Zp1.join{a b mid s t:Nat}{d e f g:Array α}(C:Zp1 k a b mid s t d e)(h1:a<=mid)(h2:mid<=b)(F:Stp k a mid e f)(F':Srt k a mid f)(G:Stp k mid b f g)(G':Srt k mid b g):Stp k a b d g/\Srt k a b g:=by
 refine⟨(C.stp.trans (F.mono (Nat.le_refl _) h2)).trans (G.mono h1 (Nat.le_refl _)),?_⟩;intro x y p q r;by_cases hy:y<mid
 .rw[G.out x (by omega),G.out y (by omega)];exact F' x y p q hy
 .by_cases hx:mid<=x
  .exact G' x y hx q r
  .have hf:∀x,a<=x->x<mid->∀z,mid<=z->z<b->k f[x]!<=k e[z]!:=by
    refine F.pres (λv=>∀z,mid<=z->z<b->k v<=k e[z]!) λx p q z r t=>C.cross x z p q r t
   have hg:∀y,mid<=y->y<b->k f[x]!<=k g[y]!:=by
    refine G.pres (λv=>k f[x]!<=k v) λy r t=>?_
    rw[F.out y (by omega)]
    simp_all
   rw[G.out x (by omega)];exact hg y (by omega) r
theorem Z9z{a s b:Nat}{e:Array α}(h1:Srt k a s e)(h2:Srt k s b e)(h:¬(a<s/\s<b))(h3:a<=s)(h4:s<=b):Srt k a b e:=by
 grind
def Bks(k:α->Int)(bs n:Nat)(d:Array α):Prop:=∀c,Srt k (c*bs) (min ((c+1)*bs) n) d
def Mid(k:α->Int)(bs n a:Nat)(d:Array α):Prop:=∃t,a=t*(2*bs)/\(∀c,c<t->Srt k (c*(2*bs)) ((c+1)*(2*bs)) d)/\∀c,2*t<=c->Srt k (c*bs) (min ((c+1)*bs) n) d
theorem Mid.start{bs n:Nat}{d:Array α}(h:Bks k bs n d):Mid k bs n 0 d:=⟨0,by omega,λc hc=>by omega,λc _=>h c⟩
theorem Mid.two{bs n a:Nat}{d:Array α}(h:Mid k bs n a d):Srt k a (min (a+bs) n) d/\Srt k (a+bs) (min (a+2*bs) n) d:=by
 obtain⟨t,rfl,h1,h2⟩:=h;have g1:=h2 (2*t) (by omega);have g2:=h2 (2*t+1) (by omega)
 grind
theorem Mid.next{bs n a:Nat}{d e:Array α}(h:Mid k bs n a d)(S:Stp k a (a+2*bs) d e)(S':Srt k a (a+2*bs) e):Mid k bs n (a+2*bs) e:=by
 obtain⟨t,rfl,h1,h2⟩:=h;refine⟨t+1,by rw[Nat.add_mul];omega,λc hc=>?_,λc hc=>?_⟩
 .by_cases e1:c=t
  .grind
  .refine(h1 c (by omega)).out S (.inl ?_);exact Nat.mul_le_mul_right _ (by omega)
 .refine(h2 c (by omega)).out S (.inr ?_)
  have:(2*(t+1))*bs<=c*bs:=Nat.mul_le_mul_right _ (by omega)
  grind
theorem Mid.end_{bs n a:Nat}{d e:Array α}(h:Mid k bs n a d)(hn:n<a+2*bs)(S:Stp k a n d e)(S':Srt k a n e):Bks k (2*bs) n e:=by
 obtain⟨t,rfl,h1,h2⟩:=h;intro c;by_cases e1:c<t
 .have:(c+1)*(2*bs)<=t*(2*bs):=Nat.mul_le_mul_right _ (by omega)
  exact((h1 c e1).sub (Nat.le_refl _) (Nat.min_le_left _ _)).out S (.inl (by omega))
 .by_cases e2:c=t
  .grind
  .have:(t+1)*(2*bs)<=c*(2*bs):=Nat.mul_le_mul_right _ (by omega)
   rw[Nat.add_mul]at this;intro x y p q r;omega
def Ini(k:α->Int)(a:Nat)(d:Array α):Prop:=∃t,a=t*20/\∀c,c<t->Srt k (c*20) ((c+1)*20) d
theorem Ini.start(d:Array α):Ini k 0 d:=⟨0,by omega,λc hc=>by omega⟩
theorem Ini.next{a:Nat}{d e:Array α}(h:Ini k a d)(S:Stp k a (a+20) d e)(S':Srt k a (a+20) e):Ini k (a+20) e:=by
 obtain⟨t,rfl,h1⟩:=h;refine⟨t+1,by omega,λc hc=>?_⟩;by_cases e1:c=t
 .grind
 .exact(h1 c (by omega)).out S (.inl (by omega))
theorem Ini.end_{a n:Nat}{d e:Array α}(h:Ini k a d)(hn:n<a+20)(S:Stp k a n d e)(S':Srt k a n e):Bks k 20 n e:=by
 obtain⟨t,rfl,h1⟩:=h;intro c;by_cases e1:c<t
 .exact((h1 c e1).sub (Nat.le_refl _) (Nat.min_le_left _ _)).out S (.inl (by omega))
 .by_cases e2:c=t
  .grind
  .intro x y p q r;omega
theorem Bks.whole{bs n:Nat}{d:Array α}(h:Bks k bs n d)(hn:n<=bs):Srt k 0 n d:=by
 have:=h 0
 simp_all
omit [Inhabited α] in
theorem Z0e:∀(n:Nat) (lo:Int) (l:List α),l.Pairwise (λa b=>k a<=k b)->(∀x∈l,lo<=k x/\k x<lo+n)->l=(List.range n).flatMap λi:Nat=>l.filter (λx=>decide (k x=lo+(i:Int)))
 |0,lo,l,_,h=>by
  cases l with
  |nil=>rfl
  |cons x l=>have:=h x (by simp);omega
 |n+1,lo,l,hp,h=>by
  have ih:=Z0e n lo (l.filter (λx=>decide (k x<lo+n))) (hp.filter _) (λx hx=>by
   have:=List.mem_filter.1 hx
   exact⟨(h x this.1).1,by simpa using this.2⟩)
  rw[List.range_succ,List.flatMap_append];have e1:(List.range n).flatMap (λi:Nat=>(l.filter (λx=>decide (k x<lo+n))).filter (λx=>decide (k x=lo+(i:Int))))=(List.range n).flatMap λi:Nat=>l.filter (λx=>decide (k x=lo+(i:Int))):=by
   simp only[List.flatMap_def];congr 1;refine List.map_congr_left λi hi=>?_
   rw[List.filter_filter];refine List.filter_congr λx hx=>?_
   have:=List.mem_range.1 hi;by_cases e:k x=lo+(i:Int)
   .simp only[e,decide_true,Bool.true_and,decide_eq_true_eq];omega
   .simp[e]
  rw[<-e1,<-ih];simp only[List.flatMap_cons,List.flatMap_nil,List.append_nil];clear ih e1
  induction l with
  |nil=>rfl
  |cons x l ih =>
   have hx:=h x (by simp);have hp2:=List.pairwise_cons.1 hp;have ih:=ih hp2.2 (λy hy=>h y (by simp[hy]));by_cases hl:k x<lo+n
   .rw[List.filter_cons_of_pos (by simpa using hl),List.filter_cons_of_neg (by simp;omega),List.cons_append,<-ih]
   .have e2:k x=lo+n:=by omega
    have:(x::l).filter (λx=>decide (k x<lo+n))=[]:=by
     refine List.filter_eq_nil_iff.2 λy hy=>?_
     rcases List.mem_cons.1 hy with rfl|hy
     .simpa using hl
     .have:=hp2.1 y hy;simp;omega
    rw[this,List.nil_append];refine(List.filter_eq_self.2 λy hy=>?_).symm;rcases List.mem_cons.1 hy with rfl|hy
    .simpa using e2
    .have:=hp2.1 y hy;have:=h y (by simp[hy]);simp;omega
theorem Stp.classes{d e:Array α}{n:Nat}(S:Stp k 0 d.size d e)(S':Srt k 0 d.size e)(hk:∀x∈d.toList,0<=k x/\k x<n):e.toList=(List.range n).flatMap λi:Nat=>d.toList.filter (λx=>decide (k x=(i:Int))):=by
 have hm:∀x∈e.toList,0<=k x/\k x<n:=by
  have hp:=S.pres (λv=>0<=k v/\k v<n) (λx _ h2=>hk _ (by rw[getElem!_pos d x h2];simp));intro x hx;obtain⟨i,hi,rfl⟩:=List.getElem_of_mem hx;have hi':i<e.size:=by simpa using hi
  have:=hp i (Nat.zero_le _) (by rw[<-S.size];exact hi');rw[getElem!_pos e i hi']at this;simpa using this
 have h1:=Z0e (k:=k) n 0 e.toList (by
  rw[List.pairwise_iff_getElem];intro i j hi hj hij;have hj':j<e.size:=by simpa using hj
  have:=S' i j (Nat.zero_le _) hij (by rw[<-S.size];exact hj');rw[getElem!_pos e i (by omega),getElem!_pos e j hj']at this
  simpa using this) (λx hx=>by have:=hm x hx;omega)
 simp only[Int.zero_add]at h1;rw[h1];congr 1;funext i;exact S.stab i
end Go.Stb
namespace Go.Proofs.YthpdbpfamhcgiaaGreat
open Go.AM
def cix(vs:V6)(v:Int):Int:=XZ (λx=>decide (v=x)) vs 0
def XV(r:V6)(i:Int):Int:=r.getD i.toNat 0
def Z90(v:Int):∀(vs:V6) (i:Nat),has vs v=true->(i:Int)<=XZ (λx=>decide (v=x)) vs i/\(XZ (λx=>decide (v=x)) vs i).toNat<i+vs.length/\vs[(XZ (λx=>decide (v=x)) vs i).toNat-i]?=some v
 |[],i,h=>by simp[has]at h
 |x::vs,i,h=>by
  unfold XZ;by_cases e:v=x
  .subst e;simp
  .have h':has vs v=true:=by simpa[has,e]using h
   obtain⟨h1,h2,h3⟩:=Z90 v vs (i+1) h'
   grind
def WE{vs:V6}{v:Int}(h:has vs v=true):0<=cix vs v/\(cix vs v).toNat<vs.length/\vs[(cix vs v).toNat]?=some v:=by
 have:=Z90 v vs 0 h;unfold cix;simpa using this
def ZNn{vs:V6}{v:Int}(h:has vs v=false):cix vs v=-1:=Zrd _ _ _ h
def Jj{vs:V6}{v:Int}:0<=cix vs v↔has vs v=true:=by
 constructor
 .intro h;rcases tf (has vs v)with e|e
  .simp_all [ZNn]
  .exact e
 .simp_all [WE]
def Zp2(vs r:V6)(v:Int):Int:=XV r (cix vs v)
def Z91{vs:V6}{v:Int}(h:has vs v=true)(f:Int->Int):Zp2 vs (vs.map f) v=f v:=by
 obtain⟨-,h2,h3⟩:=WE h;unfold Zp2 XV
 simp_all
abbrev Asc(l:V6):Prop:=l.Pairwise (·<·)
def Zl9:∀{a b:V6},Asc a->Asc b->(∀x,x∈a↔x∈b)->a=b
 |[],[],_,_,_=>rfl
 |[],y::b,_,_,h=>by have:=(h y).2 (by simp);cases this
 |x::a,[],_,_,h=>by have:=(h x).1 (by simp);cases this
 |x::a,y::b,ha,hb,h=>by
  have ha':=Y4.1 ha;have hb':=Y4.1 hb;have e:x=y:=by
   have h1:=(h x).1 (by simp);have h2:=(h y).2 (by simp)
   grind
  subst e;rw[Zl9 ha'.2 hb'.2 λz=>?_]
  grind
def Zp3(l:V6):(Xg l).Perm l:=Ydg _ _
def Z92(l:V6):(Xg l).Pairwise (·<=·):=by
 have:=List.pairwise_mergeSort (le:=λx y:Int=>decide (x<=y)) (by simp;omega) (by simp;omega) l;exact this.imp (by simp)
def ZbU(l:V6)(x:Int):x∈Xg l↔x∈l:=(Zp3 l).mem_iff
def ZNo{l:V6}(h:l.Nodup):Asc (Xg l):=by
 have h1:=Z92 l;have h2:(Xg l).Nodup:=(Zp3 l).nodup_iff.2 h;exact(h1.and h2).imp (by intro a b h;omega)
def Z0f:∀(l:V6) (x:Int),x∈XM l↔x∈l
 |[],x=>by simp[XM]
 |[a],x=>by simp[XM]
 |a::b::l,x=>by
  unfold XM;have ih:=Z0f (b::l) x
  grind
def Z93:∀{l:V6},l.Pairwise (·<=·)->Asc (XM l)
 |[],_=>by simp[XM]
 |[a],_=>by simp[XM]
 |a::b::l,h=>by
  unfold XM;have h1:=Y4.1 h;have ih:=Z93 h1.2;split
  .exact ih
  .rename_i e;refine Y4.2 ⟨λx hx=>?_,ih⟩;rw[Z0f]at hx;have h2:=Y4.1 h1.2;rcases Yba.1 hx with rfl|hx
   .grind
   .have:=h1.1 b (by simp);have:=h2.1 x hx;omega
def uni(a b:V6):V6:=((List.range 4).map λu:Nat=>(u:Int)).filter λv=>has a v || has b v
def Z94(n:Nat)(p:Nat->Bool):Asc (((List.range n).filter p).map λu:Nat=>(u:Int)):=by
 simp[List.pairwise_map,List.pairwise_lt_range.filter]
def Z95(a b:V6):Asc (uni a b):=by
 have:=Z94 4 λ_=>true
 rw[List.filter_eq_self.2 (by simp)]at this;exact this.filter _
def Zp4{a b:V6}(ha:∀x∈a,inR x 0 3=true)(hb:∀x∈b,inR x 0 3=true)(v:Int):v∈uni a b↔v∈a\/v∈b:=by
 unfold uni;rw[Ybb];simp only[Ycy,Vj,Yt,Ybg];constructor
 .exact λh=>h.2
 .intro h;refine⟨?_,h⟩
  have:inR v 0 3=true:=h.elim (ha v) (hb v)
  simp[inR]at this;exact⟨v.toNat,by omega,by omega⟩
def ZNp{a b:V6}(ha:∀x∈a,inR x 0 3=true)(hb:∀x∈b,inR x 0 3=true):XM (Xg (a++b))=uni a b :=
 Zl9 (Z93 (Z92 _)) (Z95 _ _) λx=>by rw[Z0f,ZbU,Zp4 ha hb,Yu]
def Zhl(m:Int)(qa:List Ze)(k:Nat):Asc (Xo m qa k):=Z94 _ _
def Zhm{n:Int}{qa:List Ze}(h:Z9 n qa=true)(m v:Int):v∈Xo m qa n.toNat↔vin qa m v=true:=by rw[<-Zc5 h,Vj]
def Zhn{n:Int}{qa:List Ze}(h:Z9 n qa=true)(m:Int):∀v∈Xo m qa n.toNat,inR v 0 3=true:=by
 intro v hv;have:=(Zhm h m v).1 hv;unfold vin at this
 simp_all
def bit16:∀a b:Fin 16,∀j:Fin 4,Xc (orI (a.1:Int) (b.1:Int)) j.1=(Xc (a.1:Int) j.1 || Xc (b.1:Int) j.1):=by decide
def ZNq{a b:Int}(ha:0<=a/\a<16)(hb:0<=b/\b<16){j:Nat}(hj:j<4):Xc (orI a b) j=(Xc a j || Xc b j):=by
 have:=bit16 ⟨a.toNat,by omega⟩ ⟨b.toNat,by omega⟩ ⟨j,hj⟩
 grind
theorem Z96{a b:Int}(ha:0<=a/\a<16)(hb:0<=b/\b<16)(u:Int):∀(l:List Ze) (i:Nat),i+l.length<=4->Wa (orI a b) l i u=(Wa a l i u || Wa b l i u)
 |[],_,_=>rfl
 |x::l,i,h=>by
  simp only[Yw]at h;unfold Wa;rw[ZNq ha hb (by omega),Z96 ha hb u l (i+1) (by omega)]
  grind
def Z97{n:Int}{qa:List Ze}(h:Z9 n qa=true){a b:Int}(ha:0<=a/\a<16)(hb:0<=b/\b<16):uni (Xo a qa n.toNat) (Xo b qa n.toNat)=Xo (orI a b) qa n.toNat:=by
 refine Zl9 (Z95 _ _) (Zhl _ _ _) λv=>?_
 rw[Zp4 (Zhn h a) (Zhn h b),Zhm h,Zhm h,Zhm h];unfold vin pV
 grind [Z96,Wg]
def bitS:∀i j:Fin 4,Xc (shlI 1 (i.1:Int)) j.1=decide (j=i):=by decide
def Z98{i:Nat}(hi:i<4)(u:Int):∀(l:List Ze) (j:Nat),j+l.length<=4->Wa (shlI 1 (i:Int)) l j u=if j<=i then(match l[i-j]? with|some a=>has a.Za u|none=>false)else false
 |[],j,_=>by simp[Wa]
 |x::l,j,h=>by
  simp only[Yw]at h;unfold Wa;have hb:=bitS ⟨i,hi⟩ ⟨j,by omega⟩;simp only[Fin.mk.injEq]at hb;rw[hb,Z98 hi u l (j+1) (by omega)]
  grind
theorem Z99{n:Int}:∀{vs c:V6},Vk n c vs=true->vs.Nodup/\∀v∈vs,v ∉ c
 |[],c,_=>⟨Ybf,by simp⟩
 |v::vs,c,h=>by
  unfold Vk at h;simp only[Yg,Bool.not_eq_true']at h;obtain⟨⟨h1,h2⟩,h3⟩:=h;obtain⟨g1,g2⟩:=Z99 h3
  grind [Vj,List.nodup_cons]
def ZNr{n:Int}{qa:List Ze}(h:Z9 n qa=true){a:Ze}(ha:a∈qa):a.Za.Nodup:=by
 simp only[Z9,Yg]at h;have:=Yl.1 h.1.2 a ha;simp only[Vu,Yg]at this
 grind [Z99]
def Z9A{n:Int}{qa:List Ze}(h:Z9 n qa=true){i:Nat}{a:Ze}(hi:qa[i]?=some a):Xg a.Za=Xo (shlI 1 (i:Int)) qa n.toNat:=by
 have hl:=Wg h;have hi':i<qa.length:=(Ybh.1 hi).1;have hm:a∈qa:=Y8 hi;refine Zl9 (ZNo (ZNr h hm)) (Zhl _ _ _) λv=>?_
 rw[ZbU,Zhm h];unfold vin pV;rw[Z98 (by omega) _ _ 0 (by omega),Ya (Yc _),Ycl,hi];simp only[Yg,Vj];constructor
 .intro hv;have h3:=Zai h a hm v hv;refine⟨h3,?_⟩;simp[inR]at h3
  grind
 .rintro⟨h3,hv⟩;simp[inR]at h3
  rwa [show((v.toNat:Nat):Int)=v by omega]at hv
def pcM(m:Int):Nat:=(List.range 4).countP λi=>Xc m i
def pc16:∀a b:Fin 16,andI (a.1:Int) (b.1:Int)=0->pcM (orI (a.1:Int) (b.1:Int))=pcM (a.1:Int)+pcM (b.1:Int):=by decide
def Z0g{a b:Int}(ha:0<=a/\a<16)(hb:0<=b/\b<16)(h:andI a b=0):pcM (orI a b)=pcM a+pcM b:=by
 have:=pc16 ⟨a.toNat,by omega⟩ ⟨b.toNat,by omega⟩
 grind
def pc1:∀i:Fin 4,pcM (shlI 1 (i.1:Int))=1:=by decide
def pc_le(m:Int):pcM m<=4:=Yr List.countP_le_length (by simp)
theorem Zp5(m:Int):8 ^ pcM m<=4096:=Yr (Nat.pow_le_pow_right (by decide) (pc_le m)) (by decide)
end Go.Proofs.YthpdbpfamhcgiaaGreat
namespace Go.Proofs.YthpdbpfamhcgiaaGreat
open Go.AM Go.Stb
def kx(x:Nat)(r:V6):Int:=r[x]!
def QR(x:Nat)(rows:V4):V4:=(List.range 10).flatMap λi:Nat=>rows.filter λr=>decide (kx x r=(i:Int))
def ZlA(x:Int)(r:V6):kx x.toNat r=XV r x:=by
 unfold kx XV;simp
def ZNs{x:Nat}{rows:V4}(h:∀r∈rows,0<=kx x r/\kx x r<=9)(r:V6):r∈QR x rows↔r∈rows:=by
 unfold QR;rw[Ybw];constructor
 .simp_all
 .intro hr;have:=h r hr;refine⟨(kx x r).toNat,Ybg.2 (by omega),Ybb.2 ⟨hr,?_⟩⟩
  grind
def Z9B(x:Nat):∀(n:Nat) (rows:V4),((List.range n).flatMap λi:Nat=>rows.filter λr=>decide (kx x r=(i:Int))).length=rows.countP λr=>decide (0<=kx x r/\kx x r<n)
 |0,rows=>by
  grind
 |n+1,rows=>by
  rw[Yb8,List.flatMap_append,Yq,Z9B x n rows];simp only[Ybq,List.flatMap_nil,Y9];rw[<-List.countP_eq_length_filter]
  induction rows with
  |nil=>rfl
  |cons r rows ih =>
   grind
def ZNt{x:Nat}{rows:V4}(h:∀r∈rows,0<=kx x r/\kx x r<=9):(QR x rows).length=rows.length:=by
 unfold QR;rw[Z9B]
 grind [List.countP_eq_length]
def ZNu(x:Nat)(rows:V4):(QR x rows).Pairwise λa b=>kx x a<=kx x b:=by
 unfold QR
 grind [List.pairwise_iff_getElem,List.getElem_mem,List.pairwise_lt_range.imp]
def ZNv{x:Nat}{rows:V4}(hs:rows.Pairwise λa b=>kx x a<=kx x b)(h:∀r∈rows,0<=kx x r/\kx x r<=9):QR x rows=rows:=by
 have:=Z0e (k:=kx x) 10 0 rows hs (λr hr=>by have:=h r hr;omega);simp only[Int.zero_add]at this;exact this.symm
def agr(av x bv y:V6):Bool:=(List.range av.length).all λi=>decide (cix bv (av.getD i 0)<0) || decide (x.getD i 0=XV y (cix bv (av.getD i 0)))
def mrV(av x bv y:V6)(v:Int):Int:=if 0<=cix av v then XV x (cix av v)else XV y (cix bv v)
def prS(vs av x bv y:V6):Option (V6):=if agr av x bv y=true then some (vs.map (mrV av x bv y))else none
def Vg(vs:V6)(a b:Zm):V4:=a.Rows.flatMap λx=>b.Rows.filterMap λy=>prS vs a.Za x b.Za y
def Jk(vs:V6)(a b:Zm):V4:=b.Rows.flatMap λy=>a.Rows.filterMap λx=>prS vs a.Za x b.Za y
def Us(a b:Zm):Zm:=⟨uni a.Za b.Za,Vg (uni a.Za b.Za) a b⟩
def Zel(a b:Zm):Zm:=⟨uni a.Za b.Za,Jk (uni a.Za b.Za) a b⟩
def Zho(s:Zm)(v:Int):Zm:=⟨s.Za,QR (cix s.Za v).toNat s.Rows⟩
def Kt(d:Zp)(q:Zf)(i:Int):Zm:=match q.Zb[i.toNat]? with
 |some a=>⟨Xg a.Za,(JM d a).map λr=>(Xg a.Za).map λv=>XV r (cix a.Za v)⟩
 |none=>⟨[],[]⟩
def Z9C{α β:Type}(f:α->Option β)(l:List α):(l.filterMap f).length<=l.length:=List.length_filterMap_le _ _
def Z9D(vs:V6)(a b:Zm):(Vg vs a b).length<=b.Rows.length*a.Rows.length:=Zhk _ _ (λ_=>Z9C _ _) _
def Z9E(vs:V6)(a b:Zm):(Jk vs a b).length<=a.Rows.length*b.Rows.length:=Zhk _ _ (λ_=>Z9C _ _) _
def ZNw{vs:V6}{a b:Zm}{r:V6}(h:r∈Vg vs a b):∃x∈a.Rows,∃y∈b.Rows,r=vs.map (mrV a.Za x b.Za y):=by
 obtain⟨x,hx,h⟩:=Ybw.1 h;obtain⟨y,hy,h⟩:=Ydc.1 h;unfold prS at h
 grind
def ZNx{vs:V6}{a b:Zm}{r:V6}(h:r∈Jk vs a b):∃x∈a.Rows,∃y∈b.Rows,r=vs.map (mrV a.Za x b.Za y):=by
 obtain⟨y,hy,h⟩:=Ybw.1 h;obtain⟨x,hx,h⟩:=Ydc.1 h;unfold prS at h
 grind
def ZNy{vs:V6}{a b:Zm}{x:Nat}(hs:a.Rows.Pairwise λp q=>kx x p<=kx x q)(h:∀r∈a.Rows,0<=kx x r/\kx x r<=9) :
  (List.range 10).flatMap (λi:Nat=>Vg vs ⟨a.Za,a.Rows.filter λr=>decide (kx x r=(i:Int))⟩ b)=Vg vs a b:=by
 have e:=ZNv hs h;unfold Vg
 conv=>rhs;rw[<-e]
 unfold QR;rw[List.flatMap_assoc]
def Qy:Option Int->V6->Bool
 |_,[]=>true
 |p,x::xs=>(inR x 0 3 && nxt (λa b=>decide (a<b)) p x) && Qy (some x) xs
def Z9F(s:Zm):Bool:=s.Rows.all (rwB s.Za.length) && (Qy none s.Za && decide ((s.Rows.length:Int)<=4096))
def Z0h:∀(l:V6) (p:Option Int),Asc l->(∀x∈l,inR x 0 3=true)->(∀q,p=some q->∀x∈l,q<x)->Qy p l=true
 |[],_,_,_,_=>rfl
 |x::l,p,h,hr,hp=>by
  have h':=Y4.1 h;unfold Qy;rw[Z0h l (some x) h'.2 (λy hy=>hr y (by simp[hy])) (λq hq y hy=>by cases hq;exact h'.1 y hy),hr x (by simp)]
  cases p with
  |none=>rfl
  |some q=>simp[nxt,hp q rfl x (by simp)]
structure GS (q:Zf) (y:Zo) (s:Zm):Prop where
 vars:s.Za=Xo y.Mask q.Zb q.Zk.toNat
 rows:∀r∈s.Rows,rwB s.Za.length r=true
 len:s.Rows.length<=8 ^ pcM y.Mask
 ord:0<=y.Zl->has s.Za y.Zl=true/\s.Rows.Pairwise λa b=>kx (cix s.Za y.Zl).toNat a<=kx (cix s.Za y.Zl).toNat b
def Z0i{n:Nat}{r:V6}(h:rwB n r=true){i:Nat}(hi:i<n):i<r.length/\0<=kx i r/\kx i r<=9:=by
 unfold rwB at h;simp only[Yg,decide_eq_true_eq,Yl]at h;have hl:r.length=n:=by omega
 have h2:=h.1 r[i] (Ye (by omega));unfold kx;rw[getElem!_pos r i (by omega)];simp[dig,inR]at h2;omega
def Zp6{n:Nat}{r:V6}(h:rwB n r=true):r.length=n:=by
 unfold rwB at h
 grind
def GS.valid{q:Zf}{y:Zo}{s:Zm}(h:GS q y s)(hq:Z9 q.Zk q.Zb=true):Z9F s=true:=by
 unfold Z9F;simp only[Yg,Yl,decide_eq_true_eq];refine⟨h.rows,?_,by have:=h.len;have:=Zp5 y.Mask;omega⟩;rw[h.vars];exact Z0h _ _ (Zhl _ _ _) (Zhn hq _) (by simp)
def GS.small{q:Zf}{y:Zo}{s:Zm}(h:GS q y s):s.Za.length<=4\/4<q.Zk:=by
 by_cases e:4<q.Zk
 .exact .inr e
 .left;rw[h.vars];have:=Zbl y.Mask q.Zb q.Zk.toNat;omega
theorem Z0j{vs:V6}{f:Int->Int}(h:∀v∈vs,0<=f v/\f v<=9):rwB vs.length (vs.map f)=true:=by
 unfold rwB;simp only[Yg,decide_eq_true_eq,Yl,Y1,and_true];intro v hv;obtain⟨u,hu,rfl⟩:=Yt.1 hv;have:=h u hu;simp[dig,inR];omega
def Z0k{vs r:V6}(h:rwB vs.length r=true){v:Int}(hv:has vs v=true):0<=XV r (cix vs v)/\XV r (cix vs v)<=9:=by
 obtain⟨h1,h2,h3⟩:=WE hv;have:=Z0i h h2
 simp_all [ZlA]
end Go.Proofs.YthpdbpfamhcgiaaGreat
namespace Go.Proofs.YthpdbpfamhcgiaaGreat
open Go.AM Go.Stb
structure JO (qa:List Ze) (x:Zj) (pre:List Zo) (y:Zo):Prop where
 scan:x.Zs=1->inR x.Ze 0 (qa.length-1)=true/\y=⟨shlI 1 x.Ze,(match qa[x.Ze.toNat]? with|some a=>a.Za.headD 0|none=>0),-1,-1⟩
 sort:x.Zs=2->∃s u,0<=s/\pre[s.toNat]?=some u/\vin qa u.Mask x.Zl=true/\y=⟨u.Mask,x.Zl,s,-1⟩
 join:x.Zs≠1->x.Zs≠2->∃s u t z o,0<=s/\pre[s.toNat]?=some u/\0<=t/\pre[t.toNat]?=some z/\andI u.Mask z.Mask=0/\y=⟨orI u.Mask z.Mask,o,s,t⟩/\
  ((x.Zs=3/\o=-1)\/(x.Zs=5/\o=u.Zl)\/(x.Zs=4/\vin qa u.Mask x.Zl=true/\vin qa z.Mask x.Zl=true/\u.Zl=x.Zl/\z.Zl=x.Zl/\o=x.Zl))
theorem step_f{qa:List Ze}{x:Zj}{info:List Zo}{st:V6}{y:Zo}(hs:Um info st)(h:VE qa x info st=some y):JO qa x info y:=by
 unfold VE at h;split at h
 .rename_i k1;split at h
  .rename_i c;cases h;exact⟨λ_=>⟨c.1,rfl⟩,λk=>by omega,λk=>absurd k1 k⟩
  .cases h
 .rename_i k1;split at h
  .cases h
  .split at h
   .rename_i k2;split at h
    .rename_i s y' ht;split at h
     .rename_i c;cases h;obtain⟨_,t2,t3,t4⟩:=Kh hs (Yj 1) ht;exact⟨λk=>absurd k k1,λ_=>⟨s,y',t2,t4,c.1,rfl⟩,λ_ k=>absurd k2 k⟩
     .cases h
    .cases h
   .rename_i k2;split at h
    .rename_i s y' t z ht hu;split at h
     .rename_i c;obtain⟨_,t2,t3,t4⟩:=Kh hs (by omega:1<=2) ht;obtain⟨_,u2,u3,u4⟩:=Kh hs (by omega:1<=1) hu;obtain⟨o,ho,rfl⟩:=Ys.1 h;refine⟨λk=>absurd k k1,λk=>absurd k k2,λ_ _=>⟨s,y',t,z,o,t2,t4,u2,u4,c.1,rfl,?_⟩⟩;unfold V0 at ho;split at ho
      .simp_all
      .grind
     .cases h
    .cases h
def Z9G{qa:List Ze}:∀{xs:List Zj} {i:Nat} {info:List Zo} {st:V6} {c:List Zo} {cc:V6},WM qa xs i info st=some (c,cc)->
  Um info st->info.length=i->c.length=i+xs.length/\c.take i=info/\∀(j:Nat) (y:Zo) (x:Zj),c[i+j]?=some y->xs[j]?=some x->JO qa x (c.take (i+j)) y
 |[],i,info,st,c,cc,h,hs,hi=>by
  simp[WM]at h
  grind
 |x::xs,i,info,st,c,cc,h,hs,hi=>by
  rw[WM]at h;split at h
  .cases h
  .rename_i y hy;have hn:=ZeN hs y (st.length-Wu y);rw[hi]at hn;obtain⟨g1,g2,g3⟩:=Z9G h hn (by simp[hi]);have e1:c.take i=info:=by
    have:=congrArg (List.take i) g2
    grind
   have e2:c[i]?=some y:=by
    have:=congrArg (λl=>l[i]?) g2
    grind
   refine⟨by simp;omega,e1,?_⟩;intro j y' x' hj hx
   cases j with
   |zero =>
    simp only[Ybt,List.getElem?_cons_zero,Ybe]at hj hx|-
    grind [step_f]
   |succ j =>
    grind
def Zp7{n:Int}{qa:List Ze}{steps:List Zj}{info:List Zo}(h:Wv n qa steps=some info):∀(j:Nat) (y:Zo) (x:Zj),info[j]?=some y->steps[j]?=some x->JO qa x (info.take j) y:=by
 unfold Wv at h;split at h
 .split at h
  .rename_i info' st hg;split at h
   .cases h;obtain⟨-,-,g⟩:=Z9G hg (λs hs=>by cases hs) rfl
    simp_all
   .cases h
  .cases h
 .cases h
def Z9H:∀(rows:V4) (p:Option (V6)),VJ ltR p rows=true->(∀r∈rows,0<r.length)->(∀r,p=some r->0<r.length)->
  (rows.Pairwise λa b=>kx 0 a<=kx 0 b)/\∀r,p=some r->∀x∈rows,kx 0 r<=kx 0 x
 |[],p,_,_,_=>⟨.nil,by simp⟩
 |x::rows,p,h,hl,hp=>by
  unfold VJ at h;simp only[Yg]at h;obtain⟨i1,i2⟩:=Z9H rows (some x) h.2 (λr hr=>hl r (by simp[hr])) (λr hr=>by cases hr;exact hl x (by simp));refine⟨Y4.2 ⟨i2 x rfl,i1⟩,λr hr y hy=>?_⟩;subst hr;have h1:=h.1;simp only[nxt,ltR,decide_eq_true_eq]at h1;have hx0:=hl x (by simp);have hr0:=hp r rfl;have hrx:kx 0 r<=kx 0 x:=by
   match r,x,hr0,hx0 with
   |a::r,b::x,_,_ =>
    simp only[Xv]at h1;show a<=b;omega
  grind
def Z0l{d:Zp}{q:Zf}(h:Xp d q=true){a:Ze}(ha:a∈q.Zb):∃t,X7 d a.Zq=some t/\t.Zu=(a.Za.length:Int)/\JM d a=t.Rows/\t.Rows.length<=8/\(∀r∈t.Rows,rwB a.Za.length r=true)/\VJ ltR none t.Rows=true:=by
 unfold Xp at h;simp only[Yg,Yl]at h;have hf:=h.2 a ha;unfold WZ at hf;split at hf
 .cases hf
 .rename_i t ht;have har:t.Zu=(a.Za.length:Int):=by simpa using hf
  obtain⟨h1,h2,h3⟩:=Zej ht;unfold WK at h1;simp only[Yg,Yl]at h1;have h4:=h1.1.1 t h2;unfold XU at h4;simp only[Yg,Yl,decide_eq_true_eq]at h4;refine⟨t,ht,har,by unfold JM;rw[ht],by omega,?_,h4.2.2⟩
  simp_all
def ZNz{d:Zp}{q:Zf}(h:Xp d q=true){x:Zj}{c:List Zo}{y:Zo}(F:JO q.Zb x c y)(hk:x.Zs=1):GS q y (Kt d q x.Ze):=by
 have hq:Z9 q.Zk q.Zb=true:=by unfold Xp at h;simp only[Yg]at h;exact h.1
 obtain⟨f1,rfl⟩:=F.scan hk;have hl:=Wg hq;simp[inR]at f1;obtain⟨i,hi⟩:∃i:Nat,x.Ze=(i:Int):=⟨x.Ze.toNat,by omega⟩;rw[hi];have hlt:i<q.Zb.length:=by omega
 have he:q.Zb[i]?=some q.Zb[i]:=Yf hlt;have hm:q.Zb[i]∈q.Zb:=Ye hlt;generalize q.Zb[i]=a at he hm;obtain⟨t,t1,t2,t3,t4,t5,t6⟩:=Z0l h hm;have hvl:=Zah hq a hm;have hv:=Z9A hq he;have hsc:Kt d q (i:Int)=⟨Xg a.Za,t.Rows.map λr=>(Xg a.Za).map λv=>XV r (cix a.Za v)⟩:=by
  unfold Kt;rw[Yh,he];simp only[t3]
 rw[hsc,Yh,he];have hval:∀r∈t.Rows,∀v∈Xg a.Za,0<=XV r (cix a.Za v)/\XV r (cix a.Za v)<=9:=λr hr v hv2=>Z0k (t5 r hr) (Vj.2 ((ZbU _ _).1 hv2))
 refine⟨hv,λr hr=>?_,?_,λ_=>?_⟩
 .grind [Z0j]
 .have:=pc1 ⟨i,by omega⟩
  simp_all
 ·-- the first column of a table is sorted
  obtain⟨v0,vs,hvs⟩:∃v0 vs,a.Za=v0::vs:=by
   cases hc:a.Za with
   |nil=>rw[hc]at hvl;simp at hvl
   |cons v0 vs=>exact⟨v0,vs,rfl⟩
  have h0:has (Xg a.Za) v0=true:=Vj.2 ((ZbU _ _).2 (by rw[hvs];simp));simp only[hvs,List.headD_cons];rw[hvs]at h0;refine⟨h0,?_⟩;have hc0:cix a.Za v0=0:=by rw[hvs];simp[cix,XZ]
  have hkey:∀r,kx (cix (Xg a.Za) v0).toNat ((Xg a.Za).map λv=>XV r (cix a.Za v))=kx 0 r:=by
   intro r;rw[ZlA];have:=Z91 (vs:=Xg a.Za) (v:=v0) (by rw[hvs];exact h0) λv=>XV r (cix a.Za v)
   unfold Zp2 at this;rw[this,hc0,<-ZlA];rfl
  rw[hvs]at hkey;refine List.pairwise_map.2 ?_;have:=(Z9H t.Rows none t6 (λr hr=>by have:=Zp6 (t5 r hr);omega) (by simp)).1
  simp_all
def Z9I{q:Zf}(hq:Z9 q.Zk q.Zb=true){u:Zo}{s:Zm}(G:GS q u s){v:Int}(hv:vin q.Zb u.Mask v=true)(l:Int):GS q ⟨u.Mask,v,l,-1⟩ (Zho s v)/\has s.Za v=true:=by
 have hh:has s.Za v=true:=by rw[G.vars,Zc5 hq];exact hv
 obtain⟨c1,c2,c3⟩:=WE hh;have hr:∀r∈s.Rows,0<=kx (cix s.Za v).toNat r/\kx (cix s.Za v).toNat r<=9:=λr hr=>(Z0i (G.rows r hr) c2).2
 refine⟨⟨G.vars,λr h=>?_,?_,λ_=>⟨hh,?_⟩⟩,hh⟩
 .exact G.rows r ((ZNs hr r).1 h)
 .show(QR _ _).length<=_;rw[ZNt hr];exact G.len
 .exact ZNu _ _
def Z9J{av bv x y:V6}(hx:rwB av.length x=true)(hy:rwB bv.length y=true){v:Int}(hv:has av v=true\/has bv v=true):0<=mrV av x bv y v/\mrV av x bv y v<=9:=by
 unfold mrV;split
 .simp_all [Z0k,Jj]
 .simp_all [Z0k,Jj]
def Z0m{a b:V6}{v:Int}(h:v∈uni a b):has a v=true\/has b v=true:=by
 unfold uni at h
 simp_all
def Z9K{q:Zf}(hq:Z9 q.Zk q.Zb=true){u z:Zo}{a b:Zm}(A:GS q u a)(B:GS q z b)(hu:0<=u.Mask/\u.Mask<16)(hz:0<=z.Mask/\z.Mask<16)(h0:andI u.Mask z.Mask=0)(l r:Int):GS q ⟨orI u.Mask z.Mask,u.Zl,l,r⟩ (Us a b):=by
 have hvars:uni a.Za b.Za=Xo (orI u.Mask z.Mask) q.Zb q.Zk.toNat:=by rw[A.vars,B.vars];exact Z97 hq hu hz
 refine⟨hvars,λp hp=>?_,?_,λho=>?_⟩
 .obtain⟨x,hx,y,hy,rfl⟩:=ZNw hp;exact Z0j λv hv=>Z9J (A.rows x hx) (B.rows y hy) (Z0m hv)
 .have:=Z9D (uni a.Za b.Za) a b;show(Vg _ _ _).length<=8 ^ pcM (orI u.Mask z.Mask);rw[Z0g hu hz h0,Nat.pow_add,Nat.mul_comm];exact Yr this (Ycb B.len A.len)
 .obtain⟨hh,hs⟩:=A.ord ho;have hu2:has (uni a.Za b.Za) u.Zl=true:=Vj.2 ((Zp4 (by rw[A.vars];exact Zhn hq _) (by rw[B.vars];exact Zhn hq _) _).2 (.inl (Vj.1 hh)));refine⟨hu2,?_⟩;have hkey:∀x y:V6,kx (cix (uni a.Za b.Za) u.Zl).toNat ((uni a.Za b.Za).map (mrV a.Za x b.Za y))=kx (cix a.Za u.Zl).toNat x:=by
   intro x y;rw[ZlA,ZlA];have:=Z91 hu2 (mrV a.Za x b.Za y);unfold Zp2 at this;rw[this];unfold mrV
   simp_all [Jj]
  have hm:∀x,∀p∈b.Rows.filterMap (λy=>prS (uni a.Za b.Za) a.Za x b.Za y),kx (cix (uni a.Za b.Za) u.Zl).toNat p=kx (cix a.Za u.Zl).toNat x:=by
   intro x p hp;obtain⟨y,hy,h⟩:=Ydc.1 hp;unfold prS at h
   grind
  refine List.pairwise_flatMap.2 ⟨λx _=>?_,?_⟩
  .rw[Ybv];intro i j hi hj _;have h1:=hm x _ (Ye hi);have h2:=hm x _ (Ye hj);show kx (cix (uni a.Za b.Za) u.Zl).toNat _<=kx (cix (uni a.Za b.Za) u.Zl).toNat _;omega
  .refine hs.imp λ{x x'} hxx p hp p' hp'=>?_
   have h1:=hm x p hp;have h2:=hm x' p' hp';show kx (cix (uni a.Za b.Za) u.Zl).toNat _<=kx (cix (uni a.Za b.Za) u.Zl).toNat _;rw[h1,h2];exact hxx
def ZN0{q:Zf}(hq:Z9 q.Zk q.Zb=true){u z:Zo}{a b:Zm}(A:GS q u a)(B:GS q z b)(hu:0<=u.Mask/\u.Mask<16)(hz:0<=z.Mask/\z.Mask<16)(h0:andI u.Mask z.Mask=0)(l r:Int):GS q ⟨orI u.Mask z.Mask,-1,l,r⟩ (Zel a b):=by
 have hvars:uni a.Za b.Za=Xo (orI u.Mask z.Mask) q.Zb q.Zk.toNat:=by rw[A.vars,B.vars];exact Z97 hq hu hz
 refine⟨hvars,λp hp=>?_,?_,λho=>absurd ho (by show ¬(0:Int)<=-1;decide)⟩
 .obtain⟨x,hx,y,hy,rfl⟩:=ZNx hp;exact Z0j λv hv=>Z9J (A.rows x hx) (B.rows y hy) (Z0m hv)
 .have:=Z9E (uni a.Za b.Za) a b;show(Jk _ _ _).length<=8 ^ pcM (orI u.Mask z.Mask);rw[Z0g hu hz h0,Nat.pow_add];exact Yr this (Ycb A.len B.len)
def stS(d:Zp)(q:Zf)(x:Zj)(y:Zo)(out:List Zm):Zm :=
 if x.Zs=1 then Kt d q x.Ze
 else if x.Zs=2 then Zho (out.getD y.Left.toNat ⟨[],[]⟩) x.Zl
 else if x.Zs=3 then Zel (out.getD y.Left.toNat ⟨[],[]⟩) (out.getD y.Right.toNat ⟨[],[]⟩)
 else Us (out.getD y.Left.toNat ⟨[],[]⟩) (out.getD y.Right.toNat ⟨[],[]⟩)
def Ut(d:Zp)(q:Zf):List Zj->List Zo->List Zm->List Zm
 |x::xs,y::ys,out=>Ut d q xs ys (out++[stS d q x y out])
 |_,_,out=>out
def GSs(q:Zf)(info:List Zo)(out:List Zm):Prop:=∀(j:Nat) (s:Zm),out[j]?=some s->∃y,info[j]?=some y/\GS q y s
def Zhp{q:Zf}{info:List Zo}{out:List Zm}(G:GSs q info out){i:Nat}{s:Int}{u:Zo}(hi:out.length=i)(h0:0<=s)(h:(info.take i)[s.toNat]?=some u):s.toNat<out.length/\out[s.toNat]?=some (out.getD s.toNat ⟨[],[]⟩)/\GS q u (out.getD s.toNat ⟨[],[]⟩):=by
 rw[Ydb]at h;split at h
 .rename_i hlt;have hl:s.toNat<out.length:=by omega
  have e:out[s.toNat]?=some (out.getD s.toNat ⟨[],[]⟩):=by rw[Yb1,Yf hl];rfl
  obtain⟨y,hy,g⟩:=G _ _ e
  simp_all
 .cases h
def Z0n{d:Zp}{q:Zf}(h:Xp d q=true){info:List Zo}{out:List Zm}(G:GSs q info out)(hM:∀y∈info,0<=y.Mask/\y.Mask<16){i:Nat}(hi:out.length=i){x:Zj}{y:Zo}(F:JO q.Zb x (info.take i) y):GS q y (stS d q x y out):=by
 have hq:Z9 q.Zk q.Zb=true:=by unfold Xp at h;simp only[Yg]at h;exact h.1
 have hm:∀{s:Nat} {u:Zo},(info.take i)[s]?=some u->0<=u.Mask/\u.Mask<16:=λhs=>hM _ (Ybl (Y8 hs))
 unfold stS;by_cases k1:x.Zs=1
 .rw[Ya k1];exact ZNz h F k1
 .rw[Yb k1];by_cases k2:x.Zs=2
  .rw[Ya k2];obtain⟨s,u,f1,f2,f3,rfl⟩:=F.sort k2;exact(Z9I hq (Zhp G hi f1 f2).2.2 f3 s).1
  .rw[Yb k2];obtain⟨s,u,t,z,o,f1,f2,f3,f4,f5,rfl,f6⟩:=F.join k1 k2;have A:=(Zhp G hi f1 f2).2.2;have B:=(Zhp G hi f3 f4).2.2;rcases f6 with⟨k,rfl⟩|⟨k,rfl⟩|⟨k,g1,g2,g3,g4,rfl⟩
   .rw[Ya k];exact ZN0 hq A B (hm f2) (hm f4) f5 s t
   .rw[Ynx];exact Z9K hq A B (hm f2) (hm f4) f5 s t
   .rw[Ynx];rw[<-g3];exact Z9K hq A B (hm f2) (hm f4) f5 s t
theorem Z0o{q:Zf}{info:List Zo}{out:List Zm}(G:GSs q info out){i:Nat}(hi:out.length=i){y:Zo}(hy:info[i]?=some y){s:Zm}(g:GS q y s):GSs q info (out++[s]):=by
 intro j s' hs;by_cases hj:j<out.length
 .rw[Yco hj]at hs;exact G j s' hs
 .grind
end Go.Proofs.YthpdbpfamhcgiaaGreat
namespace Go.Proofs.YthpdbpfamhcgiaaGreat
open Go.AM Go.Sort Go.Stb
abbrev AR:=Array (V6)
def okC(x:Nat)(r:V6):Prop:=x<r.length/\0<=kx x r/\kx x r<=9
structure OkC (x:Nat) (d:AR):Prop where
 sz:d.size<=4096
 at_:∀i,i<d.size->okC x d[i]!
def OkC.stp{x:Nat}{d e:AR}{a b:Nat}(h:OkC x d)(S:Stp (kx x) a b d e)(hb:b<=d.size):OkC x e:=by
 have S':=S.mono (Yc a) hb;refine⟨by rw[S.size];exact h.sz,λi hi=>?_⟩;exact S'.pres (okC x) (λy _ hy=>h.at_ y hy) i (Yc _) (by rw[<-S.size];exact hi)
def gA{d:AR}{i:Nat}(h:i<d.size):d.toList[(i:Int).toNat]?=some d[i]!:=by rw[Yh];exact Zpz d i h
def Zp8(d:AR)(i j:Nat):(d.toList.set i d[j]!).set j d[i]! = (swp d i j).toList:=by simp[swp]
def Zp9{d:AR}{i j:Nat}(v:V6)(h:j<d.size):∃e,(d.toList.set i v)[j]?=some e:=⟨_,Yf (by simpa using h)⟩
theorem wA{n:Int}(h1:-1000000<=n)(h2:n<=1000000):w n=n:=ZL (by omega) (by omega)
theorem ZbV{i j:Nat}(h:i+j<=1000000):w (shrI (IntKind.wrap .u64 (w ((i:Int)+(j:Int)))) 1)=(((i+j) / 2:Nat):Int):=by
 rw[wA (n:=(i:Int)+(j:Int)) (by omega) (by omega)];have e1:IntKind.wrap .u64 ((i:Int)+(j:Int))=(i:Int)+(j:Int):=by
  simp only[IntKind.wrap,IntKind.signed,IntKind.bits];simp;omega
 rw[e1];have e2:shrI ((i:Int)+(j:Int)) 1=(((i+j) / 2:Nat):Int):=by
  unfold shrI
  grind
 grind [wA]
def ZlB{x:Nat}{p q:V6}(hp:okC x p)(hq:okC x q):KO x p q=some (I (kx x p-kx x q),[.box [I x]]):=by
 obtain⟨p1,p2,p3⟩:=hp;obtain⟨q1,q2,q3⟩:=hq;have e1:p[x]=kx x p:=(getElem!_pos p x p1).symm;have e2:q[x]=kx x q:=(getElem!_pos q x q1).symm;refine WH.2.2.2.2.2 _ _ _ _ ⟨by omega,_,gE p1,_,gE q1,?_⟩
 grind [wA]
def Rz(D:AR)(x:Nat)(v:Rs):Prop:=∃fr,v=some (.tup [],[.arr 40 1 fr (D.toList.map isc),.box [I x]])
def l_in(x a b i:Nat)(hi:i<=8192)(D:AR):∀(j:Nat) (d:AR) (fr:Bool),OkC x d->a<=j->j<d.size->
  (∀fr',Rz D x (Zas fr' (insInner (ltK (kx x)) a j d).toList x a b ((i+1:Nat):Int)))->Rz D x (ZcX fr d.toList x a b i j)
 |0,d,fr,hO,haj,hj,h=>by
  obtain⟨f,hf⟩:=h fr;refine⟨f,Zpm ?_⟩;rw[Ynx,wA (by omega) (by omega)];unfold insInner at hf
  exact_mod_cast hf
 |j+1,d,fr,hO,haj,hj,h=>by
  unfold insInner at h;have hw:w (((j+1:Nat):Int)-1)=(j:Int):=by have:=hO.sz;rw[wA (by omega) (by omega)];omega
  have hw2:w ((i:Int)+1)=((i+1:Nat):Int):=by rw[wA (by omega) (by omega)];omega
  by_cases hc:a<j+1
  .by_cases hl:kx x d[j+1]!<kx x d[j]!
   .rw[Ya (by simp[ltK,hl];omega)]at h;have hS:=Zp0 (k:=kx x) d j hj hl;obtain⟨f,hf⟩:=l_in x a b i hi D j (swp d (j+1) j) false (hO.stp hS (by omega)) (by omega) (by rw[swp_size];omega) h;refine⟨f,Zpm ?_⟩;rw[Ypx,hw];refine⟨by omega,_,gA hj,by omega,_,gA (by omega),_,_,ZlB (hO.at_ _ hj) (hO.at_ _ (by omega)),?_⟩;rw[Ypx,Yh,Yh,Zp8];obtain⟨e,he⟩:=Zp9 (i:=j+1) d[j]! (show j<d.size by omega);exact⟨e,he,hf⟩
   .rw[Yb (by simp[ltK];omega)]at h;obtain⟨f,hf⟩:=h fr;refine⟨f,Zpm ?_⟩;rw[Ypx,hw];refine⟨by omega,_,gA hj,by omega,_,gA (by omega),_,_,ZlB (hO.at_ _ hj) (hO.at_ _ (by omega)),?_⟩
    grind
  .rw[Yb (by simp;omega)]at h;obtain⟨f,hf⟩:=h fr
   grind [Zpm]
def Z9L(x a b:Nat):∀(n i:Nat) (d:AR) (fr:Bool),b-i=n->OkC x d->a<i->b<=d.size->i<=b+1->Rz (insOuter (ltK (kx x)) a b i d) x (Zas fr d.toList x a b i)
 |0,i,d,fr,hn,hO,hai,hb,hib=>by
  refine⟨fr,Z8O ?_⟩
  rw[Ynx,insOuter,Ynx]
 |n+1,i,d,fr,hn,hO,hai,hb,hib=>by
  have hsz:=hO.sz;have hS:=Z0b (k:=kx x) a i d b (by omega) (by omega) hb
  obtain⟨f,hf⟩:=l_in x a b i (by omega) (insOuter (ltK (kx x)) a b i d) i d fr hO (by omega) (by omega) (λfr'=>by
   rw[insOuter,Ypx]
   exact Z9L x a b n (i+1) _ fr' (by omega) (hO.stp hS hb) (by omega) (by rw[hS.size];exact hb) (by omega))
  refine⟨f,Z8O ?_⟩
  grind
def Z9M{x a b:Nat}{d:AR}(fr:Bool)(hO:OkC x d)(c:a<=b)(hb:b<=d.size):∃e,Stp (kx x) a b d e/\Srt (kx x) a b e/\Rz e x (Zfu fr d.toList x a b):=by
 have hsz:=hO.sz;refine⟨_,ZNk d a b hb,ZNl d a b c hb,?_⟩;obtain⟨f,hf⟩:=Z9L x a b _ (a+1) d fr rfl hO (by omega) hb (by omega);refine⟨f,ZLm ?_⟩;rw[wA (by omega) (by omega)]
 exact_mod_cast hf
def l_swr(x a b n:Nat)(d:AR)(hs:d.size<=4096)(h1:a+n<=b)(h2:b+n<=d.size):∀i,i<=n->∀fr,Rz (swr a b n d) x (ZcZ fr (swr a b i d).toList x a b n i):=by
 refine down _ ?_ ?_
 .intro fr;refine⟨fr,Z8P ?_⟩;rw[Ynx]
 .intro i hi ih fr;obtain⟨f,hf⟩:=ih false;refine⟨f,Z8P ?_⟩;have e1:w ((b:Int)+(i:Int))=((b+i:Nat):Int):=by rw[wA (by omega) (by omega)];omega
  have e2:w ((a:Int)+(i:Int))=((a+i:Nat):Int):=by rw[wA (by omega) (by omega)];omega
  have e3:w ((i:Int)+1)=((i+1:Nat):Int):=by rw[wA (by omega) (by omega)];omega
  rw[Ypx,e1,e2,e3];refine⟨by omega,_,gA (by rw[JN];omega),by omega,_,gA (by rw[JN];omega),?_⟩;rw[Yh,Yh,Zp8];obtain⟨e,he⟩:=Zp9 (d:=swr a b i d) (i:=a+i) (swr a b i d)[b+i]! (show b+i<_ by rw[JN];omega);exact⟨e,he,hf⟩
def Z0p{x a b n:Nat}{d:AR}(fr:Bool)(hs:d.size<=4096)(h1:a+n<=b)(h2:b+n<=d.size):Rz (swr a b n d) x (ZcY fr d.toList x a b n):=by
 obtain⟨f,hf⟩:=l_swr x a b n d hs h1 h2 0 (Yc _) fr;exact⟨f,ZLn hf⟩
def Z0q(x a m b:Nat)(d:AR)(hs:d.size<=4096)(h1:a<=m)(h2:m<=b)(h3:b<=d.size):∀(n i j:Nat) (e:AR) (fr:Bool),i+j<=n->0<i->0<j->a+i<=m->m+j<=b->Rot a m b d i j e->
  ∃D,Rtd a m b d D/\Rz D x (Zb1 fr e.toList x m i j)
 |0,i,j,e,fr,hn,hi,hj,_,_,R=>by omega
 |n+1,i,j,e,fr,hn,hi,hj,him,hjb,R=>by
  have hse:e.size<=4096:=by rw[R.size];exact hs
  have hsd:e.size=d.size:=R.size;have e1:w ((m:Int)-(i:Int))=((m-i:Nat):Int):=by rw[wA (by omega) (by omega)];omega
  have e2:w ((m:Int)+(j:Int))=((m+j:Nat):Int):=by rw[wA (by omega) (by omega)];omega
  have e3:w (((m+j:Nat):Int)-(i:Int))=((m+j-i:Nat):Int):=by rw[wA (by omega) (by omega)];omega
  by_cases hij:i=j
  .subst hij;obtain⟨f,hf⟩:=Z0p (x:=x) (a:=m-i) (b:=m) (n:=i) (d:=e) fr hse (by omega) (by omega);refine⟨swr (m-i) m i e,rtd_of h1 h2 h3 (R.eq (by omega)),f,ZzL ?_⟩
   simp_all
  .by_cases hlt:j<i
   .have e4:w ((i:Int)-(j:Int))=((i-j:Nat):Int):=by rw[wA (by omega) (by omega)];omega
    obtain⟨f,hf⟩:=Z0p (x:=x) (a:=m-i) (b:=m) (n:=j) (d:=e) fr hse (by omega) (by omega);obtain⟨D,hD,g,hg⟩:=Z0q x a m b d hs h1 h2 h3 n (i-j) j _ f (by omega) (by omega) hj (by omega) hjb (R.gt hlt (by omega));refine⟨D,hD,g,ZzL ?_⟩
    grind
   .have e4:w ((j:Int)-(i:Int))=((j-i:Nat):Int):=by rw[wA (by omega) (by omega)];omega
    obtain⟨f,hf⟩:=Z0p (x:=x) (a:=m-i) (b:=m+j-i) (n:=i) (d:=e) fr hse (by omega) (by omega);obtain⟨D,hD,g,hg⟩:=Z0q x a m b d hs h1 h2 h3 n i (j-i) _ f (by omega) hi (by omega) him (by omega) (R.lt (by omega) (by omega));refine⟨D,hD,g,ZzL ?_⟩
    grind
def x_rot{x a m b:Nat}{d:AR}(fr:Bool)(hs:d.size<=4096)(h1:a<m)(h2:m<b)(h3:b<=d.size):∃D,Rtd a m b d D/\Rz D x (Zjh fr d.toList x a m b):=by
 obtain⟨D,hD,f,hf⟩:=Z0q x a m b d hs (by omega) (by omega) h3 _ (m-a) (b-m) d fr (Yj _) (by omega) (by omega) (by omega) (by omega) (.start d (by omega) (by omega));refine⟨D,hD,f,ZLo ?_⟩
 grind [wA]
def Mgd(x a b:Nat)(d:AR)(v:Rs):Prop:=∃e,Stp (kx x) a b d e/\Srt (kx x) a b e/\Rz e x v
def l_m1(x a b i:Nat)(d:AR)(hO:OkC x d)(hb:b<=d.size)(hs:Srt (kx x) (a+1) b d)(c:a<i)(cc:i<=b)(h1:i=a+1\/kx x d[i-1]!<kx x d[a]!)(h2:i=b\/kx x d[a]!<=kx x d[i]!) :
  ∀(n q:Nat) (e:AR) (fr:Bool),i-1-q=n->q<=i-1->Shl a q d e->Stp (kx x) a b d e->Mgd x a b d (Zda fr e.toList x i q)
 |0,q,e,fr,hn,hq,S,T=>by
  have hsz:=hO.sz;obtain rfl:q=i-1:=by omega
  have hI:i-1+1=i:=by omega
  refine⟨e,T,S.srt hs (h1.imp (λh=>by omega) id) (by rw[hI];exact h2) (by omega),fr,Z8Q ?_⟩
  grind [wA]
 |n+1,q,e,fr,hn,hq,S,T=>by
  have hsz:=hO.sz;have haq:=S.aq;have hes:e.size=d.size:=S.size;have hk:kx x d[q+1]!<kx x d[a]!:=by
   rcases h1 with h1|h1
   .omega
   .have:=hs.le (i:=q+1) (j:=i-1) (by omega) (by omega) (by omega);omega
  obtain⟨g,G1,G2,f,hf⟩:=l_m1 x a b i d hO hb hs c cc h1 h2 n (q+1) (swp e (q+1) q) false (by omega) (by omega) (S.next (by omega)) (T.trans ((S.stp (by omega) hk).mono haq (by omega)));refine⟨g,G1,G2,f,Z8Q ?_⟩;have e1:w ((q:Int)+1)=((q+1:Nat):Int):=by rw[wA (by omega) (by omega)];omega
  rw[wA (n:=(i:Int)-1) (by omega) (by omega),Ypx,e1];refine⟨by omega,_,gA (by omega),by omega,_,gA (by omega),?_⟩;rw[Yh,Yh,Zp8,ZNj e q (q+1) (by omega) (by omega)];obtain⟨v,hv⟩:=Zp9 (i:=q) e[q+1]! (show q+1<e.size by omega);exact⟨v,hv,hf⟩
def l_m0(x a b:Nat)(d:AR)(hO:OkC x d)(hb:b<=d.size)(hs:Srt (kx x) (a+1) b d):∀(n i j:Nat) (fr:Bool),j-i<=n->a<i->i<=j->j<=b->
  (i=a+1\/kx x d[i-1]!<kx x d[a]!)->(j=b\/kx x d[a]!<=kx x d[j]!)->Mgd x a b d (Zb2 fr d.toList x a i j)
 |n,i,j,fr,hn,hai,hij,hjb,h1,h2=>by
  have hsz:=hO.sz;by_cases h:i<j
  .have hm1:i<=(i+j) / 2:=by omega
   have hm2:(i+j) / 2<j:=by omega
   have hoc:=ZlB (hO.at_ ((i+j) / 2) (by omega)) (hO.at_ a (by omega));by_cases hl:kx x d[(i+j) / 2]!<kx x d[a]!
   .match n,hn with
    |0,hn=>omega
    |n+1,hn =>
    obtain⟨g,G1,G2,f,hf⟩:=l_m0 x a b d hO hb hs n ((i+j) / 2+1) j fr (by omega) (by omega) (by omega) hjb (.inr hl) h2;refine⟨g,G1,G2,f,ZzM ?_⟩;rw[Ypx,ZbV (by omega)];refine⟨by omega,_,gA (by omega),by omega,_,gA (by omega),_,_,hoc,?_⟩
    grind [wA]
   .match n,hn with
    |0,hn=>omega
    |n+1,hn =>
    obtain⟨g,G1,G2,f,hf⟩:=l_m0 x a b d hO hb hs n i ((i+j) / 2) fr (by omega) (by omega) (by omega) (by omega) h1 (.inr (by omega));refine⟨g,G1,G2,f,ZzM ?_⟩;rw[Ypx,ZbV (by omega)];refine⟨by omega,_,gA (by omega),by omega,_,gA (by omega),_,_,hoc,?_⟩
    grind
  .obtain rfl:i=j:=by omega
   obtain⟨g,G1,G2,f,hf⟩:=l_m1 x a b i d hO hb hs hai hjb h1 h2 _ a d fr rfl (by omega) (.start a d) (.refl _ _ _);refine⟨g,G1,G2,f,ZzM ?_⟩
   simp_all
def l_m3(x a m i:Nat)(d:AR)(hO:OkC x d)(hb:m<d.size)(hs:Srt (kx x) a m d)(c:a<=i)(cc:i<=m)(h1:i=a\/kx x d[i-1]!<=kx x d[m]!)(h2:i=m\/kx x d[m]!<kx x d[i]!) :
  ∀(n q:Nat) (e:AR) (fr:Bool),q-i=n->i<=q->Shr q m d e->Stp (kx x) a (m+1) d e->Mgd x a (m+1) d (Zdb fr e.toList x i q)
 |0,q,e,fr,hn,hq,S,T=>by
  obtain rfl:q=i:=by omega
  refine⟨e,T,S.srt hs h1 h2 c,fr,Z8R ?_⟩
  rw[Ynx]
 |n+1,q,e,fr,hn,hq,S,T=>by
  have hsz:=hO.sz;have hqm:=S.qm;have hes:e.size=d.size:=S.size;obtain⟨p,rfl⟩:∃p,q=p+1:=⟨q-1,by omega⟩;have hk:kx x d[m]!<kx x d[p]!:=by
   rcases h2 with h2|h2
   .omega
   .have:=hs.le (i:=i) (j:=p) c (by omega) (by omega);omega
  obtain⟨g,G1,G2,f,hf⟩:=l_m3 x a m i d hO hb hs c cc h1 h2 n p (swp e (p+1) p) false (by omega) (by omega) (S.next hb) (T.trans ((S.stp hb hk).mono (by omega) (by omega)));refine⟨g,G1,G2,f,Z8R ?_⟩;have e1:w (((p+1:Nat):Int)-1)=(p:Int):=by rw[wA (by omega) (by omega)];omega
  rw[Ypx,e1];refine⟨by omega,_,gA (by omega),by omega,_,gA (by omega),?_⟩;rw[Yh,Yh,Zp8];obtain⟨v,hv⟩:=Zp9 (i:=p+1) e[p]! (show p<e.size by omega);exact⟨v,hv,hf⟩
def l_m2(x a m:Nat)(d:AR)(hO:OkC x d)(hb:m<d.size)(hs:Srt (kx x) a m d):∀(n i j:Nat) (fr:Bool),j-i<=n->a<=i->i<=j->j<=m->
  (i=a\/kx x d[i-1]!<=kx x d[m]!)->(j=m\/kx x d[m]!<kx x d[j]!)->Mgd x a (m+1) d (Zb3 fr d.toList x m i j)
 |n,i,j,fr,hn,hai,hij,hjb,h1,h2=>by
  have hsz:=hO.sz;by_cases h:i<j
  .have hm1:i<=(i+j) / 2:=by omega
   have hm2:(i+j) / 2<j:=by omega
   have hoc:=ZlB (hO.at_ m (by omega)) (hO.at_ ((i+j) / 2) (by omega));by_cases hl:kx x d[m]!<kx x d[(i+j) / 2]!
   .match n,hn with
    |0,hn=>omega
    |n+1,hn =>
    obtain⟨g,G1,G2,f,hf⟩:=l_m2 x a m d hO hb hs n i ((i+j) / 2) fr (by omega) (by omega) (by omega) (by omega) h1 (.inr hl);refine⟨g,G1,G2,f,ZzN ?_⟩;rw[Ypx,ZbV (by omega)];refine⟨by omega,_,gA (by omega),by omega,_,gA (by omega),_,_,hoc,?_⟩
    grind
   .match n,hn with
    |0,hn=>omega
    |n+1,hn =>
    obtain⟨g,G1,G2,f,hf⟩:=l_m2 x a m d hO hb hs n ((i+j) / 2+1) j fr (by omega) (by omega) (by omega) hjb (.inr (by simpa using hl)) h2;refine⟨g,G1,G2,f,ZzN ?_⟩;rw[Ypx,ZbV (by omega)];refine⟨by omega,_,gA (by omega),by omega,_,gA (by omega),_,_,hoc,?_⟩
    grind [wA]
  .obtain rfl:i=j:=by omega
   obtain⟨g,G1,G2,f,hf⟩:=l_m3 x a m i d hO hb hs hai hjb h1 h2 _ m d fr rfl (by omega) (.start m d) (.refl _ _ _);refine⟨g,G1,G2,f,ZzN ?_⟩
   simp_all
def IHs(x n:Nat):Prop:=∀(a m b:Nat) (d:AR) (fr:Bool),b-a<=n->OkC x d->a<m->m<b->b<=d.size->Srt (kx x) a m d->Srt (kx x) m b d->Mgd x a b d (U4 fr d.toList x a m b)
def j_m4{x n a b mid s t:Nat}{d e f:AR}(IH:IHs x n)(hn:b-mid<=n)(hO:OkC x f)(hb:b<=d.size)(C:Zp1 (kx x) a b mid s t d e)(h1:a<=mid)(h2:mid<=t)(h3:t<=b)(F:Stp (kx x) a mid e f)(F':Srt (kx x) a mid f)(fr:Bool) :
  Mgd x a b d (Zau fr f.toList x b mid t)/\∀s':Nat,Mgd x a b d (KP fr f.toList x a b mid s' t false):=by
 have hfs:f.size=d.size:=F.size.trans C.stp.size;have q3:=C.q3.out F (.inr (Yj _));have q4:=C.q4.out F (.inr h2);by_cases h:mid<t/\t<b
 .obtain⟨g,G1,G2,r,hr⟩:=IH mid t b f fr hn hO h.1 h.2 (by omega) q3 q4;obtain⟨A,B⟩:=C.join h1 (by omega) F F' G1 G2;constructor
  .refine⟨g,A,B,r,Z8S ?_⟩
   simp_all
  .intro s';refine⟨g,A,B,r,Z8T ?_⟩
   simp_all
 .obtain⟨A,B⟩:=C.join h1 (by omega) F F' (.refl _ _ _) (Z9z q3 q4 h h2 h3);constructor
  .refine⟨f,A,B,fr,Z8S ?_⟩
   grind
  .intro s';refine⟨f,A,B,fr,Z8T ?_⟩
   grind
def ZpA(x n a m b:Nat)(d:AR)(IH:IHs x n)(hn:b-a<=n+1)(hO:OkC x d)(cd:a+1<m)(cl:m+1<b)(hb:b<=d.size)(cc:Srt (kx x) a m d)(c:Srt (kx x) m b d) :
  ∀(k s r:Nat) (fr:Bool),r-s<=k->a<=s->s<=r->r<=m->r<=(a+b) / 2->(a+b) / 2+m<=s+b->
  ((s=a\/(a+b) / 2+m=s+b)\/kx x d[s-1]!<=kx x d[(a+b) / 2+m-s]!)->((r=(a+b) / 2\/r=m)\/kx x d[(a+b) / 2+m-r-1]!<kx x d[r]!)->
  Mgd x a b d (Zat fr d.toList x a m b ((a+b) / 2:Nat) ((a+b) / 2+m:Nat) s r ((a+b) / 2+m-1:Nat))
 |k,s,r,fr,hk,hs1,hsr,hr1,hr2,hs4,h1,h2=>by
  have hsz:=hO.sz;by_cases h:s<r
  .have hm1:s<=(s+r) / 2:=by omega
   have hm2:(s+r) / 2<r:=by omega
   have e1:w ((((a+b) / 2+m-1:Nat):Int)-(((s+r) / 2:Nat):Int))=(((a+b) / 2+m-1-(s+r) / 2:Nat):Int):=by rw[wA (by omega) (by omega)];omega
   have hoc:=ZlB (hO.at_ ((a+b) / 2+m-1-(s+r) / 2) (by omega)) (hO.at_ ((s+r) / 2) (by omega));by_cases hl:kx x d[(a+b) / 2+m-1-(s+r) / 2]!<kx x d[(s+r) / 2]!
   .match k,hk with
    |0,hk=>omega
    |k+1,hk =>
    obtain⟨g,G1,G2,f,hf⟩:=ZpA x n a m b d IH hn hO cd cl hb cc c k s ((s+r) / 2) fr (by omega) hs1 (by omega) (by omega) (by omega) hs4 h1 (.inr (by rw[show(a+b) / 2+m-(s+r) / 2-1=(a+b) / 2+m-1-(s+r) / 2 by omega];exact hl));refine⟨g,G1,G2,f,Zl0 ?_⟩;rw[Ypx,ZbV (by omega),e1];refine⟨by omega,_,gA (by omega),by omega,_,gA (by omega),_,_,hoc,?_⟩;rw[Ypx];exact hf
   .match k,hk with
    |0,hk=>omega
    |k+1,hk =>
    obtain⟨g,G1,G2,f,hf⟩:=ZpA x n a m b d IH hn hO cd cl hb cc c k ((s+r) / 2+1) r fr (by omega) (by omega) (by omega) hr1 hr2 (by omega) (.inr (by
     rw[show(s+r) / 2+1-1=(s+r) / 2 by omega,show(a+b) / 2+m-((s+r) / 2+1)=(a+b) / 2+m-1-(s+r) / 2 by omega];omega)) h2
    refine⟨g,G1,G2,f,Zl0 ?_⟩;rw[Ypx,ZbV (by omega),e1];refine⟨by omega,_,gA (by omega),by omega,_,gA (by omega),_,_,hoc,?_⟩;rw[Ynx,wA (by omega) (by omega)]
    exact_mod_cast hf
  .obtain rfl:s=r:=by omega
   have e2:w ((((a+b) / 2+m:Nat):Int)-(s:Int))=(((a+b) / 2+m-s:Nat):Int):=by rw[wA (by omega) (by omega)];omega
   have K:Cut (kx x) a m b ((a+b) / 2) s d:=⟨by omega,by omega,hb,by omega,by omega,hs1,hr1,hr2,hs4,cc,c,h1,h2⟩;generalize hmid:(a+b) / 2=mid at *
   have main:∀(D:AR) (fr':Bool),Rtd s m (mid+m-s) d D->Mgd x a b d (Zfv fr' D.toList x a m b mid s ((mid+m-s:Nat):Int) false)/\
     (a<s->s<mid->∃v4 v5 v6,U4 fr' D.toList x a s mid=some (.tup [],[.arr 40 1 v4 (v5.map isc),.box [I v6]])/\Mgd x a b d (Zau v4 v5 v6 b mid ((mid+m-s:Nat):Int)))/\
     (¬(a<s/\s<mid)->Mgd x a b d (KP fr' D.toList x a b mid s ((mid+m-s:Nat):Int) false)):=by
    intro D fr' R;have Cd:=K.turn R;have hOD:OkC x D:=hO.stp Cd.stp hb;have hDs:D.size=d.size:=Cd.stp.size;have k1:mid<b:=K.l2;have k2:a<mid:=K.l1;have part1:a<s->s<mid->∃v4 v5 v6,U4 fr' D.toList x a s mid=some (.tup [],[.arr 40 1 v4 (v5.map isc),.box [I v6]])/\Mgd x a b d (Zau v4 v5 v6 b mid ((mid+m-s:Nat):Int)):=by
     intro p1 p2;obtain⟨g,G1,G2,f,hf⟩:=IH a s mid D fr' (by omega) hOD p1 p2 (by omega) Cd.q1 Cd.q2;exact⟨_,_,_,hf,(j_m4 IH (by omega) (hOD.stp G1 (by omega)) hb Cd (by omega) (by omega) (by omega) G1 G2 f).1⟩
    have part2:¬(a<s/\s<mid)->Mgd x a b d (KP fr' D.toList x a b mid s ((mid+m-s:Nat):Int) false):=by
     intro p;exact(j_m4 IH (by omega) hOD hb Cd (by omega) (by omega) (by omega) (.refl _ _ _) (Z9z Cd.q1 Cd.q2 p hs1 hr2) fr').2 s
    refine⟨?_,part1,part2⟩;by_cases p:a<s/\s<mid
    .obtain⟨v4,v5,v6,hX,g,G1,G2,f,hf⟩:=part1 p.1 p.2;refine⟨g,G1,G2,f,Z8U ?_⟩;rw[Ypx,Ypx];exact⟨_,_,_,hX,hf⟩
    .obtain⟨g,G1,G2,f,hf⟩:=part2 p;refine⟨g,G1,G2,f,Z8U ?_⟩;by_cases p1:(a:Int)<(s:Int)
     .rw[Ya p1,Ynx];exact hf
     .rw[Yb p1];exact hf
   by_cases hc:s<m/\m<mid+m-s
   .obtain⟨D,hD,fD,hfD⟩:=x_rot (x:=x) (d:=d) fr hsz hc.1 hc.2 (by omega);obtain⟨-,p1,p2⟩:=main D fD hD;by_cases p:a<s/\s<mid
    .obtain⟨v4,v5,v6,hX,g,G1,G2,f,hf⟩:=p1 p.1 p.2;refine⟨g,G1,G2,f,Zl0 ?_⟩;rw[Ynx,e2,Ypx,Ypx];refine⟨_,_,_,hfD,?_⟩;rw[Ypx,Ypx];exact⟨_,_,_,hX,hf⟩
    .obtain⟨g,G1,G2,f,hf⟩:=p2 p;refine⟨g,G1,G2,f,Zl0 ?_⟩;rw[Ynx,e2,Ypx,Ypx];refine⟨_,_,_,hfD,?_⟩;by_cases p1:(a:Int)<(s:Int)
     .rw[Ya p1,Ynx];exact hf
     .rw[Yb p1];exact hf
   .obtain⟨⟨g,G1,G2,f,hf⟩,-,-⟩:=main d fr (ZNm d hr1 (by omega) (by omega) (by omega));refine⟨g,G1,G2,f,Zl0 ?_⟩;rw[Ynx,e2];by_cases p1:(s:Int)<(m:Int)
    .rw[Ya p1,Ynx];exact hf
    .rw[Yb p1];exact hf
def ZpB(x:Nat):∀n,IHs x n
 |0,a,m,b,d,fr,hn,hO,ham,hmb,hb,hlo,hhi=>by omega
 |n+1,a,m,b,d,fr,hn,hO,ham,hmb,hb,hlo,hhi=>by
  have hsz:=hO.sz;have e1:w ((m:Int)-(a:Int))=((m-a:Nat):Int):=by rw[wA (by omega) (by omega)];omega
  have e2:w ((b:Int)-(m:Int))=((b-m:Nat):Int):=by rw[wA (by omega) (by omega)];omega
  by_cases h1:m=a+1
  .subst h1;obtain⟨g,G1,G2,f,hf⟩:=l_m0 x a b d hO hb hhi _ (a+1) b fr (Yj _) (by omega) (by omega) (Yj _) (.inl rfl) (.inl rfl);refine⟨g,G1,G2,f,Zpn ?_⟩
   simp_all
  .by_cases h2:b=m+1
   .subst h2;obtain⟨g,G1,G2,f,hf⟩:=l_m2 x a m d hO (by omega) hlo _ a m fr (Yj _) (Yj _) (by omega) (Yj _) (.inl rfl) (.inl rfl);refine⟨g,G1,G2,f,Zpn ?_⟩
    grind
   .have e3:w ((((a+b) / 2:Nat):Int)+(m:Int))=(((a+b) / 2+m:Nat):Int):=by rw[wA (by omega) (by omega)];omega
    have e4:w ((((a+b) / 2+m:Nat):Int)-1)=(((a+b) / 2+m-1:Nat):Int):=by rw[wA (by omega) (by omega)];omega
    by_cases h3:(a+b) / 2<m
    .have e5:w ((((a+b) / 2+m:Nat):Int)-(b:Int))=(((a+b) / 2+m-b:Nat):Int):=by rw[wA (by omega) (by omega)];omega
     obtain⟨g,G1,G2,f,hf⟩:=ZpA x n a m b d (ZpB x n) hn hO (by omega) (by omega) hb hlo hhi _ ((a+b) / 2+m-b) ((a+b) / 2) fr (Yj _) (by omega) (by omega) (by omega) (Yj _) (by omega) (.inl (.inr (by omega))) (.inl (.inl rfl));refine⟨g,G1,G2,f,Zpn ?_⟩
     grind [ZbV]
    .obtain⟨g,G1,G2,f,hf⟩:=ZpA x n a m b d (ZpB x n) hn hO (by omega) (by omega) hb hlo hhi _ a m fr (Yj _) (Yj _) (by omega) (Yj _) (by omega) (by omega) (.inl (.inl rfl)) (.inl (.inr rfl));refine⟨g,G1,G2,f,Zpn ?_⟩
     grind [ZbV]
def ZpC(x:Nat)(d0:AR)(v:Rs):Prop:=∃e,Stp (kx x) 0 d0.size d0 e/\Srt (kx x) 0 d0.size e/\Rz e x v
def l_s1(x bs:Nat)(d0:AR)(cd:0<bs)(c:OkC x d0)(cc:bs<d0.size)(IH:∀(e:AR) (fr:Bool),OkC x e->Stp (kx x) 0 d0.size d0 e->Bks (kx x) (2*bs) d0.size e->ZpC x d0 (Zav fr e.toList x d0.size ((2*bs:Nat):Int))) :
  ∀(n a:Nat) (e:AR) (fr:Bool),d0.size-a<=n->a<=d0.size->OkC x e->Stp (kx x) 0 d0.size d0 e->Mid (kx x) bs d0.size a e->ZpC x d0 (Zde fr e.toList x d0.size bs a ((a+2*bs:Nat):Int))
 |n,a,e,fr,hn,han,hO,T,M=>by
  have hsz:=c.sz;have hes:=T.size;obtain⟨t1,t2⟩:=M.two;have e1:w ((a:Int)+(bs:Int))=((a+bs:Nat):Int):=by rw[wA (by omega) (by omega)];omega
  have e2:w (2*(bs:Int))=((2*bs:Nat):Int):=by rw[wA (by omega) (by omega)];omega
  have e3:w (((a+2*bs:Nat):Int)+((2*bs:Nat):Int))=((a+2*bs+2*bs:Nat):Int):=by rw[wA (by omega) (by omega)];omega
  have e4:w ((bs:Int)*2)=((2*bs:Nat):Int):=by rw[wA (by omega) (by omega)];omega
  by_cases h:a+2*bs<=d0.size
  .match n,hn with
   |0,hn=>omega
   |n+1,hn =>
   obtain⟨g,G1,G2,f,hf⟩:=ZpB x _ a (a+bs) (a+2*bs) e fr (Yj _) hO (by omega) (by omega) (by omega) (by rw[Ybn (by omega)]at t1;exact t1) (by rw[Ybn (by omega)]at t2;exact t2);obtain⟨r,R1,R2,f2,hf2⟩:=l_s1 x bs d0 cd c cc IH n (a+2*bs) g f (by omega) h (hO.stp G1 (by omega)) (T.trans (G1.mono (Yc _) h)) (M.next G1 G2);refine⟨r,R1,R2,f2,ZzO ?_⟩
   grind
  .by_cases h2:a+bs<d0.size
   .obtain⟨g,G1,G2,f,hf⟩:=ZpB x _ a (a+bs) d0.size e fr (Yj _) hO (by omega) (by omega) (by omega) (by rw[Ybn (by omega)]at t1;exact t1) (by rw[Nat.min_eq_right (by omega)]at t2;exact t2);obtain⟨r,R1,R2,f2,hf2⟩:=IH g f (hO.stp G1 (by omega)) (T.trans (G1.mono (Yc _) (Yj _))) (M.end_ (by omega) G1 G2);refine⟨r,R1,R2,f2,ZzO ?_⟩
    grind
   .obtain⟨r,R1,R2,f2,hf2⟩:=IH e fr hO T (M.end_ (by omega) (.refl _ _ _) (by rw[Nat.min_eq_right (by omega)]at t1;exact t1));refine⟨r,R1,R2,f2,ZzO ?_⟩
    grind
def l_s2(x:Nat)(d0:AR)(c:OkC x d0):∀(n bs:Nat) (e:AR) (fr:Bool),d0.size-bs<=n->0<bs->bs<=8192->OkC x e->Stp (kx x) 0 d0.size d0 e->Bks (kx x) bs d0.size e->ZpC x d0 (Zav fr e.toList x d0.size bs)
 |n,bs,e,fr,hn,hbs,hb8,hO,T,B=>by
  have hsz:=c.sz;by_cases h:bs<d0.size
  .match n,hn with
   |0,hn=>omega
   |n+1,hn =>
   have e2:w (2*(bs:Int))=((0+2*bs:Nat):Int):=by rw[wA (by omega) (by omega)];omega
   obtain⟨r,R1,R2,f2,hf2⟩:=l_s1 x bs d0 hbs c h (λe fr hO T B=>l_s2 x d0 c n (2*bs) e fr (by omega) (by omega) (by omega) hO T B) _ 0 e fr (Yj _) (Yc _) hO T (.start B);refine⟨r,R1,R2,f2,Z8W ?_⟩
   simp_all
  .refine⟨e,T,B.whole (by omega),fr,Z8W ?_⟩;rw[Ynx]
def l_s0(x:Nat)(d0:AR)(c:OkC x d0):∀(n a:Nat) (e:AR) (fr:Bool),d0.size-a<=n->a<=d0.size->OkC x e->Stp (kx x) 0 d0.size d0 e->Ini (kx x) a e->ZpC x d0 (Zdd fr e.toList x d0.size 20 a ((a+20:Nat):Int))
 |n,a,e,fr,hn,han,hO,T,M=>by
  have hsz:=c.sz;have hes:=T.size;by_cases h:a+20<=d0.size
  .match n,hn with
   |0,hn=>omega
   |n+1,hn =>
   obtain⟨g,G1,G2,f,hf⟩:=Z9M (x:=x) (a:=a) (b:=a+20) (d:=e) fr hO (by omega) (by omega);obtain⟨r,R1,R2,f2,hf2⟩:=l_s0 x d0 c n (a+20) g f (by omega) h (hO.stp G1 (by omega)) (T.trans (G1.mono (Yc _) h)) (M.next G1 G2);refine⟨r,R1,R2,f2,Z8V ?_⟩
   grind [wA]
  .obtain⟨g,G1,G2,f,hf⟩:=Z9M (x:=x) (a:=a) (b:=d0.size) (d:=e) fr hO han (by omega);obtain⟨r,R1,R2,f2,hf2⟩:=l_s2 x d0 c _ 20 g f (Yj _) (by omega) (by omega) (hO.stp G1 (by omega)) (T.trans (G1.mono (Yc _) (Yj _))) (M.end_ (by omega) G1 G2);refine⟨r,R1,R2,f2,Z8V ?_⟩
   grind
def ZN1{x:Nat}{rows:V4}(hl:rows.length<=4096)(hk:∀r∈rows,okC x r):∃fr,ZnE rows x=some (.tup [],[.arr 40 1 fr ((QR x rows).map isc),.box [I x]]):=by
 have hO:OkC x rows.toArray:=⟨by simpa using hl,λi hi=>by
  have hi':i<rows.length:=by simpa using hi
  rw[getElem!_pos rows.toArray i hi]
  exact hk _ (by simp)⟩
 obtain⟨e,S,T,f,hf⟩:=l_s0 x rows.toArray hO _ 0 rows.toArray true (Yj _) (Yc _) hO (.refl _ _ _) (.start _)
 have hc:=S.classes (n:=10) T (λr hr=>by
  have:=hk r (by simpa using hr);unfold okC at this
  omega)
 rw[hc]at hf;refine⟨f,ZbM.1.1 _ _ _ ⟨_,_,_,ZLp hf,rfl⟩⟩
theorem JP:∀a b:V6,Xv b a=- Xv a b
 |[],[]=>rfl
 |[],_::_=>rfl
 |_::_,[]=>rfl
 |x::a,y::b=>by
  have ih:=JP a b;simp only[Xv];omega
theorem Qz:∀a b:V6,Xv a b=0->a=b
 |[],[],_=>rfl
 |[],_::_,h=>by simp[Xv]at h
 |_::_,[],h=>by simp[Xv]at h
 |x::a,y::b,h=>by
  simp only[Xv]at h;by_cases h1:x<y
  .omega
  .rw[Yb h1]at h;by_cases h2:y<x
   .omega
   .rw[Yb h2]at h;rw[Qz a b h,show x=y by omega]
theorem ZaI(a:V6):Xv a a=0:=by have:=JP a a;omega
theorem Zhq:∀a b c:V6,Xv a b<=0->Xv b c<=0->Xv a c<=0
 |[],_,[],_,_=>by simp[Xv]
 |[],_,_::_,_,_=>by simp[Xv]
 |_::_,[],_,h,_=>by simp[Xv]at h
 |_::_,_::_,[],_,h=>by simp[Xv]at h
 |x::a,y::b,z::c,h1,h2=>by
  simp only[Xv]at h1 h2|-;by_cases e1:x<y
  .omega
  .rw[Yb e1]at h1;by_cases e2:y<x
   .omega
   .rw[Yb e2]at h1
    have:x=y:=by omega
    subst this;by_cases e3:x<z
    .rw[Ya e3];decide
    .rw[Yb e3]at h2|-;by_cases e4:z<x
     .omega
     .rw[Yb e4]at h2|-;exact Zhq a b c h1 h2
def ZN2(a b c:V6)(h1:leR a b=true)(h2:leR b c=true):leR a c=true:=by
 unfold leR at *
 grind [Zhq]
def ZN3(a b:V6):(leR a b || leR b a)=true:=by
 unfold leR;have:=JP a b
 grind
theorem Z9N(a b:V6)(h1:leR a b=true)(h2:leR b a=true):a=b:=by
 unfold leR at *
 grind [JP,Qz]
def Zhr(rows:V4):(VF rows).Perm rows:=Ydg _ _
def ZpD(rows:V4):(VF rows).Pairwise λa b=>leR a b=true:=List.pairwise_mergeSort ZN2 ZN3 rows
def Z0r{rows l:V4}(hp:l.Perm rows)(hs:l.Pairwise λa b=>leR a b=true):l=VF rows :=
 List.Perm.eq_of_pairwise (λa b _ _=>Z9N a b) hs (ZpD rows) (hp.trans (Zhr rows).symm)
def ZlC:∀(l:V4) (y:V6),y∈WV l↔y∈l
 |[],y=>by simp[WV]
 |[a],y=>by simp[WV]
 |a::b::l,y=>by
  unfold WV;have ih:=ZlC (b::l) y
  grind
def Z0s:∀l:V4,(WV l).length<=l.length
 |[]=>Yj _
 |[a]=>Yj _
 |a::b::l=>by
  unfold WV;have:=Z0s (b::l)
  grind
def Z0t:∀l:V4,l.Pairwise (λa b=>leR a b=true)->(WV l).Nodup
 |[],_=>by simp[WV]
 |[a],_=>by simp[WV]
 |a::b::l,h=>by
  have h1:=Y4.1 h;unfold WV;split
  .exact Z0t (b::l) h1.2
  .rename_i e;refine Ycf.2 ⟨λhm=>?_,Z0t (b::l) h1.2⟩;rw[ZlC]at hm
   grind [Z9N,List.pairwise_cons]
def ZN4{a b:V4}(h:a.map isc=b.map isc):a=b:=(map_isc a b).1 h
def ic_inj{a b:V6}(h:a.map ic=b.map ic):a=b:=(Ydo (f:=ic) (by intro x y hxy;simpa[ic]using hxy)).1 h
def Z9O{rows:V4}(h1:rows.length<=4096)(h2:∀r∈rows,r.length<=4)(k:V4->V3):ZeP (rows.map isc) k=some (k rows):=by
 have h:∃r,Z3w (rows.map isc) r:=⟨rows,rfl,h1,h2⟩;unfold ZeP;rw[dif_pos h,ZN4 h.choose_spec.1.symm]
def Z9P{l:V6}(h1:l.length<=4096)(k:V6->V3):ZeQ (l.map ic) k=some (k l):=by
 have h:∃r,Z3x (l.map ic) r:=⟨l,rfl,h1⟩;unfold ZeQ;rw[dif_pos h,ic_inj h.choose_spec.1.symm]
def t360:tbl 360=none:=by kernel_rfl
def t362:tbl 362=none:=by kernel_rfl
def t351:tbl 351=none:=by kernel_rfl
def t407:tbl 407=none:=by kernel_rfl
def Z0u{fr:Bool}{rows:V4}(h1:rows.length<=4096)(h2:∀r∈rows,r.length<=4):C 360 [.own 0,.fn 361 []] [.arr 40 1 fr (rows.map isc)]=some (.tup [],[.arr 40 1 fr ((VF rows).map isc)]) :=
 ZhY t360 (by simp only[ext,Ya];exact Z9O h1 h2 _)
def Z0v{fr:Bool}{rows:V4}(h1:rows.length<=4096)(h2:∀r∈rows,r.length<=4):C 362 [.own 0,.fn 363 []] [.arr 40 1 fr (rows.map isc)]=some (.own 1,[.dead,.arr 40 1 fr ((WV rows).map isc)]) :=
 ZhY t362 (by simp only[ext,Ya];exact Z9O h1 h2 _)
def Z9Q{fr:Bool}{l:V6}(h1:l.length<=4096):C 351 [.own 0] [.arr 3 1 fr (l.map ic)]=some (.tup [],[.arr 3 1 fr ((Xg l).map ic)]) :=
 ZhY t351 (by simp only[ext,Ya];exact Z9P h1 _)
def Z9R{fr:Bool}{l:V6}(h1:l.length<=4096):C 407 [.own 0] [.arr 3 1 fr (l.map ic)]=some (.own 1,[.dead,.arr 3 1 fr ((XM l).map ic)]) :=
 ZhY t407 (by unfold ext;simp only[show ¬(407:Nat)=351 by decide,if_false,if_true];exact Z9P h1 _)
def t335:tbl 335=none:=by kernel_rfl
def c_rep{n:Int}(h1:1<=n)(h4:n<=4):C 335 [L 1 ([(-1)].map ic),I n] []=some (.own 0,[.arr 3 1 true ((List.replicate n.toNat (-1:Int)).map ic)]) :=
 ZhY t335 (by show(if(335:Nat)=335/\1<=n/\n<=4 then _ else _)=_;rw[Ya ⟨rfl,h1,h4⟩])
