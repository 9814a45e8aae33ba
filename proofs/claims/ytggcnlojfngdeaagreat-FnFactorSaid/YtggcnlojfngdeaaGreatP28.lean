/-
  Parts of the proofs for this seat: GA GB GC GD GE GF GH NAx.
-/
import Derived.Test.YtggcnlojfngdeaaGreatP27
set_option linter.all false
set_option maxRecDepth 100000
set_option maxHeartbeats 4000000
namespace Go.Proofs.YtggcnlojfngdeaaGreat
open Go.AM
def XR(rows:XV)(cols:WL):XV:=rows.map λr=>XI r cols
def cnt(all:XV)(g:WL):Int:=((all.filter λx=>decide (x=g)).length:Int)
def Vp(n:Int):XV:=if n=1 then[[0]]else if n=2 then[[0],[1],[0,1]]else[[0],[1],[0,1],[2],[0,2],[1,2],[0,1,2]]
def Gm(rows:XV)(cols:WL):XV:=H1 (XR rows cols)
def H5(rows:XV)(cols:WL):WL:=(Gm rows cols).map (cnt (XR rows cols))
def grp(rows:XV)(cols:WL):ZC:=⟨cols,Gm rows cols,H5 rows cols⟩
def ZJ(t:Zm):Zu:=⟨t.Name,t.Arity,t.Rows.length,(Vp t.Arity).map (grp t.Rows)⟩
def ZzE{n:Int}(h:Ak n 1 3=true):∀c∈Vp n,c.length<=3/\(∀x∈c,0<=x/\x<n)/\c.Pairwise (·<·):=by
 have h':1<=n/\n<=3:=by simpa[Ak]using h
 have:n=1\/n=2\/n=3:=by omega
 rcases this with rfl|rfl|rfl<;>decide
theorem ZpK(rows:XV)(cols:WL):(XR rows cols).length=rows.length:=by simp[XR]
def ZzF(rows:XV)(cols:WL):(Gm rows cols).length<=rows.length:=by
 have:=ZKI (XR rows cols);rw[ZpK]at this;exact this
def ZLi{rows:XV}{cols x:WL}(h:x∈XR rows cols):x.length=cols.length:=by
 obtain⟨r,_,rfl⟩:=Yp.1 h;simp[XI]
def Z9G{rows:XV}{cols x:WL}(h:x∈Gm rows cols):x.length=cols.length:=ZLi ((ZpA _ _).1 h)
def Z9H(all:XV)(g:WL):0<=cnt all g:=by unfold cnt;omega
def Z9I(all:XV)(g:WL):cnt all g<=all.length:=by
 unfold cnt
 grind
def E1(a b:Int):Bool:=decide (a<b)
def VD(n:Int):Option Int->WL->Bool
 |_,[]=>true
 |p,v::vs=>Ak v 0 (n-1) && BL E1 p v && VD n (some v) vs
def WX(n:Int)(vs:WL):Bool:=VD n none vs
def Z9J{n:Int}:∀{vs:WL} {p:Option Int},VD n p vs=true->∀c∈vs,0<=c/\c<n
 |[],_,_,c,hc=>by cases hc
 |v::vs,p,h,c,hc=>by
  simp only[VD,Yd]at h;have h1:0<=v/\v<=n-1:=by simpa[Ak]using h.1.1
  rcases Yz.1 hc with rfl|hc
  .omega
  .exact Z9J h.2 c hc
def Z9K{n:Int}:∀{vs:WL} {q:Int},VD n (some q) vs=true->-1<=q->q<n->(vs.length:Int)<=n-1-q
 |[],q,_,h1,h2=>by simp;omega
 |v::vs,q,h,h1,h2=>by
  simp only[VD,Yd]at h;have h3:0<=v/\v<=n-1:=by simpa[Ak]using h.1.1
  have h4:q<v:=by simpa[BL,E1]using h.1.2
  have:=Z9K h.2 Z Z
  grind
def ZzG{n:Int}{vs:WL}(h:WX n vs=true)(hn:0<=n):(vs.length:Int)<=n:=by
 cases vs with
 |nil=>simp;omega
 |cons v vs =>
  simp only[WX,VD,Yd]at h;have h3:0<=v/\v<=n-1:=by simpa[Ak]using h.1.1
  have:=Z9K h.2 Z Z
  grind
def Z9L{n:Int}(h:Ak n 1 3=true):∀c∈Vp n,WX n c=true:=by
 have h':1<=n/\n<=3:=by simpa[Ak]using h
 have:n=1\/n=2\/n=3:=by omega
 rcases this with rfl|rfl|rfl<;>decide
def w1{n:Int}(h:1<=n/\n<=3):w (n-1)=n-1:=ZF Z Z
def ZLj(t:Zm)(h:Cn t)(hn:1<=t.Arity/\t.Arity<=3)(vs:WL)(hl:Le vs):∀i,i<=vs.length->bP t vs i=some (Bo (VD t.Arity (Cb vs i) (vs.drop i) && Xb t),[]):=by
 refine down _ ?_ ?_
 .apply WI.1.2.1.1;rw[Ap,Ym];exact⟨_,Zpy t h,by simp[VD]⟩
 .intro i hi ih;apply WI.1.2.1.1;rw[Ao,Yh hi,VD,wS hi Z,w1 hn];refine⟨Z,_,gE hi,_,ZH _ _ _,?_⟩;rw[show Cb vs (i+1)=some vs[i]from Yf hi]at ih;rcases tf (Ak vs[i] 0 (t.Arity-1))with e|e
  .rw[e];simp
  .rw[e,Ya rfl,ih];by_cases h0:(0:Int)<(i:Int)
   .rw[Ya h0,wP Z hi Z,lP Z Z];refine⟨Z,_,gE Z,?_⟩;by_cases h2:vs[i]<=vs[i-1]
    .rw[Ya h2];simp[BL,E1];omega
    .rw[Yb h2];simp[BL,E1,show vs[i-1]<vs[i] by omega]
   .obtain rfl:i=0:=by omega
    rw[Yb h0];simp[BL,Cb]
def Z9M(t:Zm)(h:Cn t)(hn:1<=t.Arity/\t.Arity<=3)(vs:WL)(hl:Le vs):PE t vs=some (Bo (WX t.Arity vs && Xb t),[]) :=
 WI.1.2.1.2 _ _ _ (by simpa[WX,Cb]using ZLj t h hn vs hl 0 (Yc _))
def ZLk{n:Int}(h:Ak n 1 3=true):cA n=some (.own 0,[.arr 44 1 true ((Vp n).map AA)]):=by
 have h':1<=n/\n<=3:=by simpa[Ak]using h
 have Dw:w (0+1)=1:=by decide
 have w12:w (1+1)=2:=by decide
 have ND:w (2+1)=3:=by decide
 have b:∀{s:Int} {v:WL},Lw [] s 0=some (.own 0,[.arr 3 1 true (v.map ic)])->UP s=some (.own 0,[.arr 3 1 true (v.map ic)]):=λh=>X0.2.2.2.1 _ _ h
 have b1:UP 1=some (.own 0,[.arr 3 1 true (([0]:WL).map ic)]):=by
  refine b ?_
  repeat (refine X0.2.2.1.2 _ _ _ _ ?_;simp +decide[-List.map_cons,Dw,w12,ND])
 have b2:UP 2=some (.own 0,[.arr 3 1 true (([1]:WL).map ic)]):=by
  refine b ?_
  repeat (refine X0.2.2.1.2 _ _ _ _ ?_;simp +decide[-List.map_cons,Dw,w12,ND])
 have b3:UP 3=some (.own 0,[.arr 3 1 true (([0,1]:WL).map ic)]):=by
  refine b ?_
  repeat (refine X0.2.2.1.2 _ _ _ _ ?_;simp +decide[-List.map_cons,Dw,w12,ND])
 have b4:UP 4=some (.own 0,[.arr 3 1 true (([2]:WL).map ic)]):=by
  refine b ?_
  repeat (refine X0.2.2.1.2 _ _ _ _ ?_;simp +decide[-List.map_cons,Dw,w12,ND])
 have b5:UP 5=some (.own 0,[.arr 3 1 true (([0,2]:WL).map ic)]):=by
  refine b ?_
  repeat (refine X0.2.2.1.2 _ _ _ _ ?_;simp +decide[-List.map_cons,Dw,w12,ND])
 have b6:UP 6=some (.own 0,[.arr 3 1 true (([1,2]:WL).map ic)]):=by
  refine b ?_
  repeat (refine X0.2.2.1.2 _ _ _ _ ?_;simp +decide[-List.map_cons,Dw,w12,ND])
 have b7:UP 7=some (.own 0,[.arr 3 1 true (([0,1,2]:WL).map ic)]):=by
  refine b ?_
  repeat (refine X0.2.2.1.2 _ _ _ _ ?_;simp +decide[-List.map_cons,Dw,w12,ND])
 apply X0.2.2.2.2.2;have step:∀(out:XV) (s:Int) (v:WL) (r:XS),s<Ac 1 n->UP s=some (.own 0,[.arr 3 1 true (v.map ic)])->out.length+1<=68719476736->Lx (out++[v]) n (w (s+1))=some r->Lx out n s=some r:=by
  intro out s v r h1 h2 h3 h4;refine X0.2.2.2.2.1 _ _ _ _ ⟨_,ZH _ _ _,?_⟩
  grind
 have fin:∀(out:XV) (s:Int),¬s<Ac 1 n->Lx out n s=some (.own 0,[.arr 44 1 true (out.map AA)]):=by
  intro out s h1;refine X0.2.2.2.2.1 _ _ _ _ ⟨_,ZH _ _ _,?_⟩
  grind
 have:n=1\/n=2\/n=3:=by omega
 rcases this with rfl|rfl|rfl
 .exact step _ 1 _ _ Sm b1 Sm (fin _ _ Sm)
 .exact step _ 1 _ _ Sm b1 Sm (step _ 2 _ _ Sm b2 Sm (step _ 3 _ _ Sm b3 Sm (fin _ _ Sm)))
 .exact step _ 1 _ _ Sm b1 Sm (step _ 2 _ _ Sm b2 Sm (step _ 3 _ _ Sm b3 Sm (step _ 4 _ _ Sm b4 Sm (step _ 5 _ _ Sm b5 Sm (step _ 6 _ _ Sm b6 Sm (step _ 7 _ _ Sm b7 Sm (fin _ _ Sm)))))))
structure nE (rows:XV) (n:Nat):Prop where
 len:rows.length<=8
 row:∀r∈rows,r.length=n
 n3:n<=3
structure SZ (cols:WL) (n:Nat):Prop where
 len:cols.length<=3
 mem:∀c∈cols,0<=c/\c<n
def NE{t:Zm}(h:Xb t=true):nE t.Rows t.Arity.toNat/\1<=t.Arity/\t.Arity<=3:=by
 have h8:=KE h;unfold Xb at h;simp only[Yd]at h;have h2:1<=t.Arity/\t.Arity<=3:=by simpa[Ak]using h.1.1.2
 refine⟨⟨h8,λr hr=>?_,Z⟩,h2⟩;have h1:=Yn.1 h.2.1 r hr;unfold Ge at h1
 grind
def Z9N{n:Int}{cols:WL}(h:WX n cols=true)(hn:1<=n/\n<=3):SZ cols n.toNat:=by
 have h1:=ZzG h Z;exact⟨Z,λc hc=>by have:=Z9J h c hc;omega⟩
def ZLl(row cols:WL)(h4:cols.length<=1000)(hr:Le row)(hc:∀c∈cols,0<=c/\c<row.length):∀i,i<=cols.length->bQ (XI row (cols.take i)) row cols i=some (.tup [.own 0,Bo true],[.arr 3 1 true ((XI row cols).map ic)]):=by
 refine down _ ?_ ?_
 .simp[WI.1.2.2.2,Yr]
 .intro i hi ih;obtain⟨h0,h1⟩:=hc _ (Ye hi);apply WI.1.2.2.2;rw[Ao,wS hi Z];refine⟨Z,_,gE hi,_,ZH _ _ _,?_⟩;rw[show w ((row.length:Int)-1)=(row.length:Int)-1 from ZF Z Z];rw[show Ak cols[i] 0 ((row.length:Int)-1)=true by simp[Ak];omega,Ya rfl];refine⟨h0,_,gD Z,by simp[XI];omega,?_⟩;rw[show XI row (cols.take (i+1))=XI row (cols.take i)++[row.getD cols[i].toNat 0] by unfold XI;rw[Y5 hi,CE];rfl]at ih;exact ih
def ZpL{row cols:WL}{n:Nat}(hr:row.length=n)(hn:n<=3)(hc:SZ cols n):Hb row cols=some (.tup [.own 0,Bo true],[.arr 3 1 true ((XI row cols).map ic)]) :=
 WI.2.1.1.1 _ _ _ (by simpa[XI]using ZLl row cols (by have:=hc.len;omega) Z (by rw[hr];exact hc.mem) 0 (Yc _))
def ZLm{all:XV}{j:Nat}(hj:j<all.length)(g:WL):cnt (all.take (j+1)) g=cnt (all.take j) g+(if g=all[j]then 1 else 0):=by
 unfold cnt
 grind [List.take_succ_eq_append_getElem]
def gcR(cc:XV)(c:WL):XS:=(.tup [.own 0,.own 1],[.arr 44 1 true (cc.map AA),.arr 3 1 true (c.map ic)])
def NF(t:Zm)(c:XV)(counts cols:WL){n:Nat}(hR:nE t.Rows n)(hC:SZ cols n)(r:XS){k:Nat}(hk:k<c.length)(cc:∀x∈c,x.length<=4)(cl:counts.length<=4096)
  (cd:PN t c (counts++[cnt (XR t.Rows cols) c[k]]) cols (w ((k:Int)+1))=some r):∀j,j<=t.Rows.length->cD t c counts cols k (cnt (XR (t.Rows.take j) cols) c[k]) j=some r:=by
 have h8:=hR.len;refine down _ ?_ ?_
 .grind [Mp.2.1,List.take_length]
 .intro j hj ih;apply Mp.2.1;rw[Ao,wS hj Z];have hr:=hR.row _ (Ye hj);have hv4:=cc _ (Ye hk);have hs:(XI t.Rows[j] cols).length<=3:=by have:=hC.len;simp[XI];omega
  refine⟨Z,_,gE hj,_,_,ZpL hr hR.n3 hC,Z,_,gE hk,_,Gf _ _ Z Z,?_⟩;have hj':j<(XR t.Rows cols).length:=by rw[ZpK];exact hj
  have ht:∀i,XR (t.Rows.take i) cols=(XR t.Rows cols).take i:=λi=>by simp[XR,List.map_take]
  have he:(XR t.Rows cols)[j]=XI t.Rows[j] cols:=by simp[XR]
  rw[ht,ZLm hj',he]at ih;rw[ht];by_cases e:c[k]=XI t.Rows[j] cols
  .rw[Ya e]at ih;rw[Ya (by rw[e];exact Nd _)];have h1:=Z9H ((XR t.Rows cols).take j) c[k];have h2:=Z9I ((XR t.Rows cols).take j) c[k]
   grind [List.length_take,ZpK,ZF]
  .rw[Yb e,Int.add_zero]at ih
   grind [Kl]
def NG(t:Zm)(values:XV)(cols:WL){n:Nat}(hR:nE t.Rows n)(hC:SZ cols n)(hv:values.length<=4096)(c:∀x∈values,x.length<=4):∀k,k<=values.length->PN t values ((values.take k).map (cnt (XR t.Rows cols))) cols k=some (gcR values (values.map (cnt (XR t.Rows cols)))):=by
 refine down _ ?_ ?_
 .apply Mp.1.2;rw[Ap,Yr];rfl
 .intro k hk ih;apply Mp.1.2;rw[Ao];rw[Y5 hk,CE]at ih;have:=NF t values ((values.take k).map (cnt (XR t.Rows cols))) cols hR hC _ hk c (by simp;omega) (by rw[wS hk Z];exact ih) 0 (Yc _);simpa[cnt,XR]using this
def NH(t:Zm)(cols:WL){n:Nat}(hR:nE t.Rows n)(hC:SZ cols n):∀i,i<=t.Rows.length->∀acc:XV,acc.length<=i->(∀x∈acc,x.length<=4)->
  cC t acc [] cols i=some (gcR (H2 acc (XR (t.Rows.drop i) cols)) ((H2 acc (XR (t.Rows.drop i) cols)).map (cnt (XR t.Rows cols)))):=by
 have h8:=hR.len;refine down _ ?_ ?_
 .intro acc ha h4;apply Mp.1.1;rw[Ap,Ym];exact NG t acc cols hR hC Z h4 0 (Yc _)
 .intro i hi ih acc ha h4;apply Mp.1.1;rw[Ao,wS hi Z,Yh hi];have hr:=hR.row _ (Ye hi);have hs:(XI t.Rows[i] cols).length<=4:=by have:=hC.len;simp[XI];omega
  have hp:=ZpC acc (XI t.Rows[i] cols) false
  exact⟨Z,_,gE hi,_,_,ZpL hr hR.n3 hC,_,Z9x Z h4 hs,ih _ Z (λx hx=>by
   rcases(SQ _ _ _).1 hx with hx|rfl
   .exact h4 x hx
   .exact hs)⟩
def Z9O{t:Zm}(h:Cn t)(hv:Xb t=true){cols:WL}(hc:WX t.Arity cols=true):PM t cols=some (gcR (Gm t.Rows cols) (H5 t.Rows cols)):=by
 obtain⟨hR,hA⟩:=NE hv;have hC:=Z9N hc hA;refine Mp.2.2 _ _ _ ⟨_,Z9M t h hA cols (by have:=hC.len;omega),?_⟩;rw[hc,hv,Ya (by rfl)];have:=NH t cols hR hC 0 (Yc _) [] Om Om;rw[Yq,Z90]at this;exact this
def stR(t:Zm):XS:=(.agg ((ZJ t).c.map .t),[])
def S0{n:Int}(h:Ak n 1 3=true):0<(Vp n).length/\(Vp n).length<=7:=by
 have h':1<=n/\n<=3:=by simpa[Ak]using h
 have:n=1\/n=2\/n=3:=by omega
 rcases this with rfl|rfl|rfl<;>decide
theorem VE{t:Zm}(h:Xb t=true):Ak t.Arity 1 3=true:=by
 unfold Xb at h
 simp_all
def ZLn{t:Zm}(h:Cn t)(hv:Xb t=true)(a:V5)(b c:Int)(a':V5)(b' c':Int):∀i,i<=(Vp t.Arity).length->cE t a b c a' b' c' false (((Vp t.Arity).take i).map (grp t.Rows)) (Vp t.Arity) i=some (.agg ((⟨a',b',c',((Vp t.Arity).map (grp t.Rows))⟩:Zu).c.map .t),[]):=by
 have h7:=S0 (VE hv);refine down _ ?_ ?_
 .simp[X1.1.1.1.2,Yr]
 .intro i hi ih;apply X1.1.1.1.2;rw[Ao,wS hi Z];rw[Y5 hi,CE]at ih;exact⟨Z,_,gE hi,_,_,Z9O h hv (Z9L (VE hv) _ (Ye hi)),by simp;omega,ih⟩
def ZzH{t:Zm}(h:Cn t)(hv:Xb t=true):Ly t=some (stR t):=by
 have h7:=S0 (VE hv);refine X1.1.1.2.1 _ _ ⟨_,Zpy t h,?_⟩;rw[hv,Ya rfl];refine⟨_,ZLk (VE hv),X1.1.1.1.1 _ _ _ _ _ _ _ _ _ _ ?_⟩;rw[Ao];refine⟨Z,_,gE (i:=0) h7.1,_,_,Z9O h hv (Z9L (VE hv) _ (Ye h7.1)),?_⟩;have:=ZLn h hv ⟨#[]⟩ 0 0 t.Name t.Arity (t.Rows.length:Int) 1 Z;rw[Y5 h7.1]at this;rw[show w (0+1)=1 from by decide];unfold stR ZJ;simpa[grp]using this
def KK(d:Zq)(v:Int):Z2:=if Wu d && Ak v 1 999 then⟨v,d.Tables.map ZJ⟩else⟨0,[]⟩
def S2(d:Zq)(v:Int):Bool:=decide ((KK d v).Tables=[])
def ZpM(d:Zq)(v:Int):XS:=(.tup [.agg [I (KK d v).Version,.own 0],Bo (Wu d && Ak v 1 999)],[.arr 100 4 (S2 d v) ((KK d v).Tables.map Zu.c)])
def Z9P{d:Zq}{v:Int}(h:S2 d v=false):(Wu d && Ak v 1 999)=true:=by
 rcases tf (Wu d && Ak v 1 999)with e|e
 .unfold S2 KK at h;rw[e]at h;simp at h
 .exact e
def ZzI{d:Zq}(hv:Wu d=true):d.Tables.length<=6:=by
 unfold Wu at hv
 grind
def ZLo{d:Zq}(h:Cy d)(hv:Wu d=true)(a b:Int):∀i,i<=d.Tables.length->cF d a b false ((d.Tables.take i).map ZJ) i=some (.tup [.agg [I b,.own 0],Bo true],[.arr 100 4 false ((d.Tables.map ZJ).map Zu.c)]):=by
 have h6:=ZzI hv;refine down _ ?_ ?_
 .simp[X1.1.2.1.1,Yr]
 .intro i hi ih;apply X1.1.2.1.1;rw[Ao,wS hi Z];rw[Y5 hi,CE]at ih;have hm:=Ye hi;exact⟨Z,_,gE hi,⟨_,ZzH (h.2 _ hm) (HX hv hm),by simp;omega,ih⟩⟩
def Z9Q{d:Zq}(h:Cy d)(v:Int):Lz d v=some (ZpM d v):=by
 refine X1.1.2.1.2 _ _ _ ⟨_,Z8Q d h,?_⟩;unfold ZpM S2 KK;rcases tf (Wu d)with hv|hv
 .simp[hv]
 rw[hv,Ya rfl];refine⟨_,ZH _ _ _,?_⟩;rcases tf (Ak v 1 999)with e|e
 .simp[e]
 rw[e,Ya rfl,Yl,Ya rfl];apply X1.1.1.2.2;by_cases e0:d.Tables=[]
 .simp_all
 .have h0:0<d.Tables.length:=Y4.2 e0;have hm:=Ye h0;rw[Ao];refine⟨Z,_,gE (i:=0) h0,⟨_,ZzH (h.2 _ hm) (HX hv hm),?_⟩⟩;have:=ZLo h hv 0 v 1 Z;rw[Y5 h0]at this;rw[show w (0+1)=1 from by decide];simpa[ZJ,e0]using this
abbrev LeG(g:ZC):Prop:=g.Columns.length<=4294967296/\(g.Values.length<=4294967296/\∀r∈g.Values,r.length<=4294967296)/\g.Counts.length<=4294967296
abbrev DQ(s:Zu):Prop:=s.Groups.length<=4294967296/\∀g∈s.Groups,LeG g
abbrev LeK(c:Z2):Prop:=c.Tables.length<=4294967296/\∀s∈c.Tables,DQ s
def ZpN(v:Int)(ts:List Zu)(c:Z2):Bool:=decide (v=c.Version/\ts=c.Tables)
def ZLp(a b:Zu)(x y:ZC)(hl:y.Values.length=x.Values.length)(hx:LeG x)(hy:LeG y)(r:Bool)(i:Int)(cc:P2 a b (w (i+1))=some (Bo r,[])):∀k,k<=x.Values.length->dD a b x y i k=some (Bo (decide (x.Values.drop k=y.Values.drop k) && r),[]):=by
 refine down _ ?_ ?_
 .simp_all [XZ.1.2.1.1,Ym]
 .intro k hk ih;have hk':k<y.Values.length:=by omega
  apply XZ.1.2.1.1;rw[Ao,wS hk (by have:=hx.2.1.1;omega),ZzD hk hk'];have l1:=hx.2.1.2 _ (Ye hk);have l2:=hy.2.1.2 _ (Ye hk');refine⟨Z,_,gE hk,_,gE hk',_,Gf _ _ Z Z,?_⟩;by_cases c:x.Values[k]=y.Values[k]
  .simp_all [Nd]
  .grind [Kl]
def ZLq(a b:Zu)(hl:b.Groups.length=a.Groups.length)(ha:DQ a)(hb:DQ b):∀i,i<=a.Groups.length->P2 a b i=some (Bo (decide (a.Groups.drop i=b.Groups.drop i)),[]):=by
 refine down _ ?_ ?_
 .apply XZ.1.1.2.2
  simp_all
 .intro i hi ih;have hi':i<b.Groups.length:=by omega
  have l1:=ha.2 _ (Ye hi);have l2:=hb.2 _ (Ye hi');have l11:=l1.1;have l13:=l1.2.2;have l21:=l2.1;have l23:=l2.2.2;apply XZ.1.1.2.2;rw[Ao,ZzD hi hi'];refine⟨Z,_,gE hi,_,gE hi',_,Gf _ _ Z Z,?_⟩;by_cases c1:a.Groups[i].Columns=b.Groups[i].Columns
  .rw[Ya (by rw[c1];exact Nd _)];refine⟨_,Gf _ _ Z Z,?_⟩;by_cases c2:a.Groups[i].Counts=b.Groups[i].Counts
   .rw[Ya (by rw[c2];exact Nd _)];by_cases c3:(a.Groups[i].Values.length:Int)=(b.Groups[i].Values.length:Int)
    .rw[Ya c3];have:=ZLp a b a.Groups[i] b.Groups[i] Z l1 l2 _ i (by rw[wS hi (by have:=ha.1;omega)];exact ih) 0 (Yc _);rw[Yq,Yq]at this;have e:decide (a.Groups[i]=b.Groups[i])=decide (a.Groups[i].Values=b.Groups[i].Values):=by simp[ZC.ext_iff,c1,c2]
     rw[e];exact this
    .rw[Yb c3]
     have:¬a.Groups[i]=b.Groups[i]:=λhc=>c3 (by rw[hc])
     simp[this]
   .rw[Yb (λh=>c2 (Kl _ _ h))]
    have:¬a.Groups[i]=b.Groups[i]:=λhc=>c2 (by rw[hc])
    simp[this]
  .rw[Yb (λh=>c1 (Kl _ _ h))]
   have:¬a.Groups[i]=b.Groups[i]:=λhc=>c1 (by rw[hc])
   simp[this]
def Z9R(a b:Zu)(ha:DQ a)(hb:DQ b):P1 a b=some (Bo (decide (a=b)),[]):=by
 apply XZ.1.2.1.2;by_cases c:a.Name=b.Name
 .rw[Ya c];by_cases c2:a.Arity=b.Arity
  .rw[Ya c2];by_cases c3:a.RowCount=b.RowCount
   .rw[Ya c3];by_cases c4:(a.Groups.length:Int)=(b.Groups.length:Int)
    .rw[Ya c4];have e:decide (a=b)=decide (a.Groups=b.Groups):=by simp[Zu.ext_iff,c,c2,c3]
     rw[e];simpa using ZLq a b Z ha hb 0 (Yc _)
    .rw[Yb c4]
     have:¬a=b:=λhc=>c4 (by rw[hc])
     simp[this]
   .rw[Yb c3];simp[Zu.ext_iff,c,c2,c3]
  .rw[Yb c2];simp[Zu.ext_iff,c,c2]
 .rw[Yb c];simp[Zu.ext_iff,c]
def ZLr(a b:Z2)(hl:b.Tables.length=a.Tables.length)(ha:LeK a)(hb:LeK b):∀i,i<=a.Tables.length->dE a b i=some (Bo (decide (a.Tables.drop i=b.Tables.drop i)),[]):=by
 refine down _ ?_ ?_
 .apply XZ.1.2.2.1
  simp_all
 .intro i hi ih;have hi':i<b.Tables.length:=by omega
  apply XZ.1.2.2.1;rw[Ao,wS hi (by have:=ha.1;omega),ZzD hi hi'];refine⟨Z,_,gE hi,_,gE hi',_,Z9R _ _ (ha.2 _ (Ye hi)) (hb.2 _ (Ye hi')),?_⟩
  simp_all
def ZLs(v:Int)(ts:List Zu)(c:Z2)(h:ts.length<=4294967296/\∀s∈ts,DQ s)(hc:LeK c):P3 ⟨v,ts⟩ c=some (Bo (ZpN v ts c),[]):=by
 apply XZ.1.2.2.2;unfold ZpN;by_cases e:v=c.Version
 .rw[Ya e];by_cases c4:(ts.length:Int)=(c.Tables.length:Int)
  .rw[Ya c4];subst e;have:=ZLr ⟨c.Version,ts⟩ c (by simp only;omega) h hc 0 (Yc _)
   simp_all
  .rw[Yb c4]
   have:¬ts=c.Tables:=λhc=>c4 (by rw[hc])
   simp[this]
 .rw[Yb e];simp[e]
def H6(d:Zq)(f:Zx):Bool:=match Wv d f.Name with
 |none=>false
 |some t=>WX t.Arity f.From && Ak f.To 0 (t.Arity-1) && !(has f.From f.To)
theorem S3{d:Zq}{n:V5}{t:Zm}(h:Wv d n=some t):Xb t=true:=by
 obtain⟨h1,h2,_⟩:=Z8R h;exact HX h1 h2
def Z9S{d:Zq}(hd:Cy d){n:V5}{t:Zm}(h:Wv d n=some t):Cn t:=hd.2 t (Z8R h).2.1
def ZLt{t:Zm}(hv:Xb t=true)(h0:t.Rows=[])(vs:WL)(hl:Le vs):wC t.Name t.Arity vs=some (Bo (WX t.Arity vs),[]):=by
 have hA:=(NE hv).2;have hV:Ha t.Name t.Arity=some (Bo true,[]):=by
  unfold Xb at hv
  simp_all [Yd,Xn.2.2.2.2.2,Zzf,ZH,Xn.2.2.2.2.1]
 have main:∀i,i<=vs.length->bN t.Name t.Arity vs i=some (Bo (VD t.Arity (Cb vs i) (vs.drop i)),[]):=by
  refine down _ ?_ ?_
  .apply WI.1.1.1.1;rw[Ap,Ym];exact⟨_,hV,rfl⟩
  .intro i hi ih;apply WI.1.1.1.1;rw[Ao,Yh hi,VD,wS hi Z,w1 hA];refine⟨Z,_,gE hi,_,ZH _ _ _,?_⟩;rw[show Cb vs (i+1)=some vs[i]from Yf hi]at ih;rcases tf (Ak vs[i] 0 (t.Arity-1))with e|e
   .rw[e];simp
   .rw[e,Ya rfl,ih];by_cases h0:(0:Int)<(i:Int)
    .rw[Ya h0,wP Z hi Z,lP Z Z];refine⟨Z,_,gE Z,?_⟩;by_cases h2:vs[i]<=vs[i-1]
     .rw[Ya h2];simp[BL,E1];omega
     .rw[Yb h2];simp[BL,E1,show vs[i-1]<vs[i] by omega]
    .obtain rfl:i=0:=by omega
     rw[Yb h0];simp[BL,Cb]
 exact WI.1.1.1.2 _ _ _ _ (by simpa[WX,Cb]using main 0 (Yc _))
def Z9T{d:Zq}(h:Cy d)(f:Zx)(hf:f.From.length<=4294967296):PF d f=some (Bo (H6 d f),[]):=by
 have hl:=Nf d h f.Name;apply WI.1.2.2.1;unfold H6
 cases hq:Wv d f.Name with
 |none=>rw[hq]at hl;exact .inl ⟨_,_,_,hl,rfl⟩
 |some t =>
  rw[hq]at hl;simp only[Jx]at hl;have hv:=S3 hq;have hA:=(NE hv).2;by_cases e0:t.Rows=[]
  .rw[Ya e0]at hl;refine .inl ⟨_,_,_,hl,?_⟩;rw[Ya rfl];refine⟨_,ZLt hv e0 _ Z,?_⟩;rcases tf (WX t.Arity f.From)with e|e
   .rw[e];simp[e]
   .rw[e,Ya rfl,w1 hA];refine⟨_,ZH _ _ _,?_⟩;rcases tf (Ak f.To 0 (t.Arity-1))with e2|e2
    .rw[e2];simp[e,e2]
    .grind [Qn]
  .rw[Yb e0]at hl;refine .inr ⟨_,_,_,hl,_,Z9M t (Z9S h hq) hA _ Z,?_⟩;rw[hv,Bool.and_true];rcases tf (WX t.Arity f.From)with e|e
   .rw[e];simp[e]
   .rw[e,Ya rfl,w1 hA];refine⟨_,ZH _ _ _,?_⟩;rcases tf (Ak f.To 0 (t.Arity-1))with e2|e2
    .rw[e2];simp[e,e2]
    .grind [Qn]
def S4(rows:XV)(f:Zx)(i k:Nat):Prop:=XI (rows.getD i []) f.From=XI (rows.getD k []) f.From->(rows.getD i []).getD f.To.toNat 0=(rows.getD k []).getD f.To.toNat 0
def J2(rows:XV)(f:Zx)(k:Nat):Prop:=∀k',k<=k'->k'<rows.length->∀i,i<k'->S4 rows f i k'
structure NI (t:Zm) (f:Zx) (n:Nat):Prop where
 rows:nE t.Rows n
 cols:SZ f.From n
 to:0<=f.To/\f.To<n
def ZLu{d:Zq}{f:Zx}{t:Zm}(hq:Wv d f.Name=some t)(hv:H6 d f=true):NI t f t.Arity.toNat:=by
 obtain⟨hR,hA⟩:=NE (S3 hq);unfold H6 at hv;rw[hq]at hv;simp only[Yd]at hv;have h2:0<=f.To/\f.To<=t.Arity-1:=by simpa[Ak]using hv.1.2
 exact⟨hR,Z9N hv.1.1 hA,Z⟩
def gd{rows:XV}{i:Nat}(h:i<rows.length):rows.getD i []=rows[i]:=by
 simp_all
def Gn(L:XP)(z:XS)(ok:Prop):Prop:=(ok->L=some z)/\(¬ok->∃a b:Int,L=some (.own 0,[.arr 3 1 true (([a,b]:WL).map ic)]))
def Gn.cong{L:XP}{z:XS}{p q:Prop}(h:Gn L z p)(e:p↔q):Gn L z q:=⟨λhq=>h.1 (e.2 hq),λhq=>h.2 λhp=>hq (e.1 hp)⟩
def Gn.map{L L':XP}{z:XS}{p:Prop}(h:Gn L z p)(e:∀r,L=some r->L'=some r):Gn L' z p:=⟨λhp=>e _ (h.1 hp),λhp=>(h.2 hp).imp λa ⟨b,hb⟩=>⟨b,e _ hb⟩⟩
def ZzJ{rows:XV}{f:Zx}{k i:Nat}(hi:i<k):((∀j,i<=j->j<k->S4 rows f j k)/\J2 rows f (k+1))↔(S4 rows f i k/\((∀j,i+1<=j->j<k->S4 rows f j k)/\J2 rows f (k+1))):=by
 grind
def NJ{rows:XV}{f:Zx}{k:Nat}(hk:k<rows.length):J2 rows f k↔((∀j,0<=j->j<k->S4 rows f j k)/\J2 rows f (k+1)):=by
 constructor
 .intro h;exact⟨λj _ h4=>h k (Yk _) hk j h4,λk' h1 h2=>h k' Z h2⟩
 .rintro⟨h1,h2⟩ k' h3 h4 i hi;by_cases e:k'=k
  .simp_all
  .exact h2 k' Z h4 i hi
def ZLv{d:Zq}{t:Zm}{f:Zx}{n:Nat}(h:NI t f n){k:Nat}(hk:k<t.Rows.length)(a:V5)(b:Int)(c:Gn (PG d f a b t.Rows (w ((k:Int)+1))) (.own 0,[.arr 3 1 true (([]:WL).map ic)]) (J2 t.Rows f (k+1))) :
  ∀i,i<=k->Gn (Hc d f a b t.Rows (XI t.Rows[k] f.From) k i) (.own 0,[.arr 3 1 true (([]:WL).map ic)]) ((∀j,i<=j->j<k->S4 t.Rows f j k)/\J2 t.Rows f (k+1)):=by
 have h8:=h.rows.len;refine down _ ?_ ?_
 .refine(c.map λr hr=>?_).cong ⟨λhp=>⟨λj h1 h2=>by omega,hp⟩,λhp=>hp.2⟩
  simp_all [WI.2.1.2.2]
 .intro i hi ih;have hi':i<t.Rows.length:=by omega
  have Dt:=h.rows.row _ (Ye hi');have hrk:=h.rows.row _ (Ye hk);have hc3:=h.cols.len;have hto:=h.to;have hs:∀r:WL,(XI r f.From).length<=3:=λr=>by simp[XI];omega
  have step:∀r,(if XI t.Rows[i] f.From=XI t.Rows[k] f.From then(if t.Rows[i].getD f.To.toNat 0=t.Rows[k].getD f.To.toNat 0 then Hc d f a b t.Rows (XI t.Rows[k] f.From) k (w ((i:Int)+1))=some r else some (.own 0,[.arr 3 1 true (([(i:Int),(k:Int)]:WL).map ic)])=some r)else Hc d f a b t.Rows (XI t.Rows[k] f.From) k (w ((i:Int)+1))=some r)->Hc d f a b t.Rows (XI t.Rows[k] f.From) k i=some r:=by
   intro r hr;apply WI.2.1.2.2;rw[Ao];have q1:=hs t.Rows[i];have q2:=hs t.Rows[k];refine⟨Z,_,gE hi',_,_,ZpL Dt h.rows.n3 h.cols,_,Gf _ _ Z Z,?_⟩
   grind [Nd,gD,gE,Kl]
  rw[show w ((i:Int)+1)=((i+1:Nat):Int)from wS hi' Z]at step;by_cases e:XI t.Rows[i] f.From=XI t.Rows[k] f.From
  .by_cases e2:t.Rows[i].getD f.To.toNat 0=t.Rows[k].getD f.To.toNat 0
   .refine(ih.map λr hr=>step r (by rw[Ya e,Ya e2];exact hr)).cong ?_;rw[ZzJ hi];exact⟨λhp=>⟨λ_=>by rw[gd hi',gd hk];exact e2,hp⟩,λhp=>hp.2⟩
   .refine⟨λhp=>absurd ((ZzJ hi).1 hp).1 λhg=>e2 ?_,λ_=>⟨_,_,step _ (by rw[Ya e,Yb e2])⟩⟩;have:=hg (by rw[gd hi',gd hk];exact e)
    simp_all
  .refine(ih.map λr hr=>step r (by rw[Yb e];exact hr)).cong ?_;rw[ZzJ hi];exact⟨λhp=>⟨λhq=>absurd (by rw[gd hi',gd hk]at hq;exact hq) e,hp⟩,λhp=>hp.2⟩
def ZLw{d:Zq}(hd:Cy d){t:Zm}{f:Zx}(hf:f.From.length<=4294967296)(hv:H6 d f=true){n:Nat}(h:NI t f n)(a:V5)(b:Int):∀k,k<=t.Rows.length->Gn (PG d f a b t.Rows k) (.own 0,[.arr 3 1 true (([]:WL).map ic)]) (J2 t.Rows f k):=by
 have h8:=h.rows.len;refine down _ ?_ ?_
 .refine⟨λ_=>WI.2.1.2.1 _ _ _ _ _ _ _ (by rw[Ap]),λhn=>absurd (λk' h1 h2=>by omega) hn⟩
 .intro k hk ih;rw[<-show w ((k:Int)+1)=((k+1:Nat):Int)from wS hk Z]at ih;refine((ZLv (d:=d) h hk a b ih 0 (Yc _)).map λr hr=>?_).cong (NJ hk).symm;apply WI.2.1.2.1;rw[Ao];refine⟨_,Z9T hd f hf,?_⟩;rw[hv,Ya rfl];exact⟨Z,_,gE hk,_,_,ZpL (h.rows.row _ (Ye hk)) h.rows.n3 h.cols,hr⟩
open Classical in
noncomputable def S5(d:Zq)(f:Zx):Bool:=H6 d f && (match Wv d f.Name with
 |none=>true
 |some t=>decide (J2 t.Rows f 0))
def ZzK{d:Zq}(h:Cy d)(f:Zx)(hf:f.From.length<=4294967296):Lv d f=some (Bo (S5 d f),[]):=by
 refine WI.2.2.1.2 _ _ _ ⟨_,Z9T h f hf,?_⟩;unfold S5;rcases tf (H6 d f)with hv|hv
 .rw[hv];rfl
 rw[hv,Ya rfl,Yl]
 cases hq:Wv d f.Name with
 |none=>unfold H6 at hv;rw[hq]at hv;cases hv
 |some t =>
  have hl:=Nf d h f.Name;rw[hq]at hl;simp only[Jx]at hl;by_cases e0:t.Rows=[]
  .rw[Ya e0]at hl;have e:J2 t.Rows f 0:=λk' h1 h2=>by rw[e0]at h2;simp at h2
   simp_all [WI.2.2.1.1,WI.2.1.1.2]
  .rw[Yb e0]at hl;have V:=(ZLw h hf hv (ZLu hq hv) t.Name t.Arity 0 (Yc _)).map (L':=wE d f) λr hr=>WI.2.2.1.1 _ _ _ (.inr ⟨_,_,_,hl,hr⟩)
   by_cases e:J2 t.Rows f 0
   .exact⟨[],V.1 e,by simp[e]⟩
   .obtain⟨x,y,hxy⟩:=V.2 e;exact⟨_,hxy,by simp[e]⟩
def S6(d:Zq)(x:Zw):Bool:=match Wv d x.Name,Wv d x.Into with
 |some a,some b=>Ak x.Column 0 (a.Arity-1) && Ak x.IntoColumn 0 (b.Arity-1)
 |_,_=>false
def Z9U{d:Zq}(h:Cy d)(x:Zw):PH d x=some (Bo (S6 d x),[]):=by
 have h1:=Nf d h x.Name;have h2:=Nf d h x.Into;apply WI.2.2.2.2;unfold S6
 cases hq:Wv d x.Name with
 |none =>
  rw[hq]at h1
  cases hq2:Wv d x.Into with
  |none=>rw[hq2]at h2;exact .inl ⟨_,_,_,h1,.inl ⟨_,_,_,h2,Om⟩⟩
  |some b =>
   rw[hq2]at h2;simp only[Jx]at h2;by_cases e2:b.Rows=[]
   .rw[Ya e2]at h2;exact .inl ⟨_,_,_,h1,.inl ⟨_,_,_,h2,Om⟩⟩
   .rw[Yb e2]at h2;exact .inl ⟨_,_,_,h1,.inr ⟨_,_,_,h2,Om⟩⟩
 |some a =>
  rw[hq]at h1;simp only[Jx]at h1;have wa:=w1 (NE (S3 hq)).2
  cases hq2:Wv d x.Into with
  |none =>
   rw[hq2]at h2;by_cases e1:a.Rows=[]
   .rw[Ya e1]at h1;exact .inl ⟨_,_,_,h1,.inl ⟨_,_,_,h2,Om⟩⟩
   .rw[Yb e1]at h1;exact .inr ⟨_,_,_,h1,.inl ⟨_,_,_,h2,Om⟩⟩
  |some b =>
   rw[hq2]at h2;simp only[Jx]at h2;have wb:=w1 (NE (S3 hq2)).2;by_cases e1:a.Rows=[]
   .rw[Ya e1]at h1;by_cases e2:b.Rows=[]
    .rw[Ya e2]at h2;refine .inl ⟨_,_,_,h1,.inl ⟨_,_,_,h2,?_⟩⟩
     simp_all
    .rw[Yb e2]at h2;refine .inl ⟨_,_,_,h1,.inr ⟨_,_,_,h2,?_⟩⟩
     simp_all
   .rw[Yb e1]at h1;by_cases e2:b.Rows=[]
    .rw[Ya e2]at h2;refine .inr ⟨_,_,_,h1,.inl ⟨_,_,_,h2,?_⟩⟩
     simp_all
    .rw[Yb e2]at h2;refine .inr ⟨_,_,_,h1,.inr ⟨_,_,_,h2,_,ZH _ _ _,?_⟩⟩
     simp_all
def Xv(rows:XV)(c:Int):WL:=rows.map λr=>r.getD c.toNat 0
structure U5 (rows:XV) (c:Int):Prop where
 len:rows.length<=8
 row:∀r∈rows,(c.toNat<r.length/\r.length<=3)/\∀v∈r,0<=v/\v<=9
 c0:0<=c
theorem ZLx{t:Zm}(hv:Xb t=true){c:Int}(hc:Ak c 0 (t.Arity-1)=true):U5 t.Rows c:=by
 obtain⟨hR,hA⟩:=NE hv;have h2:0<=c/\c<=t.Arity-1:=by simpa[Ak]using hc
 refine⟨hR.len,λr hr=>⟨?_,λv hx=>?_⟩,h2.1⟩
 .have:=hR.row r hr;omega
 .unfold Xb at hv;simp only[Yd]at hv;have h1:=Yn.1 hv.2.1 r hr;unfold Ge at h1;simp only[Yd]at h1;simpa[dig,Ak]using Yn.1 h1.1 v hx
def ZLy{rows:XV}{c:Int}(h:U5 rows c):∀v∈Xv rows c,0<=v/\v<=9:=by
 intro v hv;obtain⟨r,hr,rfl⟩:=Yp.1 hv;obtain⟨⟨h1,_⟩,h2⟩:=h.row r hr
 simp_all
def nF(A B:WL):WL:=A.filter λv=>!(has B v)
def NK(d:Zq)(x:Zw):Bool:=S6 d x && (match Wv d x.Name,Wv d x.Into with
 |some a,some b=>(nF (Xv a.Rows x.Column) (Xv b.Rows x.IntoColumn)).isEmpty
 |_,_=>true)
def NL{d:Zq}{x:Zw}(hv:S6 d x=true):∃a b,Wv d x.Name=some a/\Wv d x.Into=some b/\U5 a.Rows x.Column/\U5 b.Rows x.IntoColumn:=by
 unfold S6 at hv
 cases hq:Wv d x.Name with
 |none=>rw[hq]at hv;cases hv
 |some a =>
  cases hq2:Wv d x.Into with
  |none=>rw[hq,hq2]at hv;cases hv
  |some b =>
   rw[hq,hq2]at hv;simp only[Yd]at hv
   grind [ZLx,S3]
def Qa(A B:WL)(u:Nat):WL:=((List.range' u (10-u)).filter λv:Nat=>has A (v:Int) && !(has B (v:Int))).map λn:Nat=>(n:Int)
def ZpO{A B:WL}{u:Nat}(h:u<10):Qa A B u=(if(has A (u:Int) && !(has B (u:Int)))=true then[(u:Int)]else[])++Qa A B (u+1):=by
 unfold Qa;rw[show 10-u=(10-(u+1))+1 by omega,Ycp,List.filter_cons];split<;>simp
theorem Z9V{xs:WL}{v:Int}:has xs v=true↔v∈xs:=by simp[has]
def ZLz{A B:WL}(hA:∀v∈A,0<=v/\v<=9):Qa A B 0=[]↔nF A B=[]:=by
 constructor
 .intro h;unfold nF;rw[OL];intro v hv hb;have h1:=hA v hv;unfold Qa at h;rw[List.map_eq_nil_iff,OL]at h;refine h v.toNat (by simp[List.mem_range'];omega) ?_;rw[show((v.toNat:Nat):Int)=v by omega,Z9V.2 hv,Yl];exact hb
 .intro h;unfold Qa;rw[List.map_eq_nil_iff,OL];intro n _ hb;simp only[Yd]at hb;unfold nF at h
  grind [List.filter_eq_nil_iff,Z9V]
def ZpP(r:WL)(rows:XV)(c v:Int):has (Xv (r::rows) c) v=(decide (r.getD c.toNat 0=v) || has (Xv rows c) v):=by
 simp only[has,Xv,Yx,Iw]
 grind
theorem Abs{x:Zw}(a:V5)(b:Int)(a':V5)(b':Int)(out:WL)(v:Int)(one:Bool)(r:XS)(hr:(if(one && !(false))=true then out.length+1<=68719476736/\K3 x (out++[v]) a b a' b' (w (v+1))=some r else K3 x out a b a' b' (w (v+1))=some r)):PI x out a b a' b' v one false 0=some r:=by
 grind [X0.1.2.2.2.2]
theorem Abt{x:Zw}(a:V5)(b:Int)(a':V5)(b':Int)(out:WL)(v:Int)(c:Bool)(r:XS)(hr:PI x out a b a' b' v false c 0=some r):bV x out a b a' b' v false c 0=some r:=by
 simp_all [X0.1.2.1.1]
theorem Abu{x:Zw}(a:V5)(b:Int)(a':V5)(b':Int):∀u,u<=10->∀out:WL,out.length<=u->K3 x out a b a' b' u=some (.own 0,[.arr 3 1 true ((out++Qa (Xv ([]:XV) x.Column) (Xv ([]:XV) x.IntoColumn) u).map ic)]):=by
 refine down _ ?_ ?_
 .intro out ho;apply X0.1.1.1.1;rw[Ap];simp[Qa]
 .intro u hu ih out ho;have step:∀r,(if(false && !(false))=true then out.length+1<=68719476736/\K3 x (out++[(u:Int)]) a b a' b' (w ((u:Int)+1))=some r else K3 x out a b a' b' (w ((u:Int)+1))=some r)->K3 x out a b a' b' u=some r:=by
   grind [X0.1.1.1.1,Abs,Abt]
  rw[ZpO hu,show w ((u:Int)+1)=((u+1:Nat):Int)from wS hu Z]at *
  have e1:has (Xv ([]:XV) x.Column) (u:Int)=false:=rfl
  grind
def nG{x:Zw}{B:XV}(hB:U5 B x.IntoColumn)(a:V5)(b:Int)(a':V5)(b':Int)(out:WL)(v:Int)(c:Bool)(r:XS):∀i,i<=B.length->∀two:Bool,(if(c && !(two || has (Xv (B.drop i) x.IntoColumn) v))=true then out.length+1<=68719476736/\K4 x (out++[v]) a b a' b' B (w (v+1))=some r else K4 x out a b a' b' B (w (v+1))=some r)->PJ x out a b a' b' B v c two i=some r:=by
 have h8:=hB.len;refine down _ ?_ ?_
 .intro two hr;apply X0.2.1.1.1;rw[Ap];rw[Ym,show has (Xv [] x.IntoColumn) v=false from rfl,Bool.or_false]at hr
  grind
 .intro i hi ih two hr;obtain⟨⟨h1,h2⟩,_⟩:=hB.row _ (Ye hi);apply X0.2.1.1.1;rw[Ao,wS hi Z];rw[Yh hi,ZpP]at hr;rcases tf two with e|e
  .rw[Yb (by rw[e];simp)];refine⟨Z,_,gE hi,hB.c0,_,gD h1,ih _ ?_⟩
   simp_all
  .simp_all
def nH{x:Zw}{B:XV}(hB:U5 B x.IntoColumn)(a:V5)(b:Int)(a':V5)(b':Int)(out:WL)(v:Int)(c:Bool)(r:XS)(hr:PJ x out a b a' b' B v false c 0=some r):bW x out a b a' b' B v false c 0=some r:=by
 simp_all [X0.1.2.1.2]
theorem nI{x:Zw}{B:XV}(hB:U5 B x.IntoColumn)(a:V5)(b:Int)(a':V5)(b':Int):∀u,u<=10->∀out:WL,out.length<=u->K4 x out a b a' b' B u=some (.own 0,[.arr 3 1 true ((out++Qa (Xv ([]:XV) x.Column) (Xv B x.IntoColumn) u).map ic)]):=by
 refine down _ ?_ ?_
 .intro out ho;apply X0.1.1.1.2;rw[Ap];simp[Qa]
 .intro u hu ih out ho;have step:∀r,(if(false && !(has (Xv B x.IntoColumn) (u:Int)))=true then out.length+1<=68719476736/\K4 x (out++[(u:Int)]) a b a' b' B (w ((u:Int)+1))=some r else K4 x out a b a' b' B (w ((u:Int)+1))=some r)->K4 x out a b a' b' B u=some r:=by
   intro r hr;apply X0.1.1.1.2;rw[Ao];have q1:=nG hB a b a' b' out u (false) r 0 (Yc _) false (by simpa using hr)
   simp_all [nH]
  rw[ZpO hu,show w ((u:Int)+1)=((u+1:Nat):Int)from wS hu Z]at *
  have e1:has (Xv ([]:XV) x.Column) (u:Int)=false:=rfl
  grind
def nJ{x:Zw}{A:XV}(hA:U5 A x.Column)(a:V5)(b:Int)(a':V5)(b':Int)(out:WL)(v:Int)(one:Bool)(r:XS)(hr:(if(one && !(false))=true then out.length+1<=68719476736/\K5 x (out++[v]) a b A a' b' (w (v+1))=some r else K5 x out a b A a' b' (w (v+1))=some r)):PK x out a b A a' b' v one false 0=some r:=by
 grind [X0.2.1.1.2]
def nK{x:Zw}{A:XV}(hA:U5 A x.Column)(a:V5)(b:Int)(a':V5)(b':Int)(out:WL)(v:Int)(c:Bool)(r:XS):∀i,i<=A.length->∀one:Bool,PK x out a b A a' b' v (one || has (Xv (A.drop i) x.Column) v) c 0=some r->bX x out a b A a' b' v one c i=some r:=by
 have h8:=hA.len;refine down _ ?_ ?_
 .intro one hr;apply X0.1.2.2.1;rw[Ap];rw[Ym,show has (Xv [] x.Column) v=false from rfl,Bool.or_false]at hr;exact hr
 .intro i hi ih one hr;obtain⟨⟨h1,h2⟩,_⟩:=hA.row _ (Ye hi);apply X0.1.2.2.1;rw[Ao,wS hi Z];rw[Yh hi,ZpP]at hr;rcases tf one with e|e
  .rw[Yb (by rw[e];simp)];refine⟨Z,_,gE hi,hA.c0,_,gD h1,ih _ ?_⟩
   simp_all
  .simp_all
theorem nL{x:Zw}{A:XV}(hA:U5 A x.Column)(a:V5)(b:Int)(a':V5)(b':Int):∀u,u<=10->∀out:WL,out.length<=u->K5 x out a b A a' b' u=some (.own 0,[.arr 3 1 true ((out++Qa (Xv A x.Column) (Xv ([]:XV) x.IntoColumn) u).map ic)]):=by
 refine down _ ?_ ?_
 .intro out ho;apply X0.1.1.2.1;rw[Ap];simp[Qa]
 .intro u hu ih out ho;have step:∀r,(if(has (Xv A x.Column) (u:Int) && !(false))=true then out.length+1<=68719476736/\K5 x (out++[(u:Int)]) a b A a' b' (w ((u:Int)+1))=some r else K5 x out a b A a' b' (w ((u:Int)+1))=some r)->K5 x out a b A a' b' u=some r:=by
   intro r hr;apply X0.1.1.2.1;rw[Ao];have q1:=nJ hA a b a' b' out u (has (Xv A x.Column) (u:Int)) r (by simpa using hr);exact nK hA a b a' b' out u false r 0 (Yc _) false (by simpa using q1)
  rw[ZpO hu,show w ((u:Int)+1)=((u+1:Nat):Int)from wS hu Z]at *
  have e1:has (Xv A x.Column) (u:Int)=has (Xv A x.Column) (u:Int):=rfl;have e2:has (Xv ([]:XV) x.IntoColumn) (u:Int)=false:=rfl
  grind
def nN{x:Zw}{A:XV}(hA:U5 A x.Column){B:XV}(hB:U5 B x.IntoColumn)(a:V5)(b:Int)(a':V5)(b':Int)(out:WL)(v:Int)(c:Bool)(r:XS):∀i,i<=B.length->∀two:Bool,(if(c && !(two || has (Xv (B.drop i) x.IntoColumn) v))=true then out.length+1<=68719476736/\K6 x (out++[v]) a b A a' b' B (w (v+1))=some r else K6 x out a b A a' b' B (w (v+1))=some r)->PL x out a b A a' b' B v c two i=some r:=by
 have h8:=hB.len;refine down _ ?_ ?_
 .intro two hr;apply X0.2.1.2.1;rw[Ap];rw[Ym,show has (Xv [] x.IntoColumn) v=false from rfl,Bool.or_false]at hr
  grind
 .intro i hi ih two hr;obtain⟨⟨h1,h2⟩,_⟩:=hB.row _ (Ye hi);apply X0.2.1.2.1;rw[Ao,wS hi Z];rw[Yh hi,ZpP]at hr;rcases tf two with e|e
  .rw[Yb (by rw[e];simp)];refine⟨Z,_,gE hi,hB.c0,_,gD h1,ih _ ?_⟩
   simp_all
  .simp_all
def nO{x:Zw}{A:XV}(hA:U5 A x.Column){B:XV}(hB:U5 B x.IntoColumn)(a:V5)(b:Int)(a':V5)(b':Int)(out:WL)(v:Int)(c:Bool)(r:XS):∀i,i<=A.length->∀one:Bool,PL x out a b A a' b' B v (one || has (Xv (A.drop i) x.Column) v) c 0=some r->bY x out a b A a' b' B v one c i=some r:=by
 have h8:=hA.len;refine down _ ?_ ?_
 .intro one hr;apply X0.1.2.2.2.1;rw[Ap];rw[Ym,show has (Xv [] x.Column) v=false from rfl,Bool.or_false]at hr;exact hr
 .intro i hi ih one hr;obtain⟨⟨h1,h2⟩,_⟩:=hA.row _ (Ye hi);apply X0.1.2.2.2.1;rw[Ao,wS hi Z];rw[Yh hi,ZpP]at hr;rcases tf one with e|e
  .rw[Yb (by rw[e];simp)];refine⟨Z,_,gE hi,hA.c0,_,gD h1,ih _ ?_⟩
   simp_all
  .simp_all
def nP{x:Zw}{A:XV}(hA:U5 A x.Column){B:XV}(hB:U5 B x.IntoColumn)(a:V5)(b:Int)(a':V5)(b':Int):∀u,u<=10->∀out:WL,out.length<=u->K6 x out a b A a' b' B u=some (.own 0,[.arr 3 1 true ((out++Qa (Xv A x.Column) (Xv B x.IntoColumn) u).map ic)]):=by
 refine down _ ?_ ?_
 .intro out ho;apply X0.1.1.2.2;rw[Ap];simp[Qa]
 .intro u hu ih out ho;have step:∀r,(if(has (Xv A x.Column) (u:Int) && !(has (Xv B x.IntoColumn) (u:Int)))=true then out.length+1<=68719476736/\K6 x (out++[(u:Int)]) a b A a' b' B (w ((u:Int)+1))=some r else K6 x out a b A a' b' B (w ((u:Int)+1))=some r)->K6 x out a b A a' b' B u=some r:=by
   intro r hr;apply X0.1.1.2.2;rw[Ao];have q1:=nN hA hB a b a' b' out u (has (Xv A x.Column) (u:Int)) r 0 (Yc _) false (by simpa using hr);exact nO hA hB a b a' b' out u false r 0 (Yc _) false (by simpa using q1)
  rw[ZpO hu,show w ((u:Int)+1)=((u+1:Nat):Int)from wS hu Z]at *
  grind
def ZzL{d:Zq}(h:Cy d)(x:Zw):He d x=some (Bo (NK d x),[]):=by
 refine X0.2.2.1.1 _ _ _ ⟨_,Z9U h x,?_⟩;unfold NK;rcases tf (S6 d x)with hv|hv
 .rw[hv];rfl
 obtain⟨a,b,h1,h2,hA,hB⟩:=NL hv;rw[hv,Ya rfl,Yl,h1,h2];have l1:=Nf d h x.Name;have l2:=Nf d h x.Into;rw[h1]at l1;rw[h2]at l2;simp only[Jx]at l1 l2;refine⟨Qa (Xv a.Rows x.Column) (Xv b.Rows x.IntoColumn) 0,X0.2.1.2.2 _ _ _ ⟨_,Z9U h x,?_⟩,?_⟩
 .rw[hv,Ya rfl];by_cases e1:a.Rows=[]
  .grind [Abu,nI]
  .rw[Yb e1]at l1;by_cases e2:b.Rows=[]
   .grind [nL]
   .rw[Yb e2]at l2;exact .inr ⟨_,_,_,l1,.inr ⟨_,_,_,l2,nP hA hB _ _ _ _ 0 Z [] Om⟩⟩
 .have:=ZLz (B:=Xv b.Rows x.IntoColumn) (ZLy hA);by_cases e:nF (Xv a.Rows x.Column) (Xv b.Rows x.IntoColumn)=[]
  .rw[this.2 e];simp[e]
  .simp_all
noncomputable def NM(d:Zq)(fs:List Zx)(xs:List Zw):Bool:=fs.all (S5 d) && xs.all (NK d) && (decide (fs.length<=8) && decide (xs.length<=8))
abbrev NN(fs:List Zx):Prop:=Le fs/\∀f∈fs,f.From.length<=4294967296
def ZL0{d:Zq}(h:Cy d)(xs:List Zw)(hx:Le xs):∀i,i<=xs.length->cI d xs i=some (Bo ((xs.drop i).all (NK d)),[]):=by
 refine down _ ?_ ?_
 .apply X1.1.2.2.2.1;simp
 .intro i hi ih;apply X1.1.2.2.2.1;rw[Ao,wS hi hx,Yh hi,Cz];refine⟨Z,_,gE hi,_,ZzL h _,?_⟩
  simp_all
def nQ{d:Zq}(h:Cy d){fs:List Zx}(hf:NN fs){xs:List Zw}(hx:Le xs):Hf d fs xs=some (Bo (NM d fs xs),[]):=by
 have main:∀i,i<=fs.length->cH d fs xs i=some (Bo ((fs.drop i).all (S5 d) && xs.all (NK d)),[]):=by
  refine down _ ?_ ?_
  .apply X1.1.2.2.1;rw[Ap,Ym];simpa using ZL0 h xs hx 0 (Yc _)
  .intro i hi ih;apply X1.1.2.2.1;rw[Ao,wS hi hf.1,Yh hi,Cz];refine⟨Z,_,gE hi,_,ZzK h _ (hf.2 _ (Ye hi)),?_⟩
   simp_all
 apply X1.1.2.2.2.2;unfold NM
 grind
structure Vq (s:Zr):Prop where
 d:Cy s.Zq
 k:LeK s.Z2
 f:NN s.Dependencies
 x:Le s.Inclusions
noncomputable def NO(s:Zr):Bool:=Wu s.Zq && Ak s.Z2.Version 1 999 && decide (s.Zq.Tables.map ZJ=s.Z2.Tables) && NM s.Zq s.Dependencies s.Inclusions
def Z9W{d:Zq}(hv:Wu d=true):(d.Tables.map ZJ).length<=4294967296/\∀s∈d.Tables.map ZJ,DQ s:=by
 have h6:=ZzI hv;refine⟨by simp;omega,λs hs=>?_⟩;obtain⟨t,ht,rfl⟩:=Yp.1 hs;have hT:=HX hv ht;have h7:=S0 (VE hT);have h8:=KE hT;refine⟨by simp[ZJ];omega,λg hg=>?_⟩;obtain⟨c,hc,rfl⟩:=Yp.1 hg;have hc3:=(ZzE (VE hT) c hc).1;have hg:=ZzF t.Rows c;refine⟨by simp only[grp];omega,⟨by simp only[grp];omega,λr hr=>?_⟩,by simp only[grp,H5,Dy];omega⟩;have:=Z9G hr;omega
def ZL1{s:Zr}(h:Vq s):wY s=some (Bo (NO s),[]):=by
 have hb:=Z9Q h.d s.Z2.Version;unfold ZpM at hb;unfold NO;have go:(Wu s.Zq && Ak s.Z2.Version 1 999)=true->(∃b,P3 (⟨(KK s.Zq s.Z2.Version).Version,(KK s.Zq s.Z2.Version).Tables⟩:Z2) s.Z2=some (Bo b,[])/\(if b=true then ∃b2,Hf s.Zq s.Dependencies s.Inclusions=some (Bo b2,[])/\some (Bo b2,([]:WM))=some (Bo (Wu s.Zq && Ak s.Z2.Version 1 999 && decide (s.Zq.Tables.map ZJ=s.Z2.Tables) && NM s.Zq s.Dependencies s.Inclusions),[])else some (Bo false,([]:WM))=some (Bo (Wu s.Zq && Ak s.Z2.Version 1 999 && decide (s.Zq.Tables.map ZJ=s.Z2.Tables) && NM s.Zq s.Dependencies s.Inclusions),[]))):=λe=>by
  have hv:Wu s.Zq=true:=by simp only[Yd]at e;exact e.1
  have c:KK s.Zq s.Z2.Version=⟨s.Z2.Version,s.Zq.Tables.map ZJ⟩:=by unfold KK;rw[Ya e]
  rw[c,e,Yl];refine⟨_,ZLs _ _ _ (Z9W hv) h.k,?_⟩;have q:ZpN s.Z2.Version (s.Zq.Tables.map ZJ) s.Z2=decide (s.Zq.Tables.map ZJ=s.Z2.Tables):=by simp[ZpN]
  rw[q];rcases tf (decide (s.Zq.Tables.map ZJ=s.Z2.Tables))with e2|e2
  .rw[e2];simp
  .rw[e2,Ya rfl];exact⟨_,nQ h.d h.f h.x,Om⟩
 rcases tf (S2 s.Zq s.Z2.Version)with ef|ef
 .have e:=Z9P ef;rw[ef,e]at hb;exact XZ.2.1.1.1 _ _ (.inr ⟨_,_,_,hb,go e⟩)
 .rw[ef]at hb;refine XZ.2.1.1.1 _ _ (.inl ⟨_,_,_,hb,?_⟩);rcases tf (Wu s.Zq && Ak s.Z2.Version 1 999)with e|e
  .simp[e]
  .rw[Ya e];exact go e
abbrev Lf{α:Type}(xs:List α):Prop:=xs.length<=4294967296
abbrev LfT(t:Zm):Prop:=Lf t.Rows/\∀r∈t.Rows,Lf r
abbrev LfD(d:Zq):Prop:=Lf d.Tables/\∀t∈d.Tables,LfT t
abbrev dbR(d:Zq):XS:=(.agg [.own 0],[.arr 150 3 true (d.Tables.map Zm.c)])
theorem Gp{α:Type}{xs:List α}{i:Nat}(h:i<xs.length):xs.take i++[xs[i]]=xs.take (i+1):=(Y5 h).symm
theorem S7{α:Type}{xs:List α}(h:0<xs.length):[xs[0]]=xs.take 1:=by
 rw[<-Gp h];rfl
theorem Dw:w (0+1)=((1:Nat):Int):=by decide
theorem tkl{α:Type}{xs:List α}{i:Nat}(h:i<xs.length)(hl:xs.length<=4294967296):(xs.take i).length+1<=68719476736:=by
 grind
theorem H7{α:Type}{xs:List α}(h:xs.length<=4294967296):xs.length<=68719476736:=by omega
def Abv(t:Zm)(h:LfT t)(a:V5)(b:Int):∀i,i<=t.Rows.length->PD t a b t.Name t.Arity (t.Rows.take i) i=some (.agg [.t (.str t.Name),I t.Arity,.own 0],[.arr 44 1 true (t.Rows.map AA)]):=by
 have hl:=h.1;refine down _ ?_ ?_
 .simp[Xn.2.1.2.2,Yr]
 .grind [Xn.2.1.2.2,wS,Gp,gE,H7,List.getElem_mem]
abbrev s4R(t:Zm):XS:=if t.Rows=[]then(.agg [.t (.str t.Name),I t.Arity,.t .nil],[])else(.agg [.t (.str t.Name),I t.Arity,.own 0],[.arr 44 1 true (t.Rows.map AA)])
def nS(t:Zm)(h:LfT t):K1 t=some (s4R t):=by
 refine Xn.2.2.1.1 _ _ (Xn.2.1.2.1 _ _ _ _ _ _ _ ?_);by_cases e:t.Rows=[]
 .simp_all
 .have h0:0<t.Rows.length:=Y4.2 e;rw[Ao,Dw];have:=Abv t h ⟨#[]⟩ 0 1 h0;rw[<-S7 h0]at this
  grind
theorem tE(t:Zm)(h:t.Rows=[]):(⟨t.Name,t.Arity,[]⟩:Zm)=t:=Zm.ext rfl rfl h.symm
def Abw(d:Zq)(h:LfD d):∀i,i<=d.Tables.length->LA d (d.Tables.take i) i=some (dbR d):=by
 have hl:=h.1;refine down _ ?_ ?_
 .apply X1.2.1.1.2;simp
 .intro i hi ih;apply X1.2.1.1.2;rw[Ao,wS hi Z];rw[<-Gp hi]at ih;have s:=nS _ (h.2 _ (Ye hi));refine⟨Z,_,gE hi,?_⟩;by_cases e:d.Tables[i].Rows=[]
  .grind [tkl,tE]
  .rw[s4R,Yb e]at s;exact .inr ⟨_,_,_,s,tkl hi hl,ih⟩
def Z9X(d:Zq)(h:LfD d):cJ d=some (dbR d):=by
 refine X1.2.1.2.1 _ _ (X1.2.1.1.1 _ _ _ ?_);by_cases e:d.Tables=[]
 .simp_all
 .have h0:0<d.Tables.length:=Y4.2 e;rw[Ao,Dw];have:=Abw d h 1 h0;rw[<-S7 h0]at this;have s:=nS _ (h.2 _ (Ye h0));refine⟨Z,_,gE (i:=0) h0,?_⟩;by_cases e:d.Tables[0].Rows=[]
  .grind [tE]
  .rw[s4R,Yb e]at s;exact .inr ⟨_,_,_,s,this⟩
theorem nT(s:Zu)(h:DQ s)(a:V5)(b c:Int)(r:XS){i:Nat}(hi:i<s.Groups.length)(cc:Jf s a b c s.Name s.Arity s.RowCount (s.Groups.take (i+1)) ((i+1:Nat):Int)=some r) :
  (∀k,k<=s.Groups[i].Values.length->dM s a b c s.Name s.Arity s.RowCount (s.Groups.take i) s.Groups[i].Columns (s.Groups[i].Values.take k) s.Groups[i].Counts i k=some r):=by
 have hl:=h.1;have g:=h.2 _ (Ye hi);have hv:=g.2.1.1;refine down _ ?_ ?_
 .refine Mq.1.2.1 _ _ _ _ _ _ _ _ _ _ _ _ _ _ ⟨Z,_,gE hi,?_⟩;rw[Ap,Yr,wS hi Z];rw[<-Gp hi]at cc;exact⟨tkl hi hl,cc⟩
 .intro k hk ih;refine Mq.1.2.1 _ _ _ _ _ _ _ _ _ _ _ _ _ _ ⟨Z,_,gE hi,?_⟩;rw[Ao,wS hk Z];rw[<-Gp hk]at ih
  grind
def NP(s:Zu)(h:DQ s)(a:V5)(b c:Int):∀i,i<=s.Groups.length->Jf s a b c s.Name s.Arity s.RowCount (s.Groups.take i) i=some (.agg [.t (.str s.Name),I s.Arity,I s.RowCount,.own 0],[.arr 251 3 true (s.Groups.map ZC.c)]):=by
 have hl:=h.1;refine down _ ?_ ?_
 .simp[Wa.2.2.2.2.2,Yr]
 .intro i hi ih;have g:=h.2 _ (Ye hi);have hv:=g.2.1.1;apply Wa.2.2.2.2.2;rw[Ao];refine⟨Z,_,gE hi,H7 g.1,H7 g.2.2,Mq.1.1 _ _ _ _ _ _ _ _ _ _ _ _ _ ⟨Z,_,gE hi,?_⟩⟩;by_cases e:s.Groups[i].Values=[]
  .rw[Yb (by rw[e];simp),wS hi Z];rw[<-Gp hi]at ih;refine⟨tkl hi hl,?_⟩;rw[<-ih];congr 3;exact ZC.ext rfl e.symm rfl
  .grind [List.length_pos_iff,Dw,nT,S7,gE,H7]
theorem NQ(s:Zu)(h:DQ s)(r:XS)(hi:0<s.Groups.length)(c:Jf s ⟨#[]⟩ 0 0 s.Name s.Arity s.RowCount (s.Groups.take 1) ((1:Nat):Int)=some r) :
  ∀k,k<=s.Groups[0].Values.length->dL s ⟨#[]⟩ 0 0 s.Name s.Arity s.RowCount s.Groups[0].Columns (s.Groups[0].Values.take k) s.Groups[0].Counts 0 k=some r:=by
 have hl:=h.1;have g:=h.2 _ (Ye hi);have hv:=g.2.1.1;refine down _ ?_ ?_
 .refine Wa.2.2.2.2.1 _ _ _ _ _ _ _ _ _ _ _ _ _ ⟨Z,_,gE (i:=0) hi,?_⟩;rw[Ap,Yr,Dw];rw[<-S7 hi]at c;exact c
 .grind [Wa.2.2.2.2.1,gE,wS,Gp,H7,List.getElem_mem]
def nU(s:Zu)(h:DQ s):xH s=some (.agg [.t (.str s.Name),I s.Arity,I s.RowCount,.own 0],[.arr 251 3 true (s.Groups.map ZC.c)]):=by
 have hl:=h.1;refine Mq.1.2.2 _ _ (Wa.2.2.1.2 _ _ _ _ _ _ _ _ _ ?_);by_cases e0:s.Groups=[]
 .simp_all
 .have hi:0<s.Groups.length:=Y4.2 e0;have g:=h.2 _ (Ye hi);have ih:=NP s h ⟨#[]⟩ 0 0 1 hi;rw[Ao];refine⟨Z,_,gE (i:=0) hi,H7 g.1,H7 g.2.2,Wa.2.2.2.1 _ _ _ _ _ _ _ _ _ _ _ _ ⟨Z,_,gE (i:=0) hi,?_⟩⟩;by_cases e:s.Groups[0].Values=[]
  .rw[Yb (by rw[e];simp),Dw];rw[<-S7 hi]at ih;rw[<-ih];congr 2;exact ZC.ext rfl e.symm rfl
  .grind [List.length_pos_iff,Dw,NQ,S7,gE,H7]
