/-
  Parts of the proofs for this seat: GA GB LQ GC GD GE.
-/
import Derived.Test.YtobfkfgdneeabaaGreatP32
set_option linter.all false
set_option maxRecDepth 100000
set_option maxHeartbeats 4000000
namespace Go.Proofs.YtobfkfgdneeabaaGreat
open Go.AM
def XV(rows:XS)(cols:V2):XS:=rows.map λr=>X1 r cols
def cnt(all:XS)(g:V2):Int:=((all.filter λx=>decide (x=g)).length:Int)
def Vr(n:Int):XS:=if n=1 then[[0]]else if n=2 then[[0],[1],[0,1]]else[[0],[1],[0,1],[2],[0,2],[1,2],[0,1,2]]
def Hs(rows:XS)(cols:V2):XS:=Ua (XV rows cols)
def Lp(rows:XS)(cols:V2):V2:=(Hs rows cols).map (cnt (XV rows cols))
def grp(rows:XS)(cols:V2):ZA:=⟨cols,Hs rows cols,Lp rows cols⟩
def ZJ(t:Zl):Z1:=⟨t.Name,t.Arity,t.Rows.length,(Vr t.Arity).map (grp t.Rows)⟩
def Z3F{n:Int}(h:Am n 1 3=true):∀c∈Vr n,c.length<=3/\(∀x∈c,0<=x/\x<n)/\c.Pairwise (·<·):=by
 have h':1<=n/\n<=3:=by simpa[Am]using h
 have:n=1\/n=2\/n=3:=by omega
 rcases this with rfl|rfl|rfl<;>decide
theorem ZrN(rows:XS)(cols:V2):(XV rows cols).length=rows.length:=by simp[XV]
def Z3G(rows:XS)(cols:V2):(Hs rows cols).length<=rows.length:=by
 have:=ZDO (XV rows cols);rw[ZrN]at this;exact this
def ZTn{rows:XS}{cols x:V2}(h:x∈XV rows cols):x.length=cols.length:=by
 obtain⟨r,_,rfl⟩:=Yn.1 h;simp[X1]
def ZFS{rows:XS}{cols x:V2}(h:x∈Hs rows cols):x.length=cols.length:=ZTn ((rU _ _).1 h)
def ZFT(all:XS)(g:V2):0<=cnt all g:=by unfold cnt;omega
def ZFU(all:XS)(g:V2):cnt all g<=all.length:=by
 unfold cnt
 grind
def Fn(a b:Int):Bool:=decide (a<b)
def VA(n:Int):Option Int->V2->Bool
 |_,[]=>true
 |p,v::vs=>Am v 0 (n-1) && BD Fn p v && VA n (some v) vs
def WZ(n:Int)(vs:V2):Bool:=VA n none vs
def ZFV{n:Int}:∀{vs:V2} {p:Option Int},VA n p vs=true->∀c∈vs,0<=c/\c<n
 |[],_,_,c,hc=>by cases hc
 |v::vs,p,h,c,hc=>by
  simp only[VA,Yf]at h;have h1:0<=v/\v<=n-1:=by simpa[Am]using h.1.1
  rcases Yy.1 hc with rfl|hc
  .omega
  .exact ZFV h.2 c hc
def ZFW{n:Int}:∀{vs:V2} {q:Int},VA n (some q) vs=true->-1<=q->q<n->(vs.length:Int)<=n-1-q
 |[],q,_,h1,h2=>by simp;omega
 |v::vs,q,h,h1,h2=>by
  simp only[VA,Yf]at h;have h3:0<=v/\v<=n-1:=by simpa[Am]using h.1.1
  have h4:q<v:=by simpa[BD,Fn]using h.1.2
  have:=ZFW h.2 E E
  grind
def Z3H{n:Int}{vs:V2}(h:WZ n vs=true)(hn:0<=n):(vs.length:Int)<=n:=by
 cases vs with
 |nil=>simp;omega
 |cons v vs =>
  simp only[WZ,VA,Yf]at h;have h3:0<=v/\v<=n-1:=by simpa[Am]using h.1.1
  have:=ZFW h.2 E E
  grind
def ZFX{n:Int}(h:Am n 1 3=true):∀c∈Vr n,WZ n c=true:=by
 have h':1<=n/\n<=3:=by simpa[Am]using h
 have:n=1\/n=2\/n=3:=by omega
 rcases this with rfl|rfl|rfl<;>decide
def w1{n:Int}(h:1<=n/\n<=3):w (n-1)=n-1:=ZF E E
def ZTo(t:Zl)(h:CC t)(hn:1<=t.Arity/\t.Arity<=3)(vs:V2)(hl:Le vs):∀i,i<=vs.length->hU t vs i=some (Bo (VA t.Arity (BS vs i) (vs.drop i) && ZO t),[]):=by
 refine down _ ?_ ?_
 .apply WM.1.2.1.1;rw[Ao,Yl];exact⟨_,ZqE t h,by simp[VA]⟩
 .intro i hi ih;apply WM.1.2.1.1;rw[An,Yg hi,VA,wS hi E,w1 hn];refine⟨E,_,gE hi,_,ZS _ _ _,?_⟩;rw[show BS vs (i+1)=some vs[i]from Yh hi]at ih;rcases tf (Am vs[i] 0 (t.Arity-1))with e|e
  .rw[e];simp
  .rw[e,Ya rfl,ih];by_cases h0:(0:Int)<(i:Int)
   .rw[Ya h0,wP E hi E,G5 E E];refine⟨E,_,gE E,?_⟩;by_cases h2:vs[i]<=vs[i-1]
    .rw[Ya h2];simp[BD,Fn];omega
    .rw[Yb h2];simp[BD,Fn,show vs[i-1]<vs[i] by omega]
   .obtain rfl:i=0:=by omega
    rw[Yb h0];simp[BD,BS]
def ZFY(t:Zl)(h:CC t)(hn:1<=t.Arity/\t.Arity<=3)(vs:V2)(hl:Le vs):Sv t vs=some (Bo (WZ t.Arity vs && ZO t),[]) :=
 WM.1.2.1.2 _ _ _ (by simpa[WZ,BS]using ZTo t h hn vs hl 0 (Yc _))
def ZTp{n:Int}(h:Am n 1 3=true):iK n=some (.own 0,[.arr 38 1 true ((Vr n).map Ae)]):=by
 have h':1<=n/\n<=3:=by simpa[Am]using h
 have DU:w (0+1)=1:=by decide
 have w12:w (1+1)=2:=by decide
 have PE:w (2+1)=3:=by decide
 have b:∀{s:Int} {v:V2},Mw [] s 0=some (.own 0,[.arr 3 1 true (v.map ic)])->UC s=some (.own 0,[.arr 3 1 true (v.map ic)]):=λh=>Xt.2.2.2.1 _ _ h
 have b1:UC 1=some (.own 0,[.arr 3 1 true (([0]:V2).map ic)]):=by
  refine b ?_
  repeat (refine Xt.2.2.1.2 _ _ _ _ ?_;simp +decide[-List.map_cons,DU,w12,PE])
 have b2:UC 2=some (.own 0,[.arr 3 1 true (([1]:V2).map ic)]):=by
  refine b ?_
  repeat (refine Xt.2.2.1.2 _ _ _ _ ?_;simp +decide[-List.map_cons,DU,w12,PE])
 have b3:UC 3=some (.own 0,[.arr 3 1 true (([0,1]:V2).map ic)]):=by
  refine b ?_
  repeat (refine Xt.2.2.1.2 _ _ _ _ ?_;simp +decide[-List.map_cons,DU,w12,PE])
 have b4:UC 4=some (.own 0,[.arr 3 1 true (([2]:V2).map ic)]):=by
  refine b ?_
  repeat (refine Xt.2.2.1.2 _ _ _ _ ?_;simp +decide[-List.map_cons,DU,w12,PE])
 have b5:UC 5=some (.own 0,[.arr 3 1 true (([0,2]:V2).map ic)]):=by
  refine b ?_
  repeat (refine Xt.2.2.1.2 _ _ _ _ ?_;simp +decide[-List.map_cons,DU,w12,PE])
 have b6:UC 6=some (.own 0,[.arr 3 1 true (([1,2]:V2).map ic)]):=by
  refine b ?_
  repeat (refine Xt.2.2.1.2 _ _ _ _ ?_;simp +decide[-List.map_cons,DU,w12,PE])
 have b7:UC 7=some (.own 0,[.arr 3 1 true (([0,1,2]:V2).map ic)]):=by
  refine b ?_
  repeat (refine Xt.2.2.1.2 _ _ _ _ ?_;simp +decide[-List.map_cons,DU,w12,PE])
 apply Xt.2.2.2.2.2;have step:∀(out:XS) (s:Int) (v:V2) (r:XR),s<Ac 1 n->UC s=some (.own 0,[.arr 3 1 true (v.map ic)])->out.length+1<=68719476736->Mx (out++[v]) n (w (s+1))=some r->Mx out n s=some r:=by
  intro out s v r h1 h2 h3 h4;refine Xt.2.2.2.2.1 _ _ _ _ ⟨_,ZS _ _ _,?_⟩
  grind
 have fin:∀(out:XS) (s:Int),¬s<Ac 1 n->Mx out n s=some (.own 0,[.arr 38 1 true (out.map Ae)]):=by
  intro out s h1;refine Xt.2.2.2.2.1 _ _ _ _ ⟨_,ZS _ _ _,?_⟩
  grind
 have:n=1\/n=2\/n=3:=by omega
 rcases this with rfl|rfl|rfl
 .exact step _ 1 _ _ Om b1 Om (fin _ _ Om)
 .exact step _ 1 _ _ Om b1 Om (step _ 2 _ _ Om b2 Om (step _ 3 _ _ Om b3 Om (fin _ _ Om)))
 .exact step _ 1 _ _ Om b1 Om (step _ 2 _ _ Om b2 Om (step _ 3 _ _ Om b3 Om (step _ 4 _ _ Om b4 Om (step _ 5 _ _ Om b5 Om (step _ 6 _ _ Om b6 Om (step _ 7 _ _ Om b7 Om (fin _ _ Om)))))))
def ZrO{α:Type}[DecidableEq α]{xs ys:List α}{i:Nat}(h1:i<xs.length)(h2:i<ys.length):decide (xs.drop i=ys.drop i)=(decide (xs[i]=ys[i]) && decide (xs.drop (i+1)=ys.drop (i+1))):=by
 grind [List.drop_eq_getElem_cons,List.cons.injEq,Bool.decide_and]
def PF(xs ys:V2)(hl:ys.length=xs.length)(hx:xs.length<=4294967296):∀i,i<=xs.length->oP xs ys xs.length i=some (Bo (decide (xs.drop i=ys.drop i)),[]):=by
 refine down _ ?_ ?_
 .simp_all [XM.1.1.2.1,Yl]
 .intro i hi ih;have hi':i<ys.length:=by omega
  apply XM.1.1.2.1;rw[An,wS hi E,ZrO hi hi']
  simp_all
theorem PG(xs ys:V2)(hx:xs.length<=4294967296):oO xs ys=some (Bo (decide (xs=ys)),[]):=by
 apply XM.1.1.2.2;by_cases c:(xs.length:Int)=(ys.length:Int)
 .rw[Ya c];simpa using PF xs ys E hx 0 (Yc _)
 .rw[Yb c]
  have:¬xs=ys:=λhc=>c (by rw[hc])
  simp[this]
structure uO (rows:XS) (n:Nat):Prop where
 len:rows.length<=8
 row:∀r∈rows,r.length=n
 n3:n<=3
structure bX (cols:V2) (n:Nat):Prop where
 len:cols.length<=3
 mem:∀c∈cols,0<=c/\c<n
def PH{t:Zl}(h:ZO t=true):uO t.Rows t.Arity.toNat/\1<=t.Arity/\t.Arity<=3:=by
 have h8:=Qn h;unfold ZO at h;simp only[Yf]at h;have h2:1<=t.Arity/\t.Arity<=3:=by simpa[Am]using h.1.1.2
 refine⟨⟨h8,λr hr=>?_,E⟩,h2⟩;have h1:=Ym.1 h.2.1 r hr;unfold B3 at h1
 grind
def ZFZ{n:Int}{cols:V2}(h:WZ n cols=true)(hn:1<=n/\n<=3):bX cols n.toNat:=by
 have h1:=Z3H h E;exact⟨E,λc hc=>by have:=ZFV h c hc;omega⟩
def ZTq(row cols:V2)(h4:cols.length<=1000)(hr:Le row)(hc:∀c∈cols,0<=c/\c<row.length):∀i,i<=cols.length->iA (X1 row (cols.take i)) row cols i=some (.tup [.own 0,Bo true],[.arr 3 1 true ((X1 row cols).map ic)]):=by
 refine down _ ?_ ?_
 .simp[WM.1.2.2.2,Yw]
 .intro i hi ih;obtain⟨h0,h1⟩:=hc _ (Ye hi);apply WM.1.2.2.2;rw[An,wS hi E];refine⟨E,_,gE hi,_,ZS _ _ _,?_⟩;rw[show w ((row.length:Int)-1)=(row.length:Int)-1 from ZF E E];rw[show Am cols[i] 0 ((row.length:Int)-1)=true by simp[Am];omega,Ya rfl];refine⟨h0,_,gD E,by simp[X1];omega,?_⟩;rw[show X1 row (cols.take (i+1))=X1 row (cols.take i)++[row.getD cols[i].toNat 0] by unfold X1;rw[Yx hi,Y5];rfl]at ih;exact ih
def ZrP{row cols:V2}{n:Nat}(hr:row.length=n)(hn:n<=3)(hc:bX cols n):H7 row cols=some (.tup [.own 0,Bo true],[.arr 3 1 true ((X1 row cols).map ic)]) :=
 WM.2.1.1.1 _ _ _ (by simpa[X1]using ZTq row cols (by have:=hc.len;omega) E (by rw[hr];exact hc.mem) 0 (Yc _))
def ZTr{all:XS}{j:Nat}(hj:j<all.length)(g:V2):cnt (all.take (j+1)) g=cnt (all.take j) g+(if g=all[j]then 1 else 0):=by
 unfold cnt
 grind [List.take_succ_eq_append_getElem]
def gcR(cc:XS)(c:V2):XR:=(.tup [.own 0,.own 1],[.arr 38 1 true (cc.map Ae),.arr 3 1 true (c.map ic)])
def PJ(t:Zl)(c:XS)(counts cols:V2){n:Nat}(hR:uO t.Rows n)(hC:bX cols n)(r:XR){k:Nat}(hk:k<c.length)(cc:∀x∈c,x.length<=4)(cl:counts.length<=4096)
  (cd:SH t c (counts++[cnt (XV t.Rows cols) c[k]]) cols (w ((k:Int)+1))=some r):∀j,j<=t.Rows.length->iO t c counts cols k (cnt (XV (t.Rows.take j) cols) c[k]) j=some r:=by
 have h8:=hR.len;refine down _ ?_ ?_
 .grind [NS.2.1,List.take_length]
 .intro j hj ih;apply NS.2.1;rw[An,wS hj E];have hr:=hR.row _ (Ye hj);have hv4:=cc _ (Ye hk);have hs:(X1 t.Rows[j] cols).length<=3:=by have:=hC.len;simp[X1];omega
  refine⟨E,_,gE hj,_,_,ZrP hr hR.n3 hC,E,_,gE hk,_,KV _ _ E E,?_⟩;have hj':j<(XV t.Rows cols).length:=by rw[ZrN];exact hj
  have ht:∀i,XV (t.Rows.take i) cols=(XV t.Rows cols).take i:=λi=>by simp[XV,List.map_take]
  have he:(XV t.Rows cols)[j]=X1 t.Rows[j] cols:=by simp[XV]
  rw[ht,ZTr hj',he]at ih;rw[ht];by_cases e:c[k]=X1 t.Rows[j] cols
  .rw[Ya e]at ih;rw[Ya (by rw[e];exact KX _)];have h1:=ZFT ((XV t.Rows cols).take j) c[k];have h2:=ZFU ((XV t.Rows cols).take j) c[k]
   grind [List.length_take,ZrN,ZF]
  .rw[Yb e,Int.add_zero]at ih
   grind [UM]
def PK(t:Zl)(values:XS)(cols:V2){n:Nat}(hR:uO t.Rows n)(hC:bX cols n)(hv:values.length<=4096)(c:∀x∈values,x.length<=4):∀k,k<=values.length->SH t values ((values.take k).map (cnt (XV t.Rows cols))) cols k=some (gcR values (values.map (cnt (XV t.Rows cols)))):=by
 refine down _ ?_ ?_
 .apply NS.1.2;rw[Ao,Yw];rfl
 .intro k hk ih;apply NS.1.2;rw[An];rw[Yx hk,Y5]at ih;have:=PJ t values ((values.take k).map (cnt (XV t.Rows cols))) cols hR hC _ hk c (by simp;omega) (by rw[wS hk E];exact ih) 0 (Yc _);simpa[cnt,XV]using this
def PL(t:Zl)(cols:V2){n:Nat}(hR:uO t.Rows n)(hC:bX cols n):∀i,i<=t.Rows.length->∀acc:XS,acc.length<=i->(∀x∈acc,x.length<=4)->
  iL t acc [] cols i=some (gcR (J8 acc (XV (t.Rows.drop i) cols)) ((J8 acc (XV (t.Rows.drop i) cols)).map (cnt (XV t.Rows cols)))):=by
 have h8:=hR.len;refine down _ ?_ ?_
 .intro acc ha h4;apply NS.1.1;rw[Ao,Yl];exact PK t acc cols hR hC E h4 0 (Yc _)
 .intro i hi ih acc ha h4;apply NS.1.1;rw[An,wS hi E,Yg hi];have hr:=hR.row _ (Ye hi);have hs:(X1 t.Rows[i] cols).length<=4:=by have:=hC.len;simp[X1];omega
  have hp:=rV acc (X1 t.Rows[i] cols) false
  exact⟨E,_,gE hi,_,_,ZrP hr hR.n3 hC,_,Z2G E h4 hs,ih _ E (λx hx=>by
   rcases(OH _ _ _).1 hx with hx|rfl
   .exact h4 x hx
   .exact hs)⟩
def ZGa{t:Zl}(h:CC t)(hv:ZO t=true){cols:V2}(hc:WZ t.Arity cols=true):SG t cols=some (gcR (Hs t.Rows cols) (Lp t.Rows cols)):=by
 obtain⟨hR,hA⟩:=PH hv;have hC:=ZFZ hc hA;refine NS.2.2 _ _ _ ⟨_,ZFY t h hA cols (by have:=hC.len;omega),?_⟩;rw[hc,hv,Ya (by rfl)];have:=PL t cols hR hC 0 (Yc _) [] Z Z;rw[Yq,Z2H]at this;exact this
def stR(t:Zl):XR:=(.agg ((ZJ t).c.map .t),[])
def bY{n:Int}(h:Am n 1 3=true):0<(Vr n).length/\(Vr n).length<=7:=by
 have h':1<=n/\n<=3:=by simpa[Am]using h
 have:n=1\/n=2\/n=3:=by omega
 rcases this with rfl|rfl|rfl<;>decide
theorem VB{t:Zl}(h:ZO t=true):Am t.Arity 1 3=true:=by
 unfold ZO at h
 simp_all
def ZTs{t:Zl}(h:CC t)(hv:ZO t=true)(a:KI)(b c:Int)(a':KI)(b' c':Int):∀i,i<=(Vr t.Arity).length->iP t a b c a' b' c' false (((Vr t.Arity).take i).map (grp t.Rows)) (Vr t.Arity) i=some (.agg ((⟨a',b',c',((Vr t.Arity).map (grp t.Rows))⟩:Z1).c.map .t),[]):=by
 have h7:=bY (VB hv);refine down _ ?_ ?_
 .simp[XK.1.1.1.2,Yw]
 .intro i hi ih;apply XK.1.1.1.2;rw[An,wS hi E];rw[Yx hi,Y5]at ih;exact⟨E,_,gE hi,_,_,ZGa h hv (ZFX (VB hv) _ (Ye hi)),by simp;omega,ih⟩
def Z3I{t:Zl}(h:CC t)(hv:ZO t=true):My t=some (stR t):=by
 have h7:=bY (VB hv);refine XK.1.1.2.1 _ _ ⟨_,ZqE t h,?_⟩;rw[hv,Ya rfl];refine⟨_,ZTp (VB hv),XK.1.1.1.1 _ _ _ _ _ _ _ _ _ _ ?_⟩;rw[An];refine⟨E,_,gE (i:=0) h7.1,_,_,ZGa h hv (ZFX (VB hv) _ (Ye h7.1)),?_⟩;have:=ZTs h hv ⟨#[]⟩ 0 0 t.Name t.Arity (t.Rows.length:Int) 1 E;rw[Yx h7.1]at this;rw[show w (0+1)=1 from by decide];unfold stR ZJ;simpa[grp]using this
def bZ(d:Zj)(v:Int):ZM:=if WC d && Am v 1 999 then⟨v,d.Tables.map ZJ⟩else⟨0,[]⟩
def uP(d:Zj)(v:Int):XR:=(.tup [.agg ((bZ d v).c.map .t),Bo (WC d && Am v 1 999)],[])
def Z3J{d:Zj}(hv:WC d=true):d.Tables.length<=6:=by
 unfold WC at hv
 grind
def ZTt{d:Zj}(h:BA d)(hv:WC d=true)(a b:Int):∀i,i<=d.Tables.length->iQ d a b false ((d.Tables.take i).map ZJ) i=some (.tup [.agg [I b,L 4 ((d.Tables.map ZJ).map Z1.c)],Bo true],[]):=by
 have h6:=Z3J hv;refine down _ ?_ ?_
 .simp[XK.1.2.1.1,Yw]
 .intro i hi ih;apply XK.1.2.1.1;rw[An,wS hi E];rw[Yx hi,Y5]at ih;have hm:=Ye hi;exact⟨E,_,gE hi,⟨_,Z3I (h.2 _ hm) (QJ hv hm),by simp;omega,ih⟩⟩
def ZGb{d:Zj}(h:BA d)(v:Int):SI d v=some (uP d v):=by
 refine XK.1.2.1.2 _ _ _ ⟨_,ZCD d h,?_⟩;unfold uP bZ;rcases tf (WC d)with hv|hv
 .rw[hv];rfl
 rw[hv,Ya rfl];refine⟨_,ZS _ _ _,?_⟩;rcases tf (Am v 1 999)with e|e
 .rw[e];rfl
 rw[e,Ya rfl,Yk,Ya rfl];apply XK.1.1.2.2;by_cases e0:d.Tables=[]
 .simp_all
 .have h0:0<d.Tables.length:=CE.2 e0;have hm:=Ye h0;rw[An];refine⟨E,_,gE (i:=0) h0,⟨_,Z3I (h.2 _ hm) (QJ hv hm),?_⟩⟩;have:=ZTt h hv 0 v 1 E;rw[Yx h0]at this;rw[show w (0+1)=1 from by decide];simpa[ZJ]using this
abbrev LeG(g:ZA):Prop:=g.Columns.length<=4294967296/\(g.Values.length<=4294967296/\∀r∈g.Values,r.length<=4294967296)/\g.Counts.length<=4294967296
abbrev Em(s:Z1):Prop:=s.Groups.length<=4294967296/\∀g∈s.Groups,LeG g
abbrev LeK(c:ZM):Prop:=c.Tables.length<=4294967296/\∀s∈c.Tables,Em s
def ZrQ(v:Int)(ts:List Z1)(c:ZM):Bool:=decide (v=c.Version/\ts=c.Tables)
def ZTu(a b:Z1)(x y:ZA)(hl:y.Values.length=x.Values.length)(hx:LeG x)(hy:LeG y)(r:Bool)(i:Int)(cc:S4 a b (w (i+1))=some (Bo r,[])):∀k,k<=x.Values.length->jI a b x y i k=some (Bo (decide (x.Values.drop k=y.Values.drop k) && r),[]):=by
 refine down _ ?_ ?_
 .simp_all [X8.1.1.1.2,Yl]
 .intro k hk ih;have hk':k<y.Values.length:=by omega
  apply X8.1.1.1.2;rw[An,wS hk (by have:=hx.2.1.1;omega),ZrO hk hk'];have l1:=hx.2.1.2 _ (Ye hk);have l2:=hy.2.1.2 _ (Ye hk');refine⟨E,_,gE hk,_,gE hk',_,KV _ _ E E,?_⟩;by_cases c:x.Values[k]=y.Values[k]
  .simp_all [KX]
  .grind [UM]
def ZTv(a b:Z1)(hl:b.Groups.length=a.Groups.length)(ha:Em a)(hb:Em b):∀i,i<=a.Groups.length->S4 a b i=some (Bo (decide (a.Groups.drop i=b.Groups.drop i)),[]):=by
 refine down _ ?_ ?_
 .apply X8.1.1.1.1
  simp_all
 .intro i hi ih;have hi':i<b.Groups.length:=by omega
  have l1:=ha.2 _ (Ye hi);have l2:=hb.2 _ (Ye hi');have l11:=l1.1;have l13:=l1.2.2;have l21:=l2.1;have l23:=l2.2.2;apply X8.1.1.1.1;rw[An,ZrO hi hi'];refine⟨E,_,gE hi,_,gE hi',_,KV _ _ E E,?_⟩;by_cases c1:a.Groups[i].Columns=b.Groups[i].Columns
  .rw[Ya (by rw[c1];exact KX _)];refine⟨_,KV _ _ E E,?_⟩;by_cases c2:a.Groups[i].Counts=b.Groups[i].Counts
   .rw[Ya (by rw[c2];exact KX _)];by_cases c3:(a.Groups[i].Values.length:Int)=(b.Groups[i].Values.length:Int)
    .rw[Ya c3];have:=ZTu a b a.Groups[i] b.Groups[i] E l1 l2 _ i (by rw[wS hi (by have:=ha.1;omega)];exact ih) 0 (Yc _);rw[Yq,Yq]at this;have e:decide (a.Groups[i]=b.Groups[i])=decide (a.Groups[i].Values=b.Groups[i].Values):=by simp[ZA.ext_iff,c1,c2]
     rw[e];exact this
    .rw[Yb c3]
     have:¬a.Groups[i]=b.Groups[i]:=λhc=>c3 (by rw[hc])
     simp[this]
   .rw[Yb (λh=>c2 (UM _ _ h))]
    have:¬a.Groups[i]=b.Groups[i]:=λhc=>c2 (by rw[hc])
    simp[this]
  .rw[Yb (λh=>c1 (UM _ _ h))]
   have:¬a.Groups[i]=b.Groups[i]:=λhc=>c1 (by rw[hc])
   simp[this]
def ZGc(a b:Z1)(ha:Em a)(hb:Em b):S3 a b=some (Bo (decide (a=b)),[]):=by
 apply X8.1.1.2.1;by_cases c:a.Name=b.Name
 .rw[Ya c];by_cases c2:a.Arity=b.Arity
  .rw[Ya c2];by_cases c3:a.RowCount=b.RowCount
   .rw[Ya c3];by_cases c4:(a.Groups.length:Int)=(b.Groups.length:Int)
    .rw[Ya c4];have e:decide (a=b)=decide (a.Groups=b.Groups):=by simp[Z1.ext_iff,c,c2,c3]
     rw[e];simpa using ZTv a b E ha hb 0 (Yc _)
    .rw[Yb c4]
     have:¬a=b:=λhc=>c4 (by rw[hc])
     simp[this]
   .rw[Yb c3];simp[Z1.ext_iff,c,c2,c3]
  .rw[Yb c2];simp[Z1.ext_iff,c,c2]
 .rw[Yb c];simp[Z1.ext_iff,c]
def ZTw(a b:ZM)(hl:b.Tables.length=a.Tables.length)(ha:LeK a)(hb:LeK b):∀i,i<=a.Tables.length->jJ a b i=some (Bo (decide (a.Tables.drop i=b.Tables.drop i)),[]):=by
 refine down _ ?_ ?_
 .apply X8.1.1.2.2
  simp_all
 .intro i hi ih;have hi':i<b.Tables.length:=by omega
  apply X8.1.1.2.2;rw[An,wS hi (by have:=ha.1;omega),ZrO hi hi'];refine⟨E,_,gE hi,_,gE hi',_,ZGc _ _ (ha.2 _ (Ye hi)) (hb.2 _ (Ye hi')),?_⟩
  simp_all
def ZTx(v:Int)(ts:List Z1)(c:ZM)(h:ts.length<=4294967296/\∀s∈ts,Em s)(hc:LeK c):Zol ⟨v,ts⟩ c=some (Bo (ZrQ v ts c),[]):=by
 apply X8.1.2.1.1;unfold ZrQ;by_cases e:v=c.Version
 .rw[Ya e];by_cases c4:(ts.length:Int)=(c.Tables.length:Int)
  .rw[Ya c4];subst e;have:=ZTw ⟨c.Version,ts⟩ c (by simp only;omega) h hc 0 (Yc _)
   simp_all
  .rw[Yb c4]
   have:¬ts=c.Tables:=λhc=>c4 (by rw[hc])
   simp[this]
 .rw[Yb e];simp[e]
def Lq(d:Zj)(f:Z9):Bool:=match ZZ d f.Name with
 |none=>false
 |some t=>WZ t.Arity f.From && Am f.To 0 (t.Arity-1) && !(has f.From f.To)
theorem b8{d:Zj}{n:KI}{t:Zl}(h:ZZ d n=some t):ZO t=true:=by
 obtain⟨h1,h2,_⟩:=aT h;exact QJ h1 h2
def ZGd{d:Zj}(hd:BA d){n:KI}{t:Zl}(h:ZZ d n=some t):CC t:=hd.2 t (aT h).2.1
def ZTy{t:Zl}(hv:ZO t=true)(h0:t.Rows=[])(vs:V2)(hl:Le vs):ZnG t.Name t.Arity vs=some (Bo (WZ t.Arity vs),[]):=by
 have hA:=(PH hv).2;have hV:H6 t.Name t.Arity=some (Bo true,[]):=by
  unfold ZO at hv
  simp_all [Yf,Xg.2.2.2.2.2,Z2b,ZS,Xg.2.2.2.2.1]
 have main:∀i,i<=vs.length->gZ t.Name t.Arity vs i=some (Bo (VA t.Arity (BS vs i) (vs.drop i)),[]):=by
  refine down _ ?_ ?_
  .apply WM.1.1.1.1;rw[Ao,Yl];exact⟨_,hV,rfl⟩
  .intro i hi ih;apply WM.1.1.1.1;rw[An,Yg hi,VA,wS hi E,w1 hA];refine⟨E,_,gE hi,_,ZS _ _ _,?_⟩;rw[show BS vs (i+1)=some vs[i]from Yh hi]at ih;rcases tf (Am vs[i] 0 (t.Arity-1))with e|e
   .rw[e];simp
   .rw[e,Ya rfl,ih];by_cases h0:(0:Int)<(i:Int)
    .rw[Ya h0,wP E hi E,G5 E E];refine⟨E,_,gE E,?_⟩;by_cases h2:vs[i]<=vs[i-1]
     .rw[Ya h2];simp[BD,Fn];omega
     .rw[Yb h2];simp[BD,Fn,show vs[i-1]<vs[i] by omega]
    .obtain rfl:i=0:=by omega
     rw[Yb h0];simp[BD,BS]
 exact WM.1.1.1.2 _ _ _ _ (by simpa[WZ,BS]using main 0 (Yc _))
def ZGe{d:Zj}(h:BA d)(f:Z9)(hf:f.From.length<=4294967296):Sw d f=some (Bo (Lq d f),[]):=by
 have hl:=G6 d h f.Name;apply WM.1.2.2.1;unfold Lq
 cases hq:ZZ d f.Name with
 |none=>rw[hq]at hl;exact .inl ⟨_,_,_,hl,rfl⟩
 |some t =>
  rw[hq]at hl;simp only[QK]at hl;have hv:=b8 hq;have hA:=(PH hv).2;by_cases e0:t.Rows=[]
  .rw[Ya e0]at hl;refine .inl ⟨_,_,_,hl,?_⟩;rw[Ya rfl];refine⟨_,ZTy hv e0 _ E,?_⟩;rcases tf (WZ t.Arity f.From)with e|e
   .rw[e];simp[e]
   .rw[e,Ya rfl,w1 hA];refine⟨_,ZS _ _ _,?_⟩;rcases tf (Am f.To 0 (t.Arity-1))with e2|e2
    .rw[e2];simp[e,e2]
    .grind [G3]
  .rw[Yb e0]at hl;refine .inr ⟨_,_,_,hl,_,ZFY t (ZGd h hq) hA _ E,?_⟩;rw[hv,Bool.and_true];rcases tf (WZ t.Arity f.From)with e|e
   .rw[e];simp[e]
   .rw[e,Ya rfl,w1 hA];refine⟨_,ZS _ _ _,?_⟩;rcases tf (Am f.To 0 (t.Arity-1))with e2|e2
    .rw[e2];simp[e,e2]
    .grind [G3]
def b9(rows:XS)(f:Z9)(i k:Nat):Prop:=X1 (rows.getD i []) f.From=X1 (rows.getD k []) f.From->(rows.getD i []).getD f.To.toNat 0=(rows.getD k []).getD f.To.toNat 0
def JL(rows:XS)(f:Z9)(k:Nat):Prop:=∀k',k<=k'->k'<rows.length->∀i,i<k'->b9 rows f i k'
structure PM (t:Zl) (f:Z9) (n:Nat):Prop where
 rows:uO t.Rows n
 cols:bX f.From n
 to:0<=f.To/\f.To<n
def ZTz{d:Zj}{f:Z9}{t:Zl}(hq:ZZ d f.Name=some t)(hv:Lq d f=true):PM t f t.Arity.toNat:=by
 obtain⟨hR,hA⟩:=PH (b8 hq);unfold Lq at hv;rw[hq]at hv;simp only[Yf]at hv;have h2:0<=f.To/\f.To<=t.Arity-1:=by simpa[Am]using hv.1.2
 exact⟨hR,ZFZ hv.1.1 hA,E⟩
def gd{rows:XS}{i:Nat}(h:i<rows.length):rows.getD i []=rows[i]:=by
 simp_all
def Ht(L:XP)(z:XR)(ok:Prop):Prop:=(ok->L=some z)/\(¬ok->∃a b:Int,L=some (.own 0,[.arr 3 1 true (([a,b]:V2).map ic)]))
def Ht.cong{L:XP}{z:XR}{p q:Prop}(h:Ht L z p)(e:p↔q):Ht L z q:=⟨λhq=>h.1 (e.2 hq),λhq=>h.2 λhp=>hq (e.1 hp)⟩
def Ht.map{L L':XP}{z:XR}{p:Prop}(h:Ht L z p)(e:∀r,L=some r->L'=some r):Ht L' z p:=⟨λhp=>e _ (h.1 hp),λhp=>(h.2 hp).imp λa ⟨b,hb⟩=>⟨b,e _ hb⟩⟩
def Z3K{rows:XS}{f:Z9}{k i:Nat}(hi:i<k):((∀j,i<=j->j<k->b9 rows f j k)/\JL rows f (k+1))↔(b9 rows f i k/\((∀j,i+1<=j->j<k->b9 rows f j k)/\JL rows f (k+1))):=by
 grind
def PN{rows:XS}{f:Z9}{k:Nat}(hk:k<rows.length):JL rows f k↔((∀j,0<=j->j<k->b9 rows f j k)/\JL rows f (k+1)):=by
 constructor
 .intro h;exact⟨λj _ h4=>h k (Yi _) hk j h4,λk' h1 h2=>h k' E h2⟩
 .rintro⟨h1,h2⟩ k' h3 h4 i hi;by_cases e:k'=k
  .simp_all
  .exact h2 k' E h4 i hi
def ZT0{d:Zj}{t:Zl}{f:Z9}{n:Nat}(h:PM t f n){k:Nat}(hk:k<t.Rows.length)(a:KI)(b:Int)(c:Ht (Sx d f a b t.Rows (w ((k:Int)+1))) (.own 0,[.arr 3 1 true (([]:V2).map ic)]) (JL t.Rows f (k+1))) :
  ∀i,i<=k->Ht (H8 d f a b t.Rows (X1 t.Rows[k] f.From) k i) (.own 0,[.arr 3 1 true (([]:V2).map ic)]) ((∀j,i<=j->j<k->b9 t.Rows f j k)/\JL t.Rows f (k+1)):=by
 have h8:=h.rows.len;refine down _ ?_ ?_
 .refine(c.map λr hr=>?_).cong ⟨λhp=>⟨λj h1 h2=>by omega,hp⟩,λhp=>hp.2⟩
  simp_all [WM.2.1.2.2]
 .intro i hi ih;have hi':i<t.Rows.length:=by omega
  have Dg:=h.rows.row _ (Ye hi');have hrk:=h.rows.row _ (Ye hk);have hc3:=h.cols.len;have hto:=h.to;have hs:∀r:V2,(X1 r f.From).length<=3:=λr=>by simp[X1];omega
  have step:∀r,(if X1 t.Rows[i] f.From=X1 t.Rows[k] f.From then(if t.Rows[i].getD f.To.toNat 0=t.Rows[k].getD f.To.toNat 0 then H8 d f a b t.Rows (X1 t.Rows[k] f.From) k (w ((i:Int)+1))=some r else some (.own 0,[.arr 3 1 true (([(i:Int),(k:Int)]:V2).map ic)])=some r)else H8 d f a b t.Rows (X1 t.Rows[k] f.From) k (w ((i:Int)+1))=some r)->H8 d f a b t.Rows (X1 t.Rows[k] f.From) k i=some r:=by
   intro r hr;apply WM.2.1.2.2;rw[An];have q1:=hs t.Rows[i];have q2:=hs t.Rows[k];refine⟨E,_,gE hi',_,_,ZrP Dg h.rows.n3 h.cols,_,KV _ _ E E,?_⟩
   grind [KX,gD,gE,UM]
  rw[show w ((i:Int)+1)=((i+1:Nat):Int)from wS hi' E]at step;by_cases e:X1 t.Rows[i] f.From=X1 t.Rows[k] f.From
  .by_cases e2:t.Rows[i].getD f.To.toNat 0=t.Rows[k].getD f.To.toNat 0
   .refine(ih.map λr hr=>step r (by rw[Ya e,Ya e2];exact hr)).cong ?_;rw[Z3K hi];exact⟨λhp=>⟨λ_=>by rw[gd hi',gd hk];exact e2,hp⟩,λhp=>hp.2⟩
   .refine⟨λhp=>absurd ((Z3K hi).1 hp).1 λhg=>e2 ?_,λ_=>⟨_,_,step _ (by rw[Ya e,Yb e2])⟩⟩;have:=hg (by rw[gd hi',gd hk];exact e)
    simp_all
  .refine(ih.map λr hr=>step r (by rw[Yb e];exact hr)).cong ?_;rw[Z3K hi];exact⟨λhp=>⟨λhq=>absurd (by rw[gd hi',gd hk]at hq;exact hq) e,hp⟩,λhp=>hp.2⟩
def ZT1{d:Zj}(hd:BA d){t:Zl}{f:Z9}(hf:f.From.length<=4294967296)(hv:Lq d f=true){n:Nat}(h:PM t f n)(a:KI)(b:Int):∀k,k<=t.Rows.length->Ht (Sx d f a b t.Rows k) (.own 0,[.arr 3 1 true (([]:V2).map ic)]) (JL t.Rows f k):=by
 have h8:=h.rows.len;refine down _ ?_ ?_
 .refine⟨λ_=>WM.2.1.2.1 _ _ _ _ _ _ _ (by rw[Ao]),λhn=>absurd (λk' h1 h2=>by omega) hn⟩
 .intro k hk ih;rw[<-show w ((k:Int)+1)=((k+1:Nat):Int)from wS hk E]at ih;refine((ZT0 (d:=d) h hk a b ih 0 (Yc _)).map λr hr=>?_).cong (PN hk).symm;apply WM.2.1.2.1;rw[An];refine⟨_,ZGe hd f hf,?_⟩;rw[hv,Ya rfl];exact⟨E,_,gE hk,_,_,ZrP (h.rows.row _ (Ye hk)) h.rows.n3 h.cols,hr⟩
open Classical in
noncomputable def uQ(d:Zj)(f:Z9):Bool:=Lq d f && (match ZZ d f.Name with
 |none=>true
 |some t=>decide (JL t.Rows f 0))
def ZGf{d:Zj}(h:BA d)(f:Z9)(hf:f.From.length<=4294967296):Sy d f=some (Bo (uQ d f),[]):=by
 refine WM.2.2.1.2 _ _ _ ⟨_,ZGe h f hf,?_⟩;unfold uQ;rcases tf (Lq d f)with hv|hv
 .rw[hv];rfl
 rw[hv,Ya rfl,Yk]
 cases hq:ZZ d f.Name with
 |none=>unfold Lq at hv;rw[hq]at hv;cases hv
 |some t =>
  have hl:=G6 d h f.Name;rw[hq]at hl;simp only[QK]at hl;by_cases e0:t.Rows=[]
  .rw[Ya e0]at hl;have e:JL t.Rows f 0:=λk' h1 h2=>by rw[e0]at h2;simp at h2
   simp_all [WM.2.2.1.1,WM.2.1.1.2]
  .rw[Yb e0]at hl;have V:=(ZT1 h hf hv (ZTz hq hv) t.Name t.Arity 0 (Yc _)).map (L':=ZnI d f) λr hr=>WM.2.2.1.1 _ _ _ (.inr ⟨_,_,_,hl,hr⟩)
   by_cases e:JL t.Rows f 0
   .exact⟨[],V.1 e,by simp[e]⟩
   .obtain⟨x,y,hxy⟩:=V.2 e;exact⟨_,hxy,by simp[e]⟩
