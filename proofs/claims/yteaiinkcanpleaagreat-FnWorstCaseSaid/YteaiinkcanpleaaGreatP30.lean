/-
  Parts of the proofs for this seat: GA GB GC GD GE GF GH NAx.
-/
import Derived.Test.YteaiinkcanpleaaGreatP29
set_option linter.all false
set_option maxRecDepth 100000
set_option maxHeartbeats 4000000
namespace Go.Proofs.YteaiinkcanpleaaGreat
open Go.AM
def XZ(rows:WA)(cols:WL):WA:=rows.map λr=>XN r cols
def cnt(all:WA)(g:WL):Int:=((all.filter λx=>decide (x=g)).length:Int)
def Vq(n:Int):WA:=if n=1 then[[0]]else if n=2 then[[0],[1],[0,1]]else[[0],[1],[0,1],[2],[0,2],[1,2],[0,1,2]]
def Gz(rows:WA)(cols:WL):WA:=H9 (XZ rows cols)
def Ie(rows:WA)(cols:WL):WL:=(Gz rows cols).map (cnt (XZ rows cols))
def grp(rows:WA)(cols:WL):ZF:=⟨cols,Gz rows cols,Ie rows cols⟩
def ZO(t:Zs):Z5:=⟨t.Name,t.Arity,t.Rows.length,(Vq t.Arity).map (grp t.Rows)⟩
def Z12{n:Int}(h:Al n 1 3=true):∀c∈Vq n,c.length<=3/\(∀x∈c,0<=x/\x<n)/\c.Pairwise (·<·):=by
 have h':1<=n/\n<=3:=by simpa[Al]using h
 have:n=1\/n=2\/n=3:=by omega
 rcases this with rfl|rfl|rfl<;>decide
theorem ZqC(rows:WA)(cols:WL):(XZ rows cols).length=rows.length:=by simp[XZ]
def Z13(rows:WA)(cols:WL):(Gz rows cols).length<=rows.length:=by
 have:=ZNy (XZ rows cols);rw[ZqC]at this;exact this
def ZNO{rows:WA}{cols x:WL}(h:x∈XZ rows cols):x.length=cols.length:=by
 obtain⟨r,_,rfl⟩:=Yn.1 h;simp[XN]
def ZBV{rows:WA}{cols x:WL}(h:x∈Gz rows cols):x.length=cols.length:=ZNO ((Zq2 _ _).1 h)
def ZBW(all:WA)(g:WL):0<=cnt all g:=by unfold cnt;omega
def ZBX(all:WA)(g:WL):cnt all g<=all.length:=by
 unfold cnt
 grind
def EG(a b:Int):Bool:=decide (a<b)
def VA(n:Int):Option Int->WL->Bool
 |_,[]=>true
 |p,v::vs=>Al v 0 (n-1) && BO EG p v && VA n (some v) vs
def Vd(n:Int)(vs:WL):Bool:=VA n none vs
def ZBY{n:Int}:∀{vs:WL} {p:Option Int},VA n p vs=true->∀c∈vs,0<=c/\c<n
 |[],_,_,c,hc=>by cases hc
 |v::vs,p,h,c,hc=>by
  simp only[VA,Yg]at h;have h1:0<=v/\v<=n-1:=by simpa[Al]using h.1.1
  rcases Y1.1 hc with rfl|hc
  .omega
  .exact ZBY h.2 c hc
def ZBZ{n:Int}:∀{vs:WL} {q:Int},VA n (some q) vs=true->-1<=q->q<n->(vs.length:Int)<=n-1-q
 |[],q,_,h1,h2=>by simp;omega
 |v::vs,q,h,h1,h2=>by
  simp only[VA,Yg]at h;have h3:0<=v/\v<=n-1:=by simpa[Al]using h.1.1
  have h4:q<v:=by simpa[BO,EG]using h.1.2
  have:=ZBZ h.2 Z Z
  grind
def Z14{n:Int}{vs:WL}(h:Vd n vs=true)(hn:0<=n):(vs.length:Int)<=n:=by
 cases vs with
 |nil=>simp;omega
 |cons v vs =>
  simp only[Vd,VA,Yg]at h;have h3:0<=v/\v<=n-1:=by simpa[Al]using h.1.1
  have:=ZBZ h.2 Z Z
  grind
def ZCa{n:Int}(h:Al n 1 3=true):∀c∈Vq n,Vd n c=true:=by
 have h':1<=n/\n<=3:=by simpa[Al]using h
 have:n=1\/n=2\/n=3:=by omega
 rcases this with rfl|rfl|rfl<;>decide
def w1{n:Int}(h:1<=n/\n<=3):w (n-1)=n-1:=ZE Z Z
def ZNP(t:Zs)(h:CC t)(hn:1<=t.Arity/\t.Arity<=3)(vs:WL)(hl:Le vs):∀i,i<=vs.length->bF t vs i=some (Bo (VA t.Arity (Cd vs i) (vs.drop i) && Xd t),[]):=by
 refine down _ ?_ ?_
 .apply WM.1.2.1.1;rw[Ao,Ym];exact⟨_,Zqq t h,by simp[VA]⟩
 .intro i hi ih;apply WM.1.2.1.1;rw[An,Yi hi,VA,wS hi Z,w1 hn];refine⟨Z,_,gE hi,_,ZM _ _ _,?_⟩;rw[show Cd vs (i+1)=some vs[i]from Yd hi]at ih;rcases tf (Al vs[i] 0 (t.Arity-1))with e|e
  .rw[e];simp
  .rw[e,Ya rfl,ih];by_cases h0:(0:Int)<(i:Int)
   .rw[Ya h0,wP Z hi Z,l0 Z Z];refine⟨Z,_,gE Z,?_⟩;by_cases h2:vs[i]<=vs[i-1]
    .rw[Ya h2];simp[BO,EG];omega
    .rw[Yb h2];simp[BO,EG,show vs[i-1]<vs[i] by omega]
   .obtain rfl:i=0:=by omega
    rw[Yb h0];simp[BO,Cd]
def ZCb(t:Zs)(h:CC t)(hn:1<=t.Arity/\t.Arity<=3)(vs:WL)(hl:Le vs):Pr t vs=some (Bo (Vd t.Arity vs && Xd t),[]) :=
 WM.1.2.1.2 _ _ _ (by simpa[Vd,Cd]using ZNP t h hn vs hl 0 (Yc _))
def ZNQ{n:Int}(h:Al n 1 3=true):bQ n=some (.own 0,[.arr 32 1 true ((Vq n).map AF)]):=by
 have h':1<=n/\n<=3:=by simpa[Al]using h
 have Dn:w (0+1)=1:=by decide
 have w12:w (1+1)=2:=by decide
 have Nz:w (2+1)=3:=by decide
 have b:∀{s:Int} {v:WL},Lo [] s 0=some (.own 0,[.arr 3 1 true (v.map ic)])->UM s=some (.own 0,[.arr 3 1 true (v.map ic)]):=λh=>X3.2.2.2.1 _ _ h
 have b1:UM 1=some (.own 0,[.arr 3 1 true (([0]:WL).map ic)]):=by
  refine b ?_
  repeat (refine X3.2.2.1.2 _ _ _ _ ?_;simp +decide[-List.map_cons,Dn,w12,Nz])
 have b2:UM 2=some (.own 0,[.arr 3 1 true (([1]:WL).map ic)]):=by
  refine b ?_
  repeat (refine X3.2.2.1.2 _ _ _ _ ?_;simp +decide[-List.map_cons,Dn,w12,Nz])
 have b3:UM 3=some (.own 0,[.arr 3 1 true (([0,1]:WL).map ic)]):=by
  refine b ?_
  repeat (refine X3.2.2.1.2 _ _ _ _ ?_;simp +decide[-List.map_cons,Dn,w12,Nz])
 have b4:UM 4=some (.own 0,[.arr 3 1 true (([2]:WL).map ic)]):=by
  refine b ?_
  repeat (refine X3.2.2.1.2 _ _ _ _ ?_;simp +decide[-List.map_cons,Dn,w12,Nz])
 have b5:UM 5=some (.own 0,[.arr 3 1 true (([0,2]:WL).map ic)]):=by
  refine b ?_
  repeat (refine X3.2.2.1.2 _ _ _ _ ?_;simp +decide[-List.map_cons,Dn,w12,Nz])
 have b6:UM 6=some (.own 0,[.arr 3 1 true (([1,2]:WL).map ic)]):=by
  refine b ?_
  repeat (refine X3.2.2.1.2 _ _ _ _ ?_;simp +decide[-List.map_cons,Dn,w12,Nz])
 have b7:UM 7=some (.own 0,[.arr 3 1 true (([0,1,2]:WL).map ic)]):=by
  refine b ?_
  repeat (refine X3.2.2.1.2 _ _ _ _ ?_;simp +decide[-List.map_cons,Dn,w12,Nz])
 apply X3.2.2.2.2.2;have step:∀(out:WA) (s:Int) (v:WL) (r:XS),s<Ac 1 n->UM s=some (.own 0,[.arr 3 1 true (v.map ic)])->out.length+1<=68719476736->Lp (out++[v]) n (w (s+1))=some r->Lp out n s=some r:=by
  intro out s v r h1 h2 h3 h4;refine X3.2.2.2.2.1 _ _ _ _ ⟨_,ZM _ _ _,?_⟩
  grind
 have fin:∀(out:WA) (s:Int),¬s<Ac 1 n->Lp out n s=some (.own 0,[.arr 32 1 true (out.map AF)]):=by
  intro out s h1;refine X3.2.2.2.2.1 _ _ _ _ ⟨_,ZM _ _ _,?_⟩
  grind
 have:n=1\/n=2\/n=3:=by omega
 rcases this with rfl|rfl|rfl
 .exact step _ 1 _ _ Sm b1 Sm (fin _ _ Sm)
 .exact step _ 1 _ _ Sm b1 Sm (step _ 2 _ _ Sm b2 Sm (step _ 3 _ _ Sm b3 Sm (fin _ _ Sm)))
 .exact step _ 1 _ _ Sm b1 Sm (step _ 2 _ _ Sm b2 Sm (step _ 3 _ _ Sm b3 Sm (step _ 4 _ _ Sm b4 Sm (step _ 5 _ _ Sm b5 Sm (step _ 6 _ _ Sm b6 Sm (step _ 7 _ _ Sm b7 Sm (fin _ _ Sm)))))))
structure nO (rows:WA) (n:Nat):Prop where
 len:rows.length<=8
 row:∀r∈rows,r.length=n
 n3:n<=3
structure S3 (cols:WL) (n:Nat):Prop where
 len:cols.length<=3
 mem:∀c∈cols,0<=c/\c<n
def NA{t:Zs}(h:Xd t=true):nO t.Rows t.Arity.toNat/\1<=t.Arity/\t.Arity<=3:=by
 have h8:=KV h;unfold Xd at h;simp only[Yg]at h;have h2:1<=t.Arity/\t.Arity<=3:=by simpa[Al]using h.1.1.2
 refine⟨⟨h8,λr hr=>?_,Z⟩,h2⟩;have h1:=Yp.1 h.2.1 r hr;unfold Gq at h1
 grind
def ZCc{n:Int}{cols:WL}(h:Vd n cols=true)(hn:1<=n/\n<=3):S3 cols n.toNat:=by
 have h1:=Z14 h Z;exact⟨Z,λc hc=>by have:=ZBY h c hc;omega⟩
def ZNR(row cols:WL)(h4:cols.length<=1000)(hr:Le row)(hc:∀c∈cols,0<=c/\c<row.length):∀i,i<=cols.length->bG (XN row (cols.take i)) row cols i=some (.tup [.own 0,Bo true],[.arr 3 1 true ((XN row cols).map ic)]):=by
 refine down _ ?_ ?_
 .simp[WM.1.2.2.2,Yq]
 .intro i hi ih;obtain⟨h0,h1⟩:=hc _ (Yf hi);apply WM.1.2.2.2;rw[An,wS hi Z];refine⟨Z,_,gE hi,_,ZM _ _ _,?_⟩;rw[show w ((row.length:Int)-1)=(row.length:Int)-1 from ZE Z Z];rw[show Al cols[i] 0 ((row.length:Int)-1)=true by simp[Al];omega,Ya rfl];refine⟨h0,_,gD Z,by simp[XN];omega,?_⟩;rw[show XN row (cols.take (i+1))=XN row (cols.take i)++[row.getD cols[i].toNat 0] by unfold XN;rw[Y0 hi,CV];rfl]at ih;exact ih
def ZqD{row cols:WL}{n:Nat}(hr:row.length=n)(hn:n<=3)(hc:S3 cols n):Hi row cols=some (.tup [.own 0,Bo true],[.arr 3 1 true ((XN row cols).map ic)]) :=
 WM.2.1.1.1 _ _ _ (by simpa[XN]using ZNR row cols (by have:=hc.len;omega) Z (by rw[hr];exact hc.mem) 0 (Yc _))
def ZNS{all:WA}{j:Nat}(hj:j<all.length)(g:WL):cnt (all.take (j+1)) g=cnt (all.take j) g+(if g=all[j]then 1 else 0):=by
 unfold cnt
 grind [List.take_succ_eq_append_getElem]
def gcR(cc:WA)(c:WL):XS:=(.tup [.own 0,.own 1],[.arr 32 1 true (cc.map AF),.arr 3 1 true (c.map ic)])
def NB(t:Zs)(c:WA)(counts cols:WL){n:Nat}(hR:nO t.Rows n)(hC:S3 cols n)(r:XS){k:Nat}(hk:k<c.length)(cc:∀x∈c,x.length<=4)(cl:counts.length<=4096)
  (cd:PD t c (counts++[cnt (XZ t.Rows cols) c[k]]) cols (w ((k:Int)+1))=some r):∀j,j<=t.Rows.length->bS t c counts cols k (cnt (XZ (t.Rows.take j) cols) c[k]) j=some r:=by
 have h8:=hR.len;refine down _ ?_ ?_
 .grind [Mt.2.1,List.take_length]
 .intro j hj ih;apply Mt.2.1;rw[An,wS hj Z];have hr:=hR.row _ (Yf hj);have hv4:=cc _ (Yf hk);have hs:(XN t.Rows[j] cols).length<=3:=by have:=hC.len;simp[XN];omega
  refine⟨Z,_,gE hj,_,_,ZqD hr hR.n3 hC,Z,_,gE hk,_,Gr _ _ Z Z,?_⟩;have hj':j<(XZ t.Rows cols).length:=by rw[ZqC];exact hj
  have ht:∀i,XZ (t.Rows.take i) cols=(XZ t.Rows cols).take i:=λi=>by simp[XZ,List.map_take]
  have he:(XZ t.Rows cols)[j]=XN t.Rows[j] cols:=by simp[XZ]
  rw[ht,ZNS hj',he]at ih;rw[ht];by_cases e:c[k]=XN t.Rows[j] cols
  .rw[Ya e]at ih;rw[Ya (by rw[e];exact M8 _)];have h1:=ZBW ((XZ t.Rows cols).take j) c[k];have h2:=ZBX ((XZ t.Rows cols).take j) c[k]
   grind [List.length_take,ZqC,ZE]
  .rw[Yb e,Int.add_zero]at ih
   grind [Ku]
def NC(t:Zs)(values:WA)(cols:WL){n:Nat}(hR:nO t.Rows n)(hC:S3 cols n)(hv:values.length<=4096)(c:∀x∈values,x.length<=4):∀k,k<=values.length->PD t values ((values.take k).map (cnt (XZ t.Rows cols))) cols k=some (gcR values (values.map (cnt (XZ t.Rows cols)))):=by
 refine down _ ?_ ?_
 .apply Mt.1.2;rw[Ao,Yq];rfl
 .intro k hk ih;apply Mt.1.2;rw[An];rw[Y0 hk,CV]at ih;have:=NB t values ((values.take k).map (cnt (XZ t.Rows cols))) cols hR hC _ hk c (by simp;omega) (by rw[wS hk Z];exact ih) 0 (Yc _);simpa[cnt,XZ]using this
def ND(t:Zs)(cols:WL){n:Nat}(hR:nO t.Rows n)(hC:S3 cols n):∀i,i<=t.Rows.length->∀acc:WA,acc.length<=i->(∀x∈acc,x.length<=4)->
  bR t acc [] cols i=some (gcR (Ia acc (XZ (t.Rows.drop i) cols)) ((Ia acc (XZ (t.Rows.drop i) cols)).map (cnt (XZ t.Rows cols)))):=by
 have h8:=hR.len;refine down _ ?_ ?_
 .intro acc ha h4;apply Mt.1.1;rw[Ao,Ym];exact NC t acc cols hR hC Z h4 0 (Yc _)
 .intro i hi ih acc ha h4;apply Mt.1.1;rw[An,wS hi Z,Yi hi];have hr:=hR.row _ (Yf hi);have hs:(XN t.Rows[i] cols).length<=4:=by have:=hC.len;simp[XN];omega
  have hp:=Zq4 acc (XN t.Rows[i] cols) false
  exact⟨Z,_,gE hi,_,_,ZqD hr hR.n3 hC,_,ZBC Z h4 hs,ih _ Z (λx hx=>by
   rcases(ST _ _ _).1 hx with hx|rfl
   .exact h4 x hx
   .exact hs)⟩
def ZCd{t:Zs}(h:CC t)(hv:Xd t=true){cols:WL}(hc:Vd t.Arity cols=true):PC t cols=some (gcR (Gz t.Rows cols) (Ie t.Rows cols)):=by
 obtain⟨hR,hA⟩:=NA hv;have hC:=ZCc hc hA;refine Mt.2.2 _ _ _ ⟨_,ZCb t h hA cols (by have:=hC.len;omega),?_⟩;rw[hc,hv,Ya (by rfl)];have:=ND t cols hR hC 0 (Yc _) [] Om Om;rw[Yo,ZBF]at this;exact this
def stR(t:Zs):XS:=(.agg ((ZO t).c.map .t),[])
def S4{n:Int}(h:Al n 1 3=true):0<(Vq n).length/\(Vq n).length<=7:=by
 have h':1<=n/\n<=3:=by simpa[Al]using h
 have:n=1\/n=2\/n=3:=by omega
 rcases this with rfl|rfl|rfl<;>decide
theorem VB{t:Zs}(h:Xd t=true):Al t.Arity 1 3=true:=by
 unfold Xd at h
 simp_all
def ZNT{t:Zs}(h:CC t)(hv:Xd t=true)(a:V6)(b c:Int)(a':V6)(b' c':Int):∀i,i<=(Vq t.Arity).length->bT t a b c a' b' c' false (((Vq t.Arity).take i).map (grp t.Rows)) (Vq t.Arity) i=some (.agg ((⟨a',b',c',((Vq t.Arity).map (grp t.Rows))⟩:Z5).c.map .t),[]):=by
 have h7:=S4 (VB hv);refine down _ ?_ ?_
 .simp[XR.1.1.1.2,Yq]
 .intro i hi ih;apply XR.1.1.1.2;rw[An,wS hi Z];rw[Y0 hi,CV]at ih;exact⟨Z,_,gE hi,_,_,ZCd h hv (ZCa (VB hv) _ (Yf hi)),by simp;omega,ih⟩
def Z15{t:Zs}(h:CC t)(hv:Xd t=true):Lq t=some (stR t):=by
 have h7:=S4 (VB hv);refine XR.1.1.2.1 _ _ ⟨_,Zqq t h,?_⟩;rw[hv,Ya rfl];refine⟨_,ZNQ (VB hv),XR.1.1.1.1 _ _ _ _ _ _ _ _ _ _ ?_⟩;rw[An];refine⟨Z,_,gE (i:=0) h7.1,_,_,ZCd h hv (ZCa (VB hv) _ (Yf h7.1)),?_⟩;have:=ZNT h hv ⟨#[]⟩ 0 0 t.Name t.Arity (t.Rows.length:Int) 1 Z;rw[Y0 h7.1]at this;rw[show w (0+1)=1 from by decide];unfold stR ZO;simpa[grp]using this
def S5(d:Zt)(v:Int):ZN:=if Vk d && Al v 1 999 then⟨v,d.Tables.map ZO⟩else⟨0,[]⟩
def nP(d:Zt)(v:Int):XS:=(.tup [.agg ((S5 d v).c.map .t),Bo (Vk d && Al v 1 999)],[])
def Z16{d:Zt}(hv:Vk d=true):d.Tables.length<=6:=by
 unfold Vk at hv
 grind
def ZNU{d:Zt}(h:CF d)(hv:Vk d=true)(a b:Int):∀i,i<=d.Tables.length->bU d a b false ((d.Tables.take i).map ZO) i=some (.tup [.agg [I b,L 4 ((d.Tables.map ZO).map Z5.c)],Bo true],[]):=by
 have h6:=Z16 hv;refine down _ ?_ ?_
 .simp[XR.1.2.1.1,Yq]
 .intro i hi ih;apply XR.1.2.1.1;rw[An,wS hi Z];rw[Y0 hi,CV]at ih;have hm:=Yf hi;exact⟨Z,_,gE hi,⟨_,Z15 (h.2 _ hm) (H6 hv hm),by simp;omega,ih⟩⟩
def ZCe{d:Zt}(h:CF d)(v:Int):PE d v=some (nP d v):=by
 refine XR.1.2.1.2 _ _ _ ⟨_,ZBg d h,?_⟩;unfold nP S5;rcases tf (Vk d)with hv|hv
 .rw[hv];rfl
 rw[hv,Ya rfl];refine⟨_,ZM _ _ _,?_⟩;rcases tf (Al v 1 999)with e|e
 .rw[e];rfl
 rw[e,Ya rfl,Yk,Ya rfl];apply XR.1.1.2.2;by_cases e0:d.Tables=[]
 .simp_all
 .have h0:0<d.Tables.length:=Y5.2 e0;have hm:=Yf h0;rw[An];refine⟨Z,_,gE (i:=0) h0,⟨_,Z15 (h.2 _ hm) (H6 hv hm),?_⟩⟩;have:=ZNU h hv 0 v 1 Z;rw[Y0 h0]at this;rw[show w (0+1)=1 from by decide];simpa[ZO]using this
abbrev LeG(g:ZF):Prop:=g.Columns.length<=4294967296/\(g.Values.length<=4294967296/\∀r∈g.Values,r.length<=4294967296)/\g.Counts.length<=4294967296
abbrev DJ(s:Z5):Prop:=s.Groups.length<=4294967296/\∀g∈s.Groups,LeG g
abbrev LeK(c:ZN):Prop:=c.Tables.length<=4294967296/\∀s∈c.Tables,DJ s
def ZqE(v:Int)(ts:List Z5)(c:ZN):Bool:=decide (v=c.Version/\ts=c.Tables)
def ZNV(a b:Z5)(x y:ZF)(hl:y.Values.length=x.Values.length)(hx:LeG x)(hy:LeG y)(r:Bool)(i:Int)(cc:PP a b (w (i+1))=some (Bo r,[])):∀k,k<=x.Values.length->cS a b x y i k=some (Bo (decide (x.Values.drop k=y.Values.drop k) && r),[]):=by
 refine down _ ?_ ?_
 .simp_all [Sw.2.1,Ym]
 .intro k hk ih;have hk':k<y.Values.length:=by omega
  apply Sw.2.1;rw[An,wS hk (by have:=hx.2.1.1;omega),Z11 hk hk'];have l1:=hx.2.1.2 _ (Yf hk);have l2:=hy.2.1.2 _ (Yf hk');refine⟨Z,_,gE hk,_,gE hk',_,Gr _ _ Z Z,?_⟩;by_cases c:x.Values[k]=y.Values[k]
  .simp_all [M8]
  .grind [Ku]
def ZNW(a b:Z5)(hl:b.Groups.length=a.Groups.length)(ha:DJ a)(hb:DJ b):∀i,i<=a.Groups.length->PP a b i=some (Bo (decide (a.Groups.drop i=b.Groups.drop i)),[]):=by
 refine down _ ?_ ?_
 .apply Sw.1.2
  simp_all
 .intro i hi ih;have hi':i<b.Groups.length:=by omega
  have l1:=ha.2 _ (Yf hi);have l2:=hb.2 _ (Yf hi');have l11:=l1.1;have l13:=l1.2.2;have l21:=l2.1;have l23:=l2.2.2;apply Sw.1.2;rw[An,Z11 hi hi'];refine⟨Z,_,gE hi,_,gE hi',_,Gr _ _ Z Z,?_⟩;by_cases c1:a.Groups[i].Columns=b.Groups[i].Columns
  .rw[Ya (by rw[c1];exact M8 _)];refine⟨_,Gr _ _ Z Z,?_⟩;by_cases c2:a.Groups[i].Counts=b.Groups[i].Counts
   .rw[Ya (by rw[c2];exact M8 _)];by_cases c3:(a.Groups[i].Values.length:Int)=(b.Groups[i].Values.length:Int)
    .rw[Ya c3];have:=ZNV a b a.Groups[i] b.Groups[i] Z l1 l2 _ i (by rw[wS hi (by have:=ha.1;omega)];exact ih) 0 (Yc _);rw[Yo,Yo]at this;have e:decide (a.Groups[i]=b.Groups[i])=decide (a.Groups[i].Values=b.Groups[i].Values):=by simp[ZF.ext_iff,c1,c2]
     rw[e];exact this
    .rw[Yb c3]
     have:¬a.Groups[i]=b.Groups[i]:=λhc=>c3 (by rw[hc])
     simp[this]
   .rw[Yb (λh=>c2 (Ku _ _ h))]
    have:¬a.Groups[i]=b.Groups[i]:=λhc=>c2 (by rw[hc])
    simp[this]
  .rw[Yb (λh=>c1 (Ku _ _ h))]
   have:¬a.Groups[i]=b.Groups[i]:=λhc=>c1 (by rw[hc])
   simp[this]
def ZCf(a b:Z5)(ha:DJ a)(hb:DJ b):Lt a b=some (Bo (decide (a=b)),[]):=by
 apply Sw.2.2;by_cases c:a.Name=b.Name
 .rw[Ya c];by_cases c2:a.Arity=b.Arity
  .rw[Ya c2];by_cases c3:a.RowCount=b.RowCount
   .rw[Ya c3];by_cases c4:(a.Groups.length:Int)=(b.Groups.length:Int)
    .rw[Ya c4];have e:decide (a=b)=decide (a.Groups=b.Groups):=by simp[Z5.ext_iff,c,c2,c3]
     rw[e];simpa using ZNW a b Z ha hb 0 (Yc _)
    .rw[Yb c4]
     have:¬a=b:=λhc=>c4 (by rw[hc])
     simp[this]
   .rw[Yb c3];simp[Z5.ext_iff,c,c2,c3]
  .rw[Yb c2];simp[Z5.ext_iff,c,c2]
 .rw[Yb c];simp[Z5.ext_iff,c]
def ZNX(a b:ZN)(hl:b.Tables.length=a.Tables.length)(ha:LeK a)(hb:LeK b):∀i,i<=a.Tables.length->cT a b i=some (Bo (decide (a.Tables.drop i=b.Tables.drop i)),[]):=by
 refine down _ ?_ ?_
 .apply XX.1.1.1.1
  simp_all
 .intro i hi ih;have hi':i<b.Tables.length:=by omega
  apply XX.1.1.1.1;rw[An,wS hi (by have:=ha.1;omega),Z11 hi hi'];refine⟨Z,_,gE hi,_,gE hi',_,ZCf _ _ (ha.2 _ (Yf hi)) (hb.2 _ (Yf hi')),?_⟩
  simp_all
def ZNY(v:Int)(ts:List Z5)(c:ZN)(h:ts.length<=4294967296/\∀s∈ts,DJ s)(hc:LeK c):wV ⟨v,ts⟩ c=some (Bo (ZqE v ts c),[]):=by
 apply XX.1.1.1.2;unfold ZqE;by_cases e:v=c.Version
 .rw[Ya e];by_cases c4:(ts.length:Int)=(c.Tables.length:Int)
  .rw[Ya c4];subst e;have:=ZNX ⟨c.Version,ts⟩ c (by simp only;omega) h hc 0 (Yc _)
   simp_all
  .rw[Yb c4]
   have:¬ts=c.Tables:=λhc=>c4 (by rw[hc])
   simp[this]
 .rw[Yb e];simp[e]
def If(d:Zt)(f:ZD):Bool:=match Wv d f.Name with
 |none=>false
 |some t=>Vd t.Arity f.From && Al f.To 0 (t.Arity-1) && !(has f.From f.To)
theorem S6{d:Zt}{n:V6}{t:Zs}(h:Wv d n=some t):Xd t=true:=by
 obtain⟨h1,h2,_⟩:=ZBh h;exact H6 h1 h2
def ZCg{d:Zt}(hd:CF d){n:V6}{t:Zs}(h:Wv d n=some t):CC t:=hd.2 t (ZBh h).2.1
def ZNZ{t:Zs}(hv:Xd t=true)(h0:t.Rows=[])(vs:WL)(hl:Le vs):vU t.Name t.Arity vs=some (Bo (Vd t.Arity vs),[]):=by
 have hA:=(NA hv).2;have hV:Hh t.Name t.Arity=some (Bo true,[]):=by
  unfold Xd at hv
  simp_all [Yg,Xp.2.2.2.2.2,Z0U,ZM,Xp.2.2.2.2.1]
 have main:∀i,i<=vs.length->bE t.Name t.Arity vs i=some (Bo (VA t.Arity (Cd vs i) (vs.drop i)),[]):=by
  refine down _ ?_ ?_
  .apply WM.1.1.1.1;rw[Ao,Ym];exact⟨_,hV,rfl⟩
  .intro i hi ih;apply WM.1.1.1.1;rw[An,Yi hi,VA,wS hi Z,w1 hA];refine⟨Z,_,gE hi,_,ZM _ _ _,?_⟩;rw[show Cd vs (i+1)=some vs[i]from Yd hi]at ih;rcases tf (Al vs[i] 0 (t.Arity-1))with e|e
   .rw[e];simp
   .rw[e,Ya rfl,ih];by_cases h0:(0:Int)<(i:Int)
    .rw[Ya h0,wP Z hi Z,l0 Z Z];refine⟨Z,_,gE Z,?_⟩;by_cases h2:vs[i]<=vs[i-1]
     .rw[Ya h2];simp[BO,EG];omega
     .rw[Yb h2];simp[BO,EG,show vs[i-1]<vs[i] by omega]
    .obtain rfl:i=0:=by omega
     rw[Yb h0];simp[BO,Cd]
 exact WM.1.1.1.2 _ _ _ _ (by simpa[Vd,Cd]using main 0 (Yc _))
def ZCh{d:Zt}(h:CF d)(f:ZD)(hf:f.From.length<=4294967296):Ps d f=some (Bo (If d f),[]):=by
 have hl:=M9 d h f.Name;apply WM.1.2.2.1;unfold If
 cases hq:Wv d f.Name with
 |none=>rw[hq]at hl;exact .inl ⟨_,_,_,hl,rfl⟩
 |some t =>
  rw[hq]at hl;simp only[JH]at hl;have hv:=S6 hq;have hA:=(NA hv).2;by_cases e0:t.Rows=[]
  .rw[Ya e0]at hl;refine .inl ⟨_,_,_,hl,?_⟩;rw[Ya rfl];refine⟨_,ZNZ hv e0 _ Z,?_⟩;rcases tf (Vd t.Arity f.From)with e|e
   .rw[e];simp[e]
   .rw[e,Ya rfl,w1 hA];refine⟨_,ZM _ _ _,?_⟩;rcases tf (Al f.To 0 (t.Arity-1))with e2|e2
    .rw[e2];simp[e,e2]
    .grind [Qq]
  .rw[Yb e0]at hl;refine .inr ⟨_,_,_,hl,_,ZCb t (ZCg h hq) hA _ Z,?_⟩;rw[hv,Bool.and_true];rcases tf (Vd t.Arity f.From)with e|e
   .rw[e];simp[e]
   .rw[e,Ya rfl,w1 hA];refine⟨_,ZM _ _ _,?_⟩;rcases tf (Al f.To 0 (t.Arity-1))with e2|e2
    .rw[e2];simp[e,e2]
    .grind [Qq]
def S7(rows:WA)(f:ZD)(i k:Nat):Prop:=XN (rows.getD i []) f.From=XN (rows.getD k []) f.From->(rows.getD i []).getD f.To.toNat 0=(rows.getD k []).getD f.To.toNat 0
def JM(rows:WA)(f:ZD)(k:Nat):Prop:=∀k',k<=k'->k'<rows.length->∀i,i<k'->S7 rows f i k'
structure NE (t:Zs) (f:ZD) (n:Nat):Prop where
 rows:nO t.Rows n
 cols:S3 f.From n
 to:0<=f.To/\f.To<n
def ZOa{d:Zt}{f:ZD}{t:Zs}(hq:Wv d f.Name=some t)(hv:If d f=true):NE t f t.Arity.toNat:=by
 obtain⟨hR,hA⟩:=NA (S6 hq);unfold If at hv;rw[hq]at hv;simp only[Yg]at hv;have h2:0<=f.To/\f.To<=t.Arity-1:=by simpa[Al]using hv.1.2
 exact⟨hR,ZCc hv.1.1 hA,Z⟩
def gd{rows:WA}{i:Nat}(h:i<rows.length):rows.getD i []=rows[i]:=by
 simp_all
def GB(L:XP)(z:XS)(ok:Prop):Prop:=(ok->L=some z)/\(¬ok->∃a b:Int,L=some (.own 0,[.arr 3 1 true (([a,b]:WL).map ic)]))
def GB.cong{L:XP}{z:XS}{p q:Prop}(h:GB L z p)(e:p↔q):GB L z q:=⟨λhq=>h.1 (e.2 hq),λhq=>h.2 λhp=>hq (e.1 hp)⟩
def GB.map{L L':XP}{z:XS}{p:Prop}(h:GB L z p)(e:∀r,L=some r->L'=some r):GB L' z p:=⟨λhp=>e _ (h.1 hp),λhp=>(h.2 hp).imp λa ⟨b,hb⟩=>⟨b,e _ hb⟩⟩
def Z17{rows:WA}{f:ZD}{k i:Nat}(hi:i<k):((∀j,i<=j->j<k->S7 rows f j k)/\JM rows f (k+1))↔(S7 rows f i k/\((∀j,i+1<=j->j<k->S7 rows f j k)/\JM rows f (k+1))):=by
 grind
def NF{rows:WA}{f:ZD}{k:Nat}(hk:k<rows.length):JM rows f k↔((∀j,0<=j->j<k->S7 rows f j k)/\JM rows f (k+1)):=by
 constructor
 .intro h;exact⟨λj _ h4=>h k (Yj _) hk j h4,λk' h1 h2=>h k' Z h2⟩
 .rintro⟨h1,h2⟩ k' h3 h4 i hi;by_cases e:k'=k
  .simp_all
  .exact h2 k' Z h4 i hi
def ZOb{d:Zt}{t:Zs}{f:ZD}{n:Nat}(h:NE t f n){k:Nat}(hk:k<t.Rows.length)(a:V6)(b:Int)(c:GB (Pt d f a b t.Rows (w ((k:Int)+1))) (.own 0,[.arr 3 1 true (([]:WL).map ic)]) (JM t.Rows f (k+1))) :
  ∀i,i<=k->GB (Hj d f a b t.Rows (XN t.Rows[k] f.From) k i) (.own 0,[.arr 3 1 true (([]:WL).map ic)]) ((∀j,i<=j->j<k->S7 t.Rows f j k)/\JM t.Rows f (k+1)):=by
 have h8:=h.rows.len;refine down _ ?_ ?_
 .refine(c.map λr hr=>?_).cong ⟨λhp=>⟨λj h1 h2=>by omega,hp⟩,λhp=>hp.2⟩
  simp_all [WM.2.1.2.2]
 .intro i hi ih;have hi':i<t.Rows.length:=by omega
  have Dj:=h.rows.row _ (Yf hi');have hrk:=h.rows.row _ (Yf hk);have hc3:=h.cols.len;have hto:=h.to;have hs:∀r:WL,(XN r f.From).length<=3:=λr=>by simp[XN];omega
  have step:∀r,(if XN t.Rows[i] f.From=XN t.Rows[k] f.From then(if t.Rows[i].getD f.To.toNat 0=t.Rows[k].getD f.To.toNat 0 then Hj d f a b t.Rows (XN t.Rows[k] f.From) k (w ((i:Int)+1))=some r else some (.own 0,[.arr 3 1 true (([(i:Int),(k:Int)]:WL).map ic)])=some r)else Hj d f a b t.Rows (XN t.Rows[k] f.From) k (w ((i:Int)+1))=some r)->Hj d f a b t.Rows (XN t.Rows[k] f.From) k i=some r:=by
   intro r hr;apply WM.2.1.2.2;rw[An];have q1:=hs t.Rows[i];have q2:=hs t.Rows[k];refine⟨Z,_,gE hi',_,_,ZqD Dj h.rows.n3 h.cols,_,Gr _ _ Z Z,?_⟩
   grind [M8,gD,gE,Ku]
  rw[show w ((i:Int)+1)=((i+1:Nat):Int)from wS hi' Z]at step;by_cases e:XN t.Rows[i] f.From=XN t.Rows[k] f.From
  .by_cases e2:t.Rows[i].getD f.To.toNat 0=t.Rows[k].getD f.To.toNat 0
   .refine(ih.map λr hr=>step r (by rw[Ya e,Ya e2];exact hr)).cong ?_;rw[Z17 hi];exact⟨λhp=>⟨λ_=>by rw[gd hi',gd hk];exact e2,hp⟩,λhp=>hp.2⟩
   .refine⟨λhp=>absurd ((Z17 hi).1 hp).1 λhg=>e2 ?_,λ_=>⟨_,_,step _ (by rw[Ya e,Yb e2])⟩⟩;have:=hg (by rw[gd hi',gd hk];exact e)
    simp_all
  .refine(ih.map λr hr=>step r (by rw[Yb e];exact hr)).cong ?_;rw[Z17 hi];exact⟨λhp=>⟨λhq=>absurd (by rw[gd hi',gd hk]at hq;exact hq) e,hp⟩,λhp=>hp.2⟩
def ZOc{d:Zt}(hd:CF d){t:Zs}{f:ZD}(hf:f.From.length<=4294967296)(hv:If d f=true){n:Nat}(h:NE t f n)(a:V6)(b:Int):∀k,k<=t.Rows.length->GB (Pt d f a b t.Rows k) (.own 0,[.arr 3 1 true (([]:WL).map ic)]) (JM t.Rows f k):=by
 have h8:=h.rows.len;refine down _ ?_ ?_
 .refine⟨λ_=>WM.2.1.2.1 _ _ _ _ _ _ _ (by rw[Ao]),λhn=>absurd (λk' h1 h2=>by omega) hn⟩
 .intro k hk ih;rw[<-show w ((k:Int)+1)=((k+1:Nat):Int)from wS hk Z]at ih;refine((ZOb (d:=d) h hk a b ih 0 (Yc _)).map λr hr=>?_).cong (NF hk).symm;apply WM.2.1.2.1;rw[An];refine⟨_,ZCh hd f hf,?_⟩;rw[hv,Ya rfl];exact⟨Z,_,gE hk,_,_,ZqD (h.rows.row _ (Yf hk)) h.rows.n3 h.cols,hr⟩
open Classical in
noncomputable def nQ(d:Zt)(f:ZD):Bool:=If d f && (match Wv d f.Name with
 |none=>true
 |some t=>decide (JM t.Rows f 0))
def ZCi{d:Zt}(h:CF d)(f:ZD)(hf:f.From.length<=4294967296):Pu d f=some (Bo (nQ d f),[]):=by
 refine WM.2.2.1.2 _ _ _ ⟨_,ZCh h f hf,?_⟩;unfold nQ;rcases tf (If d f)with hv|hv
 .rw[hv];rfl
 rw[hv,Ya rfl,Yk]
 cases hq:Wv d f.Name with
 |none=>unfold If at hv;rw[hq]at hv;cases hv
 |some t =>
  have hl:=M9 d h f.Name;rw[hq]at hl;simp only[JH]at hl;by_cases e0:t.Rows=[]
  .rw[Ya e0]at hl;have e:JM t.Rows f 0:=λk' h1 h2=>by rw[e0]at h2;simp at h2
   simp_all [WM.2.2.1.1,WM.2.1.1.2]
  .rw[Yb e0]at hl;have V:=(ZOc h hf hv (ZOa hq hv) t.Name t.Arity 0 (Yc _)).map (L':=vW d f) λr hr=>WM.2.2.1.1 _ _ _ (.inr ⟨_,_,_,hl,hr⟩)
   by_cases e:JM t.Rows f 0
   .exact⟨[],V.1 e,by simp[e]⟩
   .obtain⟨x,y,hxy⟩:=V.2 e;exact⟨_,hxy,by simp[e]⟩
def S8(d:Zt)(x:Z8):Bool:=match Wv d x.Name,Wv d x.Into with
 |some a,some b=>Al x.Column 0 (a.Arity-1) && Al x.IntoColumn 0 (b.Arity-1)
 |_,_=>false
def ZCj{d:Zt}(h:CF d)(x:Z8):Pw d x=some (Bo (S8 d x),[]):=by
 have h1:=M9 d h x.Name;have h2:=M9 d h x.Into;apply WM.2.2.2.2;unfold S8
 cases hq:Wv d x.Name with
 |none =>
  rw[hq]at h1
  cases hq2:Wv d x.Into with
  |none=>rw[hq2]at h2;exact .inl ⟨_,_,_,h1,.inl ⟨_,_,_,h2,Om⟩⟩
  |some b =>
   rw[hq2]at h2;simp only[JH]at h2;by_cases e2:b.Rows=[]
   .rw[Ya e2]at h2;exact .inl ⟨_,_,_,h1,.inl ⟨_,_,_,h2,Om⟩⟩
   .rw[Yb e2]at h2;exact .inl ⟨_,_,_,h1,.inr ⟨_,_,_,h2,Om⟩⟩
 |some a =>
  rw[hq]at h1;simp only[JH]at h1;have wa:=w1 (NA (S6 hq)).2
  cases hq2:Wv d x.Into with
  |none =>
   rw[hq2]at h2;by_cases e1:a.Rows=[]
   .rw[Ya e1]at h1;exact .inl ⟨_,_,_,h1,.inl ⟨_,_,_,h2,Om⟩⟩
   .rw[Yb e1]at h1;exact .inr ⟨_,_,_,h1,.inl ⟨_,_,_,h2,Om⟩⟩
  |some b =>
   rw[hq2]at h2;simp only[JH]at h2;have wb:=w1 (NA (S6 hq2)).2;by_cases e1:a.Rows=[]
   .rw[Ya e1]at h1;by_cases e2:b.Rows=[]
    .rw[Ya e2]at h2;refine .inl ⟨_,_,_,h1,.inl ⟨_,_,_,h2,?_⟩⟩
     simp_all
    .rw[Yb e2]at h2;refine .inl ⟨_,_,_,h1,.inr ⟨_,_,_,h2,?_⟩⟩
     simp_all
   .rw[Yb e1]at h1;by_cases e2:b.Rows=[]
    .rw[Ya e2]at h2;refine .inr ⟨_,_,_,h1,.inl ⟨_,_,_,h2,?_⟩⟩
     simp_all
    .rw[Yb e2]at h2;refine .inr ⟨_,_,_,h1,.inr ⟨_,_,_,h2,_,ZM _ _ _,?_⟩⟩
     simp_all
def Xx(rows:WA)(c:Int):WL:=rows.map λr=>r.getD c.toNat 0
structure U4 (rows:WA) (c:Int):Prop where
 len:rows.length<=8
 row:∀r∈rows,(c.toNat<r.length/\r.length<=3)/\∀v∈r,0<=v/\v<=9
 c0:0<=c
theorem ZOd{t:Zs}(hv:Xd t=true){c:Int}(hc:Al c 0 (t.Arity-1)=true):U4 t.Rows c:=by
 obtain⟨hR,hA⟩:=NA hv;have h2:0<=c/\c<=t.Arity-1:=by simpa[Al]using hc
 refine⟨hR.len,λr hr=>⟨?_,λv hx=>?_⟩,h2.1⟩
 .have:=hR.row r hr;omega
 .unfold Xd at hv;simp only[Yg]at hv;have h1:=Yp.1 hv.2.1 r hr;unfold Gq at h1;simp only[Yg]at h1;simpa[dig,Al]using Yp.1 h1.1 v hx
def ZOe{rows:WA}{c:Int}(h:U4 rows c):∀v∈Xx rows c,0<=v/\v<=9:=by
 intro v hv;obtain⟨r,hr,rfl⟩:=Yn.1 hv;obtain⟨⟨h1,_⟩,h2⟩:=h.row r hr
 simp_all
def nS(A B:WL):WL:=A.filter λv=>!(has B v)
def S9(d:Zt)(x:Z8):Bool:=S8 d x && (match Wv d x.Name,Wv d x.Into with
 |some a,some b=>(nS (Xx a.Rows x.Column) (Xx b.Rows x.IntoColumn)).isEmpty
 |_,_=>true)
def NG{d:Zt}{x:Z8}(hv:S8 d x=true):∃a b,Wv d x.Name=some a/\Wv d x.Into=some b/\U4 a.Rows x.Column/\U4 b.Rows x.IntoColumn:=by
 unfold S8 at hv
 cases hq:Wv d x.Name with
 |none=>rw[hq]at hv;cases hv
 |some a =>
  cases hq2:Wv d x.Into with
  |none=>rw[hq,hq2]at hv;cases hv
  |some b =>
   rw[hq,hq2]at hv;simp only[Yg]at hv
   grind [ZOd,S6]
def Qd(A B:WL)(u:Nat):WL:=((List.range' u (10-u)).filter λv:Nat=>has A (v:Int) && !(has B (v:Int))).map λn:Nat=>(n:Int)
def ZqF{A B:WL}{u:Nat}(h:u<10):Qd A B u=(if(has A (u:Int) && !(has B (u:Int)))=true then[(u:Int)]else[])++Qd A B (u+1):=by
 unfold Qd;rw[show 10-u=(10-(u+1))+1 by omega,Ycl,rU];split<;>simp
theorem ZCk{xs:WL}{v:Int}:has xs v=true↔v∈xs:=by simp[has]
def ZOf{A B:WL}(hA:∀v∈A,0<=v/\v<=9):Qd A B 0=[]↔nS A B=[]:=by
 constructor
 .intro h;unfold nS;rw[ON];intro v hv hb;have h1:=hA v hv;unfold Qd at h;rw[List.map_eq_nil_iff,ON]at h;refine h v.toNat (by simp[List.mem_range'];omega) ?_;rw[show((v.toNat:Nat):Int)=v by omega,ZCk.2 hv,Yk];exact hb
 .intro h;unfold Qd;rw[List.map_eq_nil_iff,ON];intro n _ hb;simp only[Yg]at hb;unfold nS at h
  grind [List.filter_eq_nil_iff,ZCk]
def ZqG(r:WL)(rows:WA)(c v:Int):has (Xx (r::rows) c) v=(decide (r.getD c.toNat 0=v) || has (Xx rows c) v):=by
 simp only[has,Xx,Yz,GM]
 grind
theorem Abk{x:Z8}(a:V6)(b:Int)(a':V6)(b':Int)(out:WL)(v:Int)(one:Bool)(r:XS)(hr:(if(one && !(false))=true then out.length+1<=68719476736/\KE x (out++[v]) a b a' b' (w (v+1))=some r else KE x out a b a' b' (w (v+1))=some r)):Px x out a b a' b' v one false 0=some r:=by
 grind [X3.1.2.2.2.2]
theorem Abl{x:Z8}(a:V6)(b:Int)(a':V6)(b':Int)(out:WL)(v:Int)(c:Bool)(r:XS)(hr:Px x out a b a' b' v false c 0=some r):bL x out a b a' b' v false c 0=some r:=by
 simp_all [X3.1.2.1.1]
theorem Abm{x:Z8}(a:V6)(b:Int)(a':V6)(b':Int):∀u,u<=10->∀out:WL,out.length<=u->KE x out a b a' b' u=some (.own 0,[.arr 3 1 true ((out++Qd (Xx ([]:WA) x.Column) (Xx ([]:WA) x.IntoColumn) u).map ic)]):=by
 refine down _ ?_ ?_
 .intro out ho;apply X3.1.1.1.1;rw[Ao];simp[Qd]
 .intro u hu ih out ho;have step:∀r,(if(false && !(false))=true then out.length+1<=68719476736/\KE x (out++[(u:Int)]) a b a' b' (w ((u:Int)+1))=some r else KE x out a b a' b' (w ((u:Int)+1))=some r)->KE x out a b a' b' u=some r:=by
   grind [X3.1.1.1.1,Abk,Abl]
  rw[ZqF hu,show w ((u:Int)+1)=((u+1:Nat):Int)from wS hu Z]at *
  have e1:has (Xx ([]:WA) x.Column) (u:Int)=false:=rfl
  grind
def nT{x:Z8}{B:WA}(hB:U4 B x.IntoColumn)(a:V6)(b:Int)(a':V6)(b':Int)(out:WL)(v:Int)(c:Bool)(r:XS):∀i,i<=B.length->∀two:Bool,(if(c && !(two || has (Xx (B.drop i) x.IntoColumn) v))=true then out.length+1<=68719476736/\KF x (out++[v]) a b a' b' B (w (v+1))=some r else KF x out a b a' b' B (w (v+1))=some r)->Py x out a b a' b' B v c two i=some r:=by
 have h8:=hB.len;refine down _ ?_ ?_
 .intro two hr;apply X3.2.1.1.1;rw[Ao];rw[Ym,show has (Xx [] x.IntoColumn) v=false from rfl,Bool.or_false]at hr
  grind
 .intro i hi ih two hr;obtain⟨⟨h1,h2⟩,_⟩:=hB.row _ (Yf hi);apply X3.2.1.1.1;rw[An,wS hi Z];rw[Yi hi,ZqG]at hr;rcases tf two with e|e
  .rw[Yb (by rw[e];simp)];refine⟨Z,_,gE hi,hB.c0,_,gD h1,ih _ ?_⟩
   simp_all
  .simp_all
def nU{x:Z8}{B:WA}(hB:U4 B x.IntoColumn)(a:V6)(b:Int)(a':V6)(b':Int)(out:WL)(v:Int)(c:Bool)(r:XS)(hr:Py x out a b a' b' B v false c 0=some r):bM x out a b a' b' B v false c 0=some r:=by
 simp_all [X3.1.2.1.2]
theorem nV{x:Z8}{B:WA}(hB:U4 B x.IntoColumn)(a:V6)(b:Int)(a':V6)(b':Int):∀u,u<=10->∀out:WL,out.length<=u->KF x out a b a' b' B u=some (.own 0,[.arr 3 1 true ((out++Qd (Xx ([]:WA) x.Column) (Xx B x.IntoColumn) u).map ic)]):=by
 refine down _ ?_ ?_
 .intro out ho;apply X3.1.1.1.2;rw[Ao];simp[Qd]
 .intro u hu ih out ho;have step:∀r,(if(false && !(has (Xx B x.IntoColumn) (u:Int)))=true then out.length+1<=68719476736/\KF x (out++[(u:Int)]) a b a' b' B (w ((u:Int)+1))=some r else KF x out a b a' b' B (w ((u:Int)+1))=some r)->KF x out a b a' b' B u=some r:=by
   intro r hr;apply X3.1.1.1.2;rw[An];have q1:=nT hB a b a' b' out u (false) r 0 (Yc _) false (by simpa using hr)
   simp_all [nU]
  rw[ZqF hu,show w ((u:Int)+1)=((u+1:Nat):Int)from wS hu Z]at *
  have e1:has (Xx ([]:WA) x.Column) (u:Int)=false:=rfl
  grind
def nW{x:Z8}{A:WA}(hA:U4 A x.Column)(a:V6)(b:Int)(a':V6)(b':Int)(out:WL)(v:Int)(one:Bool)(r:XS)(hr:(if(one && !(false))=true then out.length+1<=68719476736/\KG x (out++[v]) a b A a' b' (w (v+1))=some r else KG x out a b A a' b' (w (v+1))=some r)):Pz x out a b A a' b' v one false 0=some r:=by
 grind [X3.2.1.1.2]
def nX{x:Z8}{A:WA}(hA:U4 A x.Column)(a:V6)(b:Int)(a':V6)(b':Int)(out:WL)(v:Int)(c:Bool)(r:XS):∀i,i<=A.length->∀one:Bool,Pz x out a b A a' b' v (one || has (Xx (A.drop i) x.Column) v) c 0=some r->bN x out a b A a' b' v one c i=some r:=by
 have h8:=hA.len;refine down _ ?_ ?_
 .intro one hr;apply X3.1.2.2.1;rw[Ao];rw[Ym,show has (Xx [] x.Column) v=false from rfl,Bool.or_false]at hr;exact hr
 .intro i hi ih one hr;obtain⟨⟨h1,h2⟩,_⟩:=hA.row _ (Yf hi);apply X3.1.2.2.1;rw[An,wS hi Z];rw[Yi hi,ZqG]at hr;rcases tf one with e|e
  .rw[Yb (by rw[e];simp)];refine⟨Z,_,gE hi,hA.c0,_,gD h1,ih _ ?_⟩
   simp_all
  .simp_all
theorem nY{x:Z8}{A:WA}(hA:U4 A x.Column)(a:V6)(b:Int)(a':V6)(b':Int):∀u,u<=10->∀out:WL,out.length<=u->KG x out a b A a' b' u=some (.own 0,[.arr 3 1 true ((out++Qd (Xx A x.Column) (Xx ([]:WA) x.IntoColumn) u).map ic)]):=by
 refine down _ ?_ ?_
 .intro out ho;apply X3.1.1.2.1;rw[Ao];simp[Qd]
 .intro u hu ih out ho;have step:∀r,(if(has (Xx A x.Column) (u:Int) && !(false))=true then out.length+1<=68719476736/\KG x (out++[(u:Int)]) a b A a' b' (w ((u:Int)+1))=some r else KG x out a b A a' b' (w ((u:Int)+1))=some r)->KG x out a b A a' b' u=some r:=by
   intro r hr;apply X3.1.1.2.1;rw[An];have q1:=nW hA a b a' b' out u (has (Xx A x.Column) (u:Int)) r (by simpa using hr);exact nX hA a b a' b' out u false r 0 (Yc _) false (by simpa using q1)
  rw[ZqF hu,show w ((u:Int)+1)=((u+1:Nat):Int)from wS hu Z]at *
  have e1:has (Xx A x.Column) (u:Int)=has (Xx A x.Column) (u:Int):=rfl;have e2:has (Xx ([]:WA) x.IntoColumn) (u:Int)=false:=rfl
  grind
def nZ{x:Z8}{A:WA}(hA:U4 A x.Column){B:WA}(hB:U4 B x.IntoColumn)(a:V6)(b:Int)(a':V6)(b':Int)(out:WL)(v:Int)(c:Bool)(r:XS):∀i,i<=B.length->∀two:Bool,(if(c && !(two || has (Xx (B.drop i) x.IntoColumn) v))=true then out.length+1<=68719476736/\KH x (out++[v]) a b A a' b' B (w (v+1))=some r else KH x out a b A a' b' B (w (v+1))=some r)->PA x out a b A a' b' B v c two i=some r:=by
 have h8:=hB.len;refine down _ ?_ ?_
 .intro two hr;apply X3.2.1.2.1;rw[Ao];rw[Ym,show has (Xx [] x.IntoColumn) v=false from rfl,Bool.or_false]at hr
  grind
 .intro i hi ih two hr;obtain⟨⟨h1,h2⟩,_⟩:=hB.row _ (Yf hi);apply X3.2.1.2.1;rw[An,wS hi Z];rw[Yi hi,ZqG]at hr;rcases tf two with e|e
  .rw[Yb (by rw[e];simp)];refine⟨Z,_,gE hi,hB.c0,_,gD h1,ih _ ?_⟩
   simp_all
  .simp_all
def n5{x:Z8}{A:WA}(hA:U4 A x.Column){B:WA}(hB:U4 B x.IntoColumn)(a:V6)(b:Int)(a':V6)(b':Int)(out:WL)(v:Int)(c:Bool)(r:XS):∀i,i<=A.length->∀one:Bool,PA x out a b A a' b' B v (one || has (Xx (A.drop i) x.Column) v) c 0=some r->bO x out a b A a' b' B v one c i=some r:=by
 have h8:=hA.len;refine down _ ?_ ?_
 .intro one hr;apply X3.1.2.2.2.1;rw[Ao];rw[Ym,show has (Xx [] x.Column) v=false from rfl,Bool.or_false]at hr;exact hr
 .intro i hi ih one hr;obtain⟨⟨h1,h2⟩,_⟩:=hA.row _ (Yf hi);apply X3.1.2.2.2.1;rw[An,wS hi Z];rw[Yi hi,ZqG]at hr;rcases tf one with e|e
  .rw[Yb (by rw[e];simp)];refine⟨Z,_,gE hi,hA.c0,_,gD h1,ih _ ?_⟩
   simp_all
  .simp_all
def n7{x:Z8}{A:WA}(hA:U4 A x.Column){B:WA}(hB:U4 B x.IntoColumn)(a:V6)(b:Int)(a':V6)(b':Int):∀u,u<=10->∀out:WL,out.length<=u->KH x out a b A a' b' B u=some (.own 0,[.arr 3 1 true ((out++Qd (Xx A x.Column) (Xx B x.IntoColumn) u).map ic)]):=by
 refine down _ ?_ ?_
 .intro out ho;apply X3.1.1.2.2;rw[Ao];simp[Qd]
 .intro u hu ih out ho;have step:∀r,(if(has (Xx A x.Column) (u:Int) && !(has (Xx B x.IntoColumn) (u:Int)))=true then out.length+1<=68719476736/\KH x (out++[(u:Int)]) a b A a' b' B (w ((u:Int)+1))=some r else KH x out a b A a' b' B (w ((u:Int)+1))=some r)->KH x out a b A a' b' B u=some r:=by
   intro r hr;apply X3.1.1.2.2;rw[An];have q1:=nZ hA hB a b a' b' out u (has (Xx A x.Column) (u:Int)) r 0 (Yc _) false (by simpa using hr);exact n5 hA hB a b a' b' out u false r 0 (Yc _) false (by simpa using q1)
  rw[ZqF hu,show w ((u:Int)+1)=((u+1:Nat):Int)from wS hu Z]at *
  grind
def ZCl{d:Zt}(h:CF d)(x:Z8):PB d x=some (Bo (S9 d x),[]):=by
 refine X3.2.2.1.1 _ _ _ ⟨_,ZCj h x,?_⟩;unfold S9;rcases tf (S8 d x)with hv|hv
 .rw[hv];rfl
 obtain⟨a,b,h1,h2,hA,hB⟩:=NG hv;rw[hv,Ya rfl,Yk,h1,h2];have l1:=M9 d h x.Name;have l2:=M9 d h x.Into;rw[h1]at l1;rw[h2]at l2;simp only[JH]at l1 l2;refine⟨Qd (Xx a.Rows x.Column) (Xx b.Rows x.IntoColumn) 0,X3.2.1.2.2 _ _ _ ⟨_,ZCj h x,?_⟩,?_⟩
 .rw[hv,Ya rfl];by_cases e1:a.Rows=[]
  .grind [Abm,nV]
  .rw[Yb e1]at l1;by_cases e2:b.Rows=[]
   .grind [nY]
   .rw[Yb e2]at l2;exact .inr ⟨_,_,_,l1,.inr ⟨_,_,_,l2,n7 hA hB _ _ _ _ 0 Z [] Om⟩⟩
 .have:=ZOf (B:=Xx b.Rows x.IntoColumn) (ZOe hA);by_cases e:nS (Xx a.Rows x.Column) (Xx b.Rows x.IntoColumn)=[]
  .rw[this.2 e];simp[e]
  .simp_all
noncomputable def ZqH(d:Zt)(fs:List ZD)(xs:List Z8):Bool:=fs.all (nQ d) && xs.all (S9 d) && (decide (fs.length<=8) && decide (xs.length<=8))
abbrev Ta(fs:List ZD):Prop:=Le fs/\∀f∈fs,f.From.length<=4294967296
def ZOg{d:Zt}(h:CF d)(xs:List Z8)(hx:Le xs):∀i,i<=xs.length->bX d xs i=some (Bo ((xs.drop i).all (S9 d)),[]):=by
 refine down _ ?_ ?_
 .apply XR.1.2.2.2.1;simp
 .intro i hi ih;apply XR.1.2.2.2.1;rw[An,wS hi hx,Yi hi,CU];refine⟨Z,_,gE hi,_,ZCl h _,?_⟩
  simp_all
def Z18{d:Zt}(h:CF d){fs:List ZD}(hf:Ta fs){xs:List Z8}(hx:Le xs):PF d fs xs=some (Bo (ZqH d fs xs),[]):=by
 have main:∀i,i<=fs.length->bW d fs xs i=some (Bo ((fs.drop i).all (nQ d) && xs.all (S9 d)),[]):=by
  refine down _ ?_ ?_
  .apply XR.1.2.2.1;rw[Ao,Ym];simpa using ZOg h xs hx 0 (Yc _)
  .intro i hi ih;apply XR.1.2.2.1;rw[An,wS hi hf.1,Yi hi,CU];refine⟨Z,_,gE hi,_,ZCi h _ (hf.2 _ (Yf hi)),?_⟩
   simp_all
 apply XR.1.2.2.2.2;unfold ZqH
 grind
structure U5 (s:Zq):Prop where
 d:CF s.Zt
 k:LeK s.ZN
 f:Ta s.Dependencies
 x:Le s.Inclusions
noncomputable def NH(s:Zq):Bool:=Vk s.Zt && Al s.ZN.Version 1 999 && decide (s.Zt.Tables.map ZO=s.ZN.Tables) && ZqH s.Zt s.Dependencies s.Inclusions
def ZCm{d:Zt}(hv:Vk d=true):(d.Tables.map ZO).length<=4294967296/\∀s∈d.Tables.map ZO,DJ s:=by
 have h6:=Z16 hv;refine⟨by simp;omega,λs hs=>?_⟩;obtain⟨t,ht,rfl⟩:=Yn.1 hs;have hT:=H6 hv ht;have h7:=S4 (VB hT);have h8:=KV hT;refine⟨by simp[ZO];omega,λg hg=>?_⟩;obtain⟨c,hc,rfl⟩:=Yn.1 hg;have hc3:=(Z12 (VB hT) c hc).1;have hg:=Z13 t.Rows c;refine⟨by simp only[grp];omega,⟨by simp only[grp];omega,λr hr=>?_⟩,by simp only[grp,Ie,DL];omega⟩;have:=ZBV hr;omega
def ZOh{s:Zq}(h:U5 s):wW s=some (Bo (NH s),[]):=by
 have hb:=ZCe h.d s.ZN.Version;refine XX.1.1.2.1 _ _ ⟨_,_,hb,?_⟩;unfold NH;rcases tf (Vk s.Zt && Al s.ZN.Version 1 999)with e|e
 .simp[e]
 rw[e,Ya rfl,Yk];have hv:Vk s.Zt=true:=by simp only[Yg]at e;exact e.1
 have c:S5 s.Zt s.ZN.Version=⟨s.ZN.Version,s.Zt.Tables.map ZO⟩:=by unfold S5;rw[Ya e]
 rw[c];refine⟨_,ZNY _ _ _ (ZCm hv) h.k,?_⟩;have q:ZqE s.ZN.Version (s.Zt.Tables.map ZO) s.ZN=decide (s.Zt.Tables.map ZO=s.ZN.Tables):=by simp[ZqE]
 rw[q];rcases tf (decide (s.Zt.Tables.map ZO=s.ZN.Tables))with e2|e2
 .rw[e2];simp
 .rw[e2,Ya rfl];exact⟨_,Z18 h.d h.f h.x,Om⟩
abbrev Lf{α:Type}(xs:List α):Prop:=xs.length<=4294967296
abbrev LfT(t:Zs):Prop:=Lf t.Rows/\∀r∈t.Rows,Lf r
abbrev LfD(d:Zt):Prop:=Lf d.Tables/\∀t∈d.Tables,LfT t
abbrev dbR(d:Zt):XS:=(.agg [.own 0],[.arr 191 3 true (d.Tables.map Zs.c)])
theorem ET{α:Type}{xs:List α}{i:Nat}(h:i<xs.length):xs.take i++[xs[i]]=xs.take (i+1):=(Y0 h).symm
theorem NI{α:Type}{xs:List α}(h:0<xs.length):[xs[0]]=xs.take 1:=by
 rw[<-ET h];rfl
theorem Dn:w (0+1)=((1:Nat):Int):=by decide
theorem tkl{α:Type}{xs:List α}{i:Nat}(h:i<xs.length)(hl:xs.length<=4294967296):(xs.take i).length+1<=68719476736:=by
 grind
theorem Ig{α:Type}{xs:List α}(h:xs.length<=4294967296):xs.length<=68719476736:=by omega
def Abn(t:Zs)(h:LfT t)(a:V6)(b:Int):∀i,i<=t.Rows.length->Pq t a b t.Name t.Arity (t.Rows.take i) i=some (.agg [.t (.str t.Name),I t.Arity,.own 0],[.arr 32 1 true (t.Rows.map AF)]):=by
 have hl:=h.1;refine down _ ?_ ?_
 .simp[Xp.2.1.2.2,Yq]
 .grind [Xp.2.1.2.2,wS,ET,gE,Ig,List.getElem_mem]
abbrev s4R(t:Zs):XS:=if t.Rows=[]then(.agg [.t (.str t.Name),I t.Arity,.t .nil],[])else(.agg [.t (.str t.Name),I t.Arity,.own 0],[.arr 32 1 true (t.Rows.map AF)])
def n8(t:Zs)(h:LfT t):KD t=some (s4R t):=by
 refine Xp.2.2.1.1 _ _ (Xp.2.1.2.1 _ _ _ _ _ _ _ ?_);by_cases e:t.Rows=[]
 .simp_all
 .have h0:0<t.Rows.length:=Y5.2 e;rw[An,Dn];have:=Abn t h ⟨#[]⟩ 0 1 h0;rw[<-NI h0]at this
  grind
theorem tE(t:Zs)(h:t.Rows=[]):(⟨t.Name,t.Arity,[]⟩:Zs)=t:=Zs.ext rfl rfl h.symm
def Abp(d:Zt)(h:LfD d):∀i,i<=d.Tables.length->Lr d (d.Tables.take i) i=some (dbR d):=by
 have hl:=h.1;refine down _ ?_ ?_
 .apply XR.2.1.1.2;simp
 .intro i hi ih;apply XR.2.1.1.2;rw[An,wS hi Z];rw[<-ET hi]at ih;have s:=n8 _ (h.2 _ (Yf hi));refine⟨Z,_,gE hi,?_⟩;by_cases e:d.Tables[i].Rows=[]
  .grind [tkl,tE]
  .rw[s4R,Yb e]at s;exact .inr ⟨_,_,_,s,tkl hi hl,ih⟩
def ZOi(d:Zt)(h:LfD d):wC d=some (dbR d):=by
 refine XR.2.1.2.1 _ _ (XR.2.1.1.1 _ _ _ ?_);by_cases e:d.Tables=[]
 .simp_all
 .have h0:0<d.Tables.length:=Y5.2 e;rw[An,Dn];have:=Abp d h 1 h0;rw[<-NI h0]at this;have s:=n8 _ (h.2 _ (Yf h0));refine⟨Z,_,gE (i:=0) h0,?_⟩;by_cases e:d.Tables[0].Rows=[]
  .grind [tE]
  .rw[s4R,Yb e]at s;exact .inr ⟨_,_,_,s,this⟩
theorem n9(s:Z5)(h:DJ s)(a:V6)(b c:Int)(r:XS){i:Nat}(hi:i<s.Groups.length)(cc:FR s a b c s.Name s.Arity s.RowCount (s.Groups.take (i+1)) ((i+1:Nat):Int)=some r) :
  (∀k,k<=s.Groups[i].Values.length->c8 s a b c s.Name s.Arity s.RowCount (s.Groups.take i) s.Groups[i].Columns (s.Groups[i].Values.take k) s.Groups[i].Counts i k=some r):=by
 have hl:=h.1;have g:=h.2 _ (Yf hi);have hv:=g.2.1.1;refine down _ ?_ ?_
 .refine W7.1.2.1.2 _ _ _ _ _ _ _ _ _ _ _ _ _ _ ⟨Z,_,gE hi,?_⟩;rw[Ao,Yq,wS hi Z];rw[<-ET hi]at cc;exact⟨tkl hi hl,cc⟩
 .intro k hk ih;refine W7.1.2.1.2 _ _ _ _ _ _ _ _ _ _ _ _ _ _ ⟨Z,_,gE hi,?_⟩;rw[An,wS hk Z];rw[<-ET hk]at ih
  grind
def NJ(s:Z5)(h:DJ s)(a:V6)(b c:Int):∀i,i<=s.Groups.length->FR s a b c s.Name s.Arity s.RowCount (s.Groups.take i) i=some (.agg [.t (.str s.Name),I s.Arity,I s.RowCount,.own 0],[.arr 263 3 true (s.Groups.map ZF.c)]):=by
 have hl:=h.1;refine down _ ?_ ?_
 .simp[W7.1.1.2.2,Yq]
 .intro i hi ih;have g:=h.2 _ (Yf hi);have hv:=g.2.1.1;apply W7.1.1.2.2;rw[An];refine⟨Z,_,gE hi,Ig g.1,Ig g.2.2,W7.1.2.1.1 _ _ _ _ _ _ _ _ _ _ _ _ _ ⟨Z,_,gE hi,?_⟩⟩;by_cases e:s.Groups[i].Values=[]
  .rw[Yb (by rw[e];simp),wS hi Z];rw[<-ET hi]at ih;refine⟨tkl hi hl,?_⟩;rw[<-ih];congr 3;exact ZF.ext rfl e.symm rfl
  .grind [List.length_pos_iff,Dn,n9,NI,gE,Ig]
theorem NK(s:Z5)(h:DJ s)(r:XS)(hi:0<s.Groups.length)(c:FR s ⟨#[]⟩ 0 0 s.Name s.Arity s.RowCount (s.Groups.take 1) ((1:Nat):Int)=some r) :
  ∀k,k<=s.Groups[0].Values.length->c7 s ⟨#[]⟩ 0 0 s.Name s.Arity s.RowCount s.Groups[0].Columns (s.Groups[0].Values.take k) s.Groups[0].Counts 0 k=some r:=by
 have hl:=h.1;have g:=h.2 _ (Yf hi);have hv:=g.2.1.1;refine down _ ?_ ?_
 .refine W7.1.1.2.1 _ _ _ _ _ _ _ _ _ _ _ _ _ ⟨Z,_,gE (i:=0) hi,?_⟩;rw[Ao,Yq,Dn];rw[<-NI hi]at c;exact c
 .grind [W7.1.1.2.1,gE,wS,ET,Ig,List.getElem_mem]
def oA(s:Z5)(h:DJ s):xB s=some (.agg [.t (.str s.Name),I s.Arity,I s.RowCount,.own 0],[.arr 263 3 true (s.Groups.map ZF.c)]):=by
 have hl:=h.1;refine W7.1.2.2.1 _ _ (W7.1.1.1.1 _ _ _ _ _ _ _ _ _ ?_);by_cases e0:s.Groups=[]
 .simp_all
 .have hi:0<s.Groups.length:=Y5.2 e0;have g:=h.2 _ (Yf hi);have ih:=NJ s h ⟨#[]⟩ 0 0 1 hi;rw[An];refine⟨Z,_,gE (i:=0) hi,Ig g.1,Ig g.2.2,W7.1.1.1.2 _ _ _ _ _ _ _ _ _ _ _ _ ⟨Z,_,gE (i:=0) hi,?_⟩⟩;by_cases e:s.Groups[0].Values=[]
  .rw[Yb (by rw[e];simp),Dn];rw[<-NI hi]at ih;rw[<-ih];congr 2;exact ZF.ext rfl e.symm rfl
  .grind [List.length_pos_iff,Dn,NK,NI,gE,Ig]
