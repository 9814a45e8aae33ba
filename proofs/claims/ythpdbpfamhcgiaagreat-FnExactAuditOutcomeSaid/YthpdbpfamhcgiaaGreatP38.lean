/-
  Parts of the proofs for this seat: GA GB GC GD GE.
-/
import Derived.Test.YthpdbpfamhcgiaaGreatP30
set_option linter.all false
set_option maxRecDepth 100000
set_option maxHeartbeats 4000000
namespace Go.Proofs.YthpdbpfamhcgiaaGreat
open Go.AM
def Wq(rows:V4)(c:V6):V4:=rows.map λr=>Xq r c
def cnt(all:V4)(g:V6):Int:=((all.filter λx=>decide (x=g)).length:Int)
def UG(n:Int):V4:=if n=1 then[[0]]else if n=2 then[[0],[1],[0,1]]else[[0],[1],[0,1],[2],[0,2],[1,2],[0,1,2]]
def ZaW(rows:V4)(c:V6):V4:=UC (Wq rows c)
def Zh7(rows:V4)(c:V6):V6:=(ZaW rows c).map (cnt (Wq rows c))
def grp(rows:V4)(c:V6):ZC:=⟨c,ZaW rows c,Zh7 rows c⟩
def Vq(t:Zt):Z5:=⟨t.Zq,t.Zu,t.Rows.length,(UG t.Zu).map (grp t.Rows)⟩
def ZQw{n:Int}(h:inR n 1 3=true):∀c∈UG n,c.length<=3/\(∀x∈c,0<=x/\x<n)/\c.Pairwise (·<·):=by
 have h':1<=n/\n<=3:=by simpa[inR]using h
 have:n=1\/n=2\/n=3:=by omega
 rcases this with rfl|rfl|rfl<;>decide
theorem Zqm(rows:V4)(cols:V6):(Wq rows cols).length=rows.length:=by simp[Wq]
def ZCf(rows:V4)(cols:V6):(ZaW rows cols).length<=rows.length:=by
 have:=ZOd (Wq rows cols);rw[Zqm]at this;exact this
def ZCg{rows:V4}{c x:V6}(h:x∈Wq rows c):x.length=c.length:=by
 obtain⟨r,_,rfl⟩:=Yt.1 h;simp[Xq]
def ZCh{rows:V4}{c x:V6}(h:x∈ZaW rows c):x.length=c.length:=ZCg ((ZAz _ _).1 h)
def ZCi(all:V4)(g:V6):0<=cnt all g:=by unfold cnt;omega
def ZCj(all:V4)(g:V6):cnt all g<=all.length:=by
 unfold cnt
 grind
def ltI(a b:Int):Bool:=decide (a<b)
def Q5(n:Int):Option Int->V6->Bool
 |_,[]=>true
 |p,v::vs=>inR v 0 (n-1) && nxt ltI p v && Q5 n (some v) vs
def UH(n:Int)(vs:V6):Bool:=Q5 n none vs
def ZCk{n:Int}:∀{vs:V6} {p:Option Int},Q5 n p vs=true->∀c∈vs,0<=c/\c<n
 |[],_,_,c,hc=>by cases hc
 |v::vs,p,h,c,hc=>by
  simp only[Q5,Yg]at h;have h1:0<=v/\v<=n-1:=by simpa[inR]using h.1.1
  rcases Yba.1 hc with rfl|hc
  .omega
  .exact ZCk h.2 c hc
def ZCl{n:Int}:∀{vs:V6} {q:Int},Q5 n (some q) vs=true->-1<=q->q<n->(vs.length:Int)<=n-1-q
 |[],q,_,h1,h2=>by simp;omega
 |v::vs,q,h,h1,h2=>by
  simp only[Q5,Yg]at h;have h3:0<=v/\v<=n-1:=by simpa[inR]using h.1.1
  have h4:q<v:=by simpa[nxt,ltI]using h.1.2
  have:=ZCl h.2 (by omega) (by omega)
  grind
def ZQx{n:Int}{vs:V6}(h:UH n vs=true)(hn:0<=n):(vs.length:Int)<=n:=by
 cases vs with
 |nil=>simp;omega
 |cons v vs =>
  simp only[UH,Q5,Yg]at h;have h3:0<=v/\v<=n-1:=by simpa[inR]using h.1.1
  have:=ZCl h.2 (by omega) (by omega)
  grind
def Zqn{n:Int}(h:inR n 1 3=true):∀c∈UG n,UH n c=true:=by
 have h':1<=n/\n<=3:=by simpa[inR]using h
 have:n=1\/n=2\/n=3:=by omega
 rcases this with rfl|rfl|rfl<;>decide
def w1{n:Int}(h:1<=n/\n<=3):w (n-1)=n-1:=ZL (by omega) (by omega)
def ZQy(n:Int)(hn:1<=n/\n<=3)(vs:V6)(hl:Le vs):∀i,i<=vs.length->Zfd vs n vs vs.length i=some (Bo (Q5 n (pvA vs i) (vs.drop i)),[]):=by
 refine down _ ?_ ?_
 .apply X9.2.2.1.1;rw[Ynx,Yk];rfl
 .intro i hi ih;apply X9.2.2.1.1;rw[Ypx,Yi hi,Q5,wS hi (by omega),w1 hn];refine⟨by omega,_,gE hi,_,X0 _ _ _,?_⟩;rw[show pvA vs (i+1)=some vs[i]from Yf hi]at ih;rcases tf (inR vs[i] 0 (n-1))with e|e
  .rw[e];simp
  .rw[e,Ya rfl,ih];by_cases h0:(0:Int)<(i:Int)
   .rw[Ya h0,wP (by omega) hi (by omega),ZaE (by omega) (by omega)];refine⟨by omega,_,gE (by omega),?_⟩;by_cases h2:vs[i]<=vs[i-1]
    .rw[Ya h2];simp[nxt,ltI];omega
    .rw[Yb h2];simp[nxt,ltI,show vs[i-1]<vs[i] by omega]
   .obtain rfl:i=0:=by omega
    rw[Yb h0];simp[nxt,pvA]
def ZCm(n:Int)(hn:1<=n/\n<=3)(vs:V6)(hl:Le vs):Zap vs n=some (Bo (UH n vs),[]) :=
 X9.2.2.1.2 _ _ _ (by simpa[UH,pvA]using ZQy n hn vs hl 0 (Yc _))
def ZQz(t:Zt)(h:LeT t)(hn:1<=t.Zu/\t.Zu<=3)(vs:V6)(hl:Le vs):∀i,i<=vs.length->ZfT t vs i=some (Bo (Q5 t.Zu (pvA vs i) (vs.drop i) && XU t),[]):=by
 refine down _ ?_ ?_
 .apply Wl.2.2.2.2.2;rw[Ynx,Yk];exact⟨_,ZzX t h,by simp[Q5]⟩
 .intro i hi ih;apply Wl.2.2.2.2.2;rw[Ypx,Yi hi,Q5,wS hi (by omega),w1 hn];refine⟨by omega,_,gE hi,_,Xx _ _ _,?_⟩;rw[show pvA vs (i+1)=some vs[i]from Yf hi]at ih;rcases tf (inR vs[i] 0 (t.Zu-1))with e|e
  .rw[e];simp
  .rw[e,Ya rfl,ih];by_cases h0:(0:Int)<(i:Int)
   .rw[Ya h0,wP (by omega) hi (by omega),ZaE (by omega) (by omega)];refine⟨by omega,_,gE (by omega),?_⟩;by_cases h2:vs[i]<=vs[i-1]
    .rw[Ya h2];simp[nxt,ltI];omega
    .rw[Yb h2];simp[nxt,ltI,show vs[i-1]<vs[i] by omega]
   .obtain rfl:i=0:=by omega
    rw[Yb h0];simp[nxt,pvA]
def ZCn(t:Zt)(h:LeT t)(hn:1<=t.Zu/\t.Zu<=3)(vs:V6)(hl:Le vs):ZfS t vs=some (Bo (UH t.Zu vs && XU t),[]) :=
 Ud.1.1.1 _ _ _ (by simpa[UH,pvA]using ZQz t h hn vs hl 0 (Yc _))
def ZQ0{n:Int}(h:inR n 1 3=true):Zfc n=some (.own 0,[.arr 40 1 true ((UG n).map isc)]):=by
 have h':1<=n/\n<=3:=by simpa[inR]using h
 have w01:w (0+1)=1:=by decide
 have w12:w (1+1)=2:=by decide
 have w23:w (2+1)=3:=by decide
 have w34:w (3+1)=4:=by decide
 have b1:KM 1=some (.own 0,[.arr 3 1 true (([0]:V6).map ic)]):=by
  apply X9.2.1.1.2
  repeat (refine X9.2.1.1.1 _ _ _ _ ?_;simp +decide[-List.map_cons,w01,w12,w23,w34])
 have b2:KM 2=some (.own 0,[.arr 3 1 true (([1]:V6).map ic)]):=by
  apply X9.2.1.1.2
  repeat (refine X9.2.1.1.1 _ _ _ _ ?_;simp +decide[-List.map_cons,w01,w12,w23,w34])
 have b3:KM 3=some (.own 0,[.arr 3 1 true (([0,1]:V6).map ic)]):=by
  apply X9.2.1.1.2
  repeat (refine X9.2.1.1.1 _ _ _ _ ?_;simp +decide[-List.map_cons,w01,w12,w23,w34])
 have b4:KM 4=some (.own 0,[.arr 3 1 true (([2]:V6).map ic)]):=by
  apply X9.2.1.1.2
  repeat (refine X9.2.1.1.1 _ _ _ _ ?_;simp +decide[-List.map_cons,w01,w12,w23,w34])
 have b5:KM 5=some (.own 0,[.arr 3 1 true (([0,2]:V6).map ic)]):=by
  apply X9.2.1.1.2
  repeat (refine X9.2.1.1.1 _ _ _ _ ?_;simp +decide[-List.map_cons,w01,w12,w23,w34])
 have b6:KM 6=some (.own 0,[.arr 3 1 true (([1,2]:V6).map ic)]):=by
  apply X9.2.1.1.2
  repeat (refine X9.2.1.1.1 _ _ _ _ ?_;simp +decide[-List.map_cons,w01,w12,w23,w34])
 have b7:KM 7=some (.own 0,[.arr 3 1 true (([0,1,2]:V6).map ic)]):=by
  apply X9.2.1.1.2
  repeat (refine X9.2.1.1.1 _ _ _ _ ?_;simp +decide[-List.map_cons,w01,w12,w23,w34])
 refine X9.2.1.2.2 _ _ ⟨_,X0 _ _ _,?_⟩;rw[h,Ya rfl];have step:∀(out:V4) (s:Int) (v:V6) (r:V3),s<shlI 1 n->KM s=some (.own 0,[.arr 3 1 true (v.map ic)])->out.length+1<=68719476736->ZcQ (out++[v]) n (w (s+1))=some r->ZcQ out n s=some r:=by
  grind [X9.2.1.2.1]
 have fin:∀(out:V4) (s:Int),¬s<shlI 1 n->ZcQ out n s=some (.own 0,[.arr 40 1 true (out.map isc)]):=by
  grind [X9.2.1.2.1]
 have:n=1\/n=2\/n=3:=by omega
 rcases this with rfl|rfl|rfl
 .exact step _ 1 _ _ (by decide) b1 (by decide) (fin _ _ (by decide))
 .exact step _ 1 _ _ (by decide) b1 (by decide) (step _ 2 _ _ (by decide) b2 (by decide) (step _ 3 _ _ (by decide) b3 (by decide) (fin _ _ (by decide))))
 .exact step _ 1 _ _ (by decide) b1 (by decide) (step _ 2 _ _ (by decide) b2 (by decide) (step _ 3 _ _ (by decide) b3 (by decide) (step _ 4 _ _ (by decide) b4 (by decide) (step _ 5 _ _ (by decide) b5 (by decide) (step _ 6 _ _ (by decide) b6 (by decide) (step _ 7 _ _ (by decide) b7 (by decide) (fin _ _ (by decide))))))))
def ZQ1{n:Int}(h:inR n 1 3=true):ZjW n=some (.own 0,[.arr 40 1 true ((UG n).map isc)]):=by
 have h':1<=n/\n<=3:=by simpa[inR]using h
 have w01:w (0+1)=1:=by decide
 have w12:w (1+1)=2:=by decide
 have w23:w (2+1)=3:=by decide
 have b:∀{s:Int} {v:V6},ZfR [] s 0=some (.own 0,[.arr 3 1 true (v.map ic)])->Kk s=some (.own 0,[.arr 3 1 true (v.map ic)]):=λh=>Wl.2.2.1.2 _ _ h
 have b1:Kk 1=some (.own 0,[.arr 3 1 true (([0]:V6).map ic)]):=by
  refine b ?_
  repeat (refine Wl.2.2.1.1 _ _ _ _ ?_;simp +decide[-List.map_cons,w01,w12,w23])
 have b2:Kk 2=some (.own 0,[.arr 3 1 true (([1]:V6).map ic)]):=by
  refine b ?_
  repeat (refine Wl.2.2.1.1 _ _ _ _ ?_;simp +decide[-List.map_cons,w01,w12,w23])
 have b3:Kk 3=some (.own 0,[.arr 3 1 true (([0,1]:V6).map ic)]):=by
  refine b ?_
  repeat (refine Wl.2.2.1.1 _ _ _ _ ?_;simp +decide[-List.map_cons,w01,w12,w23])
 have b4:Kk 4=some (.own 0,[.arr 3 1 true (([2]:V6).map ic)]):=by
  refine b ?_
  repeat (refine Wl.2.2.1.1 _ _ _ _ ?_;simp +decide[-List.map_cons,w01,w12,w23])
 have b5:Kk 5=some (.own 0,[.arr 3 1 true (([0,2]:V6).map ic)]):=by
  refine b ?_
  repeat (refine Wl.2.2.1.1 _ _ _ _ ?_;simp +decide[-List.map_cons,w01,w12,w23])
 have b6:Kk 6=some (.own 0,[.arr 3 1 true (([1,2]:V6).map ic)]):=by
  refine b ?_
  repeat (refine Wl.2.2.1.1 _ _ _ _ ?_;simp +decide[-List.map_cons,w01,w12,w23])
 have b7:Kk 7=some (.own 0,[.arr 3 1 true (([0,1,2]:V6).map ic)]):=by
  refine b ?_
  repeat (refine Wl.2.2.1.1 _ _ _ _ ?_;simp +decide[-List.map_cons,w01,w12,w23])
 apply Wl.2.2.2.2.1;have step:∀(out:V4) (s:Int) (v:V6) (r:V3),s<shlI 1 n->Kk s=some (.own 0,[.arr 3 1 true (v.map ic)])->out.length+1<=68719476736->Zd6 (out++[v]) n (w (s+1))=some r->Zd6 out n s=some r:=by
  intro out s v r h1 h2 h3 h4;refine Wl.2.2.2.1 _ _ _ _ ⟨_,Xx _ _ _,?_⟩
  grind
 have fin:∀(out:V4) (s:Int),¬s<shlI 1 n->Zd6 out n s=some (.own 0,[.arr 40 1 true (out.map isc)]):=by
  intro out s h1;refine Wl.2.2.2.1 _ _ _ _ ⟨_,Xx _ _ _,?_⟩
  grind
 have:n=1\/n=2\/n=3:=by omega
 rcases this with rfl|rfl|rfl
 .exact step _ 1 _ _ (by decide) b1 (by decide) (fin _ _ (by decide))
 .exact step _ 1 _ _ (by decide) b1 (by decide) (step _ 2 _ _ (by decide) b2 (by decide) (step _ 3 _ _ (by decide) b3 (by decide) (fin _ _ (by decide))))
 .exact step _ 1 _ _ (by decide) b1 (by decide) (step _ 2 _ _ (by decide) b2 (by decide) (step _ 3 _ _ (by decide) b3 (by decide) (step _ 4 _ _ (by decide) b4 (by decide) (step _ 5 _ _ (by decide) b5 (by decide) (step _ 6 _ _ (by decide) b6 (by decide) (step _ 7 _ _ (by decide) b7 (by decide) (fin _ _ (by decide))))))))
structure Zh8 (rows:V4) (n:Nat):Prop where
 len:rows.length<=8
 row:∀r∈rows,r.length=n
 n3:n<=3
structure Zcm (cols:V6) (n:Nat):Prop where
 len:cols.length<=3
 mem:∀c∈cols,0<=c/\c<n
def Jt{t:Zt}(h:XU t=true):Zh8 t.Rows t.Zu.toNat/\1<=t.Zu/\t.Zu<=3:=by
 have h8:=Zei h;unfold XU at h;simp only[Yg]at h;have h2:1<=t.Zu/\t.Zu<=3:=by simpa[inR]using h.1.1.2
 refine⟨⟨h8,λr hr=>?_,by omega⟩,h2⟩;have h1:=Yl.1 h.2.1 r hr;unfold rwB at h1
 grind
def Z1x{n:Int}{cols:V6}(h:UH n cols=true)(hn:1<=n/\n<=3):Zcm cols n.toNat:=by
 have h1:=ZQx h (by omega);exact⟨by omega,λc hc=>by have:=ZCk h c hc;omega⟩
def Z1y{row cols:V6}{n:Nat}(hr:row.length=n)(hn:n<=3)(hc:Zcm cols n):Up row cols=some (.tup [.own 0,Bo true],[.arr 3 1 true ((Xq row cols).map ic)]) :=
 Z0A row cols (by have:=hc.len;omega) (by omega) (by rw[hr];exact hc.mem)
def ZQ2(row cols:V6)(h4:cols.length<=1000)(hr:Le row)(hc:∀c∈cols,0<=c/\c<row.length):∀i,i<=cols.length->ZjZ (Xq row (cols.take i)) row cols i=some (.tup [.own 0,Bo true],[.arr 3 1 true ((Xq row cols).map ic)]):=by
 refine down _ ?_ ?_
 .simp[Ud.1.1.2.1,Y2]
 .intro i hi ih;obtain⟨h0,h1⟩:=hc _ (Ye hi);apply Ud.1.1.2.1;rw[Ypx,wS hi (by omega)];refine⟨by omega,_,gE hi,_,Xx _ _ _,?_⟩;rw[show w ((row.length:Int)-1)=(row.length:Int)-1 from ZL (by omega) (by omega)];rw[show inR cols[i] 0 ((row.length:Int)-1)=true by simp[inR];omega,Ya rfl];refine⟨h0,_,gD (by omega),by simp[Xq];omega,?_⟩;rw[show Xq row (cols.take (i+1))=Xq row (cols.take i)++[row.getD cols[i].toNat 0] by unfold Xq;rw[Yp hi,Y3];rfl]at ih;exact ih
def Zqo{row cols:V6}{n:Nat}(hr:row.length=n)(hn:n<=3)(hc:Zcm cols n):Zb8 row cols=some (.tup [.own 0,Bo true],[.arr 3 1 true ((Xq row cols).map ic)]) :=
 Ud.1.1.2.2 _ _ _ (by simpa[Xq]using ZQ2 row cols (by have:=hc.len;omega) (by omega) (by rw[hr];exact hc.mem) 0 (Yc _))
def ZCo{all:V4}{j:Nat}(hj:j<all.length)(g:V6):cnt (all.take (j+1)) g=cnt (all.take j) g+(if g=all[j]then 1 else 0):=by
 unfold cnt
 grind [List.take_succ_eq_append_getElem]
def mkC(all cc:V4)(k:Nat)(c:Int):V6:=(cc.take k).map (cnt all)++c::List.replicate (cc.length-k-1) 0
def ZQ3{all groups:V4}{k:Nat}(hk:k<groups.length)(c:Int):(mkC all groups k c)[k]?=some c:=by
 unfold mkC
 grind
theorem ZQ4{all groups:V4}{k:Nat}(hk:k<groups.length)(c d:Int):(mkC all groups k c).set k d=mkC all groups k d:=by
 unfold mkC;rw[List.set_append_right _ _ (by simp;omega)];simp[Ybn (Nat.le_of_lt hk)]
def gcR(cc:V4)(c:V6):V3:=(.tup [.own 0,.own 1],[.arr 40 1 true (cc.map isc),.arr 3 1 true (c.map ic)])
def l_gc1(all groups:V4)(r:V3)(ha:all.length<=4096)(h4:∀x∈all,x.length<=4){k:Nat}(hk:k<groups.length)(cd:groups.length<=4096)(cc:groups[k].length<=4)
  (c:ZcR all groups (mkC all groups k (cnt all groups[k])) groups.length (w ((k:Int)+1))=some r):∀j,j<=all.length->Zff all groups (mkC all groups k (cnt (all.take j) groups[k])) k groups[k] groups.length k all.length j=some r:=by
 refine down _ ?_ ?_
 .simp_all [Jc.2.2.1,Y2]
 .intro j hj ih;apply Jc.2.2.1;rw[Ypx,wS hj (by omega)];refine⟨by omega,_,gE hj,_,Zhj _ _ (by omega),?_⟩;rw[ZCo hj]at ih;by_cases e:groups[k]=all[j]
  .rw[Ya e]at ih;rw[Ya (by simpa using e)];refine⟨by omega,_,by rw[Yh];exact ZQ3 hk _,?_⟩;have h1:=ZCi (all.take j) groups[k];have h2:=ZCj (all.take j) groups[k]
   grind [Int.toNat_natCast,ZQ4,ZL]
  .simp_all
def l_gc2(all groups:V4)(ha:all.length<=4096)(h4:∀x∈all,x.length<=4)(hg:groups.length<=4096)(c:∀x∈groups,x.length<=4):∀k,k<=groups.length->ZcR all groups ((groups.take k).map (cnt all)++List.replicate (groups.length-k) 0) groups.length k=some (gcR groups (groups.map (cnt all))):=by
 refine down _ ?_ ?_
 .apply Jc.2.1.2;rw[Ynx,Y2];simp[gcR]
 .intro k hk ih;apply Jc.2.1.2;rw[Ypx];refine⟨by omega,_,gE hk,?_⟩;have e0:(groups.take k).map (cnt all)++List.replicate (groups.length-k) 0=mkC all groups k (cnt (all.take 0) groups[k]):=by
   unfold mkC;rw[show groups.length-k=(groups.length-k-1)+1 by omega,Ycv];simp[cnt]
  rw[e0];refine l_gc1 all groups _ ha h4 hk hg (c _ (Ye hk)) ?_ 0 (Yc _);rw[wS hk (by omega)];have e1:(groups.take (k+1)).map (cnt all)++List.replicate (groups.length-(k+1)) 0=mkC all groups k (cnt all groups[k]):=by
   unfold mkC
   grind [List.take_succ_eq_append_getElem]
  rw[e1]at ih;exact ih
def l_gc0{rows:V4}{cols:V6}{n:Nat}(hR:Zh8 rows n)(hC:Zcm cols n):∀i,i<=rows.length->Zaq (Wq (rows.take i) cols) cols rows rows.length i=some (gcR (ZaW rows cols) (Zh7 rows cols)):=by
 have h8:=hR.len;have h3:=hC.len;refine down _ ?_ ?_
 .refine Z8N ?_;rw[Ynx,Y2];have hl:=Zqm rows cols;have hg:=ZCf rows cols;have h4:∀r∈Wq rows cols,r.length<=4:=λr hr=>by have:=ZCg hr;omega
  refine⟨ZaW rows cols,ZA0 (by omega) h4,by omega,by omega,by rw[Yh];unfold room;omega,by omega,?_⟩;have:=l_gc2 (Wq rows cols) (ZaW rows cols) (by omega) h4 (by omega) (λx hx=>by have:=ZCh hx;omega) 0 (Yc _);simpa[Zh7]using this
 .intro i hi ih;refine Z8N ?_;rw[Ypx,wS hi (by omega)];have hr:=hR.row _ (Ye hi);rw[show Wq (rows.take (i+1)) cols=Wq (rows.take i) cols++[Xq rows[i] cols] by unfold Wq;rw[Yp hi,Y3];rfl]at ih;exact⟨by omega,_,gE hi,.inr ⟨_,Z1y hr hR.n3 hC,by simp[Wq];omega,ih⟩⟩
def ZCp{t:Zt}(h:LeT t)(hv:XU t=true){c:V6}(hc:UH t.Zu c=true):Zby t c=some (gcR (ZaW t.Rows c) (Zh7 t.Rows c)):=by
 obtain⟨hR,hA⟩:=Jt hv;have hC:=Z1x hc hA;refine Jc.2.2.2 _ _ _ ⟨_,ZzW t h,?_⟩;rw[hv,Ya rfl];refine⟨_,ZCm _ hA c (by have:=hC.len;omega),?_⟩;rw[hc,Ya rfl];simpa[Wq]using l_gc0 hR hC 0 (Yc _)
def l_sgc1(t:Zt)(c:V4)(counts cols:V6){n:Nat}(hR:Zh8 t.Rows n)(hC:Zcm cols n)(r:V3){k:Nat}(hk:k<c.length)(cc:∀x∈c,x.length<=4)(cl:counts.length<=4096)
  (cd:ZfX t c (counts++[cnt (Wq t.Rows cols) c[k]]) cols (w ((k:Int)+1))=some r):∀j,j<=t.Rows.length->Zkc t c counts cols k (cnt (Wq (t.Rows.take j) cols) c[k]) j=some r:=by
 have h8:=hR.len;refine down _ ?_ ?_
 .grind [Ud.2.1.2.1,List.take_length]
 .intro j hj ih;apply Ud.2.1.2.1;rw[Ypx,wS hj (by omega)];have hr:=hR.row _ (Ye hj);have hv4:=cc _ (Ye hk);have hs:(Xq t.Rows[j] cols).length<=3:=by have:=hC.len;simp[Xq];omega
  refine⟨by omega,_,gE hj,_,_,Zqo hr hR.n3 hC,by omega,_,gE hk,_,ZaD _ _ (by omega) (by omega),?_⟩;have hj':j<(Wq t.Rows cols).length:=by rw[Zqm];exact hj
  have ht:∀i,Wq (t.Rows.take i) cols=(Wq t.Rows cols).take i:=λi=>by simp[Wq,List.map_take]
  have he:(Wq t.Rows cols)[j]=Xq t.Rows[j] cols:=by simp[Wq]
  rw[ht,ZCo hj',he]at ih;rw[ht];by_cases e:c[k]=Xq t.Rows[j] cols
  .rw[Ya e]at ih;rw[Ya (by rw[e];exact ZaI _)];have h1:=ZCi ((Wq t.Rows cols).take j) c[k];have h2:=ZCj ((Wq t.Rows cols).take j) c[k]
   grind [List.length_take,Zqm,ZL]
  .rw[Yb e,Int.add_zero]at ih
   grind [Qz]
def l_sgc2(t:Zt)(values:V4)(cols:V6){n:Nat}(hR:Zh8 t.Rows n)(hC:Zcm cols n)(hv:values.length<=4096)(c:∀x∈values,x.length<=4):∀k,k<=values.length->ZfX t values ((values.take k).map (cnt (Wq t.Rows cols))) cols k=some (gcR values (values.map (cnt (Wq t.Rows cols)))):=by
 refine down _ ?_ ?_
 .apply Ud.2.1.1;rw[Ynx,Y2];rfl
 .intro k hk ih;apply Ud.2.1.1;rw[Ypx];rw[Yp hk,Y3]at ih;have:=l_sgc1 t values ((values.take k).map (cnt (Wq t.Rows cols))) cols hR hC _ hk c (by simp;omega) (by rw[wS hk (by omega)];exact ih) 0 (Yc _);simpa[cnt,Wq]using this
def l_sgc0(t:Zt)(cols:V6){n:Nat}(hR:Zh8 t.Rows n)(hC:Zcm cols n):∀i,i<=t.Rows.length->∀acc:V4,acc.length<=i->(∀x∈acc,x.length<=4)->
  Zkb t acc [] cols i=some (gcR (ZaN acc (Wq (t.Rows.drop i) cols)) ((ZaN acc (Wq (t.Rows.drop i) cols)).map (cnt (Wq t.Rows cols)))):=by
 have h8:=hR.len;refine down _ ?_ ?_
 .intro acc ha h4;apply Ud.1.2.2.2;rw[Ynx,Yk];exact l_sgc2 t acc cols hR hC (by omega) h4 0 (Yc _)
 .intro i hi ih acc ha h4;apply Ud.1.2.2.2;rw[Ypx,wS hi (by omega),Yi hi];have hr:=hR.row _ (Ye hi);have hs:(Xq t.Rows[i] cols).length<=4:=by have:=hC.len;simp[Xq];omega
  have hp:=Z04 acc (Xq t.Rows[i] cols) false
  exact⟨by omega,_,gE hi,_,_,Zqo hr hR.n3 hC,_,ZA3 (by omega) h4 hs,ih _ (by omega) (λx hx=>by
   rcases(ZlD _ _ _).1 hx with hx|rfl
   .exact h4 x hx
   .exact hs)⟩
def ZCq{t:Zt}(h:LeT t)(hv:XU t=true){c:V6}(hc:UH t.Zu c=true):Zka t c=some (gcR (ZaW t.Rows c) (Zh7 t.Rows c)):=by
 obtain⟨hR,hA⟩:=Jt hv;have hC:=Z1x hc hA;refine Ud.2.1.2.2 _ _ _ ⟨_,ZCn t h hA c (by have:=hC.len;omega),?_⟩;rw[hc,hv,Ya (by rfl)];have:=l_sgc0 t c hR hC 0 (Yc _) [] (by simp) (by simp);rw[Ym,ZA6]at this;exact this
def stR(t:Zt):V3:=(.agg [.t (.str t.Zq),I t.Zu,I (t.Rows.length:Int),.own 0],[.arr 389 3 false ((Vq t).Xs.map ZC.c)])
def ZlP{n:Int}(h:inR n 1 3=true):0<(UG n).length/\(UG n).length<=7:=by
 have h':1<=n/\n<=3:=by simpa[inR]using h
 have:n=1\/n=2\/n=3:=by omega
 rcases this with rfl|rfl|rfl<;>decide
def K3{t:Zt}(h:XU t=true):inR t.Zu 1 3=true:=by
 unfold XU at h
 simp_all
def ZQ5{t:Zt}(h:LeT t)(hv:XU t=true)(a:YA)(b c:Int)(a':YA)(b' c':Int):∀i,i<=(UG t.Zu).length->ZiD t a b c a' b' c' false (((UG t.Zu).take i).map (grp t.Rows)) (UG t.Zu) (UG t.Zu).length i=some (.agg [.t (.str a'),I b',I c',.own 0],[.arr 389 3 false (((UG t.Zu).map (grp t.Rows)).map ZC.c)]):=by
 have h7:=ZlP (K3 hv);refine down _ ?_ ?_
 .simp[Ve.1.1.1.2,Y2]
 .intro i hi ih;apply Ve.1.1.1.2;rw[Ypx,wS hi (by omega)];rw[Yp hi,Y3]at ih;exact⟨by omega,_,gE hi,.inr ⟨_,_,ZCp h hv (Zqn (K3 hv) _ (Ye hi)),by simp;omega,ih⟩⟩
def ZCr{t:Zt}(h:LeT t)(hv:XU t=true):ZcS t=some (stR t):=by
 have h7:=ZlP (K3 hv);refine Ve.1.1.2.1 _ _ ⟨_,ZzW t h,?_⟩;rw[hv,Ya rfl];refine .inr ⟨_,ZQ0 (K3 hv),Ve.1.1.1.1 _ _ _ _ _ _ _ _ _ _ _ ?_⟩;rw[Ypx];refine⟨by omega,_,gE (i:=0) h7.1,.inr ⟨_,_,ZCp h hv (Zqn (K3 hv) _ (Ye h7.1)),?_⟩⟩;have:=ZQ5 h hv ⟨#[]⟩ 0 0 t.Zq t.Zu (t.Rows.length:Int) 1 (by omega);rw[Yp h7.1]at this;rw[show w (0+1)=1 from by decide];unfold stR Vq;simpa[grp]using this
def ZQ6{t:Zt}(h:LeT t)(hv:XU t=true)(a:YA)(b c:Int)(a':YA)(b' c':Int):∀i,i<=(UG t.Zu).length->Zkd t a b c a' b' c' false (((UG t.Zu).take i).map (grp t.Rows)) (UG t.Zu) i=some (.agg [.t (.str a'),I b',I c',.own 0],[.arr 389 3 false (((UG t.Zu).map (grp t.Rows)).map ZC.c)]):=by
 have h7:=ZlP (K3 hv);refine down _ ?_ ?_
 .simp[Ud.2.2.2.1,Y2]
 .intro i hi ih;apply Ud.2.2.2.1;rw[Ypx,wS hi (by omega)];rw[Yp hi,Y3]at ih;exact⟨by omega,_,gE hi,_,_,ZCq h hv (Zqn (K3 hv) _ (Ye hi)),by simp;omega,ih⟩
def ZCs{t:Zt}(h:LeT t)(hv:XU t=true):Zb9 t=some (stR t):=by
 have h7:=ZlP (K3 hv);refine Ud.2.2.2.2 _ _ ⟨_,ZzX t h,?_⟩;rw[hv,Ya rfl];refine⟨_,ZQ1 (K3 hv),Ud.2.2.1 _ _ _ _ _ _ _ _ _ _ ?_⟩;rw[Ypx];refine⟨by omega,_,gE (i:=0) h7.1,_,_,ZCq h hv (Zqn (K3 hv) _ (Ye h7.1)),?_⟩;have:=ZQ6 h hv ⟨#[]⟩ 0 0 t.Zq t.Zu (t.Rows.length:Int) 1 (by omega);rw[Yp h7.1]at this;rw[show w (0+1)=1 from by decide];unfold stR Vq;simpa[grp]using this
def Zew(d:Zp)(v:Int):ZN:=if WK d && inR v 1 999 then⟨v,d.Z6.map Vq⟩else⟨0,[]⟩
def Zqp(d:Zp)(v:Int):V3:=(.tup [.agg ((Zew d v).c.map .t),Bo (WK d && inR v 1 999)],[])
def Z1z{d:Zp}(hv:WK d=true):d.Z6.length<=6:=by
 unfold WK at hv
 grind
def ZQ7{d:Zp}(h:LeD d)(hv:WK d=true)(a b:Int):∀i,i<=d.Z6.length->ZcT a b false ((d.Z6.take i).map Vq) d.Z6 d.Z6.length i=some (.tup [.agg [I b,L 4 ((d.Z6.map Vq).map Z5.c)],Bo true],[]):=by
 have h6:=Z1z hv;refine down _ ?_ ?_
 .simp[Ve.1.2.1.1,Y2]
 .intro i hi ih;apply Ve.1.2.1.1;rw[Ypx,wS hi (by omega)];rw[Yp hi,Y3]at ih;have hm:=Ye hi;exact⟨by omega,_,gE hi,.inr ⟨_,_,_,_,_,ZCr (h.2 _ hm) (Qx hv hm),by simp;omega,ih⟩⟩
def ZQ8{d:Zp}(h:LeD d)(v:Int):ZiE d v=some (Zqp d v):=by
 refine Ve.1.2.1.2 _ _ _ ⟨_,Z9p d h,?_⟩;unfold Zqp Zew;rcases tf (WK d)with hv|hv
 .rw[hv];rfl
 rw[hv,Ya rfl];refine⟨_,X0 _ _ _,?_⟩;rcases tf (inR v 1 999)with e|e
 .rw[e];rfl
 rw[e,Ya rfl,Yn,Ya rfl];apply Ve.1.1.2.2;by_cases e0:d.Z6=[]
 .simp_all
 .have h0:0<d.Z6.length:=Yc5.2 e0;have hm:=Ye h0;rw[Ypx];refine⟨by omega,_,gE (i:=0) h0,.inr ⟨_,_,_,_,_,ZCr (h.2 _ hm) (Qx hv hm),?_⟩⟩;have:=ZQ7 h hv 0 v 1 (by omega);rw[Yp h0]at this;rw[show w (0+1)=1 from by decide];simpa[Vq]using this
def ZQ9{d:Zp}(h:LeD d)(hv:WK d=true)(a b:Int):∀i,i<=d.Z6.length->Zd7 d a b false ((d.Z6.take i).map Vq) i=some (.tup [.agg [I b,L 4 ((d.Z6.map Vq).map Z5.c)],Bo true],[]):=by
 have h6:=Z1z hv;refine down _ ?_ ?_
 .simp[WI.1.1.1.2,Y2]
 .intro i hi ih;apply WI.1.1.1.2;rw[Ypx,wS hi (by omega)];rw[Yp hi,Y3]at ih;have hm:=Ye hi;exact⟨by omega,_,gE hi,.inr ⟨_,_,_,_,_,ZCs (h.2 _ hm) (Qx hv hm),by simp;omega,ih⟩⟩
def ZQA{d:Zp}(h:LeD d)(v:Int):Zke d v=some (Zqp d v):=by
 refine WI.1.1.2.1 _ _ _ ⟨_,Z9q d h,?_⟩;unfold Zqp Zew;rcases tf (WK d)with hv|hv
 .rw[hv];rfl
 rw[hv,Ya rfl];refine⟨_,Xx _ _ _,?_⟩;rcases tf (inR v 1 999)with e|e
 .rw[e];rfl
 rw[e,Ya rfl,Yn,Ya rfl];apply WI.1.1.1.1;by_cases e0:d.Z6=[]
 .simp_all
 .have h0:0<d.Z6.length:=Yc5.2 e0;have hm:=Ye h0;rw[Ypx];refine⟨by omega,_,gE (i:=0) h0,.inr ⟨_,_,_,_,_,ZCs (h.2 _ hm) (Qx hv hm),?_⟩⟩;have:=ZQ9 h hv 0 v 1 (by omega);rw[Yp h0]at this;rw[show w (0+1)=1 from by decide];simpa[Vq]using this
abbrev LeG(g:ZC):Prop:=g.Ql.length<=4294967296/\(g.W7.length<=4294967296/\∀r∈g.W7,r.length<=4294967296)/\g.Ke.length<=4294967296
abbrev LeS(s:Z5):Prop:=s.Xs.length<=4294967296/\∀g∈s.Xs,LeG g
abbrev LeK(c:ZN):Prop:=c.Z6.length<=4294967296/\∀s∈c.Z6,LeS s
def l_eqR(xs ys:V4)(hl:ys.length=xs.length)(hx:xs.length<=4294967296/\∀a∈xs,a.length<=4294967296):∀i,i<=xs.length->ZiF ys xs xs.length i=some (Bo (decide (xs.drop i=ys.drop i)),[]):=by
 refine down _ ?_ ?_
 .simp_all [Ve.1.2.2.2.1,Yk]
 .intro i hi ih;have hi':i<ys.length:=by omega
  apply Ve.1.2.2.2.1;rw[Ypx,wS hi (by omega),ZbT hi hi'];refine⟨by omega,_,gE hi,_,gE hi',_,Ve.1.2.2.1 _ _ _ ⟨_,Zhj _ _ (hx.2 _ (Ye hi)),rfl⟩,?_⟩
  simp_all
def ZCt(xs ys:V4)(hx:xs.length<=4294967296/\∀a∈xs,a.length<=4294967296):Zfg xs ys=some (Bo (decide (xs=ys)),[]):=by
 refine Ve.2.1.1.1 _ _ _ ⟨decide (xs=ys),Ve.1.2.2.2.2 _ _ _ ?_,rfl⟩;by_cases c:(xs.length:Int)=(ys.length:Int)
 .rw[Ya c];simpa using l_eqR xs ys (by omega) hx 0 (Yc _)
 .rw[Yb c]
  have:¬xs=ys:=λhc=>c (by rw[hc])
  simp[this]
def ZQB(a b:ZC)(h:LeG a):Znq a b=some (Bo (decide (a=b)),[]):=by
 refine Ve.2.1.1.2 _ _ _ ⟨_,Zhj _ _ h.1,?_⟩;by_cases c:a.Ql=b.Ql
 .rw[Ya (by simpa using c)];refine⟨_,ZCt _ _ h.2.1,?_⟩;by_cases c2:a.W7=b.W7
  .rw[Ya (by simpa using c2)];exact⟨_,Zhj _ _ h.2.2,by simp[ZC.ext_iff,c,c2]⟩
  .rw[Yb (by simpa using c2)];simp[ZC.ext_iff,c,c2]
 .rw[Yb (by simpa using c)];simp[ZC.ext_iff,c]
def l_eqG(xs ys:List ZC)(hl:ys.length=xs.length)(hx:xs.length<=4294967296/\∀a∈xs,LeG a):∀i,i<=xs.length->ZiG ys xs xs.length i=some (Bo (decide (xs.drop i=ys.drop i)),[]):=by
 refine down _ ?_ ?_
 .simp_all [Ve.2.1.2.1,Yk]
 .intro i hi ih;have hi':i<ys.length:=by omega
  apply Ve.2.1.2.1;rw[Ypx,wS hi (by omega),ZbT hi hi'];refine⟨by omega,_,gE hi,_,gE hi',_,ZQB _ _ (hx.2 _ (Ye hi)),?_⟩
  simp_all
def ZQC(a b:Z5)(h:LeS a):Znr a b=some (Bo (decide (a=b)),[]):=by
 apply Ve.2.2.1.1;by_cases c:a.Zq=b.Zq
 .rw[Ya c];by_cases c2:a.Zu=b.Zu
  .rw[Ya c2];by_cases c3:a.VD=b.VD
   .rw[Ya c3];refine⟨decide (a.Xs=b.Xs),Ve.2.1.2.2 _ _ _ ?_,by simp[Z5.ext_iff,c,c2,c3]⟩;by_cases c4:(a.Xs.length:Int)=(b.Xs.length:Int)
    .rw[Ya c4];simpa using l_eqG a.Xs b.Xs (by omega) h 0 (Yc _)
    .rw[Yb c4]
     have:¬a.Xs=b.Xs:=λhc=>c4 (by rw[hc])
     simp[this]
   .rw[Yb c3];simp[Z5.ext_iff,c,c2,c3]
  .rw[Yb c2];simp[Z5.ext_iff,c,c2]
 .rw[Yb c];simp[Z5.ext_iff,c]
def l_eqS(xs ys:List Z5)(hl:ys.length=xs.length)(hx:xs.length<=4294967296/\∀a∈xs,LeS a):∀i,i<=xs.length->ZiH ys xs xs.length i=some (Bo (decide (xs.drop i=ys.drop i)),[]):=by
 refine down _ ?_ ?_
 .simp_all [Ve.2.2.1.2,Yk]
 .intro i hi ih;have hi':i<ys.length:=by omega
  apply Ve.2.2.1.2;rw[Ypx,wS hi (by omega),ZbT hi hi'];refine⟨by omega,_,gE hi,_,gE hi',_,ZQC _ _ (hx.2 _ (Ye hi)),?_⟩
  simp_all
def Zcn(v:Int)(ts:List Z5)(c:ZN):Bool:=decide (v=c.Xh/\ts=c.Z6)
def ZQD(v:Int)(ts:List Z5)(c:ZN)(h:ts.length<=4294967296/\∀s∈ts,LeS s):ZiI ⟨v,ts⟩ c=some (Bo (Zcn v ts c),[]):=by
 apply Ve.2.2.2.2.1;unfold Zcn;by_cases e:v=c.Xh
 .rw[Ya e];refine⟨decide (ts=c.Z6),Ve.2.2.2.1 _ _ _ ?_,by simp[e]⟩;by_cases c4:(ts.length:Int)=(c.Z6.length:Int)
  .rw[Ya c4];simpa using l_eqS ts c.Z6 (by omega) h 0 (Yc _)
  .rw[Yb c4]
   have:¬ts=c.Z6:=λhc=>c4 (by rw[hc])
   simp[this]
 .rw[Yb e];simp[e]
def ZQE(a b:Z5)(x y:ZC)(hl:y.W7.length=x.W7.length)(hx:LeG x)(hy:LeG y)(r:Bool)(i:Int)(cc:ZfY a b (w (i+1))=some (Bo r,[])):∀k,k<=x.W7.length->Zkg a b x y i k=some (Bo (decide (x.W7.drop k=y.W7.drop k) && r),[]):=by
 refine down _ ?_ ?_
 .simp_all [WI.1.2.1.1,Yk]
 .intro k hk ih;have hk':k<y.W7.length:=by omega
  apply WI.1.2.1.1;rw[Ypx,wS hk (by have:=hx.2.1.1;omega),ZbT hk hk'];have l1:=hx.2.1.2 _ (Ye hk);have l2:=hy.2.1.2 _ (Ye hk');refine⟨by omega,_,gE hk,_,gE hk',_,ZaD _ _ (by omega) (by omega),?_⟩;by_cases c:x.W7[k]=y.W7[k]
  .simp_all [ZaI]
  .grind [Qz]
def ZQF(a b:Z5)(hl:b.Xs.length=a.Xs.length)(ha:LeS a)(hb:LeS b):∀i,i<=a.Xs.length->ZfY a b i=some (Bo (decide (a.Xs.drop i=b.Xs.drop i)),[]):=by
 refine down _ ?_ ?_
 .apply WI.1.1.2.2
  simp_all
 .intro i hi ih;have hi':i<b.Xs.length:=by omega
  have l1:=ha.2 _ (Ye hi);have l2:=hb.2 _ (Ye hi');have l11:=l1.1;have l13:=l1.2.2;have l21:=l2.1;have l23:=l2.2.2;apply WI.1.1.2.2;rw[Ypx,ZbT hi hi'];refine⟨by omega,_,gE hi,_,gE hi',_,ZaD _ _ (by omega) (by omega),?_⟩;by_cases c1:a.Xs[i].Ql=b.Xs[i].Ql
  .rw[Ya (by rw[c1];exact ZaI _)];refine⟨_,ZaD _ _ (by omega) (by omega),?_⟩;by_cases c2:a.Xs[i].Ke=b.Xs[i].Ke
   .rw[Ya (by rw[c2];exact ZaI _)];by_cases c3:(a.Xs[i].W7.length:Int)=(b.Xs[i].W7.length:Int)
    .rw[Ya c3];have:=ZQE a b a.Xs[i] b.Xs[i] (by omega) l1 l2 _ i (by rw[wS hi (by have:=ha.1;omega)];exact ih) 0 (Yc _);rw[Ym,Ym]at this;have e:decide (a.Xs[i]=b.Xs[i])=decide (a.Xs[i].W7=b.Xs[i].W7):=by simp[ZC.ext_iff,c1,c2]
     rw[e];exact this
    .rw[Yb c3]
     have:¬a.Xs[i]=b.Xs[i]:=λhc=>c3 (by rw[hc])
     simp[this]
   .rw[Yb (λh=>c2 (Qz _ _ h))]
    have:¬a.Xs[i]=b.Xs[i]:=λhc=>c2 (by rw[hc])
    simp[this]
  .rw[Yb (λh=>c1 (Qz _ _ h))]
   have:¬a.Xs[i]=b.Xs[i]:=λhc=>c1 (by rw[hc])
   simp[this]
def ZQG(a b:Z5)(ha:LeS a)(hb:LeS b):Zon a b=some (Bo (decide (a=b)),[]):=by
 apply WI.1.2.1.2;by_cases c:a.Zq=b.Zq
 .rw[Ya c];by_cases c2:a.Zu=b.Zu
  .rw[Ya c2];by_cases c3:a.VD=b.VD
   .rw[Ya c3];by_cases c4:(a.Xs.length:Int)=(b.Xs.length:Int)
    .rw[Ya c4];have e:decide (a=b)=decide (a.Xs=b.Xs):=by simp[Z5.ext_iff,c,c2,c3]
     rw[e];simpa using ZQF a b (by omega) ha hb 0 (Yc _)
    .rw[Yb c4]
     have:¬a=b:=λhc=>c4 (by rw[hc])
     simp[this]
   .rw[Yb c3];simp[Z5.ext_iff,c,c2,c3]
  .rw[Yb c2];simp[Z5.ext_iff,c,c2]
 .rw[Yb c];simp[Z5.ext_iff,c]
def ZQH(a b:ZN)(hl:b.Z6.length=a.Z6.length)(ha:LeK a)(hb:LeK b):∀i,i<=a.Z6.length->Zki a b i=some (Bo (decide (a.Z6.drop i=b.Z6.drop i)),[]):=by
 refine down _ ?_ ?_
 .apply WI.1.2.2.1
  simp_all
 .intro i hi ih;have hi':i<b.Z6.length:=by omega
  apply WI.1.2.2.1;rw[Ypx,wS hi (by have:=ha.1;omega),ZbT hi hi'];refine⟨by omega,_,gE hi,_,gE hi',_,ZQG _ _ (ha.2 _ (Ye hi)) (hb.2 _ (Ye hi')),?_⟩
  simp_all
def ZQI(v:Int)(ts:List Z5)(c:ZN)(h:ts.length<=4294967296/\∀s∈ts,LeS s)(hc:LeK c):Zkh ⟨v,ts⟩ c=some (Bo (Zcn v ts c),[]):=by
 apply WI.1.2.2.2.1;unfold Zcn;by_cases e:v=c.Xh
 .rw[Ya e];by_cases c4:(ts.length:Int)=(c.Z6.length:Int)
  .rw[Ya c4];subst e;have:=ZQH ⟨c.Xh,ts⟩ c (by simp only;omega) h hc 0 (Yc _)
   simp_all
  .rw[Yb c4]
   have:¬ts=c.Z6:=λhc=>c4 (by rw[hc])
   simp[this]
 .rw[Yb e];simp[e]
def K4(d:Zp)(f:ZA):Bool:=match X7 d f.Zq with
 |none=>false
 |some t=>UH t.Zu f.ZY && inR f.To 0 (t.Zu-1) && !(has f.ZY f.To)
theorem Zco{d:Zp}{n:YA}{t:Zt}(h:X7 d n=some t):XU t=true:=by
 obtain⟨h1,h2,_⟩:=Zej h;exact Qx h1 h2
def ZQJ{d:Zp}(hd:LeD d){n:YA}{t:Zt}(h:X7 d n=some t):LeT t:=hd.2 t (Zej h).2.1
def ZCu{d:Zp}(h:LeD d)(f:ZA)(hf:f.ZY.length<=4294967296):Zfh d f=some (Bo (K4 d f),[]):=by
 have hl:=ZaF d h f.Zq;apply ZgT.2.2.2;unfold K4
 cases hq:X7 d f.Zq with
 |none=>rw[hq]at hl;exact .inl ⟨_,_,hl,rfl⟩
 |some t =>
  rw[hq]at hl;have hA:=(Jt (Zco hq)).2;refine .inr ⟨_,_,_,hl,_,ZCm _ hA _ (by omega),?_⟩;rcases tf (UH t.Zu f.ZY)with e|e
  .rw[e];simp[e]
  .rw[e,Ya rfl,w1 hA];refine⟨_,X0 _ _ _,?_⟩;rcases tf (inR f.To 0 (t.Zu-1))with e2|e2
   .rw[e2];simp[e,e2]
   .rw[e2,Ya rfl];exact⟨_,ZbP _ _ (by omega),by simp[e,e2]⟩
def ZQK{t:Zt}(hv:XU t=true)(h0:t.Rows=[])(vs:V6)(hl:Le vs):Zkm t.Zq t.Zu vs=some (Bo (UH t.Zu vs),[]):=by
 have hA:=(Jt hv).2;have hV:Zoo t.Zq t.Zu=some (Bo true,[]):=by
  unfold XU at hv
  simp_all [Yg,WI.2.2.1.2,Z9e,Xx,WI.2.2.1.1]
 have main:∀i,i<=vs.length->Zlz t.Zq t.Zu vs i=some (Bo (Q5 t.Zu (pvA vs i) (vs.drop i)),[]):=by
  refine down _ ?_ ?_
  .apply WI.2.2.2.1;rw[Ynx,Yk];exact⟨_,hV,rfl⟩
  .intro i hi ih;apply WI.2.2.2.1;rw[Ypx,Yi hi,Q5,wS hi (by omega),w1 hA];refine⟨by omega,_,gE hi,_,Xx _ _ _,?_⟩;rw[show pvA vs (i+1)=some vs[i]from Yf hi]at ih;rcases tf (inR vs[i] 0 (t.Zu-1))with e|e
   .rw[e];simp
   .rw[e,Ya rfl,ih];by_cases h0:(0:Int)<(i:Int)
    .rw[Ya h0,wP (by omega) hi (by omega),ZaE (by omega) (by omega)];refine⟨by omega,_,gE (by omega),?_⟩;by_cases h2:vs[i]<=vs[i-1]
     .rw[Ya h2];simp[nxt,ltI];omega
     .rw[Yb h2];simp[nxt,ltI,show vs[i-1]<vs[i] by omega]
    .obtain rfl:i=0:=by omega
     rw[Yb h0];simp[nxt,pvA]
 exact WI.2.2.2.2.1 _ _ _ _ (by simpa[UH,pvA]using main 0 (Yc _))
def ZCv{d:Zp}(h:LeD d)(f:ZA)(hf:f.ZY.length<=4294967296):Zga d f=some (Bo (K4 d f),[]):=by
 have hl:=ZaG d h f.Zq;apply JK.1.2.1;unfold K4
 cases hq:X7 d f.Zq with
 |none=>rw[hq]at hl;exact .inl ⟨_,_,_,hl,rfl⟩
 |some t =>
  rw[hq]at hl;simp only[QQ]at hl;have hv:=Zco hq;have hA:=(Jt hv).2;by_cases e0:t.Rows=[]
  .rw[Ya e0]at hl;refine .inl ⟨_,_,_,hl,?_⟩;rw[Ya rfl];refine⟨_,ZQK hv e0 _ (by omega),?_⟩;rcases tf (UH t.Zu f.ZY)with e|e
   .rw[e];simp[e]
   .rw[e,Ya rfl,w1 hA];refine⟨_,Xx _ _ _,?_⟩;rcases tf (inR f.To 0 (t.Zu-1))with e2|e2
    .rw[e2];simp[e,e2]
    .grind [Zea]
  .rw[Yb e0]at hl;refine .inr ⟨_,_,_,hl,_,ZCn t (ZQJ h hq) hA _ (by omega),?_⟩;rw[hv,Bool.and_true];rcases tf (UH t.Zu f.ZY)with e|e
   .rw[e];simp[e]
   .rw[e,Ya rfl,w1 hA];refine⟨_,Xx _ _ _,?_⟩;rcases tf (inR f.To 0 (t.Zu-1))with e2|e2
    .rw[e2];simp[e,e2]
    .grind [Zea]
def Zex(rows:V4)(f:ZA)(i k:Nat):Prop:=Xq (rows.getD i []) f.ZY=Xq (rows.getD k []) f.ZY->(rows.getD i []).getD f.To.toNat 0=(rows.getD k []).getD f.To.toNat 0
def Q6(rows:V4)(f:ZA)(k:Nat):Prop:=∀k',k<=k'->k'<rows.length->∀i,i<k'->Zex rows f i k'
structure ZlQ (t:Zt) (f:ZA) (n:Nat):Prop where
 rows:Zh8 t.Rows n
 cols:Zcm f.ZY n
 to:0<=f.To/\f.To<n
def ZCw{d:Zp}{f:ZA}{t:Zt}(hq:X7 d f.Zq=some t)(hv:K4 d f=true):ZlQ t f t.Zu.toNat:=by
 obtain⟨hR,hA⟩:=Jt (Zco hq);unfold K4 at hv;rw[hq]at hv;simp only[Yg]at hv;have h2:0<=f.To/\f.To<=t.Zu-1:=by simpa[inR]using hv.1.2
 exact⟨hR,Z1x hv.1.1 hA,by omega⟩
def gd{rows:V4}{i:Nat}(h:i<rows.length):rows.getD i []=rows[i]:=by
 simp_all
def Vio(L:V1)(z:V3)(ok:Prop):Prop:=(ok->L=some z)/\(¬ok->∃a b:Int,L=some (.own 0,[.arr 3 1 true (([a,b]:V6).map ic)]))
def Vio.cong{L:V1}{z:V3}{p q:Prop}(h:Vio L z p)(e:p↔q):Vio L z q:=⟨λhq=>h.1 (e.2 hq),λhq=>h.2 λhp=>hq (e.1 hp)⟩
def Vio.map{L L':V1}{z:V3}{p:Prop}(h:Vio L z p)(e:∀r,L=some r->L'=some r):Vio L' z p:=⟨λhp=>e _ (h.1 hp),λhp=>(h.2 hp).imp λa ⟨b,hb⟩=>⟨b,e _ hb⟩⟩
def Zh9{rows:V4}{f:ZA}{k i:Nat}(hi:i<k):((∀j,i<=j->j<k->Zex rows f j k)/\Q6 rows f (k+1))↔(Zex rows f i k/\((∀j,i+1<=j->j<k->Zex rows f j k)/\Q6 rows f (k+1))):=by
 grind
def ZCx{rows:V4}{f:ZA}{k:Nat}(hk:k<rows.length):Q6 rows f k↔((∀j,0<=j->j<k->Zex rows f j k)/\Q6 rows f (k+1)):=by
 constructor
 .intro h;exact⟨λj _ h4=>h k (Yj _) hk j h4,λk' h1 h2=>h k' (by omega) h2⟩
 .rintro⟨h1,h2⟩ k' h3 h4 i hi;by_cases e:k'=k
  .simp_all
  .exact h2 k' (by omega) h4 i hi
def ZQL{t:Zt}{f:ZA}{n:Nat}(h:ZlQ t f n){k:Nat}(hk:k<t.Rows.length)(c:Vio (Zfi f t t.Rows t.Rows.length (w ((k:Int)+1))) (.t .nil,[]) (Q6 t.Rows f (k+1))) :
  ∀i,i<=k->Vio (Zbz f t k t.Rows[k] t.Rows t.Rows.length k (t.Rows.take k) k i) (.t .nil,[]) ((∀j,i<=j->j<k->Zex t.Rows f j k)/\Q6 t.Rows f (k+1)):=by
 have h8:=h.rows.len;refine down _ ?_ ?_
 .refine(c.map λr hr=>?_).cong ⟨λhp=>⟨λj h1 h2=>by omega,hp⟩,λhp=>hp.2⟩
  simp_all [Uc.1.1.2.1]
 .intro i hi ih;have hi':i<t.Rows.length:=by omega
  have hit:i<(t.Rows.take k).length:=by rw[Ybo];omega
  have ei:(t.Rows.take k)[i]=t.Rows[i]:=List.getElem_take ..;have hri:=h.rows.row _ (Ye hi');have hrk:=h.rows.row _ (Ye hk);have hc3:=h.cols.len;have hto:=h.to;have step:∀r,(if decide (Xq t.Rows[i] f.ZY=Xq t.Rows[k] f.ZY)=true then(if t.Rows[i].getD f.To.toNat 0=t.Rows[k].getD f.To.toNat 0 then Zbz f t k t.Rows[k] t.Rows t.Rows.length k (t.Rows.take k) k (w ((i:Int)+1))=some r else some (.own 0,[.arr 3 1 true (([(i:Int),(k:Int)]:V6).map ic)])=some r)else Zbz f t k t.Rows[k] t.Rows t.Rows.length k (t.Rows.take k) k (w ((i:Int)+1))=some r)->Zbz f t k t.Rows[k] t.Rows t.Rows.length k (t.Rows.take k) k i=some r:=by
   intro r hr;apply Uc.1.1.2.1;rw[Ypx];refine⟨by omega,t.Rows[i],by rw[Yh,Yf hit,ei],.inr ⟨_,Z1y hri h.rows.n3 h.cols,.inr ⟨_,Z1y hrk h.rows.n3 h.cols,_,Zhj _ _ (by simp[Xq];omega),?_⟩⟩⟩
   simp_all
  rw[show w ((i:Int)+1)=((i+1:Nat):Int)from wS hi' (by omega)]at step;by_cases e:Xq t.Rows[i] f.ZY=Xq t.Rows[k] f.ZY
  .by_cases e2:t.Rows[i].getD f.To.toNat 0=t.Rows[k].getD f.To.toNat 0
   .refine(ih.map λr hr=>step r (by rw[Ya (by simpa using e),Ya e2];exact hr)).cong ?_;rw[Zh9 hi];exact⟨λhp=>⟨λ_=>by rw[gd hi',gd hk];exact e2,hp⟩,λhp=>hp.2⟩
   .refine⟨λhp=>absurd ((Zh9 hi).1 hp).1 λhg=>e2 ?_,λ_=>⟨_,_,step _ (by rw[Ya (by simpa using e),Yb e2])⟩⟩;have:=hg (by rw[gd hi',gd hk];exact e)
    simp_all
  .refine(ih.map λr hr=>step r (by rw[Yb (by simpa using e)];exact hr)).cong ?_;rw[Zh9 hi];exact⟨λhp=>⟨λhq=>absurd (by rw[gd hi',gd hk]at hq;exact hq) e,hp⟩,λhp=>hp.2⟩
def ZQM{t:Zt}{f:ZA}{n:Nat}(h:ZlQ t f n):∀k,k<=t.Rows.length->Vio (Zfi f t t.Rows t.Rows.length k) (.t .nil,[]) (Q6 t.Rows f k):=by
 have h8:=h.rows.len;refine down _ ?_ ?_
 .refine⟨λ_=>Uc.1.1.1 _ _ _ _ _ _ (by rw[Ynx]),λhn=>absurd (λk' h1 h2=>by omega) hn⟩
 .intro k hk ih;rw[<-show w ((k:Int)+1)=((k+1:Nat):Int)from wS hk (by omega)]at ih;refine((ZQL h hk ih 0 (Yc _)).map λr hr=>?_).cong (ZCx hk).symm;apply Uc.1.1.1
  grind
def ZQN{d:Zp}{t:Zt}{f:ZA}{n:Nat}(h:ZlQ t f n){k:Nat}(hk:k<t.Rows.length)(a:YA)(b:Int)(c:Vio (Zgb d f a b t.Rows (w ((k:Int)+1))) (.own 0,[.arr 3 1 true (([]:V6).map ic)]) (Q6 t.Rows f (k+1))) :
  ∀i,i<=k->Vio (ZbA d f a b t.Rows (Xq t.Rows[k] f.ZY) k i) (.own 0,[.arr 3 1 true (([]:V6).map ic)]) ((∀j,i<=j->j<k->Zex t.Rows f j k)/\Q6 t.Rows f (k+1)):=by
 have h8:=h.rows.len;refine down _ ?_ ?_
 .refine(c.map λr hr=>?_).cong ⟨λhp=>⟨λj h1 h2=>by omega,hp⟩,λhp=>hp.2⟩
  simp_all [JK.2.1.2]
 .intro i hi ih;have hi':i<t.Rows.length:=by omega
  have hri:=h.rows.row _ (Ye hi');have hrk:=h.rows.row _ (Ye hk);have hc3:=h.cols.len;have hto:=h.to;have hs:∀r:V6,(Xq r f.ZY).length<=3:=λr=>by simp[Xq];omega
  have step:∀r,(if Xq t.Rows[i] f.ZY=Xq t.Rows[k] f.ZY then(if t.Rows[i].getD f.To.toNat 0=t.Rows[k].getD f.To.toNat 0 then ZbA d f a b t.Rows (Xq t.Rows[k] f.ZY) k (w ((i:Int)+1))=some r else some (.own 0,[.arr 3 1 true (([(i:Int),(k:Int)]:V6).map ic)])=some r)else ZbA d f a b t.Rows (Xq t.Rows[k] f.ZY) k (w ((i:Int)+1))=some r)->ZbA d f a b t.Rows (Xq t.Rows[k] f.ZY) k i=some r:=by
   intro r hr;apply JK.2.1.2;rw[Ypx];have q1:=hs t.Rows[i];have q2:=hs t.Rows[k];refine⟨by omega,_,gE hi',_,_,Zqo hri h.rows.n3 h.cols,_,ZaD _ _ (by omega) (by omega),?_⟩
   grind [ZaI,gD,gE,Qz]
  rw[show w ((i:Int)+1)=((i+1:Nat):Int)from wS hi' (by omega)]at step;by_cases e:Xq t.Rows[i] f.ZY=Xq t.Rows[k] f.ZY
  .by_cases e2:t.Rows[i].getD f.To.toNat 0=t.Rows[k].getD f.To.toNat 0
   .refine(ih.map λr hr=>step r (by rw[Ya e,Ya e2];exact hr)).cong ?_;rw[Zh9 hi];exact⟨λhp=>⟨λ_=>by rw[gd hi',gd hk];exact e2,hp⟩,λhp=>hp.2⟩
   .refine⟨λhp=>absurd ((Zh9 hi).1 hp).1 λhg=>e2 ?_,λ_=>⟨_,_,step _ (by rw[Ya e,Yb e2])⟩⟩;have:=hg (by rw[gd hi',gd hk];exact e)
    simp_all
  .refine(ih.map λr hr=>step r (by rw[Yb e];exact hr)).cong ?_;rw[Zh9 hi];exact⟨λhp=>⟨λhq=>absurd (by rw[gd hi',gd hk]at hq;exact hq) e,hp⟩,λhp=>hp.2⟩
def ZQO{d:Zp}(hd:LeD d){t:Zt}{f:ZA}(hf:f.ZY.length<=4294967296)(hv:K4 d f=true){n:Nat}(h:ZlQ t f n)(a:YA)(b:Int):∀k,k<=t.Rows.length->Vio (Zgb d f a b t.Rows k) (.own 0,[.arr 3 1 true (([]:V6).map ic)]) (Q6 t.Rows f k):=by
 have h8:=h.rows.len;refine down _ ?_ ?_
 .refine⟨λ_=>JK.2.1.1 _ _ _ _ _ _ _ (by rw[Ynx]),λhn=>absurd (λk' h1 h2=>by omega) hn⟩
 .intro k hk ih;rw[<-show w ((k:Int)+1)=((k+1:Nat):Int)from wS hk (by omega)]at ih;refine((ZQN (d:=d) h hk a b ih 0 (Yc _)).map λr hr=>?_).cong (ZCx hk).symm;apply JK.2.1.1;rw[Ypx];refine⟨_,ZCv hd f hf,?_⟩;rw[hv,Ya rfl];exact⟨by omega,_,gE hk,_,_,Zqo (h.rows.row _ (Ye hk)) h.rows.n3 h.cols,hr⟩
open Classical in
noncomputable def Zey(d:Zp)(f:ZA):Bool:=K4 d f && (match X7 d f.Zq with
 |none=>true
 |some t=>decide (Q6 t.Rows f 0))
def ZQP{d:Zp}(h:LeD d)(f:ZA)(hf:f.ZY.length<=4294967296):Znu d f=some (Bo (Zey d f),[]):=by
 refine Uc.1.2.1 _ _ _ ⟨_,ZCu h f hf,?_⟩;unfold Zey;rcases tf (K4 d f)with hv|hv
 .rw[hv];rfl
 rw[hv,Ya rfl,Yn]
 cases hq:X7 d f.Zq with
 |none=>unfold K4 at hv;rw[hq]at hv;cases hv
 |some t =>
  have hl:=ZaF d h f.Zq;rw[hq]at hl;have V:=(ZQM (ZCw hq hv) 0 (Yc _)).map (L':=ZiL d f) λr hr=>Uc.1.1.2.2 _ _ _ ⟨_,ZCu h f hf,by rw[hv,Ya rfl];exact .inr ⟨_,_,_,hl,hr⟩⟩
  by_cases e:Q6 t.Rows f 0
  .exact .inl ⟨V.1 e,by simp[e]⟩
  .obtain⟨x,y,hxy⟩:=V.2 e;exact .inr ⟨_,hxy,by simp[e]⟩
def ZQQ{d:Zp}(h:LeD d)(f:ZA)(hf:f.ZY.length<=4294967296):Zko d f=some (Bo (Zey d f),[]):=by
 refine JK.2.2.2 _ _ _ ⟨_,ZCv h f hf,?_⟩;unfold Zey;rcases tf (K4 d f)with hv|hv
 .rw[hv];rfl
 rw[hv,Ya rfl,Yn]
 cases hq:X7 d f.Zq with
 |none=>unfold K4 at hv;rw[hq]at hv;cases hv
 |some t =>
  have hl:=ZaG d h f.Zq;rw[hq]at hl;simp only[QQ]at hl;by_cases e0:t.Rows=[]
  .rw[Ya e0]at hl;have e:Q6 t.Rows f 0:=λk' h1 h2=>by rw[e0]at h2;simp at h2
   simp_all [JK.2.2.1,JK.1.2.2]
  .rw[Yb e0]at hl;have V:=(ZQO h hf hv (ZCw hq hv) t.Zq t.Zu 0 (Yc _)).map (L':=Zoq d f) λr hr=>JK.2.2.1 _ _ _ (.inr ⟨_,_,_,hl,hr⟩)
   by_cases e:Q6 t.Rows f 0
   .exact⟨[],V.1 e,by simp[e]⟩
   .obtain⟨x,y,hxy⟩:=V.2 e;exact⟨_,hxy,by simp[e]⟩
