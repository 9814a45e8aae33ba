/-
  Parts of the proofs for this seat: GA GB LQ GC ST9 GD GE.
-/
import Derived.Test.YthdihnbeifcppaaGreatP25
set_option linter.all false
set_option maxRecDepth 100000
set_option maxHeartbeats 4000000
namespace Go.Proofs.YthdihnbeifcppaaGreat
open Go.AM
def X4(rows:V4)(c:V6):V4:=rows.map λr=>Xd r c
def cnt(all:V4)(g:V6):Int:=((all.filter λx=>decide (x=g)).length:Int)
def VP(n:Int):V4:=if n=1 then[[0]]else if n=2 then[[0],[1],[0,1]]else[[0],[1],[0,1],[2],[0,2],[1,2],[0,1,2]]
def KR(rows:V4)(c:V6):V4:=Km (X4 rows c)
def Zcg(rows:V4)(c:V6):V6:=(KR rows c).map (cnt (X4 rows c))
def grp(rows:V4)(c:V6):Zy:=⟨c,KR rows c,Zcg rows c⟩
def Wl(t:Zc):Zk:=⟨t.Name,t.Arity,t.Rows.length,(VP t.Arity).map (grp t.Rows)⟩
def Z2Z{n:Int}(h:inR n 1 3=true):∀c∈VP n,c.length<=3/\(∀x∈c,0<=x/\x<n)/\c.Pairwise (·<·):=by
 have h':1<=n/\n<=3:=by simpa[inR]using h
 have:n=1\/n=2\/n=3:=by omega
 rcases this with rfl|rfl|rfl<;>decide
def ZlU(rows:V4)(cols:V6):(X4 rows cols).length=rows.length:=by simp[X4]
def Zu9(rows:V4)(cols:V6):(KR rows cols).length<=rows.length:=by
 have:=Z2P (X4 rows cols);rw[ZlU]at this;exact this
def Z3a{rows:V4}{c x:V6}(h:x∈X4 rows c):x.length=c.length:=by
 obtain⟨r,_,rfl⟩:=Yr.1 h;simp[Xd]
def ZuA{rows:V4}{c x:V6}(h:x∈KR rows c):x.length=c.length:=Z3a ((ZlR _ _).1 h)
def Z3b(all:V4)(g:V6):0<=cnt all g:=by unfold cnt;omega
def Z3c(all:V4)(g:V6):cnt all g<=all.length:=by
 unfold cnt;have:=Ybs (λx=>decide (x=g)) all;omega
def ltI(a b:Int):Bool:=decide (a<b)
def QE(n:Int):Option Int->V6->Bool
 |_,[]=>true
 |p,v::vs=>inR v 0 (n-1) && nxt ltI p v && QE n (some v) vs
def Qm(n:Int)(vs:V6):Bool:=QE n none vs
def Z3d{n:Int}:∀{vs:V6} {p:Option Int},QE n p vs=true->∀c∈vs,0<=c/\c<n
 |[],_,_,c,hc=>by cases hc
 |v::vs,p,h,c,hc=>by
  simp only[QE,Yg]at h;have h1:0<=v/\v<=n-1:=by simpa[inR]using h.1.1
  rcases Y3.1 hc with rfl|hc
  .omega
  .exact Z3d h.2 c hc
def Z3e{n:Int}:∀{vs:V6} {q:Int},QE n (some q) vs=true->-1<=q->q<n->(vs.length:Int)<=n-1-q
 |[],q,_,h1,h2=>by simp;omega
 |v::vs,q,h,h1,h2=>by
  simp only[QE,Yg]at h;have h3:0<=v/\v<=n-1:=by simpa[inR]using h.1.1
  have h4:q<v:=by simpa[nxt,ltI]using h.1.2
  have:=Z3e h.2 (by omega) (by omega);simp only[Ym];omega
def ZGM{n:Int}{vs:V6}(h:Qm n vs=true)(hn:0<=n):(vs.length:Int)<=n:=by
 cases vs with
 |nil=>simp;omega
 |cons v vs =>
  simp only[Qm,QE,Yg]at h;have h3:0<=v/\v<=n-1:=by simpa[inR]using h.1.1
  have:=Z3e h.2 (by omega) (by omega);simp only[Ym];omega
def ZuB{n:Int}(h:inR n 1 3=true):∀c∈VP n,Qm n c=true:=by
 have h':1<=n/\n<=3:=by simpa[inR]using h
 have:n=1\/n=2\/n=3:=by omega
 rcases this with rfl|rfl|rfl<;>decide
def w1{n:Int}(h:1<=n/\n<=3):w (n-1)=n-1:=Z1 (by omega) (by omega)
def ZGN(n:Int)(hn:1<=n/\n<=3)(vs:V6)(hl:Le vs):∀i,i<=vs.length->ZfE vs n vs vs.length i=some (Bo (QE n (pvA vs i) (vs.drop i)),[]):=by
 refine down _ ?_ ?_
 .apply WY.1.1.2.1;rw[Ynx,Yo];rfl
 .intro i hi ih;apply WY.1.1.2.1;rw[Ypx,Yi hi,QE,wS hi (by omega),w1 hn];refine⟨by omega,_,gE hi,_,XX _ _ _,?_⟩;rw[show pvA vs (i+1)=some vs[i]from Yf hi]at ih;rcases tf (inR vs[i] 0 (n-1))with e|e
  .rw[e];simp
  .rw[e,Ya rfl,ih];by_cases h0:(0:Int)<(i:Int)
   .rw[Ya h0,wP (by omega) hi (by omega),Zew (by omega) (by omega)];refine⟨by omega,_,gE (by omega),?_⟩;by_cases h2:vs[i]<=vs[i-1]
    .rw[Ya h2];simp[nxt,ltI];omega
    .rw[Yb h2];simp[nxt,ltI,show vs[i-1]<vs[i] by omega]
   .obtain rfl:i=0:=by omega
    rw[Yb h0];simp[nxt,pvA]
def Z3f(n:Int)(hn:1<=n/\n<=3)(vs:V6)(hl:Le vs):ZcS vs n=some (Bo (Qm n vs),[]) :=
 WY.1.1.2.2 _ _ _ (by simpa[Qm,pvA]using ZGN n hn vs hl 0 (Yd _))
def ZGO(t:Zc)(h:LeT t)(hn:1<=t.Arity/\t.Arity<=3)(vs:V6)(hl:Le vs):∀i,i<=vs.length->ZgR t vs i=some (Bo (QE t.Arity (pvA vs i) (vs.drop i) && Xc t),[]):=by
 refine down _ ?_ ?_
 .apply X9.2.1.2.1;rw[Ynx,Yo];exact⟨_,Zey t h,by simp[QE]⟩
 .intro i hi ih;apply X9.2.1.2.1;rw[Ypx,Yi hi,QE,wS hi (by omega),w1 hn];refine⟨by omega,_,gE hi,_,Wo _ _ _,?_⟩;rw[show pvA vs (i+1)=some vs[i]from Yf hi]at ih;rcases tf (inR vs[i] 0 (t.Arity-1))with e|e
  .rw[e];simp
  .rw[e,Ya rfl,ih];by_cases h0:(0:Int)<(i:Int)
   .rw[Ya h0,wP (by omega) hi (by omega),Zew (by omega) (by omega)];refine⟨by omega,_,gE (by omega),?_⟩;by_cases h2:vs[i]<=vs[i-1]
    .rw[Ya h2];simp[nxt,ltI];omega
    .rw[Yb h2];simp[nxt,ltI,show vs[i-1]<vs[i] by omega]
   .obtain rfl:i=0:=by omega
    rw[Yb h0];simp[nxt,pvA]
def Z3g(t:Zc)(h:LeT t)(hn:1<=t.Arity/\t.Arity<=3)(vs:V6)(hl:Le vs):ZbJ t vs=some (Bo (Qm t.Arity vs && Xc t),[]) :=
 X9.2.1.2.2 _ _ _ (by simpa[Qm,pvA]using ZGO t h hn vs hl 0 (Yd _))
def ZGP{n:Int}(h:inR n 1 3=true):ZlH n=some (.own 0,[.arr 42 1 true ((VP n).map isc)]):=by
 have h':1<=n/\n<=3:=by simpa[inR]using h
 have w01:w (0+1)=1:=by decide
 have w12:w (1+1)=2:=by decide
 have w23:w (2+1)=3:=by decide
 have w34:w (3+1)=4:=by decide
 have b1:Kj 1=some (.own 0,[.arr 3 1 true (([0]:V6).map ic)]):=by
  apply Wb.2.1.1
  repeat (refine Wb.1.2.2 _ _ _ _ ?_;simp +decide[-List.map_cons,w01,w12,w23,w34])
 have b2:Kj 2=some (.own 0,[.arr 3 1 true (([1]:V6).map ic)]):=by
  apply Wb.2.1.1
  repeat (refine Wb.1.2.2 _ _ _ _ ?_;simp +decide[-List.map_cons,w01,w12,w23,w34])
 have b3:Kj 3=some (.own 0,[.arr 3 1 true (([0,1]:V6).map ic)]):=by
  apply Wb.2.1.1
  repeat (refine Wb.1.2.2 _ _ _ _ ?_;simp +decide[-List.map_cons,w01,w12,w23,w34])
 have b4:Kj 4=some (.own 0,[.arr 3 1 true (([2]:V6).map ic)]):=by
  apply Wb.2.1.1
  repeat (refine Wb.1.2.2 _ _ _ _ ?_;simp +decide[-List.map_cons,w01,w12,w23,w34])
 have b5:Kj 5=some (.own 0,[.arr 3 1 true (([0,2]:V6).map ic)]):=by
  apply Wb.2.1.1
  repeat (refine Wb.1.2.2 _ _ _ _ ?_;simp +decide[-List.map_cons,w01,w12,w23,w34])
 have b6:Kj 6=some (.own 0,[.arr 3 1 true (([1,2]:V6).map ic)]):=by
  apply Wb.2.1.1
  repeat (refine Wb.1.2.2 _ _ _ _ ?_;simp +decide[-List.map_cons,w01,w12,w23,w34])
 have b7:Kj 7=some (.own 0,[.arr 3 1 true (([0,1,2]:V6).map ic)]):=by
  apply Wb.2.1.1
  repeat (refine Wb.1.2.2 _ _ _ _ ?_;simp +decide[-List.map_cons,w01,w12,w23,w34])
 refine Wb.2.2.1 _ _ ⟨_,XX _ _ _,?_⟩;rw[h,Ya rfl];have step:∀(out:V4) (s:Int) (v:V6) (r:V3),s<shlI 1 n->Kj s=some (.own 0,[.arr 3 1 true (v.map ic)])->out.length+1<=68719476736->ZbY (out++[v]) n (w (s+1))=some r->ZbY out n s=some r:=by
  intro out s v r h1 h2 h3 h4;refine Wb.2.1.2 _ _ _ _ ⟨by omega,?_⟩;rw[Ya h1];exact⟨_,h2,h3,h4⟩
 have fin:∀(out:V4) (s:Int),¬s<shlI 1 n->ZbY out n s=some (.own 0,[.arr 42 1 true (out.map isc)]):=by
  intro out s h1;refine Wb.2.1.2 _ _ _ _ ⟨by omega,?_⟩;rw[Yb h1]
 have:n=1\/n=2\/n=3:=by omega
 rcases this with rfl|rfl|rfl
 .exact step _ 1 _ _ (by decide) b1 (by decide) (fin _ _ (by decide))
 .exact step _ 1 _ _ (by decide) b1 (by decide) (step _ 2 _ _ (by decide) b2 (by decide) (step _ 3 _ _ (by decide) b3 (by decide) (fin _ _ (by decide))))
 .exact step _ 1 _ _ (by decide) b1 (by decide) (step _ 2 _ _ (by decide) b2 (by decide) (step _ 3 _ _ (by decide) b3 (by decide) (step _ 4 _ _ (by decide) b4 (by decide) (step _ 5 _ _ (by decide) b5 (by decide) (step _ 6 _ _ (by decide) b6 (by decide) (step _ 7 _ _ (by decide) b7 (by decide) (fin _ _ (by decide))))))))
def ZGQ{n:Int}(h:inR n 1 3=true):ZgQ n=some (.own 0,[.arr 42 1 true ((VP n).map isc)]):=by
 have h':1<=n/\n<=3:=by simpa[inR]using h
 have w01:w (0+1)=1:=by decide
 have w12:w (1+1)=2:=by decide
 have w23:w (2+1)=3:=by decide
 have b:∀{s:Int} {v:V6},Zd0 [] s 0=some (.own 0,[.arr 3 1 true (v.map ic)])->Q8 s=some (.own 0,[.arr 3 1 true (v.map ic)]):=λh=>X9.1.2.2.2.2 _ _ h
 have b1:Q8 1=some (.own 0,[.arr 3 1 true (([0]:V6).map ic)]):=by
  refine b ?_
  repeat (refine X9.1.2.2.2.1 _ _ _ _ ?_;simp +decide[-List.map_cons,w01,w12,w23])
 have b2:Q8 2=some (.own 0,[.arr 3 1 true (([1]:V6).map ic)]):=by
  refine b ?_
  repeat (refine X9.1.2.2.2.1 _ _ _ _ ?_;simp +decide[-List.map_cons,w01,w12,w23])
 have b3:Q8 3=some (.own 0,[.arr 3 1 true (([0,1]:V6).map ic)]):=by
  refine b ?_
  repeat (refine X9.1.2.2.2.1 _ _ _ _ ?_;simp +decide[-List.map_cons,w01,w12,w23])
 have b4:Q8 4=some (.own 0,[.arr 3 1 true (([2]:V6).map ic)]):=by
  refine b ?_
  repeat (refine X9.1.2.2.2.1 _ _ _ _ ?_;simp +decide[-List.map_cons,w01,w12,w23])
 have b5:Q8 5=some (.own 0,[.arr 3 1 true (([0,2]:V6).map ic)]):=by
  refine b ?_
  repeat (refine X9.1.2.2.2.1 _ _ _ _ ?_;simp +decide[-List.map_cons,w01,w12,w23])
 have b6:Q8 6=some (.own 0,[.arr 3 1 true (([1,2]:V6).map ic)]):=by
  refine b ?_
  repeat (refine X9.1.2.2.2.1 _ _ _ _ ?_;simp +decide[-List.map_cons,w01,w12,w23])
 have b7:Q8 7=some (.own 0,[.arr 3 1 true (([0,1,2]:V6).map ic)]):=by
  refine b ?_
  repeat (refine X9.1.2.2.2.1 _ _ _ _ ?_;simp +decide[-List.map_cons,w01,w12,w23])
 apply X9.2.1.1.2;have step:∀(out:V4) (s:Int) (v:V6) (r:V3),s<shlI 1 n->Q8 s=some (.own 0,[.arr 3 1 true (v.map ic)])->out.length+1<=68719476736->ZbI (out++[v]) n (w (s+1))=some r->ZbI out n s=some r:=by
  intro out s v r h1 h2 h3 h4;refine X9.2.1.1.1 _ _ _ _ ⟨_,Wo _ _ _,?_⟩;rw[h,Ya rfl];refine⟨by omega,?_⟩;rw[Ya h1];exact⟨_,h2,h3,h4⟩
 have fin:∀(out:V4) (s:Int),¬s<shlI 1 n->ZbI out n s=some (.own 0,[.arr 42 1 true (out.map isc)]):=by
  intro out s h1;refine X9.2.1.1.1 _ _ _ _ ⟨_,Wo _ _ _,?_⟩;rw[h,Ya rfl];refine⟨by omega,?_⟩;rw[Yb h1]
 have:n=1\/n=2\/n=3:=by omega
 rcases this with rfl|rfl|rfl
 .exact step _ 1 _ _ (by decide) b1 (by decide) (fin _ _ (by decide))
 .exact step _ 1 _ _ (by decide) b1 (by decide) (step _ 2 _ _ (by decide) b2 (by decide) (step _ 3 _ _ (by decide) b3 (by decide) (fin _ _ (by decide))))
 .exact step _ 1 _ _ (by decide) b1 (by decide) (step _ 2 _ _ (by decide) b2 (by decide) (step _ 3 _ _ (by decide) b3 (by decide) (step _ 4 _ _ (by decide) b4 (by decide) (step _ 5 _ _ (by decide) b5 (by decide) (step _ 6 _ _ (by decide) b6 (by decide) (step _ 7 _ _ (by decide) b7 (by decide) (fin _ _ (by decide))))))))
def Zch{α:Type}[DecidableEq α]{xs ys:List α}{i:Nat}(h1:i<xs.length)(h2:i<ys.length):decide (xs.drop i=ys.drop i)=(decide (xs[i]=ys[i]) && decide (xs.drop (i+1)=ys.drop (i+1))):=by
 have e:(xs.drop i=ys.drop i)=(xs[i]=ys[i]/\xs.drop (i+1)=ys.drop (i+1)):=by
  rw[Yi h1,Yi h2,Yc5]
 rw[decide_eq_decide.2 (iff_of_eq e),Bool.decide_and]
def l_slEq(xs ys:V6)(hl:ys.length=xs.length)(hx:xs.length<=4294967296):∀i,i<=xs.length->Zf8 xs ys xs.length i=some (Bo (decide (xs.drop i=ys.drop i)),[]):=by
 refine down _ ?_ ?_
 .apply Wh.2.2.1.1;rw[Ynx,Yo,<-hl,Yo];simp
 .intro i hi ih;have hi':i<ys.length:=by omega
  apply Wh.2.2.1.1;rw[Ypx,wS hi (by omega),Zch hi hi'];refine⟨by omega,_,gE hi,_,gE hi',?_⟩;by_cases c:xs[i]=ys[i]
  .rw[Ya c,ih];simp[c]
  .rw[Yb c];simp[c]
def Ze0(xs ys:V6)(hx:xs.length<=4294967296):Qa xs ys=some (Bo (decide (xs=ys)),[]):=by
 apply Wh.2.2.1.2;by_cases c:(xs.length:Int)=(ys.length:Int)
 .rw[Ya c];simpa using l_slEq xs ys (by omega) hx 0 (Yd _)
 .rw[Yb c]
  have:¬xs=ys:=λhc=>c (by rw[hc])
  simp[this]
structure Ze1 (rows:V4) (n:Nat):Prop where
 len:rows.length<=8
 row:∀r∈rows,r.length=n
 n3:n<=3
structure Za7 (cols:V6) (n:Nat):Prop where
 len:cols.length<=3
 mem:∀c∈cols,0<=c/\c<n
def QF{t:Zc}(h:Xc t=true):Ze1 t.Rows t.Arity.toNat/\1<=t.Arity/\t.Arity<=3:=by
 have h8:=Za6 h;unfold Xc at h;simp only[Yg]at h;have h2:1<=t.Arity/\t.Arity<=3:=by simpa[inR]using h.1.1.2
 refine⟨⟨h8,λr hr=>?_,by omega⟩,h2⟩;have h1:=Yy.1 h.2.1 r hr;unfold rwB at h1;simp only[Yg,decide_eq_true_eq]at h1;omega
def ZuC{n:Int}{cols:V6}(h:Qm n cols=true)(hn:1<=n/\n<=3):Za7 cols n.toNat:=by
 have h1:=ZGM h (by omega);exact⟨by omega,λc hc=>by have:=Z3d h c hc;omega⟩
def ZuD{row cols:V6}{n:Nat}(hr:row.length=n)(hn:n<=3)(hc:Za7 cols n):Kb row cols=some (.tup [.own 0,Bo true],[.arr 3 1 true ((Xd row cols).map ic)]) :=
 ZGI row cols (by have:=hc.len;omega) (by omega) (by rw[hr];exact hc.mem)
def ZGR(row cols:V6)(h4:cols.length<=1000)(hr:Le row)(hc:∀c∈cols,0<=c/\c<row.length):∀i,i<=cols.length->ZgS (Xd row (cols.take i)) row cols i=some (.tup [.own 0,Bo true],[.arr 3 1 true ((Xd row cols).map ic)]):=by
 refine down _ ?_ ?_
 .apply X9.2.2.1.1;rw[Ynx,Yp]
 .intro i hi ih;obtain⟨h0,h1⟩:=hc _ (Yc hi);apply X9.2.2.1.1;rw[Ypx,wS hi (by omega)];refine⟨by omega,_,gE hi,_,Wo _ _ _,?_⟩;rw[show w ((row.length:Int)-1)=(row.length:Int)-1 from Z1 (by omega) (by omega)];rw[show inR cols[i] 0 ((row.length:Int)-1)=true by simp[inR];omega,Ya rfl];refine⟨h0,_,gD (by omega),by simp[Xd];omega,?_⟩;rw[show Xd row (cols.take (i+1))=Xd row (cols.take i)++[row.getD cols[i].toNat 0] by unfold Xd;rw[Y4 hi,Ybi];rfl]at ih;exact ih
def ZlV{row cols:V6}{n:Nat}(hr:row.length=n)(hn:n<=3)(hc:Za7 cols n):J2 row cols=some (.tup [.own 0,Bo true],[.arr 3 1 true ((Xd row cols).map ic)]) :=
 X9.2.2.1.2 _ _ _ (by simpa[Xd]using ZGR row cols (by have:=hc.len;omega) (by omega) (by rw[hr];exact hc.mem) 0 (Yd _))
def Z3h{all:V4}{j:Nat}(hj:j<all.length)(g:V6):cnt (all.take (j+1)) g=cnt (all.take j) g+(if g=all[j]then 1 else 0):=by
 unfold cnt;rw[Y4 hj,Yc7];by_cases e:all[j]=g
 .simp[e]
 .simp[e,Ne.symm e]
def mkC(all cc:V4)(k:Nat)(c:Int):V6:=(cc.take k).map (cnt all)++c::List.replicate (cc.length-k-1) 0
def ZGS{all groups:V4}{k:Nat}(hk:k<groups.length)(c:Int):(mkC all groups k c)[k]?=some c:=by
 unfold mkC;rw[Ydg (by simp;omega)];simp[Yba (Yc9 hk)]
def ZGT{all groups:V4}{k:Nat}(hk:k<groups.length)(c d:Int):(mkC all groups k c).set k d=mkC all groups k d:=by
 unfold mkC;rw[List.set_append_right _ _ (by simp;omega)];simp[Yba (Yc9 hk)]
def gcR(cc:V4)(c:V6):V3:=(.tup [.own 0,.own 1],[.arr 42 1 true (cc.map isc),.arr 3 1 true (c.map ic)])
def l_gc1(all groups:V4)(r:V3)(ha:all.length<=4096)(h4:∀x∈all,x.length<=4){k:Nat}(hk:k<groups.length)(cd:groups.length<=4096)(cc:groups[k].length<=4)
  (c:ZbX all groups (mkC all groups k (cnt all groups[k])) groups.length (w ((k:Int)+1))=some r):∀j,j<=all.length->Zej all groups (mkC all groups k (cnt (all.take j) groups[k])) k groups[k] groups.length k all.length j=some r:=by
 refine down _ ?_ ?_
 .apply Wb.1.1.2;rw[Ynx,Yp];exact c
 .intro j hj ih;apply Wb.1.1.2;rw[Ypx,wS hj (by omega)];refine⟨by omega,_,gE hj,_,Ze0 _ _ (by omega),?_⟩;rw[Z3h hj]at ih;by_cases e:groups[k]=all[j]
  .rw[Ya e]at ih;rw[Ya (by simpa using e)];refine⟨by omega,_,by rw[Yk];exact ZGS hk _,?_⟩;have h1:=Z3b (all.take j) groups[k];have h2:=Z3c (all.take j) groups[k];have h3:(all.take j).length<=all.length:=by simp;omega
   rw[Yk,ZGT hk,show w (cnt (all.take j) groups[k]+1)=cnt (all.take j) groups[k]+1 from Z1 (by omega) (by omega)];exact ih
  .rw[Yb e,Int.add_zero]at ih;rw[Yb (by simpa using e)];exact ih
def l_gc2(all groups:V4)(ha:all.length<=4096)(h4:∀x∈all,x.length<=4)(hg:groups.length<=4096)(c:∀x∈groups,x.length<=4):∀k,k<=groups.length->ZbX all groups ((groups.take k).map (cnt all)++List.replicate (groups.length-k) 0) groups.length k=some (gcR groups (groups.map (cnt all))):=by
 refine down _ ?_ ?_
 .apply Wb.1.1.1;rw[Ynx,Yp];simp[gcR]
 .intro k hk ih;apply Wb.1.1.1;rw[Ypx];refine⟨by omega,_,gE hk,?_⟩;have e0:(groups.take k).map (cnt all)++List.replicate (groups.length-k) 0=mkC all groups k (cnt (all.take 0) groups[k]):=by
   unfold mkC;rw[show groups.length-k=(groups.length-k-1)+1 by omega,Yc0];simp[cnt]
  rw[e0];refine l_gc1 all groups _ ha h4 hk hg (c _ (Yc hk)) ?_ 0 (Yd _);rw[wS hk (by omega)];have e1:(groups.take (k+1)).map (cnt all)++List.replicate (groups.length-(k+1)) 0=mkC all groups k (cnt all groups[k]):=by
   unfold mkC;rw[Y4 hk,Ybi,show groups.length-(k+1)=groups.length-k-1 by omega];simp
  rw[e1]at ih;exact ih
def l_gc0{rows:V4}{cols:V6}{n:Nat}(hR:Ze1 rows n)(hC:Za7 cols n):∀i,i<=rows.length->J8 (X4 (rows.take i) cols) cols rows rows.length i=some (gcR (KR rows cols) (Zcg rows cols)):=by
 have h8:=hR.len;have h3:=hC.len;refine down _ ?_ ?_
 .refine Z25 ?_;rw[Ynx,Yp];have hl:=ZlU rows cols;have hg:=Zu9 rows cols;have h4:∀r∈X4 rows cols,r.length<=4:=λr hr=>by have:=Z3a hr;omega
  refine⟨KR rows cols,Z2Q (by omega) h4,by omega,by omega,by rw[Yk];unfold room;omega,by omega,?_⟩;have:=l_gc2 (X4 rows cols) (KR rows cols) (by omega) h4 (by omega) (λx hx=>by have:=ZuA hx;omega) 0 (Yd _);simpa[Zcg]using this
 .intro i hi ih;refine Z25 ?_;rw[Ypx,wS hi (by omega)];have hr:=hR.row _ (Yc hi);rw[show X4 (rows.take (i+1)) cols=X4 (rows.take i) cols++[Xd rows[i] cols] by unfold X4;rw[Y4 hi,Ybi];rfl]at ih;exact⟨by omega,_,gE hi,.inr ⟨_,ZuD hr hR.n3 hC,by simp[X4];omega,ih⟩⟩
def ZGU{t:Zc}(h:LeT t)(hv:Xc t=true){c:V6}(hc:Qm t.Arity c=true):ZlE t c=some (gcR (KR t.Rows c) (Zcg t.Rows c)):=by
 obtain⟨hR,hA⟩:=QF hv;have hC:=ZuC hc hA;refine Wb.1.2.1 _ _ _ ⟨_,Zex t h,?_⟩;rw[hv,Ya rfl];refine⟨_,Z3f _ hA c (by have:=hC.len;omega),?_⟩;rw[hc,Ya rfl];simpa[X4]using l_gc0 hR hC 0 (Yd _)
def l_sgc1(t:Zc)(c:V4)(counts cols:V6){n:Nat}(hR:Ze1 t.Rows n)(hC:Za7 cols n)(r:V3){k:Nat}(hk:k<c.length)(cd:∀x∈c,x.length<=4)(cl:counts.length<=4096)
  (cc:ZbK t c (counts++[cnt (X4 t.Rows cols) c[k]]) cols (w ((k:Int)+1))=some r):∀j,j<=t.Rows.length->ZgU t c counts cols k (cnt (X4 (t.Rows.take j) cols) c[k]) j=some r:=by
 have h8:=hR.len;refine down _ ?_ ?_
 .apply Qj.1.1.2;rw[Ynx,Yp];exact⟨by omega,cc⟩
 .intro j hj ih;apply Qj.1.1.2;rw[Ypx,wS hj (by omega)];have hr:=hR.row _ (Yc hj);have hv4:=cd _ (Yc hk);have hs:(Xd t.Rows[j] cols).length<=3:=by have:=hC.len;simp[Xd];omega
  refine⟨by omega,_,gE hj,_,_,ZlV hr hR.n3 hC,by omega,_,gE hk,_,JA _ _ (by omega) (by omega),?_⟩;have hj':j<(X4 t.Rows cols).length:=by rw[ZlU];exact hj
  have ht:∀i,X4 (t.Rows.take i) cols=(X4 t.Rows cols).take i:=λi=>by simp[X4,List.map_take]
  have he:(X4 t.Rows cols)[j]=Xd t.Rows[j] cols:=by simp[X4]
  rw[ht,Z3h hj',he]at ih;rw[ht];by_cases e:c[k]=Xd t.Rows[j] cols
  .rw[Ya e]at ih;rw[Ya (by rw[e];exact KQ _)];have h1:=Z3b ((X4 t.Rows cols).take j) c[k];have h2:=Z3c ((X4 t.Rows cols).take j) c[k];have h3:((X4 t.Rows cols).take j).length<=t.Rows.length:=by rw[Yt,ZlU];omega
   rw[show w (cnt ((X4 t.Rows cols).take j) c[k]+1)=cnt ((X4 t.Rows cols).take j) c[k]+1 from Z1 (by omega) (by omega)];exact ih
  .rw[Yb e,Int.add_zero]at ih;rw[Yb (λhc=>e (Ul _ _ hc).symm)];exact ih
def l_sgc2(t:Zc)(values:V4)(cols:V6){n:Nat}(hR:Ze1 t.Rows n)(hC:Za7 cols n)(hv:values.length<=4096)(c:∀x∈values,x.length<=4):∀k,k<=values.length->ZbK t values ((values.take k).map (cnt (X4 t.Rows cols))) cols k=some (gcR values (values.map (cnt (X4 t.Rows cols)))):=by
 refine down _ ?_ ?_
 .apply Qj.1.1.1;rw[Ynx,Yp];rfl
 .intro k hk ih;apply Qj.1.1.1;rw[Ypx];rw[Y4 hk,Ybi]at ih;have:=l_sgc1 t values ((values.take k).map (cnt (X4 t.Rows cols))) cols hR hC _ hk c (by simp;omega) (by rw[wS hk (by omega)];exact ih) 0 (Yd _);simpa[cnt,X4]using this
def l_sgc0(t:Zc)(cols:V6){n:Nat}(hR:Ze1 t.Rows n)(hC:Za7 cols n):∀i,i<=t.Rows.length->∀acc:V4,acc.length<=i->(∀x∈acc,x.length<=4)->
  Zd4 t acc [] cols i=some (gcR (Zcf acc (X4 (t.Rows.drop i) cols)) ((Zcf acc (X4 (t.Rows.drop i) cols)).map (cnt (X4 t.Rows cols)))):=by
 have h8:=hR.len;refine down _ ?_ ?_
 .intro acc ha h4;apply X9.2.2.2.2.2;rw[Ynx,Yo];exact l_sgc2 t acc cols hR hC (by omega) h4 0 (Yd _)
 .intro i hi ih acc ha h4;apply X9.2.2.2.2.2;rw[Ypx,wS hi (by omega),Yi hi];have hr:=hR.row _ (Yc hi);have hs:(Xd t.Rows[i] cols).length<=4:=by have:=hC.len;simp[Xd];omega
  have hp:=Z2R acc (Xd t.Rows[i] cols) false
  exact⟨by omega,_,gE hi,_,_,ZlV hr hR.n3 hC,_,Z2S (by omega) h4 hs,ih _ (by omega) (λx hx=>by
   rcases(Zif _ _ _).1 hx with hx|rfl
   .exact h4 x hx
   .exact hs)⟩
def Z3i{t:Zc}(h:LeT t)(hv:Xc t=true){c:V6}(hc:Qm t.Arity c=true):ZgT t c=some (gcR (KR t.Rows c) (Zcg t.Rows c)):=by
 obtain⟨hR,hA⟩:=QF hv;have hC:=ZuC hc hA;refine Qj.1.2.1 _ _ _ ⟨_,Z3g t h hA c (by have:=hC.len;omega),?_⟩;rw[hc,hv,Ya (by rfl)];have:=l_sgc0 t c hR hC 0 (Yd _) [] (by simp) (by simp);rw[Ys,ZGJ]at this;exact this
def ZlW{n:Int}(h:inR n 1 3=true):0<(VP n).length/\(VP n).length<=7:=by
 have h':1<=n/\n<=3:=by simpa[inR]using h
 have:n=1\/n=2\/n=3:=by omega
 rcases this with rfl|rfl|rfl<;>decide
def QG{t:Zc}(h:Xc t=true):inR t.Arity 1 3=true:=by
 unfold Xc at h;simp only[Yg]at h;exact h.1.1.2
def stR(t:Zc):V3:=(.agg [.t (.str t.Name),I t.Arity,I (t.Rows.length:Int),.own 0],[.arr 249 3 true ((Wl t).Groups.map Zy.c)])
def Z3j{t:Zc}(h:LeT t)(hv:Xc t=true):Zf6 t=some (stR t):=by
 have e1:=Zex t h;have e2:=ZGP (QG hv);have e3:=λc hc=>ZGU h hv (ZuB (QG hv) c hc)
 have ha:t.Arity=1\/t.Arity=2\/t.Arity=3:=by have:=QG hv;simp[inR]at this;omega
 unfold Q4 at e1;unfold ZlH at e2;unfold ZlE gcR at e3;unfold Zf6 stR Wl;rw[hv]at e1;refine run ZBO rfl ?_;have hs:VP t.Arity=[[0]]\/VP t.Arity=[[0],[1],[0,1]]\/VP t.Arity=[[0],[1],[0,1],[2],[0,2],[1,2],[0,1,2]]:=by
  rcases ha with ha|ha|ha<;>rw[ha]<;>decide
 clear ha;have hw:IntKind.i64.wrap 1=1/\IntKind.i64.wrap 2=2/\IntKind.i64.wrap 3=3/\IntKind.i64.wrap 4=4/\IntKind.i64.wrap 5=5/\IntKind.i64.wrap 6=6/\IntKind.i64.wrap 7=7:=by decide
 rcases hs with hs|hs|hs<;>rw[hs]at e2 e3|-<;>simp[Zc.c_def]at e1 e2 e3|-<;>simp +decide[Zyv,Zyu,hw,e1,e2,e3,tI,tII,Zn Zyt.eq_1,grp]
def ZGV{t:Zc}(h:LeT t)(hv:Xc t=true)(a:UP)(b c:Int)(a':UP)(b' c':Int):∀i,i<=(VP t.Arity).length->ZgW t a b c a' b' c' false (((VP t.Arity).take i).map (grp t.Rows)) (VP t.Arity) i=some (.agg [.t (.str a'),I b',I c',L 3 (((VP t.Arity).map (grp t.Rows)).map Zy.c)],[]):=by
 have h7:=ZlW (QG hv);refine down _ ?_ ?_
 .apply Qj.2.1.1;rw[Ynx,Yp]
 .intro i hi ih;apply Qj.2.1.1;rw[Ypx,wS hi (by omega)];rw[Y4 hi,Ybi]at ih;exact⟨by omega,_,gE hi,_,_,Z3i h hv (ZuB (QG hv) _ (Yc hi)),by simp;omega,ih⟩
def Z3k{t:Zc}(h:LeT t)(hv:Xc t=true):ZgV t=some (.agg ((Wl t).c.map .t),[]):=by
 have h7:=ZlW (QG hv);refine Qj.2.1.2 _ _ ⟨_,Zey t h,?_⟩;rw[hv,Ya rfl];refine⟨_,ZGQ (QG hv),Qj.1.2.2 _ _ _ _ _ _ _ _ _ _ ?_⟩;rw[Ypx];refine⟨by omega,_,gE (i:=0) h7.1,_,_,Z3i h hv (ZuB (QG hv) _ (Yc h7.1)),?_⟩;have:=ZGV h hv ⟨#[]⟩ 0 0 t.Name t.Arity (t.Rows.length:Int) 1 (by omega);rw[Y4 h7.1]at this;rw[show w (0+1)=1 from by decide];simpa[Wl,grp]using this
def U3(d:Zl)(v:Int):Zu:=if Xn d && inR v 1 999 then⟨v,d.Tables.map Wl⟩else⟨0,[]⟩
def catI(d:Zl)(v:Int):V3:=(.tup [.agg [I (U3 d v).Version,.own 0],Bo (Xn d && inR v 1 999)],[.arr 191 4 true ((U3 d v).Tables.map Zk.c)])
def catS(d:Zl)(v:Int):V3:=(.tup [.agg ((U3 d v).c.map .t),Bo (Xn d && inR v 1 999)],[])
def Zci{d:Zl}(hv:Xn d=true):d.Tables.length<=6:=by
 unfold Xn at hv;simp only[Yg,decide_eq_true_eq]at hv;omega
def ZGW{d:Zl}(h:LeD d)(hv:Xn d=true)(a b:Int):∀i,i<=d.Tables.length->Zf7 a b ((d.Tables.take i).map Wl) d.Tables d.Tables.length i=some (.tup [.agg [I b,.own 0],Bo true],[.arr 191 4 true ((d.Tables.map Wl).map Zk.c)]):=by
 have h6:=Zci hv;refine down _ ?_ ?_
 .apply Wh.2.1.2.1;rw[Ynx,Yp]
 .intro i hi ih;apply Wh.2.1.2.1;rw[Ypx,wS hi (by omega)];rw[Y4 hi,Ybi]at ih;have hm:=Yc hi;exact⟨by omega,_,gE hi,⟨_,_,_,_,Z3j (h.2 _ hm) (QC hv hm),by simp;omega,ih⟩⟩
def Z3l{d:Zl}(h:LeD d)(v:Int):Zby d v=some (catI d v):=by
 refine Wh.2.1.2.2 _ _ _ ⟨_,Zu4 d h,?_⟩;unfold catI U3;rcases tf (Xn d)with hv|hv
 .rw[hv];rfl
 rw[hv,Ya rfl];refine⟨_,XX _ _ _,?_⟩;rcases tf (inR v 1 999)with e|e
 .rw[e];rfl
 rw[e,Ya rfl,Yw,Ya rfl];apply Wh.2.1.1.2;by_cases e0:d.Tables=[]
 .rw[Yb (by rw[e0];simp),e0];rfl
 .have h0:0<d.Tables.length:=Ybn.2 e0;have hm:=Yc h0;rw[Ypx];refine⟨by omega,_,gE (i:=0) h0,⟨_,_,_,_,Z3j (h.2 _ hm) (QC hv hm),?_⟩⟩;have:=ZGW h hv 0 v 1 (by omega);rw[Y4 h0]at this;rw[show w (0+1)=1 from by decide];simpa[Wl]using this
def ZGX{d:Zl}(h:LeD d)(hv:Xn d=true)(a b:Int):∀i,i<=d.Tables.length->ZgX d a b false ((d.Tables.take i).map Wl) i=some (.tup [.agg [I b,L 4 ((d.Tables.map Wl).map Zk.c)],Bo true],[]):=by
 have h6:=Zci hv;refine down _ ?_ ?_
 .apply Qj.2.2.2.1;rw[Ynx,Yp]
 .intro i hi ih;apply Qj.2.2.2.1;rw[Ypx,wS hi (by omega)];rw[Y4 hi,Ybi]at ih;have hm:=Yc hi;exact⟨by omega,_,gE hi,⟨_,Z3k (h.2 _ hm) (QC hv hm),by simp;omega,ih⟩⟩
def Z3m{d:Zl}(h:LeD d)(v:Int):ZbL d v=some (catS d v):=by
 refine Qj.2.2.2.2 _ _ _ ⟨_,Zez d h,?_⟩;unfold catS U3;rcases tf (Xn d)with hv|hv
 .rw[hv];rfl
 rw[hv,Ya rfl];refine⟨_,Wo _ _ _,?_⟩;rcases tf (inR v 1 999)with e|e
 .rw[e];rfl
 rw[e,Ya rfl,Yw,Ya rfl];apply Qj.2.2.1;by_cases e0:d.Tables=[]
 .rw[Yb (by rw[e0];simp),e0];rfl
 .have h0:0<d.Tables.length:=Ybn.2 e0;have hm:=Yc h0;rw[Ypx];refine⟨by omega,_,gE (i:=0) h0,⟨_,Z3k (h.2 _ hm) (QC hv hm),?_⟩⟩;have:=ZGX h hv 0 v 1 (by omega);rw[Y4 h0]at this;rw[show w (0+1)=1 from by decide];simpa[Wl]using this
abbrev LeG(g:Zy):Prop:=g.Columns.length<=4294967296/\(g.Values.length<=4294967296/\∀r∈g.Values,r.length<=4294967296)/\g.Counts.length<=4294967296
abbrev LeS(s:Zk):Prop:=s.Groups.length<=4294967296/\∀g∈s.Groups,LeG g
abbrev LeK(c:Zu):Prop:=c.Tables.length<=4294967296/\∀s∈c.Tables,LeS s
def l_eqR(xs ys:V4)(hl:ys.length=xs.length)(hx:xs.length<=4294967296/\∀a∈xs,a.length<=4294967296):∀i,i<=xs.length->Zf9 ys xs xs.length i=some (Bo (decide (xs.drop i=ys.drop i)),[]):=by
 refine down _ ?_ ?_
 .apply Wh.2.2.2.2.1;rw[Ynx,Yo,<-hl,Yo];simp
 .intro i hi ih;have hi':i<ys.length:=by omega
  apply Wh.2.2.2.2.1;rw[Ypx,wS hi (by omega),Zch hi hi'];refine⟨by omega,_,gE hi,_,gE hi',_,Wh.2.2.2.1 _ _ _ ⟨_,Ze0 _ _ (hx.2 _ (Yc hi)),rfl⟩,?_⟩;by_cases c:xs[i]=ys[i]
  .rw[Ya (by simpa using c),ih];simp[c]
  .rw[Yb (by simpa using c)];simp[c]
def ZGY(xs ys:V4)(hx:xs.length<=4294967296/\∀a∈xs,a.length<=4294967296):ZjR xs ys=some (Bo (decide (xs=ys)),[]):=by
 refine Uz.1.1.1 _ _ _ ⟨decide (xs=ys),Wh.2.2.2.2.2 _ _ _ ?_,rfl⟩;by_cases c:(xs.length:Int)=(ys.length:Int)
 .rw[Ya c];simpa using l_eqR xs ys (by omega) hx 0 (Yd _)
 .rw[Yb c]
  have:¬xs=ys:=λhc=>c (by rw[hc])
  simp[this]
def ZGZ(a b:Zy)(h:LeG a):ZjS a b=some (Bo (decide (a=b)),[]):=by
 refine Uz.1.1.2 _ _ _ ⟨_,Ze0 _ _ h.1,?_⟩;by_cases c:a.Columns=b.Columns
 .rw[Ya (by simpa using c)];refine⟨_,ZGY _ _ h.2.1,?_⟩;by_cases c2:a.Values=b.Values
  .rw[Ya (by simpa using c2)];exact⟨_,Ze0 _ _ h.2.2,by simp[Zy.ext_iff,c,c2]⟩
  .rw[Yb (by simpa using c2)];simp[Zy.ext_iff,c,c2]
 .rw[Yb (by simpa using c)];simp[Zy.ext_iff,c]
def l_eqG(xs ys:List Zy)(hl:ys.length=xs.length)(hx:xs.length<=4294967296/\∀a∈xs,LeG a):∀i,i<=xs.length->ZfA ys xs xs.length i=some (Bo (decide (xs.drop i=ys.drop i)),[]):=by
 refine down _ ?_ ?_
 .apply Uz.1.2.1;rw[Ynx,Yo,<-hl,Yo];simp
 .intro i hi ih;have hi':i<ys.length:=by omega
  apply Uz.1.2.1;rw[Ypx,wS hi (by omega),Zch hi hi'];refine⟨by omega,_,gE hi,_,gE hi',_,ZGZ _ _ (hx.2 _ (Yc hi)),?_⟩;by_cases c:xs[i]=ys[i]
  .rw[Ya (by simpa using c),ih];simp[c]
  .rw[Yb (by simpa using c)];simp[c]
def ZHa(a b:Zk)(h:LeS a):ZjT a b=some (Bo (decide (a=b)),[]):=by
 apply Uz.1.2.2.2;by_cases c:a.Name=b.Name
 .rw[Ya c];by_cases c2:a.Arity=b.Arity
  .rw[Ya c2];by_cases c3:a.RowCount=b.RowCount
   .rw[Ya c3];refine⟨decide (a.Groups=b.Groups),Uz.1.2.2.1 _ _ _ ?_,by simp[Zk.ext_iff,c,c2,c3]⟩;by_cases c4:(a.Groups.length:Int)=(b.Groups.length:Int)
    .rw[Ya c4];simpa using l_eqG a.Groups b.Groups (by omega) h 0 (Yd _)
    .rw[Yb c4]
     have:¬a.Groups=b.Groups:=λhc=>c4 (by rw[hc])
     simp[this]
   .rw[Yb c3];simp[Zk.ext_iff,c,c2,c3]
  .rw[Yb c2];simp[Zk.ext_iff,c,c2]
 .rw[Yb c];simp[Zk.ext_iff,c]
def l_eqS(xs ys:List Zk)(hl:ys.length=xs.length)(hx:xs.length<=4294967296/\∀a∈xs,LeS a):∀i,i<=xs.length->ZfB ys xs xs.length i=some (Bo (decide (xs.drop i=ys.drop i)),[]):=by
 refine down _ ?_ ?_
 .apply Uz.2.1.1;rw[Ynx,Yo,<-hl,Yo];simp
 .intro i hi ih;have hi':i<ys.length:=by omega
  apply Uz.2.1.1;rw[Ypx,wS hi (by omega),Zch hi hi'];refine⟨by omega,_,gE hi,_,gE hi',_,ZHa _ _ (hx.2 _ (Yc hi)),?_⟩;by_cases c:xs[i]=ys[i]
  .rw[Ya (by simpa using c),ih];simp[c]
  .rw[Yb (by simpa using c)];simp[c]
def Za8(v:Int)(ts:List Zk)(c:Zu):Bool:=decide (v=c.Version/\ts=c.Tables)
def ZHb(v:Int)(ts:List Zk)(c:Zu)(h:ts.length<=4294967296/\∀s∈ts,LeS s):ZfC ⟨v,ts⟩ c=some (Bo (Za8 v ts c),[]):=by
 apply Uz.2.1.2.2;unfold Za8;by_cases e:v=c.Version
 .rw[Ya e];refine⟨decide (ts=c.Tables),Uz.2.1.2.1 _ _ _ ?_,by simp[e]⟩;by_cases c4:(ts.length:Int)=(c.Tables.length:Int)
  .rw[Ya c4];simpa using l_eqS ts c.Tables (by omega) h 0 (Yd _)
  .rw[Yb c4]
   have:¬ts=c.Tables:=λhc=>c4 (by rw[hc])
   simp[this]
 .rw[Yb e];simp[e]
def ZHc(a b:Zk)(x y:Zy)(hl:y.Values.length=x.Values.length)(hx:LeG x)(hy:LeG y)(r:Bool)(i:Int)(cc:Zd5 a b (w (i+1))=some (Bo r,[])):∀k,k<=x.Values.length->ZgZ a b x y i k=some (Bo (decide (x.Values.drop k=y.Values.drop k) && r),[]):=by
 refine down _ ?_ ?_
 .apply W8.1.1.2.1;rw[Ynx,Yo,<-hl,Yo,cc];simp
 .intro k hk ih;have hk':k<y.Values.length:=by omega
  apply W8.1.1.2.1;rw[Ypx,wS hk (by have:=hx.2.1.1;omega),Zch hk hk'];have l1:=hx.2.1.2 _ (Yc hk);have l2:=hy.2.1.2 _ (Yc hk');refine⟨by omega,_,gE hk,_,gE hk',_,JA _ _ (by omega) (by omega),?_⟩;by_cases c:x.Values[k]=y.Values[k]
  .rw[Ya (by rw[c];exact KQ _),ih];simp[c]
  .rw[Yb (λh=>c (Ul _ _ h))];simp[c]
def ZHd(a b:Zk)(hl:b.Groups.length=a.Groups.length)(ha:LeS a)(hb:LeS b):∀i,i<=a.Groups.length->Zd5 a b i=some (Bo (decide (a.Groups.drop i=b.Groups.drop i)),[]):=by
 refine down _ ?_ ?_
 .apply W8.1.1.1;rw[Ynx,Yo,<-hl,Yo];simp
 .intro i hi ih;have hi':i<b.Groups.length:=by omega
  have l1:=ha.2 _ (Yc hi);have l2:=hb.2 _ (Yc hi');have l11:=l1.1;have l13:=l1.2.2;have l21:=l2.1;have l23:=l2.2.2;apply W8.1.1.1;rw[Ypx,Zch hi hi'];refine⟨by omega,_,gE hi,_,gE hi',_,JA _ _ (by omega) (by omega),?_⟩;by_cases c1:a.Groups[i].Columns=b.Groups[i].Columns
  .rw[Ya (by rw[c1];exact KQ _)];refine⟨_,JA _ _ (by omega) (by omega),?_⟩;by_cases c2:a.Groups[i].Counts=b.Groups[i].Counts
   .rw[Ya (by rw[c2];exact KQ _)];by_cases c3:(a.Groups[i].Values.length:Int)=(b.Groups[i].Values.length:Int)
    .rw[Ya c3];have:=ZHc a b a.Groups[i] b.Groups[i] (by omega) l1 l2 _ i (by rw[wS hi (by have:=ha.1;omega)];exact ih) 0 (Yd _);rw[Ys,Ys]at this;have e:decide (a.Groups[i]=b.Groups[i])=decide (a.Groups[i].Values=b.Groups[i].Values):=by simp[Zy.ext_iff,c1,c2]
     rw[e];exact this
    .rw[Yb c3]
     have:¬a.Groups[i]=b.Groups[i]:=λhc=>c3 (by rw[hc])
     simp[this]
   .rw[Yb (λh=>c2 (Ul _ _ h))]
    have:¬a.Groups[i]=b.Groups[i]:=λhc=>c2 (by rw[hc])
    simp[this]
  .rw[Yb (λh=>c1 (Ul _ _ h))]
   have:¬a.Groups[i]=b.Groups[i]:=λhc=>c1 (by rw[hc])
   simp[this]
def ZHe(a b:Zk)(ha:LeS a)(hb:LeS b):ZkR a b=some (Bo (decide (a=b)),[]):=by
 apply W8.1.1.2.2;by_cases c:a.Name=b.Name
 .rw[Ya c];by_cases c2:a.Arity=b.Arity
  .rw[Ya c2];by_cases c3:a.RowCount=b.RowCount
   .rw[Ya c3];by_cases c4:(a.Groups.length:Int)=(b.Groups.length:Int)
    .rw[Ya c4];have e:decide (a=b)=decide (a.Groups=b.Groups):=by simp[Zk.ext_iff,c,c2,c3]
     rw[e];simpa using ZHd a b (by omega) ha hb 0 (Yd _)
    .rw[Yb c4]
     have:¬a=b:=λhc=>c4 (by rw[hc])
     simp[this]
   .rw[Yb c3];simp[Zk.ext_iff,c,c2,c3]
  .rw[Yb c2];simp[Zk.ext_iff,c,c2]
 .rw[Yb c];simp[Zk.ext_iff,c]
def ZHf(a b:Zu)(hl:b.Tables.length=a.Tables.length)(ha:LeK a)(hb:LeK b):∀i,i<=a.Tables.length->Zhb a b i=some (Bo (decide (a.Tables.drop i=b.Tables.drop i)),[]):=by
 refine down _ ?_ ?_
 .apply W8.1.2.1.1;rw[Ynx,Yo,<-hl,Yo];simp
 .intro i hi ih;have hi':i<b.Tables.length:=by omega
  apply W8.1.2.1.1;rw[Ypx,wS hi (by have:=ha.1;omega),Zch hi hi'];refine⟨by omega,_,gE hi,_,gE hi',_,ZHe _ _ (ha.2 _ (Yc hi)) (hb.2 _ (Yc hi')),?_⟩;by_cases c:a.Tables[i]=b.Tables[i]
  .rw[Ya (by simpa using c),ih];simp[c]
  .rw[Yb (by simpa using c)];simp[c]
def ZHg(v:Int)(ts:List Zk)(c:Zu)(h:ts.length<=4294967296/\∀s∈ts,LeS s)(hc:LeK c):Zha ⟨v,ts⟩ c=some (Bo (Za8 v ts c),[]):=by
 apply W8.1.2.1.2;unfold Za8;by_cases e:v=c.Version
 .rw[Ya e];by_cases c4:(ts.length:Int)=(c.Tables.length:Int)
  .rw[Ya c4];subst e;have:=ZHf ⟨c.Version,ts⟩ c (by simp only;omega) h hc 0 (Yd _);simp only[true_and];simpa using this
  .rw[Yb c4]
   have:¬ts=c.Tables:=λhc=>c4 (by rw[hc])
   simp[this]
 .rw[Yb e];simp[e]
def QH(d:Zl)(f:Zp):Bool:=match X1 d f.Name with
 |none=>false
 |some t=>Qm t.Arity f.From && inR f.To 0 (t.Arity-1) && !(has f.From f.To)
def Qn{d:Zl}{n:UP}{t:Zc}(h:X1 d n=some t):Xc t=true:=by
 obtain⟨h1,h2,_⟩:=ZlP h;exact QC h1 h2
def ZHh{d:Zl}(hd:LeD d){n:UP}{t:Zc}(h:X1 d n=some t):LeT t:=hd.2 t (ZlP h).2.1
def Z3n{d:Zl}(h:LeD d)(f:Zp)(hf:f.From.length<=4294967296):ZfG d f=some (Bo (QH d f),[]):=by
 have hl:=Zcc d h f.Name;apply WY.1.2.2.2;unfold QH
 cases hq:X1 d f.Name with
 |none=>rw[hq]at hl;exact .inl ⟨_,_,hl,rfl⟩
 |some t =>
  rw[hq]at hl;have hA:=(QF (Qn hq)).2;refine .inr ⟨_,_,_,hl,_,Z3f _ hA _ (by omega),?_⟩;rcases tf (Qm t.Arity f.From)with e|e
  .rw[e];simp[e]
  .rw[e,Ya rfl,w1 hA];refine⟨_,XX _ _ _,?_⟩;rcases tf (inR f.To 0 (t.Arity-1))with e2|e2
   .rw[e2];simp[e,e2]
   .rw[e2,Ya rfl];exact⟨_,Zca _ _ (by omega),by simp[e,e2]⟩
def Z3o{d:Zl}(h:LeD d)(f:Zp)(hf:f.From.length<=4294967296):Zhe d f=some (Bo (QH d f),[]):=by
 have hl:=Zcd d h f.Name;apply W8.2.1.2.1;unfold QH
 cases hq:X1 d f.Name with
 |none=>rw[hq]at hl;exact .inr ⟨_,_,hl,rfl⟩
 |some t =>
  rw[hq]at hl;have hv:=Qn hq;have hA:=(QF hv).2;refine .inl ⟨_,_,_,hl,_,Z3g t (ZHh h hq) hA _ (by omega),?_⟩;rw[hv,Bool.and_true];rcases tf (Qm t.Arity f.From)with e|e
  .rw[e];simp[e]
  .rw[e,Ya rfl,w1 hA];refine⟨_,Wo _ _ _,?_⟩;rcases tf (inR f.To 0 (t.Arity-1))with e2|e2
   .rw[e2];simp[e,e2]
   .rw[e2,Ya rfl];exact⟨_,Zuy _ _ (by omega),by simp[e,e2]⟩
def Zcj(rows:V4)(f:Zp)(i k:Nat):Prop:=Xd (rows.getD i []) f.From=Xd (rows.getD k []) f.From->(rows.getD i []).getD f.To.toNat 0=(rows.getD k []).getD f.To.toNat 0
def Qo(rows:V4)(f:Zp)(k:Nat):Prop:=∀k',k<=k'->k'<rows.length->∀i,i<k'->Zcj rows f i k'
structure Zih (t:Zc) (f:Zp) (n:Nat):Prop where
 rows:Ze1 t.Rows n
 cols:Za7 f.From n
 to:0<=f.To/\f.To<n
def Z3p{d:Zl}{f:Zp}{t:Zc}(hq:X1 d f.Name=some t)(hv:QH d f=true):Zih t f t.Arity.toNat:=by
 obtain⟨hR,hA⟩:=QF (Qn hq);unfold QH at hv;rw[hq]at hv;simp only[Yg]at hv;have h2:0<=f.To/\f.To<=t.Arity-1:=by simpa[inR]using hv.1.2
 exact⟨hR,ZuC hv.1.1 hA,by omega⟩
def gd{rows:V4}{i:Nat}(h:i<rows.length):rows.getD i []=rows[i]:=by
 rw[Ydw,Yf h];rfl
def Vio(L:V1)(z:V3)(ok:Prop):Prop:=(ok->L=some z)/\(¬ok->∃a b:Int,L=some (.own 0,[.arr 3 1 true (([a,b]:V6).map ic)]))
def Vio.cong{L:V1}{z:V3}{p q:Prop}(h:Vio L z p)(e:p↔q):Vio L z q:=⟨λhq=>h.1 (e.2 hq),λhq=>h.2 λhp=>hq (e.1 hp)⟩
def Vio.map{L L':V1}{z:V3}{p:Prop}(h:Vio L z p)(e:∀r,L=some r->L'=some r):Vio L' z p:=⟨λhp=>e _ (h.1 hp),λhp=>(h.2 hp).imp λa ⟨b,hb⟩=>⟨b,e _ hb⟩⟩
def Ze2{rows:V4}{f:Zp}{k i:Nat}(hi:i<k):((∀j,i<=j->j<k->Zcj rows f j k)/\Qo rows f (k+1))↔(Zcj rows f i k/\((∀j,i+1<=j->j<k->Zcj rows f j k)/\Qo rows f (k+1))):=by
 constructor
 .rintro⟨h1,h2⟩;exact⟨h1 i (Yh _) hi,λj h3 h4=>h1 j (by omega) h4,h2⟩
 .rintro⟨h0,h1,h2⟩;refine⟨λj h3 h4=>?_,h2⟩;by_cases e:j=i
  .subst e;exact h0
  .exact h1 j (by omega) h4
def Z3q{rows:V4}{f:Zp}{k:Nat}(hk:k<rows.length):Qo rows f k↔((∀j,0<=j->j<k->Zcj rows f j k)/\Qo rows f (k+1)):=by
 constructor
 .intro h;exact⟨λj _ h4=>h k (Yh _) hk j h4,λk' h1 h2=>h k' (by omega) h2⟩
 .rintro⟨h1,h2⟩ k' h3 h4 i hi;by_cases e:k'=k
  .subst e;exact h1 i (Yd _) hi
  .exact h2 k' (by omega) h4 i hi
def ZHi{t:Zc}{f:Zp}{n:Nat}(h:Zih t f n){k:Nat}(hk:k<t.Rows.length)(c:Vio (ZcT f t t.Rows t.Rows.length (w ((k:Int)+1))) (.t .nil,[]) (Qo t.Rows f (k+1))) :
  ∀i,i<=k->Vio (Zag f t k t.Rows[k] t.Rows t.Rows.length k (t.Rows.take k) k i) (.t .nil,[]) ((∀j,i<=j->j<k->Zcj t.Rows f j k)/\Qo t.Rows f (k+1)):=by
 have h8:=h.rows.len;refine down _ ?_ ?_
 .refine(c.map λr hr=>?_).cong ⟨λhp=>⟨λj h1 h2=>by omega,hp⟩,λhp=>hp.2⟩;apply WY.2.2.1.1;rw[Ynx];exact hr
 .intro i hi ih;have hi':i<t.Rows.length:=by omega
  have hit:i<(t.Rows.take k).length:=by rw[Yt];omega
  have ei:(t.Rows.take k)[i]=t.Rows[i]:=List.getElem_take ..;have hri:=h.rows.row _ (Yc hi');have hrk:=h.rows.row _ (Yc hk);have hc3:=h.cols.len;have hto:=h.to;have step:∀r,(if decide (Xd t.Rows[i] f.From=Xd t.Rows[k] f.From)=true then(if t.Rows[i].getD f.To.toNat 0=t.Rows[k].getD f.To.toNat 0 then Zag f t k t.Rows[k] t.Rows t.Rows.length k (t.Rows.take k) k (w ((i:Int)+1))=some r else some (.own 0,[.arr 3 1 true (([(i:Int),(k:Int)]:V6).map ic)])=some r)else Zag f t k t.Rows[k] t.Rows t.Rows.length k (t.Rows.take k) k (w ((i:Int)+1))=some r)->Zag f t k t.Rows[k] t.Rows t.Rows.length k (t.Rows.take k) k i=some r:=by
   intro r hr;apply WY.2.2.1.1;rw[Ypx];refine⟨by omega,t.Rows[i],by rw[Yk,Yf hit,ei],.inr ⟨_,ZuD hri h.rows.n3 h.cols,.inr ⟨_,ZuD hrk h.rows.n3 h.cols,_,Ze0 _ _ (by simp[Xd];omega),?_⟩⟩⟩;by_cases e:Xd t.Rows[i] f.From=Xd t.Rows[k] f.From
   .rw[Ya (by simpa using e)]at hr|-;exact⟨h.to.1,_,gD (by omega),_,gD (by omega),hr⟩
   .rw[Yb (by simpa using e)]at hr|-;exact hr
  rw[show w ((i:Int)+1)=((i+1:Nat):Int)from wS hi' (by omega)]at step;by_cases e:Xd t.Rows[i] f.From=Xd t.Rows[k] f.From
  .by_cases e2:t.Rows[i].getD f.To.toNat 0=t.Rows[k].getD f.To.toNat 0
   .refine(ih.map λr hr=>step r (by rw[Ya (by simpa using e),Ya e2];exact hr)).cong ?_;rw[Ze2 hi];exact⟨λhp=>⟨λ_=>by rw[gd hi',gd hk];exact e2,hp⟩,λhp=>hp.2⟩
   .refine⟨λhp=>absurd ((Ze2 hi).1 hp).1 λhg=>e2 ?_,λ_=>⟨_,_,step _ (by rw[Ya (by simpa using e),Yb e2])⟩⟩;have:=hg (by rw[gd hi',gd hk];exact e);rw[gd hi',gd hk]at this;exact this
  .refine(ih.map λr hr=>step r (by rw[Yb (by simpa using e)];exact hr)).cong ?_;rw[Ze2 hi];exact⟨λhp=>⟨λhq=>absurd (by rw[gd hi',gd hk]at hq;exact hq) e,hp⟩,λhp=>hp.2⟩
def ZHj{t:Zc}{f:Zp}{n:Nat}(h:Zih t f n):∀k,k<=t.Rows.length->Vio (ZcT f t t.Rows t.Rows.length k) (.t .nil,[]) (Qo t.Rows f k):=by
 have h8:=h.rows.len;refine down _ ?_ ?_
 .refine⟨λ_=>WY.2.1.2.2 _ _ _ _ _ _ (by rw[Ynx]),λhn=>absurd (λk' h1 h2=>by omega) hn⟩
 .intro k hk ih;rw[<-show w ((k:Int)+1)=((k+1:Nat):Int)from wS hk (by omega)]at ih;refine((ZHi h hk ih 0 (Yd _)).map λr hr=>?_).cong (Z3q hk).symm;apply WY.2.1.2.2;rw[Ypx];refine⟨by omega,_,gE hk,by rw[Yk];omega,?_⟩;rw[Yk,show(((t.Rows.take k).length:Nat):Int)=(k:Int) by rw[Yt];omega];exact hr
def ZHk{d:Zl}{t:Zc}{f:Zp}{n:Nat}(h:Zih t f n){k:Nat}(hk:k<t.Rows.length)(a:UP)(b:Int)(c:Vio (Zd6 d f a b t.Rows (w ((k:Int)+1))) (.own 0,[.arr 3 1 true (([]:V6).map ic)]) (Qo t.Rows f (k+1))) :
  ∀i,i<=k->Vio (Zat d f a b t.Rows (Xd t.Rows[k] f.From) k i) (.own 0,[.arr 3 1 true (([]:V6).map ic)]) ((∀j,i<=j->j<k->Zcj t.Rows f j k)/\Qo t.Rows f (k+1)):=by
 have h8:=h.rows.len;refine down _ ?_ ?_
 .refine(c.map λr hr=>?_).cong ⟨λhp=>⟨λj h1 h2=>by omega,hp⟩,λhp=>hp.2⟩;apply W8.2.2.1.1;rw[Ynx];exact hr
 .intro i hi ih;have hi':i<t.Rows.length:=by omega
  have hri:=h.rows.row _ (Yc hi');have hrk:=h.rows.row _ (Yc hk);have hc3:=h.cols.len;have hto:=h.to;have hs:∀r:V6,(Xd r f.From).length<=3:=λr=>by simp[Xd];omega
  have step:∀r,(if Xd t.Rows[i] f.From=Xd t.Rows[k] f.From then(if t.Rows[i].getD f.To.toNat 0=t.Rows[k].getD f.To.toNat 0 then Zat d f a b t.Rows (Xd t.Rows[k] f.From) k (w ((i:Int)+1))=some r else some (.own 0,[.arr 3 1 true (([(i:Int),(k:Int)]:V6).map ic)])=some r)else Zat d f a b t.Rows (Xd t.Rows[k] f.From) k (w ((i:Int)+1))=some r)->Zat d f a b t.Rows (Xd t.Rows[k] f.From) k i=some r:=by
   intro r hr;apply W8.2.2.1.1;rw[Ypx];have q1:=hs t.Rows[i];have q2:=hs t.Rows[k];refine⟨by omega,_,gE hi',_,_,ZlV hri h.rows.n3 h.cols,_,JA _ _ (by omega) (by omega),?_⟩;by_cases e:Xd t.Rows[i] f.From=Xd t.Rows[k] f.From
   .rw[Ya e]at hr;rw[Ya (by rw[e];exact KQ _)];exact⟨h.to.1,_,gD (by omega),by omega,_,gE hk,_,gD (by omega),hr⟩
   .rw[Yb e]at hr;rw[Yb (λhc=>e (Ul _ _ hc))];exact hr
  rw[show w ((i:Int)+1)=((i+1:Nat):Int)from wS hi' (by omega)]at step;by_cases e:Xd t.Rows[i] f.From=Xd t.Rows[k] f.From
  .by_cases e2:t.Rows[i].getD f.To.toNat 0=t.Rows[k].getD f.To.toNat 0
   .refine(ih.map λr hr=>step r (by rw[Ya e,Ya e2];exact hr)).cong ?_;rw[Ze2 hi];exact⟨λhp=>⟨λ_=>by rw[gd hi',gd hk];exact e2,hp⟩,λhp=>hp.2⟩
   .refine⟨λhp=>absurd ((Ze2 hi).1 hp).1 λhg=>e2 ?_,λ_=>⟨_,_,step _ (by rw[Ya e,Yb e2])⟩⟩;have:=hg (by rw[gd hi',gd hk];exact e);rw[gd hi',gd hk]at this;exact this
  .refine(ih.map λr hr=>step r (by rw[Yb e];exact hr)).cong ?_;rw[Ze2 hi];exact⟨λhp=>⟨λhq=>absurd (by rw[gd hi',gd hk]at hq;exact hq) e,hp⟩,λhp=>hp.2⟩
def ZHl{d:Zl}(hd:LeD d){t:Zc}{f:Zp}(hf:f.From.length<=4294967296)(hv:QH d f=true){n:Nat}(h:Zih t f n)(a:UP)(b:Int):∀k,k<=t.Rows.length->Vio (Zd6 d f a b t.Rows k) (.own 0,[.arr 3 1 true (([]:V6).map ic)]) (Qo t.Rows f k):=by
 have h8:=h.rows.len;refine down _ ?_ ?_
 .refine⟨λ_=>W8.2.1.2.2 _ _ _ _ _ _ _ (by rw[Ynx]),λhn=>absurd (λk' h1 h2=>by omega) hn⟩
 .intro k hk ih;rw[<-show w ((k:Int)+1)=((k+1:Nat):Int)from wS hk (by omega)]at ih;refine((ZHk (d:=d) h hk a b ih 0 (Yd _)).map λr hr=>?_).cong (Z3q hk).symm;apply W8.2.1.2.2;rw[Ypx];refine⟨_,Z3o hd f hf,?_⟩;rw[hv,Ya rfl];exact⟨by omega,_,gE hk,_,_,ZlV (h.rows.row _ (Yc hk)) h.rows.n3 h.cols,hr⟩
open Classical in
noncomputable def JB(d:Zl)(f:Zp):Bool:=QH d f && (match X1 d f.Name with
 |none=>true
 |some t=>decide (Qo t.Rows f 0))
def ZHm{d:Zl}(h:LeD d)(f:Zp)(hf:f.From.length<=4294967296):ZfK d f=some (Bo (JB d f),[]):=by
 refine WY.2.2.2.1 _ _ _ ⟨_,Z3n h f hf,?_⟩;unfold JB;rcases tf (QH d f)with hv|hv
 .rw[hv];rfl
 rw[hv,Ya rfl,Yw]
 cases hq:X1 d f.Name with
 |none=>unfold QH at hv;rw[hq]at hv;cases hv
 |some t =>
  have hl:=Zcc d h f.Name;rw[hq]at hl;have V:=(ZHj (Z3p hq hv) 0 (Yd _)).map (L':=ZfJ d f) λr hr=>WY.2.2.1.2 _ _ _ ⟨_,Z3n h f hf,by rw[hv,Ya rfl];exact .inr ⟨_,_,_,hl,hr⟩⟩
  by_cases e:Qo t.Rows f 0
  .exact .inl ⟨V.1 e,by simp[e]⟩
  .obtain⟨x,y,hxy⟩:=V.2 e;exact .inr ⟨_,hxy,by simp[e]⟩
def ZHn{d:Zl}(h:LeD d)(f:Zp)(hf:f.From.length<=4294967296):Zhg d f=some (Bo (JB d f),[]):=by
 refine W8.2.2.2.1 _ _ _ ⟨_,Z3o h f hf,?_⟩;unfold JB;rcases tf (QH d f)with hv|hv
 .rw[hv];rfl
 rw[hv,Ya rfl,Yw]
 cases hq:X1 d f.Name with
 |none=>unfold QH at hv;rw[hq]at hv;cases hv
 |some t =>
  have hl:=Zcd d h f.Name;rw[hq]at hl;have V:=(ZHl h hf hv (Z3p hq hv) t.Name t.Arity 0 (Yd _)).map (L':=ZkT d f) λr hr=>W8.2.2.1.2 _ _ _ (.inl ⟨_,_,_,hl,hr⟩)
  by_cases e:Qo t.Rows f 0
  .exact⟨[],V.1 e,by simp[e]⟩
  .obtain⟨x,y,hxy⟩:=V.2 e;exact⟨_,hxy,by simp[e]⟩
