/-
  Parts of the proofs for this seat: LI MK SP LS LJ LK LL.
-/
import Derived.Test.YtnnjbejcffjgfaaGreatP19
import Derived.Test.YtnnjbejcffjgfaaGreatP20
import Derived.Test.YtnnjbejcffjgfaaGreatP21
set_option linter.unusedSectionVars false
set_option linter.unusedSimpArgs false
set_option linter.unusedVariables false
set_option maxRecDepth 100000
set_option maxHeartbeats 4000000
namespace Go.Proofs.YtnnjbejcffjgfaaGreat
open Go.AM
theorem cmpR_lt{a b c:List Int}(h1:cmpR a b<0)(h2:cmpR b c<0):cmpR a c<0:=by
 have h:=Zn0 a b c (by omega) (by omega);rcases Yc8 h with h|h
 .exact h
 .have:=Zfb _ _ h;subst this;have:=Zex a b;omega
theorem Zb6d:∀{l:List (List Int)} {p:Option (List Int)},adjL ltR p l=true->AscR l/\∀q,p=some q->∀x∈l,cmpR q x<0
 |[],p,_=>⟨List.Pairwise.nil,λq _ x hx=>by cases hx⟩
 |a::l,p,h=>by
  simp only[adjL,Yc]at h;obtain⟨h1,h2⟩:=Zb6d h.2;have h3:=h2 a rfl;refine⟨Ybm.2 ⟨h3,h1⟩,λq hq x hx=>?_⟩;subst hq;have h4:cmpR q a<0:=by simpa[nxt,ltR]using h.1
  rcases Yx.1 hx with rfl|hx
  .exact h4
  .exact cmpR_lt h4 (h3 x hx)
theorem Zb6e{t:Ze}(h:Z3 t=true):ansR t.Rows=t.Rows:=by
 unfold Z3 at h;simp only[Yc]at h;exact Z6c (Zbkb _) (Zb6d h.2.2).1 λx=>Z6d _ _
def allC(n:Int):List Int:=if n=1 then[0]else if n=2 then[0,1]else[0,1,2]
theorem Zb6f{t:Ze}(h:Z3 t=true){r:List Int}(hr:r∈t.Rows):(r.length:Int)=t.Arity:=by
 unfold Z3 at h;simp only[Yc]at h;have h1:=Yn.1 h.2.1 r hr;unfold rwB at h1;simp only[Yc,decide_eq_true_eq]at h1;exact h1.2
theorem sel_all{n:Int}(h:inR n 1 3=true){r:List Int}(hr:(r.length:Int)=n):selC r (allC n)=r:=by
 have h':=Zy.1 h
 match r with
 |[a] =>
  obtain rfl:n=1:=by simpa using hr.symm
  rfl
 |[a,b] =>
  obtain rfl:n=2:=by simpa using hr.symm
  rfl
 |[a,b,c] =>
  obtain rfl:n=3:=by simpa using hr.symm
  rfl
 |[]=>simp at hr;omega
 |_::_::_::_::_=>simp at hr;omega
theorem Zb6g{t:Ze}(h:Z3 t=true):grpV t.Rows (allC t.Arity)=t.Rows:=by
 unfold grpV
 have:selT t.Rows (allC t.Arity)=t.Rows:=by
  unfold selT;refine(Ybw λr hr=>sel_all (Zcd h) (Zb6f h hr)).trans (List.map_id _)
 rw[this,Zb6e h]
theorem Zb6h{t:Ze}(h:Z3 t=true):(Zt t).Groups[((((Zt t).Groups.length:Int)-1)).toNat]?=some (grp t.Rows (allC t.Arity)):=by
 have h':=Zy.1 (Zcd h)
 have:t.Arity=1\/t.Arity=2\/t.Arity=3:=by omega
 unfold Zt subs allC;rcases this with e|e|e<;>simp[e]
theorem Zb6i{t:Ze}(h:Z3 t=true):0<(Zt t).Groups.length/\(Zt t).Groups.length<=7:=by
 have:=Zln (Zcd h);simpa[Zt]using this
theorem Zy0{t:Ze}(hT:Z3 t=true):LeS (Zt t):=by
 have h7:=Zln (Zcd hT);have h8:=Zd7 hT;refine⟨by simp[Zt];omega,λg hg=>?_⟩;obtain⟨c,hc,rfl⟩:=Yr.1 hg;have hc3:=(Zbkc (Zcd hT) c hc).1;have hg:=Z6g t.Rows c;refine⟨by simp only[grp];omega,⟨by simp only[grp];omega,λr hr=>?_⟩,by simp only[grp,grpN,Yo];omega⟩;have:=Zbkd hr;omega
theorem row4{t:Ze}(h:Z3 t=true):∀r∈t.Rows,r.length<=4:=λr hr=>by
 have:=Zb6f h hr;have:=Zy.1 (Zcd h);omega
theorem Zb6j{t:Ze}(h:LeT t)(hv:Z3 t=true):Zkb (Zt t)=some (.tup [.agg [.t (.str t.Name),I t.Arity,L 1 (t.Rows.map isc)],Bo true],[]):=by
 have h7:=Zb6i hv;have h8:=Zd7 hv;refine Zcmt _ _ ?_;rw[if_pos (by omega),w_in (x:=((Zt t).Groups.length:Int)-1) ⟨by omega,by omega⟩];refine⟨by omega,_,Zb6h hv,t.Rows,?_,true,?_,?_⟩
 .rw[show(grp t.Rows (allC t.Arity)).Values=t.Rows from Zb6g hv];exact Zbjy _ (row4 hv) (by omega)
 .have:=Z5z t h;rw[hv]at this;exact this
 .rw[if_pos rfl];refine .inr ⟨_,_,_,_,_,Zbkj h hv,true,?_,rfl⟩;have:=Zb5y (Zt t) (Zt t) (Zy0 hv);rw[decide_eq_true rfl]at this;exact this
theorem Zb6k{t:Ze}(h:LeT t)(hv:Z3 t=true):Zpj (Zt t)=some (Bo true,[]):=Zcmu _ _ (.inl ⟨t,true,Zb6j h hv,rfl⟩)
theorem l_nt{t:Ze}(h:LeT t)(hv:Z3 t=true)(a:ByteArray)(b:Int):∀i,i<=t.Rows.length->∀acc:List (List Int),acc.length<=i->(∀x∈acc,x.length<=4)->Zll acc (t.Rows.drop i)=t.Rows->Zwk a b t.Name t.Arity acc t.Rows i=some (.tup [.agg [.t (.str t.Name),I t.Arity,.own 0],Bo true],[.arr 56 1 true (t.Rows.map isc)]):=by
 have h8:=Zd7 hv;refine down _ ?_ ?_
 .intro acc ha h4 he;refine Zb1m _ _ _ _ _ _ _ _ ?_;rw[Yg]at he;have he:acc=t.Rows:=he;subst he;rw[if_neg (by omega)];have:=Z50 t h;rw[hv]at this;exact⟨true,this,by rw[if_pos rfl]⟩
 .intro i hi ih acc ha h4 he;refine Zb1m _ _ _ _ _ _ _ _ ?_;rw[Yd hi]at he;have hr4:=row4 hv _ (Yb hi);have hp:=Z6f acc t.Rows[i] false;rw[if_pos (by omega),if_pos (by omega),wS hi (by omega)];refine⟨by omega,_,gE hi,_,x_put1 (by omega) h4 hr4,ih _ (by omega) (λx hx=>?_) he⟩;rcases(Zr8 _ _ _).1 hx with hx|rfl
  .exact h4 x hx
  .exact hr4
theorem x_put0(row:List Int)(hr:row.length<=4):Z22 row=some (.own 0,[.arr 56 1 true ((putR [] row false).map isc)]):=by
 refine Zcpr _ _ ?_;refine Zcpq _ _ _ _ _ ?_;simp[putR];omega
theorem Zcvo{t:Ze}(hv:Z3 t=true):Zmy t.Name t.Arity=some (Bo true,[]):=by
 unfold Z3 at hv;simp only[Yc]at hv;refine Zb00 _ _ _ ⟨_,Zbjn _,?_⟩;rw[hv.1.1.1,if_pos rfl];refine⟨_,Z8 _ _ _,?_⟩;rw[hv.1.1.2,if_pos rfl];refine Zb0z _ _ _ _ ?_;rw[if_neg (by omega)]
theorem x_NewT{t:Ze}(h:LeT t)(hv:Z3 t=true):Z25 t.Name t.Arity t.Rows=some (.tup [.agg [.t (.str t.Name),I t.Arity,.own 0],Bo true],[.arr 56 1 true (t.Rows.map isc)]):=by
 have h8:=Zd7 hv;refine Zcpt _ _ _ _ ?_;refine Zcps _ _ _ _ _ _ _ ?_;have hp:=Zb5q t.Rows;rw[Zb6e hv]at hp;by_cases h0:t.Rows=[]
 .rw[if_neg (by rw[h0];simp)];refine⟨true,?_,by rw[if_pos rfl,h0]⟩;exact Zcvo hv
 .have hl:0<t.Rows.length:=Yba.2 h0;rw[if_pos (by omega),show w (0+1)=((0+1:Nat):Int) by decide];have hr4:=row4 hv _ (Yb hl);refine⟨by omega,_,gE (i:=0) hl,_,x_put0 _ hr4,l_nt h hv _ _ (0+1) (by omega) _ ?_ ?_ ?_⟩
  .exact Z6f [] _ _
  .intro x hx;rcases(Zr8 _ _ _).1 hx with hx|rfl
   .cases hx
   .exact hr4
  .have e:t.Rows=t.Rows[0]::t.Rows.drop (0+1):=by
    have:=Yd hl
    rwa [Yq]at this
   rw[e]at hp;exact hp.trans e.symm
theorem x_13T{t:Ze}(h:LeT t)(hv:Z3 t=true):Z26 (Zt t)=some (.tup [.agg [.t (.str t.Name),I t.Arity,.own 0],Bo true],[.arr 56 1 true (t.Rows.map isc)]):=by
 have h7:=Zb6i hv;refine Zcpu _ _ ?_;rw[if_neg (by omega),w_in (x:=((Zt t).Groups.length:Int)-1) ⟨by omega,by omega⟩];refine⟨by omega,_,Zb6h hv,_,_,_,_,?_,rfl⟩;rw[show(grp t.Rows (allC t.Arity)).Values=t.Rows from Zb6g hv];exact x_NewT h hv
theorem Zbkl{t:Ze}(h:LeT t)(hv:Z3 t=true):Zit (Zt t)=some (Bo true,[]):=by
 refine Zcpv _ _ ⟨_,_,_,_,x_13T h hv,?_⟩;rw[if_pos rfl];refine .inr ⟨_,_,_,_,_,Zbkk h hv,true,?_,rfl⟩;have:=Zb5z (Zt t) (Zt t) (Zy0 hv) (Zy0 hv);rw[decide_eq_true rfl]at this;exact this
def degS(t:Ze)(cols:List Int):List Int:=(srtI (grpN t.Rows cols)).reverse
def revO(l:List Int)(i k:Nat):Int:=if k<i\/l.length-1-k<i then l.getD (l.length-1-k) 0 else l.getD k 0
theorem l_rev(l:List Int)(hl:l.length<=1000):∀(m i:Nat) (s:List Int),m+2*i=l.length->s.length=l.length->(∀k,k<l.length->s.getD k 0=revO l i k)->Zud s i ((l.length:Int)-1-i)=some (.tup [],[.arr 3 1 true (l.reverse.map ic)]):=by
 intro m
 induction m using Nat.strongRecOn with
 |_ m ih =>
  intro i s hm hs hk;refine Zcm2 _ _ _ _ ?_;by_cases c:(i:Int)<(l.length:Int)-1-i
  .have hj:((l.length:Int)-1-i).toNat=l.length-1-i:=by omega
   rw[if_pos c,hj,Yh,w_in (x:=(i:Int)+1) ⟨by omega,by omega⟩,w_in (x:=(l.length:Int)-1-i-1) ⟨by omega,by omega⟩];refine⟨by omega,_,gD (show l.length-1-i<s.length by omega),by omega,_,gD (show i<s.length by omega),_,gD (by rw[Y9];omega),?_⟩
   have:=ih (m-2) (by omega) (i+1) ((s.set i (s.getD (l.length-1-i) 0)).set (l.length-1-i) (s.getD i 0)) (by omega) (by simp[hs]) (λk hk'=>by
    have h1:=hk k hk';have h2:=hk i (by omega);have h3:=hk (l.length-1-i) (by omega);unfold revO at h1 h2 h3|-;rw[if_neg (by omega)]at h2;rw[if_neg (by omega)]at h3;rw[Yy,List.getElem?_set];by_cases e1:l.length-1-i=k
    .rw[if_pos e1,if_pos (by rw[Y9];omega),if_pos (by omega),show l.length-1-k=i by omega,<-h2];rfl
    .rw[if_neg e1,List.getElem?_set];by_cases e2:i=k
     .rw[if_pos e2,if_pos (by omega),if_pos (by omega),<-e2,<-h3];rfl
     .rw[if_neg e2,<-Yy,h1];by_cases e3:k<i\/l.length-1-k<i
      .rw[if_pos e3,if_pos (by omega)]
      .rw[if_neg e3,if_neg (by omega)])
   have e:((i+1:Nat):Int)=(i:Int)+1:=by omega
   rw[e,show(l.length:Int)-1-((i:Int)+1)=(l.length:Int)-1-i-1 by omega]at this;exact this
  .rw[if_neg c]
   have:s=l.reverse:=by
    refine Ycp (by simp[hs]) λk h1 h2=>?_
    have h3:=hk k (by omega);have e1:s[k]=s.getD k 0:=by rw[Yy,Yj h1];rfl
    rw[e1,h3,List.getElem_reverse];unfold revO;have e2:∀q,(hq:q<l.length)->l.getD q 0=l[q]:=λq hq=>by rw[Yy,Yj hq];rfl
    by_cases e3:k<i\/l.length-1-k<i
    .rw[if_pos e3,e2 _ (by omega)]
    .rw[if_neg e3,e2 _ (by omega)];congr 1;omega
   rw[this]
theorem x_rev{l:List Int}(hl:l.length<=1000):Zuc l=some (.tup [],[.arr 3 1 true (l.reverse.map ic)]):=by
 refine Zcm3 _ _ ?_;rw[w_in (x:=(l.length:Int)-1) ⟨by omega,by omega⟩];have:=l_rev l hl l.length 0 l (by omega) rfl (λk hk=>by unfold revO;rw[if_neg (by omega)]);simpa using this
theorem Zbkm(rows:List (List Int))(cols:List Int):(grpN rows cols).length<=rows.length:=by
 unfold grpN;rw[Yo];exact Z6g rows cols
theorem Zb6l(l:List Int):(srtI l).length=l.length:=(Yct _ _).length_eq
theorem x_DegS{t:Ze}(h:LeT t)(hv:Z3 t=true){cols:List Int}(hc:Zbv t.Arity cols=true):Z1k t cols=some (.own 0,[.arr 3 1 true ((degS t cols).map ic)]):=by
 have h8:=Zd7 hv;have hl:=Zbkm t.Rows cols;have hs:=Zb6l (grpN t.Rows cols);refine Zcm4 _ _ _ (.inr ⟨_,_,Zbki h hv hc,_,Zbj6 (by omega),_,(x_fin (by omega)).1,_,x_rev (by omega),rfl⟩)
theorem Zbkn{t:Ze}(h:LeT t)(hv:Z3 t=true){cols:List Int}(hc:Zbv t.Arity cols=true):Zme (Zt t) cols=some (.own 0,[.arr 3 1 true ((degS t cols).map ic)]):=by
 refine Zcm5 _ _ _ (.inl ⟨t,true,Zb6j h hv,?_⟩);rw[if_pos rfl];exact⟨_,x_DegS h hv hc,rfl⟩
theorem Zbko(x:Int):∀(out:List Int) (k:Nat),k<=out.length->(∀z∈out.drop k,z<x)->(k=0\/¬out.getD (k-1) 0<x)->out.take k++[x]++out.drop k=putD x out
 |[],k,hk,_,_=>by
  have:k=0:=by simpa using hk
  subst this;rfl
 |y::ys,k,hk,h1,h2=>by
  unfold putD
  cases k with
  |zero =>
   rw[Yq]at h1;rw[if_pos ⟨h1 y (by simp),λz hz=>h1 z (by simp[hz])⟩]
   rfl
  |succ k =>
   have hn:¬(y<x/\∀z∈ys,z<x):=by
    rintro⟨c1,c2⟩;rcases h2 with h2|h2
    .omega
    .apply h2;rw[Ycx]
     cases k with
     |zero=>exact c1
     |succ k =>
      have hk':k<ys.length:=by simp at hk;omega
      have:(y::ys).getD (k+1) 0=ys[k]:=by rw[List.getD_cons_succ,Yy,Yj hk'];rfl
      rw[this];exact c2 _ (Yb hk')
   rw[if_neg hn]
   have:=Zbko x ys k (by simpa using hk) (by simpa using h1) (by
    cases k with
    |zero=>exact .inl rfl
    |succ k =>
     right;rcases h2 with h2|h2
     .omega
     .simpa using h2)
   rw[<-this];rfl
theorem putD_len(x:Int)(l:List Int):(putD x l).length=l.length+1:=by simpa using(Z5n x l).length_eq
theorem l_down0{l out:List Int}{i:Nat}(hi:i<l.length)(ho:out.length<=1000)(res:AV×List Blk)(cc:Ziv (putD l[i] out) l (w ((i:Int)+1))=some res):∀k,k<=out.length->(∀z∈out.drop k,z<l[i])->Zm8 out l i k=some res:=by
 intro k
 induction k with
 |zero =>
  intro hk hz;refine Zb12 ?_;rw[if_neg (by omega)];have e:=Zbko l[i] out 0 hk hz (.inl rfl);rw[<-e]at cc
  exact⟨by omega,by simp,by simp,by omega,_,gE hi,by simp,by simp;omega,by simpa using cc⟩
 |succ k ih =>
  intro hk hz;have hk':k<out.length:=by omega
  refine Zb12 ?_;have hw:w (((k+1:Nat):Int)-1)=(k:Int):=by rw[w_in ⟨by omega,by omega⟩];omega
  rw[if_pos (by omega),hw];refine⟨by omega,_,gDn hk',by omega,_,gE hi,?_⟩;by_cases c:out.getD k 0<l[i]
  .rw[if_pos c];refine ih (by omega) λz hz'=>?_
   rw[Yd hk']at hz';rcases Yx.1 hz' with rfl|hz'
   .rw[getI hk'];exact c
   .exact hz z hz'
  .rw[if_neg c];have e:=Zbko l[i] out (k+1) hk hz (.inr (by rw[Ycx];exact c));rw[<-e]at cc;rw[Yh];exact⟨by omega,hk,by rw[Yp];omega,by rw[Yp];omega,by rw[Yp,Yce];omega,cc⟩
theorem l_down1(l:List Int)(hl:l.length<=500):∀i,i<=l.length->∀out:List Int,out.length<=i->Ziv out l i=some (.own 0,[.arr 3 1 true (((l.drop i).foldl (λo x=>putD x o) out).map ic)]):=by
 refine down _ ?_ ?_
 .intro out ho;refine Zb1v _ _ _ _ ?_;rw[if_neg (by omega),Yg];rfl
 .intro i hi ih out ho;refine Zb1v _ _ _ _ ?_;rw[if_pos (by omega),Yd hi];exact l_down0 hi (by omega) _ (by rw[wS hi (by omega)];exact ih _ (by rw[putD_len];omega)) out.length (Yk _) (by simp)
theorem x_down{l:List Int}(hl:l.length<=500):Z3j l=some (.own 0,[.arr 3 1 true ((srtI l).reverse.map ic)]):=by
 have:=l_down1 l hl 0 (Ya _) [] (by simp);refine Zcp6 _ _ ?_;rw[<-dwn_eq];exact this
def popc(x:Int):Nat:=(if andI (shrI x 0) 1=1 then 1 else 0)+(if andI (shrI x 1) 1=1 then 1 else 0)+(if andI (shrI x 2) 1=1 then 1 else 0)+(if andI (shrI x 3) 1=1 then 1 else 0)
abbrev M16(x:Int):Prop:=0<=x/\x<16
theorem m16{x:Int}(h:M16 x):∃a:Fin 16,x=(a.1:Int):=⟨⟨x.toNat,by omega⟩,by simp;omega⟩
set_option maxRecDepth 100000 in
theorem f_or:∀a b:Fin 16,M16 (orI a.1 b.1)/\andI a.1 (orI a.1 b.1)=a.1/\(orI a.1 b.1=a.1\/popc a.1+1<=popc (orI a.1 b.1)):=by decide
set_option maxRecDepth 100000 in
theorem f_and:∀a b:Fin 16,M16 (andI a.1 b.1)/\andI (andI a.1 b.1) b.1=andI a.1 b.1/\(andI (a.1:Int) b.1=a.1->popc a.1<=popc b.1/\(popc b.1<=popc a.1->a.1=b.1)):=by decide
set_option maxRecDepth 1000000 in
theorem f_sub:∀a b c:Fin 16,andI (a.1:Int) c.1=a.1->andI (b.1:Int) c.1=b.1->andI (orI a.1 b.1) c.1=orI a.1 b.1:=by decide
set_option maxRecDepth 100000 in
theorem f_bit:∀(a:Fin 16) (i:Fin 4),(andI (shrI a.1 i.1) 1=0↔¬andI (shrI a.1 i.1) 1=1):=by decide
set_option maxRecDepth 100000 in
theorem f_shl:∀(i j:Fin 4),(andI (shrI (shlI 1 i.1) j.1) 1=1↔i=j)/\M16 (shlI 1 i.1):=by decide
set_option maxRecDepth 100000 in
theorem f_low:∀a:Fin 16,M16 (andI a.1 (w (0-a.1)))/\andI (andI a.1 (w (0-a.1))) a.1=andI a.1 (w (0-(a.1:Int))):=by decide
set_option maxRecDepth 100000 in
theorem f_pop:∀(a:Fin 16),(a.1<2->popc a.1<=1)/\(a.1<4->popc a.1<=2)/\(a.1<8->popc a.1<=3)/\popc a.1<=4:=by decide
theorem f_bits:∀a b c d:Bool,M16 (bit4 a b c d):=by decide
def Zeb(qa:List Atom)(m:Int):Nat->Bool:=λi=>decide (i<qa.length) && (!Zx m i && shr qa (shlI 1 i) m)
def Zjg(qa:List Atom)(m:Int):Int:=Zbo (Zeb qa m)
theorem nearM_16(qa:List Atom)(m:Int):M16 (Zjg qa m):=f_bits _ _ _ _
theorem Zcvp{i j:Nat}(hi:i<4)(hj:j<4):Zx (shlI 1 i) j=decide (i=j):=by
 have:=(f_shl ⟨i,hi⟩ ⟨j,hj⟩).1;simp only[Zx,Fin.mk.injEq]at this|-;rw[Ycn,decide_eq_true_eq,decide_eq_true_eq];exact this
theorem Zg4{m:Int}(hm:M16 m){i:Nat}(hi:i<4):andI (shrI m i) 1=0↔Zx m i=false:=by
 obtain⟨a,rfl⟩:=m16 hm;have:=f_bit a ⟨i,hi⟩;simp only at this;rw[this,Zx,decide_eq_false_iff_not]
theorem hasV_one(qa:List Atom)(h4:qa.length<=4){i:Nat}(hi:i<qa.length)(u:Int):∀k,k<=qa.length->hasV (shlI 1 i) (qa.drop k) k u=(decide (k<=i) && has qa[i].Vars u):=by
 refine down _ ?_ ?_
 .rw[Yg,hasV,decide_eq_false (by omega)];rfl
 .intro k hk ih;rw[Z8r _ hk,ih,Zcvp (by omega) (by omega)];by_cases e:i=k
  .subst e;rw[decide_eq_true rfl,decide_eq_true (Yk _),decide_eq_false (by omega)];simp
  .by_cases e2:k<=i
   .rw[decide_eq_false e,decide_eq_true (by omega),decide_eq_true e2];simp
   .rw[decide_eq_false e,decide_eq_false (by omega),decide_eq_false e2];simp
theorem pV_one(qa:List Atom)(h4:qa.length<=4){i:Nat}(hi:i<qa.length)(u:Nat):pV (shlI 1 i) qa u=has qa[i].Vars u:=by
 have:=hasV_one qa h4 hi u 0 (Ya _);simpa[pV]using this
theorem shr_one{n:Int}{qa:List Atom}(h:Z6 n qa=true){i:Nat}(hi:i<qa.length)(m:Int):shr qa (shlI 1 i) m=qa[i].Vars.any (λv=>has (varL m qa n.toNat) v):=by
 have h4:=(Zen h).2;rw[Ycn,shr,List.any_eq_true,List.any_eq_true];simp only[Zbo5 h,pV_one qa h4 hi,Yc,Ybo];constructor
 .rintro⟨u,hu,h1,h2⟩;refine⟨(u:Int),Zij.1 h1,?_⟩;simp only[vin,Yc];exact⟨by simp[inR];omega,by simpa using h2⟩
 .rintro⟨v,hv,h2⟩;have h3:=Zs7 h _ (Yb hi) v hv;simp[inR]at h3;simp only[vin,Yc]at h2;refine⟨v.toNat,by omega,?_,h2.2⟩;rw[Zij,Int.toNat_of_nonneg h3.1];exact hv
theorem Zb6m{qa:List Atom}{m:Int}{i:Nat}(hi:i<4)(h:Zeb qa m i=true):addV (λu=>decide (u<i) && Zeb qa m u) [(i:Int)]=λu=>decide (u<i+1) && Zeb qa m u:=by
 funext u;simp only[addV,has];by_cases e:u=i
 .subst e;rw[decide_eq_true (by omega:u<u+1),h];simp
 .by_cases e2:u<i
  .rw[decide_eq_true e2,decide_eq_true (by omega)]
   have:¬((u:Int)=(i:Int)):=by omega
   simp[this]
  .rw[decide_eq_false e2,decide_eq_false (by omega)]
   have:¬((u:Int)=(i:Int)):=by omega
   simp[this]
theorem Z6l{qa:List Atom}{m:Int}{i:Nat}(h:Zeb qa m i=false):(λu=>decide (u<i) && Zeb qa m u)=λu=>decide (u<i+1) && Zeb qa m u:=by
 funext u;by_cases e:u=i
 .subst e;rw[h];simp
 .by_cases e2:u<i
  .rw[decide_eq_true e2,decide_eq_true (by omega)]
  .rw[decide_eq_false e2,decide_eq_false (by omega)]
theorem Zb6n(qa:List Atom)(m:Int):(λu=>decide (u<qa.length) && Zeb qa m u)=Zeb qa m:=by
 funext u;unfold Zeb;by_cases e:u<qa.length
 .rw[decide_eq_true e];simp
 .rw[decide_eq_false e];simp
theorem Zcvq(q:Zc)(hq:LeQ q)(hv:Z6 q.Zp q.Atoms=true)(m:Int)(hm:M16 m):∀i,i<=q.Atoms.length->
  Zno (varL m q.Atoms q.Zp.toNat) m (Zbo λu=>decide (u<i) && Zeb q.Atoms m u) q.Atoms q.Atoms.length i=some (I (Zjg q.Atoms m),[]):=by
 have h4:=(Zen hv).2;refine down _ ?_ ?_
 .refine Zb3c _ _ _ _ _ _ _ ?_;rw[if_neg (by omega),Zb6n];rfl
 .intro i hi ih;have hi4:i<4:=by omega
  have hinc:=Zd0 (i:=i) (by omega);simp only[Int.natCast_add,Ydf]at ih;refine Zb3c _ _ _ _ _ _ _ ?_;rw[if_pos (by omega)];refine⟨by omega,q.Atoms[i],by rw[Yh];exact Yj hi,by omega,?_⟩;rw[show w ((i:Int)+1)=(i:Int)+1 from hinc];have hn:Zeb q.Atoms m i=(!Zx m i && q.Atoms[i].Vars.any (λv=>has (varL m q.Atoms q.Zp.toNat) v)):=by
   unfold Zeb;rw[decide_eq_true hi,shr_one hv hi];simp
  have hvars:=Zcda hv _ (Yb hi);have hvl:=Z8s m q.Atoms q.Zp.toNat;have hvn:=Zl5 hv;rcases tf (Zx m i)with e1|e1
  .rw[if_pos ((Zg4 hm hi4).2 e1)];refine⟨_,x_both q.Atoms[i].Vars (varL m q.Atoms q.Zp.toNat) (by omega) (by omega),?_⟩;rcases tf (q.Atoms[i].Vars.any (λv=>has (varL m q.Atoms q.Zp.toNat) v))with e2|e2
   .have e3:q.Atoms[i].Vars.filter (has (varL m q.Atoms q.Zp.toNat))=[]:=by
     rw[Ycr];intro a ha;have:=Ydn.1 e2 a ha;simpa using this
    rw[e3,if_neg (by simp),Z6l (by rw[hn,e2];simp)];exact ih
   .have e3:0<(q.Atoms[i].Vars.filter (has (varL m q.Atoms q.Zp.toNat))).length:=by
     obtain⟨v,hv1,hv2⟩:=List.any_eq_true.1 e2;exact List.length_pos_of_mem (Ycj.2 ⟨hv1,hv2⟩)
    rw[if_pos (by omega),Z0i _ (by simp[inR];omega),Zb6m hi4 (by rw[hn,e1,e2];rfl)];exact ih
  .rw[if_neg (λhc=>by rw[(Zg4 hm hi4).1 hc]at e1;cases e1),Z6l (by rw[hn,e1];rfl)];exact ih
theorem Zb6o(q:Zc)(hq:LeQ q)(hv:Z6 q.Zp q.Atoms=true)(m:Int)(hm:M16 m):Z4n q m=some (I (Zjg q.Atoms m),[]):=by
 have b:=Zcvq q hq hv m hm 0 (Ya _);refine Zcrt _ _ _ ⟨_,Z5w q m hq hv,?_⟩;simpa[Zbo,bit4]using b
theorem l_near(q:Zc)(hq:LeQ q)(hv:Z6 q.Zp q.Atoms=true)(m:Int)(hm:M16 m):∀i,i<=q.Atoms.length->
  Znq q m (Zbo λu=>decide (u<i) && Zeb q.Atoms m u) (Zbo (pV m q.Atoms)) i=some (I (Zjg q.Atoms m),[]):=by
 have h4:=(Zen hv).2;refine down _ ?_ ?_
 .refine Zb3h _ _ _ _ _ _ ?_;rw[if_neg (by omega),Zb6n];rfl
 .intro i hi ih;have hi4:i<4:=by omega
  have hinc:=Zd0 (i:=i) (by omega);simp only[Int.natCast_add,Ydf]at ih;refine Zb3h _ _ _ _ _ _ ?_;rw[if_pos (by omega)];refine⟨by omega,?_⟩;rw[show w ((i:Int)+1)=(i:Int)+1 from hinc];have hn:Zeb q.Atoms m i=(!Zx m i && shr q.Atoms (shlI 1 i) m):=by
   unfold Zeb;rw[decide_eq_true hi];simp
  rcases tf (Zx m i)with e1|e1
  .rw[if_pos ((Zg4 hm hi4).2 e1)];refine⟨_,Z5x q (shlI 1 i) hq (Zs7 hv),?_⟩;rcases tf (shr q.Atoms (shlI 1 i) m)with e2|e2
   .rw[if_pos ((Zbo6 q.Atoms (shlI 1 i) m).2 e2),Z6l (by rw[hn,e2];simp)];exact ih
   .rw[if_neg (λhc=>by rw[(Zbo6 q.Atoms (shlI 1 i) m).1 hc]at e2;cases e2),Z0i _ (by simp[inR];omega),Zb6m hi4 (by rw[hn,e1,e2];rfl)];exact ih
  .rw[if_neg (λhc=>by rw[(Zg4 hm hi4).1 hc]at e1;cases e1),Z6l (by rw[hn,e1];rfl)];exact ih
theorem x_near(q:Zc)(hq:LeQ q)(hv:Z6 q.Zp q.Atoms=true)(m:Int)(hm:M16 m):Z4q q m=some (I (Zjg q.Atoms m),[]):=by
 have b:=l_near q hq hv m hm 0 (Ya _);refine Zcrv _ _ _ ⟨_,Z5x q m hq (Zs7 hv),?_⟩;simpa[Zbo,bit4]using b
def Zh5(qa:List Atom)(mask x:Int):Int:=orI x (andI (Zjg qa x) mask)
def iterM(qa:List Atom)(mask:Int):Nat->Int->Int
 |0,x=>x
 |n+1,x=>iterM qa mask n (Zh5 qa mask x)
def conn(qa:List Atom)(mask:Int):Bool:=decide (iterM qa mask qa.length (andI mask (w (0-mask)))=mask)
abbrev SubM(x mask:Int):Prop:=andI x mask=x
theorem Zbkp{qa:List Atom}{mask x:Int}(hm:M16 mask)(hx:M16 x)(hs:SubM x mask):M16 (Zh5 qa mask x)/\SubM (Zh5 qa mask x) mask/\(Zh5 qa mask x=x\/popc x+1<=popc (Zh5 qa mask x)):=by
 obtain⟨a,rfl⟩:=m16 hx;obtain⟨b,rfl⟩:=m16 hm;obtain⟨c,hc⟩:=m16 (nearM_16 qa (a.1:Int));unfold Zh5;rw[hc];obtain⟨d1,d2,_⟩:=f_and c b;obtain⟨d,hd⟩:=m16 d1;rw[hd]at d2|-;obtain⟨e1,_,e3⟩:=f_or a d;exact⟨e1,f_sub a d b hs d2,e3⟩
theorem Zb6p{qa:List Atom}{mask x:Int}(h:Zh5 qa mask x=x):∀n,iterM qa mask n x=x
 |0=>rfl
 |n+1=>by rw[iterM,h];exact Zb6p h n
theorem Zcvr(q:Zc)(hq:LeQ q)(hv:Z6 q.Zp q.Atoms=true)(mask:Int)(hm:M16 mask)(hp:popc mask<=q.Atoms.length):∀(f:Nat) (x:Int),M16 x->SubM x mask->q.Atoms.length<=popc x+f->
  Zx4 q mask x=some (Bo (decide (iterM q.Atoms mask f x=mask)),[]):=by
 intro f
 induction f with
 |zero =>
  intro x hx hs hf;have hxm:x=mask:=by
   obtain⟨a,rfl⟩:=m16 hx;obtain⟨b,rfl⟩:=m16 hm;have:=((f_and a b).2.2 hs).2 (by omega);omega
  obtain⟨s1,s2,s3⟩:=Zbkp (qa:=q.Atoms) hm hx hs;have hfix:Zh5 q.Atoms mask x=x:=by
   rcases s3 with h|h
   .exact h
   .obtain⟨a,ha⟩:=m16 s1;obtain⟨b,rfl⟩:=m16 hm;rw[ha]at s2 h;have:=((f_and a b).2.2 s2).1;rw[hxm]at h;omega
  refine Zb3d _ _ _ _ ⟨_,Zb6o q hq hv x hx,?_⟩
  rw[if_pos (show orI x (andI (Zjg q.Atoms x) mask)=x from hfix)];rfl
 |succ f ih =>
  intro x hx hs hf;obtain⟨s1,s2,s3⟩:=Zbkp (qa:=q.Atoms) hm hx hs;refine Zb3d _ _ _ _ ⟨_,Zb6o q hq hv x hx,?_⟩;by_cases h:Zh5 q.Atoms mask x=x
  .rw[if_pos (show orI x (andI (Zjg q.Atoms x) mask)=x from h),Zb6p h]
  .rw[if_neg (show ¬orI x (andI (Zjg q.Atoms x) mask)=x from h)];exact ih (Zh5 q.Atoms mask x) s1 s2 (by rcases s3 with h'|h';exact absurd h' h;omega)
theorem l_joined(q:Zc)(hq:LeQ q)(hv:Z6 q.Zp q.Atoms=true)(mask:Int)(hm:M16 mask):∀i,i<=q.Atoms.length->∀x,M16 x->SubM x mask->
  Zx6 q mask x i=some (Bo (decide (iterM q.Atoms mask (q.Atoms.length-i) x=mask)),[]):=by
 have h4:=(Zen hv).2;refine down _ ?_ ?_
 .intro x _ _;refine Zb3i _ _ _ _ _ ?_;rw[if_neg (by omega),Y6];rfl
 .intro i hi ih x hx hs;obtain⟨s1,s2,s3⟩:=Zbkp (qa:=q.Atoms) hm hx hs;have hinc:=Zd0 (i:=i) (by omega);refine Zb3i _ _ _ _ _ ?_;rw[if_pos (by omega)];refine⟨_,x_near q hq hv x hx,?_⟩;have ih:=ih _ s1 s2;simp only[Int.natCast_add,Ydf]at ih;rw[show w ((i:Int)+1)=(i:Int)+1 from hinc,show q.Atoms.length-i=(q.Atoms.length-(i+1))+1 by omega,iterM];exact ih
abbrev MQ(qa:List Atom)(m:Int):Prop:=0<=m/\m<2 ^ qa.length
theorem MQ.m16{n:Int}{qa:List Atom}{m:Int}(hv:Z6 n qa=true)(h:MQ qa m):M16 m/\popc m<=qa.length:=by
 have hl:=Zen hv;obtain⟨h1,h2⟩:=h;have e:qa.length=1\/qa.length=2\/qa.length=3\/qa.length=4:=by omega
 have k16:M16 m:=by rcases e with e|e|e|e<;>rw[e]at h2<;>exact⟨h1,by omega⟩
 refine⟨k16,?_⟩;obtain⟨a,rfl⟩:=Go.Proofs.YtnnjbejcffjgfaaGreat.m16 k16;obtain⟨p1,p2,p3,p4⟩:=f_pop a;rcases e with e|e|e|e<;>rw[e]at h2|-
 .exact p1 (by omega)
 .exact p2 (by omega)
 .exact p3 (by omega)
 .exact p4
theorem Zb6q(q:Zc)(hq:LeQ q)(hv:Z6 q.Zp q.Atoms=true)(m:Int)(hm:MQ q.Atoms m)(h0:m≠0):Zrp q m=some (Bo (conn q.Atoms m),[]):=by
 obtain⟨k1,k2⟩:=hm.m16 hv;refine Zb3e _ _ _ ?_;rw[if_neg h0];obtain⟨a,rfl⟩:=m16 k1;obtain⟨l1,l2⟩:=f_low a;exact Zcvr q hq hv _ k1 k2 q.Atoms.length _ l1 l2 (by omega)
theorem x_joined(q:Zc)(hq:LeQ q)(hv:Z6 q.Zp q.Atoms=true)(m:Int)(hm:MQ q.Atoms m):Zx5 q m=some (Bo (conn q.Atoms m),[]):=by
 obtain⟨k1,k2⟩:=hm.m16 hv;refine Zcrw _ _ _ ?_;obtain⟨a,rfl⟩:=m16 k1;obtain⟨l1,l2⟩:=f_low a;exact l_joined q hq hv _ k1 0 (Ya _) _ l1 l2
theorem Zjh{n:Int}{qa:List Atom}(hv:Z6 n qa=true):Zbm n qa=2 ^ qa.length-1:=by
 unfold Zbm;rw[if_pos hv,(Zj7 hv).2.1]
theorem Zb6r(q:Zc)(hq:LeQ q)(m:Int):Zpp q m=some (Bo (Z6 q.Zp q.Atoms && inR m 0 (Zbm q.Zp q.Atoms)),[]):=by
 refine Zcm9 _ _ _ ⟨_,Zbjo q hq,?_⟩;rcases tf (Z6 q.Zp q.Atoms)with e|e
 .rw[e];simp
 .rw[e,if_pos rfl];refine⟨by omega,_,Zbu _ _ _,?_⟩;rw[show w (shlI 1 (q.Atoms.length:Int)-1)=shlI 1 (q.Atoms.length:Int)-1 from(Zj7 e).2.2.1];unfold Zbm;rw[if_pos e];simp
theorem Zb6s(q:Zc)(hq:LeQ q)(m:Int):Zq5 q m=some (Bo (Z6 q.Zp q.Atoms && inR m 0 (Zbm q.Zp q.Atoms)),[]):=by
 refine Zcqb _ _ _ ⟨_,Zbjx q hq,?_⟩;rcases tf (Z6 q.Zp q.Atoms)with e|e
 .rw[e];simp
 .rw[e,if_pos rfl];refine⟨by omega,_,Z8 _ _ _,?_⟩;rw[show w (shlI 1 (q.Atoms.length:Int)-1)=shlI 1 (q.Atoms.length:Int)-1 from(Zj7 e).2.2.1];unfold Zbm;rw[if_pos e];simp
theorem inR_MQ{n:Int}{qa:List Atom}(hv:Z6 n qa=true){m:Int}(h:inR m 0 (Zbm n qa)=true):MQ qa m:=by
 rw[Zjh hv]at h;simp[inR]at h;exact⟨h.1,by omega⟩
def Zg5(n:Int)(qa:List Atom)(m:Int):Bool:=Z6 n qa && inR m 0 (Zbm n qa) && decide (m≠0) && conn qa m
theorem Zcvs(q:Zc)(hq:LeQ q)(m:Int):Zx8 q m=some (Bo (Zg5 q.Zp q.Atoms m),[]):=by
 refine Zcrz _ _ _ ⟨_,Zb6r q hq m,?_⟩;unfold Zg5;rcases tf (Z6 q.Zp q.Atoms)with e|e
 .rw[e];simp
 rcases tf (inR m 0 (Zbm q.Zp q.Atoms))with e1|e1
 .rw[e,e1];simp
 rw[e,e1,if_pos (by rfl)];have hm:=inR_MQ e e1;by_cases h0:m=0
 .refine⟨false,Zb3e _ _ _ (by rw[if_pos h0]),?_⟩;simp[h0]
 .exact⟨_,Zb6q q hq e m hm h0,by simp[h0]⟩
theorem Zbkq(q:Zc)(hq:LeQ q)(m:Int):Znr q m=some (Bo (Zg5 q.Zp q.Atoms m),[]):=by
 refine Zcrx _ _ _ ⟨_,Zb6s q hq m,?_⟩;unfold Zg5;rcases tf (Z6 q.Zp q.Atoms)with e|e
 .rw[e];simp
 rcases tf (inR m 0 (Zbm q.Zp q.Atoms))with e1|e1
 .rw[e,e1];simp
 rw[e,e1,if_pos (by rfl)];have hm:=inR_MQ e e1;by_cases h0:m=0
 .rw[if_neg (by omega)];simp[h0]
 .rw[if_pos (by have:=hm.1;omega)];exact⟨_,x_joined q hq e m hm,by simp[h0]⟩
def Zfy(qa:List Atom)(k n:Nat):List Int:=((List.range' k n).filter (λm:Nat=>conn qa (m:Int))).map (λm:Nat=>(m:Int))
theorem Zbkr{qa:List Atom}{k n:Nat}:Zfy qa k (n+1)=(if conn qa (k:Int)=true then[(k:Int)]else[])++Zfy qa (k+1) n:=by
 unfold Zfy;rw[Ydg,Ycu];split<;>simp
theorem Zb6t{qa:List Atom}{k:Nat}:Zfy qa k 0=[]:=rfl
theorem Zb6u{qa:List Atom}{k n:Nat}:(Zfy qa k n).length<=n:=by
 unfold Zfy;rw[Yo];exact Y2 (Ycs _ _) (by simp)
theorem Zn3(k:Nat):((2 ^ k:Nat):Int)=2 ^ k:=by simp
theorem Zcvt(q:Zc)(hq:LeQ q)(hv:Z6 q.Zp q.Atoms=true):∀k:Nat,k<=2 ^ q.Atoms.length->1<=k->∀out:List Int,out.length<=k->
  Zrq q out k=some (.own 0,[.arr Zbc 1 true ((out++Zfy q.Atoms k (2 ^ q.Atoms.length-k)).map ic)]):=by
 have hf:=Zjh hv;have hp:=Zn3 q.Atoms.length;have h16:2 ^ q.Atoms.length<=16:=Nat.pow_le_pow_right (by omega:0<2) (Zen hv).2;refine down _ ?_ ?_
 .intro _ out _;refine Zb3f _ _ _ _ ⟨_,Zny q hq,?_⟩;rw[if_neg (by rw[hf];omega),Y6];simp[Zfy]
 .intro k hk ih h1 out ho;have wk':w ((k:Int)+1)=(k:Int)+1:=Zw (by omega) (by omega);refine Zb3f _ _ _ _ ⟨_,Zny q hq,?_⟩;rw[if_pos (by rw[hf];omega)];refine⟨_,Zb6q q hq hv k ⟨by omega,by omega⟩ (by omega),?_⟩;rw[show 2 ^ q.Atoms.length-k=(2 ^ q.Atoms.length-(k+1))+1 by omega,Zbkr,wk'];rcases tf (conn q.Atoms k)with e|e
  .have ih:=ih (by omega) out (by omega);rw[e,if_neg (by simp)];simpa using ih
  .have ih:=ih (by omega) (out++[(k:Int)]) (by simp;omega);rw[e,if_pos rfl];refine⟨by omega,?_⟩;simpa using ih
def Zsa(qa:List Atom):List Int:=Zfy qa 1 (2 ^ qa.length-1)
theorem Zb6v(q:Zc)(hq:LeQ q)(hv:Z6 q.Zp q.Atoms=true):Znp q=some (.own 0,[.arr Zbc 1 true ((Zsa q.Atoms).map ic)]):=by
 have hpos:1<=2 ^ q.Atoms.length:=Nat.one_le_two_pow;have b:=Zcvt q hq hv 1 hpos (Yk _) [] (by simp);exact Zcru _ _ (by simpa[Zsa]using b)
def isSplit(qa:List Atom)(mask x:Int):Bool:=decide (andI x mask=x) && (conn qa x && conn qa (mask-x))
def splitsF(qa:List Atom)(mask:Int)(k n:Nat):List Int:=((List.range' k n).filter (λm:Nat=>isSplit qa mask (m:Int))).map (λm:Nat=>(m:Int))
def splits(qa:List Atom)(mask:Int):List Int:=splitsF qa mask 1 (mask.toNat-1)
def Zji(m:Int)(k n:Nat):List Int:=((List.range' k n).filter (λi:Nat=>Zx m i)).map (λi:Nat=>(i:Int))
theorem Zbks{m:Int}{k n:Nat}:Zji m k (n+1)=(if Zx m k=true then[(k:Int)]else[])++Zji m (k+1) n:=by
 unfold Zji;rw[Ydg,Ycu];split<;>simp
def Zlo(m:Int):List Int:=Zji m 0 4
theorem Zcvu(m:Int):∀k:Nat,k<=4->∀out:List Int,out.length<=k->Zpi out m k=some (.own 0,[.arr Zbc 1 true ((out++Zji m k (4-k)).map ic)]):=by
 refine down _ ?_ ?_
 .intro out _;refine Zbzb _ _ _ _ ?_;rw[if_neg (by omega)];simp[Zji]
 .intro k hk ih out ho;have wk':w ((k:Int)+1)=(k:Int)+1:=Zw (by omega) (by omega);refine Zbzb _ _ _ _ ?_;rw[if_pos (by omega),show 4-k=(4-(k+1))+1 by omega,Zbks,wk'];refine⟨by omega,?_⟩;by_cases e:andI (shrI m k) 1=1
  .have ih:=ih (out++[(k:Int)]) (by simp;omega);rw[if_pos e,if_pos (by simp[Zx,e])];exact⟨by omega,by simpa using ih⟩
  .have ih:=ih out (by omega);rw[if_neg e,if_neg (by simp[Zx,e])];simpa using ih
theorem Zlp{m:Int}(hm:M16 m):Zb9 m=some (.own 0,[.arr Zbc 1 true ((Zlo m).map ic)]):=by
 have b:=Zcvu m 0 (by omega) [] (by simp);refine Zcmr _ _ ⟨_,Zbu _ _ _,?_⟩;rw[if_pos (by simp[inR];omega)];simpa[Zlo]using b
theorem Zcvv(m:Int)(hm:M16 m):∀k:Nat,k<=4->∀out:List Int,out.length<=k->Zq4 out m k=some (.own 0,[.arr Zbc 1 true ((out++Zji m k (4-k)).map ic)]):=by
 refine down _ ?_ ?_
 .intro out _;refine Zb1z _ _ _ _ ?_;rw[if_neg (by omega)];simp[Zji]
 .intro k hk ih out ho;have wk':w ((k:Int)+1)=(k:Int)+1:=Zw (by omega) (by omega);refine Zb1z _ _ _ _ ?_;rw[if_pos (by omega),show 4-k=(4-(k+1))+1 by omega,Zbks,wk'];refine⟨_,Z8 _ _ _,?_⟩;rw[if_pos (by simp[inR];omega)];refine⟨by omega,?_⟩;by_cases e:andI (shrI m k) 1=1
  .have ih:=ih (out++[(k:Int)]) (by simp;omega);rw[if_pos e,if_pos (by simp[Zx,e])];exact⟨by omega,by simpa using ih⟩
  .have ih:=ih out (by omega);rw[if_neg e,if_neg (by simp[Zx,e])];simpa using ih
theorem Zcvw{m:Int}(hm:M16 m):Zq3 m=some (.own 0,[.arr Zbc 1 true ((Zlo m).map ic)]):=by
 have b:=Zcvv m hm 0 (by omega) [] (by simp);exact Zcqa _ _ (by simpa[Zlo]using b)
abbrev Zbe(q:Zc)(m:Int):List Int:=varL m q.Atoms q.Zp.toNat
theorem Z6m(q:Zc)(hq:LeQ q)(hv:Z6 q.Zp q.Atoms=true)(m:Int)(hm:MQ q.Atoms m):Zgc q m=some (.own 0,[.arr Zbc 1 true ((Zbe q m).map ic)]):=by
 refine Zcna _ _ _ ⟨_,Zb6r q hq m,?_⟩
 have:inR m 0 (Zbm q.Zp q.Atoms)=true:=by rw[Zjh hv];simp[inR];have:=hm.1;have:=hm.2;omega
 rw[hv,this,if_pos (by rfl)];exact⟨_,Z5w q m hq hv,rfl⟩
def Zec(q:Zc)(a b:Int):List Int:=(Zbe q a).filter (has (Zbe q b))
theorem Zjj(q:Zc)(hv:Z6 q.Zp q.Atoms=true)(m:Int):(Zbe q m).length<=4:=by
 have:=Z8s m q.Atoms q.Zp.toNat;have:=Zl5 hv;unfold Zbe;omega
theorem Zcvx(q:Zc)(hq:LeQ q)(hv:Z6 q.Zp q.Atoms=true)(a b:Int)(ha:MQ q.Atoms a)(hb:MQ q.Atoms b):Zuf q a b=some (.own 0,[.arr Zbc 1 true ((Zec q a b).map ic)]):=by
 have l1:=Zjj q hv a;have l2:=Zjj q hv b;exact Zcnc _ _ _ _ (.inl ⟨_,Z6m q hq hv a ha,.inl ⟨_,Z6m q hq hv b hb,_,x_both _ _ (by omega) (by omega),rfl⟩⟩)
theorem Zb6w(p:Nat->Bool):∀k:Nat,k<=4->∀out:List Int,out.length<=k->Zqy out (Zbo p) k=some (.own 0,[.arr Zbc 1 true ((out++((List.range' k (4-k)).filter p).map (λu:Nat=>(u:Int))).map ic)]):=by
 refine down _ ?_ ?_
 .intro out _;refine Zb1s _ _ _ _ ?_;rw[if_neg (by omega)];simp
 .intro k hk ih out ho;have wk':w ((k:Int)+1)=(k:Int)+1:=Zw (by omega) (by omega);have hb:=at_bit p (v:=(k:Int)) (by simp[inR];omega);rw[Yh]at hb;refine Zb1s _ _ _ _ ?_;rw[if_pos (by omega),show 4-k=(4-(k+1))+1 by omega,Ydg,Ycu,wk'];refine⟨by omega,?_⟩;rcases tf (p k)with e|e
  .have ih:=ih out (by omega);rw[if_neg (λhc=>by rw[hb.1 hc]at e;cases e),e,if_neg (by simp)];simpa using ih
  .have ih:=ih (out++[(k:Int)]) (by simp;omega);rw[if_pos (hb.2 e),e,if_pos rfl];exact⟨by omega,by simpa using ih⟩
theorem vars4(q:Zc)(hv:Z6 q.Zp q.Atoms=true)(m:Int):((List.range' 0 4).filter (pV m q.Atoms)).map (λu:Nat=>(u:Int))=Zbe q m:=by
 have hn:=Zl5 hv;have e:List.range' 0 4=List.range q.Zp.toNat++List.range' q.Zp.toNat (4-q.Zp.toNat):=by
  have h:=List.range'_append_1 (s:=0) (m:=q.Zp.toNat) (n:=4-q.Zp.toNat);rw[Yu]at h;rw[List.range_eq_range',h];congr 1;omega
 unfold Zbe varL;rw[e,Ycz];have e2:(List.range' q.Zp.toNat (4-q.Zp.toNat)).filter (pV m q.Atoms)=[]:=by
  rw[Ycr];intro u hu hp;have:=pV_lt hv hp;rw[List.mem_range'_1]at hu;omega
 rw[e2];simp
theorem Z6n(q:Zc)(hq:LeQ q)(hv:Z6 q.Zp q.Atoms=true)(m:Int)(hm:MQ q.Atoms m):Zm9 q m=some (.own 0,[.arr Zbc 1 true ((Zbe q m).map ic)]):=by
 have b:=Zb6w (pV m q.Atoms) 0 (by omega) [] (by simp);rw[show 4-0=4 from rfl,vars4 q hv m]at b;refine Zcqc _ _ _ ⟨_,Zb6s q hq m,?_⟩
 have:inR m 0 (Zbm q.Zp q.Atoms)=true:=by rw[Zjh hv];simp[inR];have:=hm.1;have:=hm.2;omega
 rw[hv,this,if_pos (by rfl)];exact⟨_,Z5x q m hq (Zs7 hv),_,Zb1t _ _ (by simpa using b),rfl⟩
theorem Zcvy(x y:List Int)(hy:Le y)(hx:x.length<=1000):∀i,i<=x.length->Zq6 ((x.take i).filter (has y)) x y i=some (.own 0,[.arr Zbc 1 true ((x.filter (has y)).map ic)]):=by
 refine down _ ?_ ?_
 .refine Zb10 _ _ _ _ _ ?_;rw[if_neg (by omega)];simp
 .intro i hi ih;have h4:=Zd0 (i:=i) (by omega);have e4:((x.take i).filter (has y)).length+1<=68719476736:=by
   have:=Ycs (has y) (x.take i);simp at this;omega
  rw[Zbo4 _ hi]at ih;refine Zb10 _ _ _ _ _ ?_;rw[if_pos (by omega)];refine⟨by omega,x[i],by rw[Yh];exact Yj hi,_,Znx y x[i] hy,?_⟩;rw[show w ((i:Int)+1)=(i:Int)+1 from h4];rcases tf (has y x[i])with e|e
  .rw[e,if_neg (by simp)];rw[e]at ih;simpa using ih
  .rw[e,if_pos rfl];rw[e]at ih;exact⟨e4,by simpa using ih⟩
theorem Zb6x(q:Zc)(hq:LeQ q)(hv:Z6 q.Zp q.Atoms=true)(a b:Int)(ha:MQ q.Atoms a)(hb:MQ q.Atoms b):Zna q a b=some (.own 0,[.arr Zbc 1 true ((Zec q a b).map ic)]):=by
 have l1:=Zjj q hv a;have l2:=Zjj q hv b;have c:=Zcvy (Zbe q a) (Zbe q b) (by omega) (by omega) 0 (Ya _);exact Zcqd _ _ _ _ ⟨_,Z6n q hq hv a ha,_,Z6n q hq hv b hb,by simpa[Zec]using c⟩
theorem grpV_nil(rows:List (List Int)):grpV rows []=if rows=[]then[]else[[]]:=by
 unfold grpV;refine Z6c (Zbkb _) ?_ λx=>?_
 .split
  .exact List.Pairwise.nil
  .exact List.pairwise_singleton _ _
 .rw[Z6d];unfold selT
  cases rows with
  |nil=>simp
  |cons r rows=>simp[selC]
theorem cnt_nil(rows:List (List Int)):cnt (selT rows []) []=rows.length:=by
 unfold cnt selT;rw[List.filter_eq_self.2 (by intro x hx;obtain⟨r,_,rfl⟩:=Yr.1 hx;simp[selC])];simp
theorem degS_nil(t:Ze):degS t []=if t.Rows=[]then[]else[(t.Rows.length:Int)]:=by
 unfold degS grpN;rw[grpV_nil];split
 .simp[srtI]
 .rw[Yv,Ycy,cnt_nil];simp[srtI]
theorem in_subs{n:Int}(h:inR n 1 3=true){cols:List Int}(hc:Zbv n cols=true)(h0:cols≠[]):cols∈subs n:=by
 have h':=Zy.1 h;have hl:=Zbkf hc (by omega);have hn:n=1\/n=2\/n=3:=by omega
 match cols,h0 with
 |[a],_ =>
  simp only[Zbv,ascN,nxt,ltI,Bool.and_true,Zy]at hc
  have:a=0\/a=1\/a=2:=by omega
  rcases hn with rfl|rfl|rfl<;>rcases this with rfl|rfl|rfl<;>first|decide|omega
 |[a,b],_ =>
  simp only[Zbv,ascN,nxt,ltI,Bool.and_true,Yc,Zy,decide_eq_true_eq]at hc
  have:a=0\/a=1\/a=2:=by omega
  have:b=0\/b=1\/b=2:=by omega
  rcases hn with rfl|rfl|rfl<;>rcases ‹a=0\/a=1\/a=2› with rfl|rfl|rfl<;>rcases ‹b=0\/b=1\/b=2› with rfl|rfl|rfl<;>first|decide|omega
 |[a,b,c],_ =>
  simp only[Zbv,ascN,nxt,ltI,Bool.and_true,Yc,Zy,decide_eq_true_eq]at hc;have e:a=0/\b=1/\c=2/\n=3:=by omega
  obtain⟨rfl,rfl,rfl,rfl⟩:=e
  decide
 |_::_::_::_::_,_=>simp at hl;omega
theorem l_13{t:Ze}(hv:Z3 t=true){cols:List Int}(c:cols.length<=3):∀i,i<=(subs t.Arity).length->cols∈(subs t.Arity).drop i->Zwq (Zt t) cols i=some (.own 0,[.arr 3 1 true ((degS t cols).map ic)]):=by
 have h7:=Zln (Zcd hv);have h8:=Zd7 hv;have hgl:(Zt t).Groups.length=(subs t.Arity).length:=by simp[Zt]
 refine down _ ?_ ?_
 .intro hm;rw[Yg]at hm;cases hm
 .intro i hi ih hm;have hg:(Zt t).Groups[((i:Nat):Int).toNat]?=some (grp t.Rows (subs t.Arity)[i]):=by
   rw[Yh];unfold Zt;rw[Ybh,Yj hi];rfl
  have hc3:=(Zbkc (Zcd hv) _ (Yb hi)).1;refine Zcp7 _ _ _ _ ?_;rw[if_pos (by omega),wS hi (by omega)];refine⟨by omega,_,hg,_,Zlf _ _ (by simp only[grp];omega) (by omega),?_⟩;rw[show(grp t.Rows (subs t.Arity)[i]).Columns=(subs t.Arity)[i]from rfl];by_cases e:(subs t.Arity)[i]=cols
  .rw[if_pos (by rw[<-e];exact Zi9 _)];have hl:=Zbkm t.Rows (subs t.Arity)[i];refine⟨_,x_down (by simp only[grp];omega),?_⟩;rw[<-e];rfl
  .rw[if_neg (λhc=>e (Zfb _ _ hc))];rw[Yd hi]at hm;rcases Yx.1 hm with hm|hm
   .exact absurd hm.symm e
   .exact ih hm
theorem x_13{t:Ze}(hv:Z3 t=true){cols:List Int}(hc:Zbv t.Arity cols=true):Zq1 (Zt t) cols=some (.own 0,[.arr 3 1 true ((degS t cols).map ic)]):=by
 have hA:=Zy.1 (Zcd hv);have hl:=Zbkf hc (by omega);refine Zcp8 _ _ _ ?_;by_cases h0:cols=[]
 .subst h0;rw[if_pos (by simp),degS_nil];have e:(Zt t).RowCount=(t.Rows.length:Int):=rfl;by_cases h1:t.Rows=[]
  .rw[if_pos (by rw[e,h1];rfl),if_pos h1]
  .have:=Yba.2 h1;rw[if_neg (by rw[e];omega),if_neg h1,e]
 .have:=Yba.2 h0;rw[if_neg (by omega)];have:=l_13 hv (cols:=cols) (by omega) 0 (Ya _) (by rw[Yq];exact in_subs (Zcd hv) hc h0);simpa using this
theorem Zbkt{t:Ze}(h:LeT t)(hv:Z3 t=true){cols:List Int}(hc:Zbv t.Arity cols=true):Znb (Zt t) cols=some (.own 0,[.arr 3 1 true ((degS t cols).map ic)]):=by
 refine Zcqe _ _ _ ⟨_,Zbkl h hv,?_⟩;rw[if_pos rfl];exact⟨_,x_13 hv hc,rfl⟩
def degV(t:Ze)(cols:List Int):Int:=(degS t cols).getD 0 0
theorem Zb6y{t:Ze}(h:LeT t)(hv:Z3 t=true){cols:List Int}(hc:Zbv t.Arity cols=true):Zmf (Zt t) cols=some (I (degV t cols),[]):=by
 refine Zcm6 _ _ _ ⟨_,Zbkn h hv hc,?_⟩;unfold degV
 cases e:degS t cols with
 |nil=>rw[if_pos (by simp)];rfl
 |cons a l=>rw[if_neg (by simp;omega)];exact⟨a,rfl,rfl⟩
theorem Zcvz{t:Ze}(h:LeT t)(hv:Z3 t=true){cols:List Int}(hc:Zbv t.Arity cols=true):Z3s (Zt t) cols=some (I (degV t cols),[]):=by
 refine Zcqk _ _ _ ⟨_,Zbkt h hv hc,?_⟩;unfold degV
 cases e:degS t cols with
 |nil=>rw[if_pos (by simp)];rfl
 |cons a l=>rw[if_neg (by simp;omega)];exact⟨a,rfl,rfl⟩
theorem degS_mem{t:Ze}(hv:Z3 t=true){cols:List Int}{x:Int}(hx:x∈degS t cols):0<=x/\x<=8:=by
 have h8:=Zd7 hv;unfold degS at hx;rw[List.mem_reverse]at hx;obtain⟨g,_,rfl⟩:=Yr.1 ((Yct _ _).mem_iff.1 hx);have h1:=Zbke (selT t.Rows cols) g;have h2:=cnt_le (selT t.Rows cols) g;rw[Zyw]at h2;omega
theorem Zy1{t:Ze}(hv:Z3 t=true)(cols:List Int):(degS t cols).length<=8:=by
 have h8:=Zd7 hv;unfold degS;rw[List.length_reverse,Zb6l];have:=Zbkm t.Rows cols;omega
theorem degV_in{t:Ze}(hv:Z3 t=true)(cols:List Int):0<=degV t cols/\degV t cols<=8:=by
 unfold degV
 cases e:degS t cols with
 |nil=>exact⟨by simp,by simp⟩
 |cons a l=>exact degS_mem hv (cols:=cols) (by rw[e];simp)
structure Ctx (s:Zh) (q:Zc):Prop where
 le:Zc0 s
 lq:LeQ q
 st:Zh4 s=true
 qf:qFor s.Zi q=true
def atA(q:Zc)(i:Nat):Atom:=q.Atoms.getD i ⟨⟨#[]⟩,[]⟩
def tab(s:Zh)(q:Zc)(i:Nat):Ze:=(Zbl s.Zi (atA q i).Name).getD ⟨⟨#[]⟩,0,[]⟩
theorem Zez{q:Zc}{i:Nat}(h:i<q.Atoms.length):q.Atoms[((i:Nat):Int).toNat]?=some (atA q i):=by
 unfold atA;rw[Yh,Yy,Yj h];rfl
theorem atA_mem{q:Zc}{i:Nat}(h:i<q.Atoms.length):atA q i∈q.Atoms:=by
 unfold atA;rw[Yy,Yj h];exact Yb h
section
variable{s:Zh}{q:Zc}(c:Ctx s q)
include c
theorem Ctx.vd:Zb5 s.Zi=true:=by
 have:=c.st;unfold Zh4 at this;simp only[Yc]at this;exact this.1.1.1
theorem Ctx.tabs:s.Zl.Tables=s.Zi.Tables.map Zt:=by
 have:=c.st;unfold Zh4 at this;simp only[Yc,decide_eq_true_eq]at this;exact this.1.2.symm
theorem Ctx.vq:Z6 q.Zp q.Atoms=true:=by
 have:=c.qf;unfold qFor at this;simp only[Yc]at this;exact this.1
theorem Ctx.n4:1<=q.Atoms.length/\q.Atoms.length<=4:=by
 have:=Zen c.vq;omega
theorem Ctx.look{i:Nat}(h:i<q.Atoms.length):Zbl s.Zi (atA q i).Name=some (tab s q i)/\(tab s q i).Arity=((atA q i).Vars.length:Int):=by
 have hq:=c.qf;unfold qFor at hq;simp only[Yc]at hq;have:=Yn.1 hq.2 _ (atA_mem h);unfold forOk at this;unfold tab
 cases e:Zbl s.Zi (atA q i).Name with
 |none=>rw[e]at this;cases this
 |some t=>rw[e]at this;exact⟨rfl,by simpa using this⟩
theorem Ctx.vt{i:Nat}(h:i<q.Atoms.length):Z3 (tab s q i)=true:=Zh3 (c.look h).1
theorem Ctx.lt{i:Nat}(h:i<q.Atoms.length):LeT (tab s q i):=Zb50 c.le.d (c.look h).1
theorem l_iLS(n:ByteArray):∀i,i<=s.Zi.Tables.length->∀t,(s.Zi.Tables.drop i).find? (λt=>decide (t.Name=n))=some t->Zpl ⟨#[]⟩ 0 0 n s.Zl.Tables s.Zl.Tables.length i=some (.tup [.agg [.t (.str t.Name),I t.Arity,I (t.Rows.length:Int),.own 0],Bo true],[.arr 200 3 true ((Zt t).Groups.map Zg.c)]):=by
 have hl:s.Zl.Tables.length=s.Zi.Tables.length:=by rw[c.tabs,Yo]
 have h6:=Zyy c.vd;refine down _ ?_ ?_
 .intro t ht;rw[Yg]at ht;cases ht
 .intro i hi ih t ht;have hg:s.Zl.Tables[((i:Nat):Int).toNat]?=some (Zt s.Zi.Tables[i]):=by
   rw[Yh,c.tabs,Ybh,Yj hi];rfl
  rw[Yd hi,List.find?_cons]at ht;have hT:=Yb hi;refine Zcmw _ _ _ _ _ _ _ _ ?_;rw[if_pos (by omega),wS hi (by omega)];refine⟨by omega,_,hg,?_⟩;have en:(Zt s.Zi.Tables[i]).Name=s.Zi.Tables[i].Name:=rfl;by_cases e:s.Zi.Tables[i].Name=n
  .rw[decide_eq_true e]at ht;cases ht;rw[if_pos (by rw[en];exact e)];refine⟨_,Zb6k (c.le.d.2 _ hT) (Zfa c.vd hT),?_⟩;rw[if_pos rfl];exact⟨_,_,_,_,x_cStats _ (Zy0 (Zfa c.vd hT)),rfl⟩
  .rw[decide_eq_false e]at ht;rw[if_neg (by rw[en];exact e)];exact ih t ht
theorem l_sLS(n:ByteArray):∀i,i<=s.Zi.Tables.length->∀t,(s.Zi.Tables.drop i).find? (λt=>decide (t.Name=n))=some t->Zqu s.Zl ⟨#[]⟩ 0 0 n i=some (.tup [.agg [.t (.str t.Name),I t.Arity,I (t.Rows.length:Int),.own 0],Bo true],[.arr 200 3 true ((Zt t).Groups.map Zg.c)]):=by
 have hl:s.Zl.Tables.length=s.Zi.Tables.length:=by rw[c.tabs,Yo]
 have h6:=Zyy c.vd;refine down _ ?_ ?_
 .intro t ht;rw[Yg]at ht;cases ht
 .intro i hi ih t ht;have hg:s.Zl.Tables[((i:Nat):Int).toNat]?=some (Zt s.Zi.Tables[i]):=by
   rw[Yh,c.tabs,Ybh,Yj hi];rfl
  rw[Yd hi,List.find?_cons]at ht;have hT:=Yb hi;refine Zcp0 _ _ _ _ _ _ _ ?_;rw[if_pos (by omega),wS hi (by omega)];refine⟨by omega,_,hg,?_⟩;have en:(Zt s.Zi.Tables[i]).Name=s.Zi.Tables[i].Name:=rfl;by_cases e:s.Zi.Tables[i].Name=n
  .rw[decide_eq_true e]at ht;cases ht;rw[if_pos (by rw[en];exact e)];refine⟨_,Zbkl (c.le.d.2 _ hT) (Zfa c.vd hT),?_⟩;rw[if_pos rfl];exact⟨_,_,_,_,x_s13 _ (Zy0 (Zfa c.vd hT)),rfl⟩
  .rw[decide_eq_false e]at ht;rw[if_neg (by rw[en];exact e)];exact ih t ht
theorem Ctx.find{i:Nat}(h:i<q.Atoms.length):s.Zi.Tables.find? (λt=>decide (t.Name=(atA q i).Name))=some (tab s q i):=by
 have:=(c.look h).1;unfold Zbl at this
 rwa [if_pos c.vd]at this
theorem Zb6z{i:Nat}(h:i<q.Atoms.length):Zpk s.Zl (atA q i).Name=some (.tup [.agg [.t (.str (tab s q i).Name),I (tab s q i).Arity,I ((tab s q i).Rows.length:Int),.own 0],Bo true],[.arr 200 3 true ((Zt (tab s q i)).Groups.map Zg.c)]) :=
 Zcmx _ _ _ (l_iLS c _ 0 (Ya _) _ (by rw[Yq];exact c.find h))
theorem Zcv0{i:Nat}(h:i<q.Atoms.length):Zwn s.Zl (atA q i).Name=some (.tup [.agg [.t (.str (tab s q i).Name),I (tab s q i).Arity,I ((tab s q i).Rows.length:Int),.own 0],Bo true],[.arr 200 3 true ((Zt (tab s q i)).Groups.map Zg.c)]) :=
 Zcp1 _ _ _ (l_sLS c _ 0 (Ya _) _ (by rw[Yq];exact c.find h))
theorem Zsb{i:Nat}(h:i<q.Atoms.length):Zgb s q i=some (.agg [.t (.str (tab s q i).Name),I (tab s q i).Arity,I ((tab s q i).Rows.length:Int),.own 0],[.arr 200 3 true ((Zt (tab s q i)).Groups.map Zg.c)]) :=
 Zcmy _ _ _ _ ⟨by omega,_,Zez h,_,_,_,_,_,Zb6z c h,rfl⟩
theorem x_16S{i:Nat}(h:i<q.Atoms.length):Zfs s q i=some (.agg [.t (.str (tab s q i).Name),I (tab s q i).Arity,I ((tab s q i).Rows.length:Int),.own 0],[.arr 200 3 true ((Zt (tab s q i)).Groups.map Zg.c)]) :=
 Zcp2 _ _ _ _ ⟨by omega,_,Zez h,_,_,_,_,_,Zcv0 c h,rfl⟩
end
noncomputable def okQ(s:Zh)(q:Zc)(m:Int):Bool:=Zh4 s && (qFor s.Zi q && inR m 1 (Zbm q.Zp q.Atoms))
theorem Zlq{s:Zh}{q:Zc}(h:Zc0 s)(hq:LeQ q)(m:Int):Zc6 s q m=some (Bo (okQ s q m),[]):=by
 refine Zcmq _ _ _ _ ⟨_,Zb6c h,?_⟩;unfold okQ;rcases ft (Zh4 s)with e|e
 .rw[e,if_pos rfl,Ye];refine⟨_,Zb4q _ h.d _ hq,?_⟩;rcases ft (qFor s.Zi q)with e2|e2
  .rw[e2,if_pos rfl,Ye];exact⟨_,Zny _ hq,_,Zbu _ _ _,rfl⟩
  .rw[e2,if_neg (by decide)];rfl
 .rw[e,if_neg (by decide)];rfl
theorem Zgp{s:Zh}{q:Zc}(h:Zc0 s)(hq:LeQ q)(m:Int):Zct s q m=some (Bo (okQ s q m),[]):=by
 refine Zcpp _ _ _ _ ⟨_,Zcvn h,?_⟩;unfold okQ;rcases ft (Zh4 s)with e|e
 .rw[e,if_pos rfl,Ye];refine⟨_,Zctt _ h.d _ hq,?_⟩;rcases ft (qFor s.Zi q)with e2|e2
  .rw[e2,if_pos rfl,Ye];exact⟨_,Zi7 _ hq,_,Z8 _ _ _,rfl⟩
  .rw[e2,if_neg (by decide)];rfl
 .rw[e,if_neg (by decide)];rfl
theorem Zjk{s:Zh}{q:Zc}(h:Zc0 s)(hq:LeQ q){m:Int}(e:okQ s q m=true):Ctx s q/\1<=m/\m<2 ^ q.Atoms.length:=by
 unfold okQ at e;simp only[Yc]at e;have c:Ctx s q:=⟨h,hq,e.1,e.2.1⟩;have h1:=Zy.1 e.2.2;have h2:=(Zj7 c.vq).2.1;unfold Zbm at h1;rw[if_pos c.vq,h2]at h1;exact⟨c,by omega,by omega⟩
def Zb6(vars:List Int):Nat->List Int->List Int
 |_,[]=>[]
 |k,v::vs=>if has vars v=true then(k:Int)::Zb6 vars (k+1) vs else Zb6 vars (k+1) vs
theorem Zbku(c:List Int)(n:Int):∀(vs:List Int) (k:Nat) (p:Option Int),(∀q,p=some q->q<k)->(k:Int)+vs.length<=n->ascN n p (Zb6 c k vs)=true
 |[],_,_,_,_=>rfl
 |v::vs,k,p,hp,hn=>by
  simp only[Yw]at hn;unfold Zb6;split
  .simp only[ascN,Yc];refine⟨⟨Zy.2 ⟨by omega,by omega⟩,?_⟩,Zbku c n vs (k+1) (some k) (λq hq=>by cases hq;omega) (by omega)⟩
   cases p with
   |none=>rfl
   |some q=>simpa[nxt,ltI]using hp q rfl
  .exact Zbku c n vs (k+1) p (λq hq=>by have:=hp q hq;omega) (by omega)
theorem colsF_ok(vars:List Int){n:Int}{vs:List Int}(h:n=vs.length):Zbv n (Zb6 vars 0 vs)=true:=Zbku vars n vs 0 none (λq hq=>by cases hq) (by omega)
theorem l_iac(a:Atom)(vars:List Int)(ha:a.Vars.length<=1000)(hv:Le vars):∀i,i<=a.Vars.length->∀out:List Int,out.length<=i->Zpn out vars a.Vars a.Vars.length i=some (.own 0,[.arr 3 1 true ((out++Zb6 vars i (a.Vars.drop i)).map ic)]):=by
 refine down _ ?_ ?_
 .intro out ho;refine Zbzg _ _ _ _ _ _ ?_;rw[if_neg (by omega),Yg];simp[Zb6]
 .intro i hi ih out ho;refine Zbzg _ _ _ _ _ _ ?_;rw[if_pos (by omega),wS hi (by omega),Yd hi,Zb6];refine⟨by omega,_,gE hi,_,Zr1 _ _ hv,?_⟩;rcases ft (has vars a.Vars[i])with e|e
  .rw[e,if_pos rfl,if_pos rfl];exact⟨by omega,by have:=ih (out++[(i:Int)]) (by simp;omega);simpa using this⟩
  .rw[e,if_neg (by decide),if_neg (by decide)];exact ih out (by omega)
theorem Zbkv{a:Atom}{vars:List Int}(ha:a.Vars.length<=1000)(hv:Le vars):Zkc a vars=some (.own 0,[.arr 3 1 true ((Zb6 vars 0 a.Vars).map ic)]):=Zcm1 _ _ _ (by simpa using l_iac a vars ha hv 0 (Ya _) [] (by simp))
theorem l_sac(a:Atom)(vars:List Int)(ha:a.Vars.length<=1000)(hv:Le vars):∀i,i<=a.Vars.length->∀out:List Int,out.length<=i->Zqz a out vars i=some (.own 0,[.arr 3 1 true ((out++Zb6 vars i (a.Vars.drop i)).map ic)]):=by
 refine down _ ?_ ?_
 .intro out ho;refine Zb1u _ _ _ _ _ ?_;rw[if_neg (by omega),Yg];simp[Zb6]
 .intro i hi ih out ho;refine Zb1u _ _ _ _ _ ?_;rw[if_pos (by omega),wS hi (by omega),Yd hi,Zb6];refine⟨by omega,_,gE hi,_,Znx _ _ hv,?_⟩;rcases ft (has vars a.Vars[i])with e|e
  .rw[e,if_pos rfl,if_pos rfl];exact⟨by omega,by have:=ih (out++[(i:Int)]) (by simp;omega);simpa using this⟩
  .rw[e,if_neg (by decide),if_neg (by decide)];exact ih out (by omega)
theorem Zbkw{a:Atom}{vars:List Int}(ha:a.Vars.length<=1000)(hv:Le vars):Zm7 a vars=some (.own 0,[.arr 3 1 true ((Zb6 vars 0 a.Vars).map ic)]):=Zcp5 _ _ _ (by simpa using l_sac a vars ha hv 0 (Ya _) [] (by simp))
theorem Ctx.vars3{s:Zh}{q:Zc}(c:Ctx s q){i:Nat}(h:i<q.Atoms.length):(atA q i).Vars.length<=3:=by
 have h1:=(c.look h).2;have h2:=Zy.1 (Zcd (c.vt h));omega
theorem Ctx.cols{s:Zh}{q:Zc}(c:Ctx s q){i:Nat}(h:i<q.Atoms.length)(cc:List Int):Zbv (tab s q i).Arity (Zb6 cc 0 (atA q i).Vars)=true:=colsF_ok cc (c.look h).2
def mskL(m:Int):Nat->Nat->List Nat
 |_,0=>[]
 |i,k+1=>if Zx m i=true then i::mskL m (i+1) k else mskL m (i+1) k
theorem Z6o(m:Int):∀(k i:Nat),Zji m i k=(mskL m i k).map λn:Nat=>(n:Int)
 |0,i=>rfl
 |k+1,i=>by
  rw[Zbks,Z6o m k (i+1),mskL];split<;>simp
theorem Zbkx(m:Int):∀(a i b:Nat),mskL m i (a+b)=mskL m i a++mskL m (i+a) b
 |0,i,b=>by simp[mskL]
 |a+1,i,b=>by
  rw[show a+1+b=(a+b)+1 by omega,mskL,mskL,Zbkx m a (i+1) b,show i+1+a=i+(a+1) by omega];split<;>rfl
theorem Zbky(m:Int):∀(k i:Nat),(∀j,i<=j->j<i+k->Zx m j=false)->mskL m i k=[]
 |0,_,_=>rfl
 |k+1,i,h=>by
  rw[mskL,h i (by omega) (by omega),if_neg (by decide)];exact Zbky m k (i+1) λj h1 h2=>h j (by omega) (by omega)
set_option maxRecDepth 100000 in
theorem f_hi:∀(a:Fin 16) (n i:Fin 5),a.1<2 ^ n.1->n.1<=i.1->Zx (a.1:Int) i.1=false:=by decide
theorem msk_n{m:Int}{n:Nat}(h0:0<=m)(hm:m<2 ^ n)(hn:n<=4):mskL m 0 4=mskL m 0 n:=by
 have h16:m<16:=by
  have:(2:Nat) ^ n<=2 ^ 4:=Nat.pow_le_pow_right (by decide) hn
  have e:((2:Int) ^ n)=(((2:Nat) ^ n:Nat):Int):=by push_cast;rfl
  omega
 obtain⟨a,rfl⟩:=m16 ⟨h0,h16⟩;have ha:a.1<2 ^ n:=by
  have e:((2:Int) ^ n)=(((2:Nat) ^ n:Nat):Int):=by push_cast;rfl
  omega
 have h4:mskL (a.1:Int) 0 4=mskL (a.1:Int) 0 n++mskL (a.1:Int) (0+n) (4-n):=by
  have:=Zbkx (a.1:Int) n 0 (4-n)
  rwa [show n+(4-n)=4 by omega]at this
 rw[h4,Zbky (a.1:Int) (4-n) (0+n) λj h1 h2=>f_hi a ⟨n,by omega⟩ ⟨j,by omega⟩ ha (by simpa using h1),Ybl]
theorem Zed{m:Int}:∀{k i j:Nat},j∈mskL m i k->i<=j/\j<i+k/\Zx m j=true
 |0,i,j,h=>by cases h
 |k+1,i,j,h=>by
  rw[mskL]at h;split at h
  .rcases Yx.1 h with rfl|h
   .exact⟨Yk _,by omega,by assumption⟩
   .obtain⟨a,b,c⟩:=Zed h;exact⟨by omega,by omega,c⟩
  .obtain⟨a,b,c⟩:=Zed h;exact⟨by omega,by omega,c⟩
theorem Zdn{m:Int}{n:Nat}(h0:0<=m)(hm:m<2 ^ n)(hn:n<=4):M16 m:=by
 have:(2:Nat) ^ n<=2 ^ 4:=Nat.pow_le_pow_right (by decide) hn
 have e:((2:Int) ^ n)=(((2:Nat) ^ n:Nat):Int):=by push_cast;rfl
 exact⟨h0,by omega⟩
theorem gM{m:Int}{l:List Nat}{i:Nat}(h:i<l.length):(l.map λn:Nat=>(n:Int))[((i:Nat):Int).toNat]?=some ((l[i]:Nat):Int):=by
 rw[Yh,Ybh,Yj h];rfl
def Zbp(s:Zh)(q:Zc)(i:Nat):Int:=((tab s q i).Rows.length:Int)
def Zgq(s:Zh)(q:Zc)(l:List Nat)(n:Int):Int:=l.foldl (λa i=>a*Zbp s q i) n
theorem Zb60{s:Zh}{q:Zc}(c:Ctx s q):∀(l:List Nat) (n:Int) (k:Nat),(∀i∈l,i<q.Atoms.length)->0<=n->n<=8 ^ k->k+l.length<=4->0<=Zgq s q l n/\Zgq s q l n<=4096
 |[],n,k,_,h0,h1,hk=>by
  refine⟨h0,Int.le_trans h1 ?_⟩
  have:(8:Nat) ^ k<=8 ^ 4:=Nat.pow_le_pow_right (by decide) (by simpa using hk)
  have e:((8:Int) ^ k)=(((8:Nat) ^ k:Nat):Int):=by push_cast;rfl
  omega
 |i::l,n,k,hm,h0,h1,hk=>by
  have h8:=Zd7 (c.vt (hm i (by simp)));have hr:0<=Zbp s q i/\Zbp s q i<=8:=⟨by unfold Zbp;omega,by unfold Zbp;omega⟩;refine Zb60 c l (n*Zbp s q i) (k+1) (λj hj=>hm j (by simp[hj])) (Int.mul_nonneg h0 hr.1) ?_ (by simp only[Yw]at hk;omega);rw[Int.pow_succ];exact Int.mul_le_mul h1 hr.2 hr.1 (Int.le_trans h0 h1)
theorem Zg6(m:Int):∀(k i:Nat),(mskL m i k).length<=k
 |0,_=>Yk _
 |k+1,i=>by
  rw[mskL];have:=Zg6 m k (i+1);split
  .simp only[Yw];omega
  .omega
theorem Zb61{s:Zh}{q:Zc}(c:Ctx s q){n:Int}{i:Nat}(hi:i<q.Atoms.length)(h0:0<=n)(h1:n<=4096):w (n*Zbp s q i)=n*Zbp s q i:=by
 have h8:=Zd7 (c.vt hi);have hr:0<=Zbp s q i/\Zbp s q i<=8:=⟨by unfold Zbp;omega,by unfold Zbp;omega⟩;have h2:=Int.mul_nonneg h0 hr.1;have h3:=Int.mul_le_mul h1 hr.2 hr.1 (by omega);exact w_in ⟨by omega,by omega⟩
section
variable{s:Zh}{q:Zc}(c:Ctx s q){m:Int}(h1:1<=m)(h2:m<2 ^ q.Atoms.length)
include c h1 h2
theorem Ctx.msk:Zlo m=(mskL m 0 q.Atoms.length).map λn:Nat=>(n:Int):=by
 unfold Zlo;rw[Z6o,msk_n (by omega) h2 c.n4.2]
omit h1 h2 in
theorem l_iPB(l:List Nat)(hl:∀i∈l,i<q.Atoms.length)(h4:l.length<=4):∀i,i<=l.length->∀n,0<=n->n<=8 ^ i->Zua s q (l.map λn:Nat=>(n:Int)) n l.length i=some (I (Zgq s q (l.drop i) n),[]):=by
 have p8:∀i,i<=4->(8:Int) ^ i<=4096:=by
  intro i hi
  have:(8:Nat) ^ i<=8 ^ 4:=Nat.pow_le_pow_right (by decide) hi
  have e:((8:Int) ^ i)=(((8:Nat) ^ i:Nat):Int):=by push_cast;rfl
  omega
 refine down _ ?_ ?_
 .intro n _ _;refine Zbzd _ _ _ _ _ _ _ ?_;rw[if_neg (by omega),Yg];rfl
 .intro i hi ih n h0 hn;have hm:=hl _ (Yb hi);have h8:=Zd7 (c.vt hm);have hr:0<=Zbp s q l[i]/\Zbp s q l[i]<=8:=⟨by unfold Zbp;omega,by unfold Zbp;omega⟩;have hp:=p8 i (by omega);refine Zbzd _ _ _ _ _ _ _ ?_;rw[if_pos (by omega),wS hi (by omega),Yd hi];refine⟨by omega,_,gM (m:=0) hi,_,_,_,_,Zsb c hm,?_⟩;rw[show((tab s q l[i]).Rows.length:Int)=Zbp s q l[i]from rfl,Zb61 c hm h0 (by omega)];refine ih _ (Int.mul_nonneg h0 hr.1) ?_;rw[Int.pow_succ];exact Int.mul_le_mul hn hr.2 hr.1 (by omega)
theorem Zcv1(le:okQ s q m=true):Zt9 s q m=some (I (Zgq s q (mskL m 0 q.Atoms.length) 1),[]):=by
 have h16:=Zdn (by omega) h2 c.n4.2;refine Zcmz _ _ _ _ ⟨_,Zlq c.le c.lq m,?_⟩;rw[le,if_pos rfl];refine .inr ⟨_,Zlp h16,?_⟩;rw[c.msk h1 h2,Yo];have hl:=Zg6 m q.Atoms.length 0;have:=l_iPB c (mskL m 0 q.Atoms.length) (λi hi=>by have:=Zed hi;omega) (by have:=c.n4;omega) 0 (Ya _) 1 (by omega) (by simp);simpa using this
omit h1 h2 in
theorem l_sPB:∀i,i<=q.Atoms.length->∀n,0<=n->n<=8 ^ i->Zqv s q m n i=some (I (Zgq s q (mskL m i (q.Atoms.length-i)) n),[]):=by
 have hn4:=c.n4;have p8:∀i,i<=4->(8:Int) ^ i<=4096:=by
  intro i hi
  have:(8:Nat) ^ i<=8 ^ 4:=Nat.pow_le_pow_right (by decide) hi
  have e:((8:Int) ^ i)=(((8:Nat) ^ i:Nat):Int):=by push_cast;rfl
  omega
 refine down _ ?_ ?_
 .intro n _ _;refine Zb1q _ _ _ _ _ _ ?_;rw[if_neg (by omega),Y6];rfl
 .intro i hi ih n h0 hn;have h8:=Zd7 (c.vt hi);have hr:0<=Zbp s q i/\Zbp s q i<=8:=⟨by unfold Zbp;omega,by unfold Zbp;omega⟩;have hp:=p8 i (by omega);have hpp:(8:Int) ^ (i+1)=8 ^ i*8:=Int.pow_succ 8 i;refine Zb1q _ _ _ _ _ _ ?_;rw[if_pos (by omega),wS hi (by omega),show q.Atoms.length-i=(q.Atoms.length-(i+1))+1 by omega,mskL];refine⟨by omega,?_⟩;by_cases e:andI (shrI m i) 1=1
  .rw[if_pos e,if_pos (by unfold Zx;exact decide_eq_true e)];refine⟨_,_,_,_,x_16S c hi,?_⟩;rw[show((tab s q i).Rows.length:Int)=Zbp s q i from rfl,Zb61 c hi h0 (by omega)];refine ih _ (Int.mul_nonneg h0 hr.1) ?_;rw[hpp];exact Int.mul_le_mul hn hr.2 hr.1 (by omega)
  .rw[if_neg e,if_neg (by unfold Zx;simpa using e)];exact ih n h0 (by omega)
theorem Zcv2(le:okQ s q m=true):Zwo s q m=some (I (Zgq s q (mskL m 0 q.Atoms.length) 1),[]):=by
 refine Zcp3 _ _ _ _ ⟨_,Zgp c.le c.lq m,?_⟩;rw[le,if_pos rfl];exact l_sPB c 0 (Ya _) 1 (by omega) (by simp)
omit h1 h2 in
theorem prod_in:0<=Zgq s q (mskL m 0 q.Atoms.length) 1/\Zgq s q (mskL m 0 q.Atoms.length) 1<=4096 :=
 Zb60 c _ 1 0 (λi hi=>by have:=Zed hi;omega) (by omega) (by simp) (by have:=Zg6 m q.Atoms.length 0;have:=c.n4;omega)
end
def degC(s:Zh)(q:Zc)(i:Nat)(used:Int):Int:=if i<q.Atoms.length then degV (tab s q i) (Zb6 (Zbe q used) 0 (atA q i).Vars)else 0
def chG(s:Zh)(q:Zc):Nat->Int->Int->Int
 |0,_,_=>1
 |f+1,used,left=>if left=0 then 1 else(mskL left 0 4).foldl (λb i=>bst b (degC s q i used*chG s q f (orI used (shlI 1 i)) (Zr left (shlI 1 i)))) (-1)
theorem Zb62{s:Zh}{q:Zc}(c:Ctx s q)(i:Nat)(used:Int):0<=degC s q i used/\degC s q i used<=8:=by
 unfold degC;split
 .exact degV_in (c.vt ‹_›) _
 .omega
set_option maxRecDepth 100000 in
theorem Zlr:∀(l:Fin 16) (i:Fin 4),Zx (l.1:Int) i.1=true->M16 (Zr l.1 (shlI 1 i.1))/\popc (Zr l.1 (shlI 1 i.1))+1=popc l.1:=by decide
set_option maxRecDepth 100000 in
theorem Zy2:∀l:Fin 16,l.1≠0->1<=popc l.1/\mskL (l.1:Int) 0 4≠[]:=by decide
set_option maxRecDepth 100000 in
theorem f_le:∀(l:Fin 16) (i:Fin 4),Zr (l.1:Int) (shlI 1 i.1)<=l.1:=by decide
theorem f_le2:∀(l u:Fin 16),Zr (l.1:Int) u.1<=l.1:=by decide +kernel
theorem f_not0:∀l:Fin 16,Zr (l.1:Int) 0=l.1:=by decide
theorem f_and0:∀l:Fin 16,andI 0 (l.1:Int)=0:=by decide
theorem chG_in{s:Zh}{q:Zc}(c:Ctx s q):∀(f:Nat) (used cc:Int),M16 cc->0<=chG s q f used cc/\chG s q f used cc<=8 ^ f
 |0,_,_,_=>⟨by simp[chG],by simp[chG]⟩
 |f+1,used,cc,hl=>by
  unfold chG;have hp:(1:Int)<=8 ^ f:=by exact_mod_cast Nat.pos_of_ne_zero (by simp)
  have e8:(8:Int) ^ (f+1)=8*8 ^ f:=by rw[Int.pow_succ,Int.mul_comm]
  split
  .omega
  .rename_i hne;obtain⟨a,rfl⟩:=m16 hl;refine Zb4f (by omega) _ (λi=>degC s q i used*chG s q f (orI used (shlI 1 i)) (Zr (a.1:Int) (shlI 1 i))) _ (λi hi=>?_) (by omega) (.inl (Zy2 a (by omega)).2);have hm:=Zed hi;have h1:=Zb62 c i used;have h2:=chG_in c f (orI used (shlI 1 i)) (Zr (a.1:Int) (shlI 1 i)) (Zlr a ⟨i,by omega⟩ hm.2.2).1;refine⟨Int.mul_nonneg h1.1 h2.1,?_⟩;rw[e8];exact Int.mul_le_mul h1.2 h2.2 h2.1 (by omega)
theorem Zbkz{s:Zh}{q:Zc}(c:Ctx s q)(m:Int):Le (Zbe q m):=by
 have:=Zjj q c.vq m;omega
theorem Zb63{s:Zh}{q:Zc}{i:Nat}(h:i<q.Atoms.length)(used:Int):degC s q i used=degV (tab s q i) (Zb6 (Zbe q used) 0 (atA q i).Vars):=by
 unfold degC;rw[if_pos h]
theorem Zcv3{s:Zh}{q:Zc}(c:Ctx s q){i:Nat}(h:i<q.Atoms.length)(used:Int):Z1l s q i (Zbe q used)=some (I (degC s q i used),[]):=by
 rw[Zb63 h];exact Zcm7 _ _ _ _ _ ⟨_,_,_,_,Zsb c h,by omega,_,Zez h,_,Zbkv (by have:=c.vars3 h;omega) (Zbkz c used),_,Zb6y (c.lt h) (c.vt h) (c.cols h _),rfl⟩
theorem pw84{f:Nat}(h:f<=4):(1:Int)<=8 ^ f/\(8:Int) ^ f<=4096:=by
 have h1:(8:Nat) ^ f<=8 ^ 4:=Nat.pow_le_pow_right (by decide) h;have h2:1<=(8:Nat) ^ f:=Nat.pos_of_ne_zero (by simp);have e:((8:Int) ^ f)=(((8:Nat) ^ f:Nat):Int):=by push_cast;rfl
 omega
def trm(s:Zh)(q:Zc)(f:Nat)(used c:Int)(i:Nat):Int:=degC s q i used*chG s q f (orI used (shlI 1 i)) (Zr c (shlI 1 i))
theorem trm_w{s:Zh}{q:Zc}(c:Ctx s q){f:Nat}(hf:f<=4){used left:Int}(hl:M16 left){i:Nat}(hi:i<4)(hm:Zx left i=true):w (degC s q i used*chG s q f (orI used (shlI 1 i)) (Zr left (shlI 1 i)))=trm s q f used left i:=by
 obtain⟨a,rfl⟩:=m16 hl;have h1:=Zb62 c i used;have h2:=chG_in c f (orI used (shlI 1 i)) (Zr (a.1:Int) (shlI 1 i)) (Zlr a ⟨i,hi⟩ hm).1;have h3:=pw84 hf;have h4:=Int.mul_nonneg h1.1 h2.1;have h5:=Int.mul_le_mul h1.2 h2.2 h2.1 (by omega);exact w_in ⟨by omega,by omega⟩
theorem Zb64{s:Zh}{q:Zc}{f:Nat}{used left:Int}(h:left≠0):chG s q (f+1) used left=(mskL left 0 4).foldl (λb i=>bst b (trm s q f used left i)) (-1):=by
 rw[chG,if_neg h];rfl
theorem l_ich{s:Zh}{q:Zc}(c:Ctx s q){f:Nat}(hf:f<=4){used left:Int}(hl:M16 left)(cc:left<2 ^ q.Atoms.length)(ih:∀(u l:Int),M16 l->l<2 ^ q.Atoms.length->popc l<=f->Zpo s q u l=some (I (chG s q f u l),[]))(hp:popc left<=f+1):∀i,i<=(mskL left 0 4).length->∀b,Zmg s q ((mskL left 0 4).map λn:Nat=>(n:Int)) used left b (mskL left 0 4).length i=some (I (((mskL left 0 4).drop i).foldl (λb i=>bst b (trm s q f used left i)) b),[]):=by
 have hlen:=Zg6 left 4 0;refine down _ ?_ ?_
 .intro b;refine Zbzh _ _ _ _ _ _ _ _ _ ?_;rw[if_neg (by omega),Yg];rfl
 .intro i hi ihi b;obtain⟨_,hi4,hm⟩:=Zed (Yb hi);have hin:(mskL left 0 4)[i]<q.Atoms.length:=by
   rcases Ybi (mskL left 0 4)[i] q.Atoms.length with h|h
   .exact h
   .exfalso;obtain⟨a,rfl⟩:=m16 hl;have hn:=c.n4;have ha:a.1<2 ^ q.Atoms.length:=by
     have e:((2:Int) ^ q.Atoms.length)=(((2:Nat) ^ q.Atoms.length:Nat):Int):=by push_cast;rfl
     omega
    have:=f_hi a ⟨q.Atoms.length,by omega⟩ ⟨(mskL (a.1:Int) 0 4)[i],by omega⟩ ha h;simp only at this;rw[this]at hm;cases hm
  have hnext:M16 (Zr left (shlI 1 ((mskL left 0 4)[i]:Nat)))/\popc (Zr left (shlI 1 ((mskL left 0 4)[i]:Nat)))+1=popc left/\Zr left (shlI 1 ((mskL left 0 4)[i]:Nat))<=left:=by
   obtain⟨a,rfl⟩:=m16 hl;have h1:=Zlr a ⟨(mskL (a.1:Int) 0 4)[i],by omega⟩ hm;exact⟨h1.1,h1.2,f_le a ⟨(mskL (a.1:Int) 0 4)[i],by omega⟩⟩
  refine Zbzh _ _ _ _ _ _ _ _ _ ?_;rw[if_pos (by omega),wS hi (by omega),Yd hi,Yc0];refine⟨by omega,_,gM (m:=0) hi,_,Z5w q used c.lq c.vq,_,Zcv3 c hin used,by omega,_,ih _ _ hnext.1 (by omega) (by omega),?_⟩;rw[trm_w c hf hl (by omega) hm];by_cases h1:b<0
  .rw[if_pos h1,show bst b (trm s q f used left (mskL left 0 4)[i])=trm s q f used left (mskL left 0 4)[i] by unfold bst;rw[if_pos (.inl h1)]];exact ihi _
  .rw[if_neg h1];by_cases h2:trm s q f used left (mskL left 0 4)[i]<b
   .rw[if_pos h2,show bst b (trm s q f used left (mskL left 0 4)[i])=trm s q f used left (mskL left 0 4)[i] by unfold bst;rw[if_pos (.inr h2)]];exact ihi _
   .rw[if_neg h2,show bst b (trm s q f used left (mskL left 0 4)[i])=b by unfold bst;rw[if_neg (by rintro(h|h);exact h1 h;exact h2 h)]];exact ihi _
theorem Zcv4{s:Zh}{q:Zc}(c:Ctx s q):∀(f:Nat),f<=5->∀(used cc:Int),M16 cc->cc<2 ^ q.Atoms.length->popc cc<=f->Zpo s q used cc=some (I (chG s q f used cc),[]):=by
 intro f
 induction f with
 |zero =>
  intro _ used cc hl _ hp;refine Zbzi _ _ _ _ _ ?_;have h0:cc=0:=by
   obtain⟨a,rfl⟩:=m16 hl;by_cases h:a.1=0
   .omega
   .have:=(Zy2 a h).1;omega
  rw[if_pos h0];rfl
 |succ f ih =>
  intro hf used cc hl hlt hp;refine Zbzi _ _ _ _ _ ?_;by_cases h0:cc=0
  .rw[if_pos h0,chG,if_pos h0]
  rw[if_neg h0,Zb64 h0];refine .inr ⟨_,Zlp hl,?_⟩;have:=l_ich c (f:=f) (by omega) (used:=used) hl hlt (ih (by omega)) hp 0 (Ya _) (-1);unfold Zlo;rw[Z6o,Yo];simpa using this
theorem popc4{m:Int}(h:M16 m):popc m<=4:=by
 obtain⟨a,rfl⟩:=m16 h;exact(f_pop a).2.2.2
theorem Zcv5{s:Zh}{q:Zc}(c:Ctx s q){m:Int}(h1:1<=m)(h2:m<2 ^ q.Atoms.length)(le:okQ s q m=true):Zue s q m=some (I (chG s q 4 0 m),[]):=by
 have h16:=Zdn (by omega) h2 c.n4.2;refine Zcm8 _ _ _ _ ⟨_,Zlq c.le c.lq m,?_⟩;rw[le,if_pos rfl];exact⟨_,Zcv4 c 4 (by omega) 0 m h16 h2 (popc4 h16),rfl⟩
theorem Zn4:∀(m u:Fin 16),andI (u.1:Int) m.1=u.1->M16 (Zr (m.1:Int) u.1)/\((u.1:Int)=m.1↔Zr (m.1:Int) u.1=0):=by decide +kernel
theorem f_nxt:∀(m u:Fin 16) (i:Fin 4),andI (u.1:Int) m.1=u.1->(Zx (Zr (m.1:Int) u.1) i.1=(Zx (m.1:Int) i.1 && !Zx (u.1:Int) i.1))/\(Zx (m.1:Int) i.1=true->andI (orI (u.1:Int) (shlI 1 i.1)) m.1=orI (u.1:Int) (shlI 1 i.1))/\M16 (orI (u.1:Int) (shlI 1 i.1))/\Zr (m.1:Int) (orI (u.1:Int) (shlI 1 i.1))=Zr (Zr (m.1:Int) u.1) (shlI 1 i.1):=by decide +kernel
theorem l_sch{s:Zh}{q:Zc}(c:Ctx s q){f:Nat}(hf:f<=4){mask used:Int}(hm:M16 mask)(cc:mask<2 ^ q.Atoms.length)(hu:M16 used)(hs:andI used mask=used)(ih:∀(u:Int),M16 u->andI u mask=u->popc (Zr mask u)<=f->Zq2 ((List.range q.Atoms.length).map λi=>Zt (tab s q i)) q mask u=some (I (chG s q f u (Zr mask u)),[]))(hp:popc (Zr mask used)<=f+1):∀i,i<=q.Atoms.length->∀b,Ziw q ((List.range q.Atoms.length).map λi=>Zt (tab s q i)) mask used b i=some (I ((mskL (Zr mask used) i (q.Atoms.length-i)).foldl (λb i=>bst b (trm s q f used (Zr mask used) i)) b),[]):=by
 have hn4:=c.n4;have hl16:M16 (Zr mask used):=by
  obtain⟨a,rfl⟩:=m16 hm;obtain⟨u,rfl⟩:=m16 hu;exact(Zn4 a u hs).1
 refine down _ ?_ ?_
 .intro b;refine Zb1w _ _ _ _ _ _ _ ?_;rw[if_neg (by omega),Y6];rfl
 .intro i hi ihi b;have hb:Zx (Zr mask used) i=(Zx mask i && !Zx used i)/\(Zx mask i=true->andI (orI used (shlI 1 i)) mask=orI used (shlI 1 i))/\M16 (orI used (shlI 1 i))/\Zr mask (orI used (shlI 1 i))=Zr (Zr mask used) (shlI 1 i):=by
   obtain⟨a,rfl⟩:=m16 hm;obtain⟨u,rfl⟩:=m16 hu;exact f_nxt a u ⟨i,by omega⟩ hs
  refine Zb1w _ _ _ _ _ _ _ ?_;rw[if_pos (by omega),wS hi (by omega),show q.Atoms.length-i=(q.Atoms.length-(i+1))+1 by omega,mskL,hb.1];refine⟨by omega,?_⟩;by_cases e:andI (shrI mask i) 1=1
  .have e':Zx mask i=true:=decide_eq_true e;rw[if_pos e,e',Ye];rcases ft (Zx used i)with e2|e2
   .rw[if_neg (λhc=>by rw[(Zg4 hu (by omega)).1 hc]at e2;cases e2),e2,if_neg (by decide)];exact ihi b
   .have hleft:Zx (Zr mask used) i=true:=by rw[hb.1,e',e2];rfl
    rw[if_pos ((Zg4 hu (by omega)).2 e2),e2,if_pos (by rfl),Yc0];have hg:((List.range q.Atoms.length).map λi=>Zt (tab s q i))[((i:Nat):Int).toNat]?=some (Zt (tab s q i)):=by
     rw[Yh,Ybh,List.getElem?_range hi];rfl
    have hpn:popc (Zr mask (orI used (shlI 1 i)))<=f:=by
     rw[hb.2.2.2];obtain⟨a,ha⟩:=m16 hl16;rw[ha]at hp hleft|-;have:=(Zlr a ⟨i,by omega⟩ hleft).2;simp only at this;omega
    have hd:((degS (tab s q i) (Zb6 (Zbe q used) 0 (atA q i).Vars))++[0])[0]?=some (degC s q i used):=by
     rw[Zb63 hi];unfold degV;cases degS (tab s q i) (Zb6 (Zbe q used) 0 (atA q i).Vars)<;>rfl
    have hlen:=Zy1 (c.vt hi) (Zb6 (Zbe q used) 0 (atA q i).Vars);have hvl:Zqx (Zbo (pV used q.Atoms))=some (.own 0,[.arr 3 1 true ((Zbe q used).map ic)]):=by
     have:=Zb6w (pV used q.Atoms) 0 (by omega) [] (by simp);have e4:=vars4 q c.vq used;refine Zb1t _ _ ?_;rw[Yb2]at this;rw[show 4-0=4 from rfl,e4]at this;exact this
    refine⟨by omega,_,hg,_,Zez hi,_,Z5x q used c.lq (Zs7 c.vq),_,hvl,_,Zbkw (by have:=c.vars3 hi;omega) (Zbkz c used),_,x_13 (c.vt hi) (c.cols hi _),by omega,_,hd,_,ih _ hb.2.2.1 (hb.2.1 e') hpn,?_⟩;rw[hb.2.2.2,trm_w c hf hl16 (by omega) hleft];by_cases h1:b<0
    .rw[if_pos h1,show bst b (trm s q f used (Zr mask used) i)=trm s q f used (Zr mask used) i by unfold bst;rw[if_pos (.inl h1)]];exact ihi _
    .rw[if_neg h1];by_cases h2:trm s q f used (Zr mask used) i<b
     .rw[if_pos h2,show bst b (trm s q f used (Zr mask used) i)=trm s q f used (Zr mask used) i by unfold bst;rw[if_pos (.inr h2)]];exact ihi _
     .rw[if_neg h2,show bst b (trm s q f used (Zr mask used) i)=b by unfold bst;rw[if_neg (by rintro(h|h);exact h1 h;exact h2 h)]];exact ihi _
  .have e':Zx mask i=false:=decide_eq_false e;rw[if_neg e,e',Y4,if_neg (by decide)];exact ihi b
theorem Zcv6{s:Zh}{q:Zc}(c:Ctx s q){mask:Int}(hm:M16 mask)(cc:mask<2 ^ q.Atoms.length):∀(f:Nat),f<=5->∀(used:Int),M16 used->andI used mask=used->popc (Zr mask used)<=f->Zq2 ((List.range q.Atoms.length).map λi=>Zt (tab s q i)) q mask used=some (I (chG s q f used (Zr mask used)),[]):=by
 intro f;have key:∀used,M16 used->andI used mask=used->M16 (Zr mask used)/\(used=mask↔Zr mask used=0):=by
  intro used hu hs;obtain⟨a,rfl⟩:=m16 hm;obtain⟨u,rfl⟩:=m16 hu;exact Zn4 a u hs
 induction f with
 |zero =>
  intro _ used hu hs hp;obtain⟨k1,k2⟩:=key used hu hs;refine Zb1x _ _ _ _ _ ?_;have h0:Zr mask used=0:=by
   obtain⟨a,ha⟩:=m16 k1;rw[ha]at hp|-;by_cases h:a.1=0
   .omega
   .have:=(Zy2 a h).1;omega
  rw[if_pos (k2.2 h0)];rfl
 |succ f ih =>
  intro hf used hu hs hp;obtain⟨k1,k2⟩:=key used hu hs;refine Zb1x _ _ _ _ _ ?_;by_cases h0:used=mask
  .rw[if_pos h0,chG,if_pos (k2.1 h0)]
  have hne:Zr mask used≠0:=λhc=>h0 (k2.2 hc)
  rw[if_neg h0,Zb64 hne];have hn4:=c.n4;have hlt:Zr mask used<2 ^ q.Atoms.length:=by
   have:Zr mask used<=mask:=by
    obtain⟨a,rfl⟩:=m16 hm;obtain⟨u,rfl⟩:=m16 hu;exact f_le2 a u
   omega
  have:=l_sch c (f:=f) (by omega) hm cc hu hs (ih (by omega)) hp 0 (Ya _) (-1);rw[Nat.sub_zero,<-msk_n k1.1 hlt hn4.2]at this;exact this
theorem Zcv7{s:Zh}{q:Zc}(c:Ctx s q){m:Int}(h1:1<=m)(h2:m<2 ^ q.Atoms.length)(le:okQ s q m=true):Zwr s q m=some (I (chG s q 4 0 m),[]):=by
 have hn4:=c.n4;have h16:=Zdn (by omega) h2 c.n4.2;have e0:Zr m 0=m:=by obtain⟨a,rfl⟩:=m16 h16;exact f_not0 a
 have main:∀i,i<=q.Atoms.length->Zws s q ((List.range i).map λi=>Zt (tab s q i)) m i=some (I (chG s q 4 0 m),[]):=by
  refine down _ ?_ ?_
  .refine Zb1y _ _ _ _ _ _ ?_;rw[if_neg (by omega)];refine⟨chG s q 4 0 m,?_,rfl⟩;have:=Zcv6 c h16 h2 4 (by omega) 0 ⟨by omega,by omega⟩ (by obtain⟨a,rfl⟩:=m16 h16;exact f_and0 a) (by rw[e0];exact popc4 h16);rw[e0]at this;exact this
  .intro i hi ih;refine Zb1y _ _ _ _ _ _ ?_;rw[if_pos (by omega),wS hi (by omega)];rw[Ybs,Y0]at ih;exact⟨_,_,_,_,x_16S c hi,by simp;omega,ih⟩
 refine Zcp9 _ _ _ _ ⟨_,Zgp c.le c.lq m,?_⟩;rw[le,if_pos rfl];exact main 0 (Ya _)
theorem ch_in{s:Zh}{q:Zc}(c:Ctx s q){m:Int}(h:M16 m):0<=chG s q 4 0 m:=(chG_in c 4 0 m h).1
def pairV(s:Zh)(q:Zc)(a b:Nat):Int:=pairS (degS (tab s q a) (Zb6 (Zec q (shlI 1 a) (shlI 1 b)) 0 (atA q a).Vars)) (degS (tab s q b) (Zb6 (Zec q (shlI 1 a) (shlI 1 b)) 0 (atA q b).Vars))
theorem Zy3{s:Zh}{q:Zc}(c:Ctx s q){i:Nat}(h:i<q.Atoms.length):MQ q.Atoms (shlI 1 i):=by
 have hn4:=c.n4;have h1:(2:Nat) ^ i<2 ^ q.Atoms.length:=Nat.pow_lt_pow_right (by decide) h;rw[Zr7 (n:=(i:Int)) (by omega) (by omega),Yh];have e:∀k:Nat,((2:Int) ^ k)=(((2:Nat) ^ k:Nat):Int):=λk=>by push_cast;rfl
 refine⟨?_,?_⟩
 .rw[e];exact Int.natCast_nonneg _
 .exact_mod_cast h1
theorem Zb65{s:Zh}{q:Zc}(c:Ctx s q):okQ s q 1=true/\okQ s q (Zbm q.Zp q.Atoms)=true:=by
 have h1:=Zj7 c.vq;have hn:=c.n4;have h2:(2:Nat) ^ 1<=2 ^ q.Atoms.length:=Nat.pow_le_pow_right (by decide) hn.1;have e:((2:Int) ^ q.Atoms.length)=(((2:Nat) ^ q.Atoms.length:Nat):Int):=by push_cast;rfl
 have hf:Zbm q.Zp q.Atoms=2 ^ q.Atoms.length-1:=by unfold Zbm;rw[if_pos c.vq,h1.2.1]
 unfold okQ;rw[c.st,c.qf,hf,Ye,Ye,Ye,Ye];exact⟨Zy.2 ⟨by omega,by omega⟩,Zy.2 ⟨by omega,by omega⟩⟩
theorem Z6p{s:Zh}{q:Zc}(c:Ctx s q)(a b:Int):Le (Zec q a b):=by
 have:=Zjj q c.vq a;have h2:=Ycs (has (Zbe q b)) (Zbe q a);unfold Zec;omega
theorem Zcv8{s:Zh}{q:Zc}(c:Ctx s q){a b:Nat}(ha:a<q.Atoms.length)(hb:b<q.Atoms.length)(cc:a≠b):Zuj s q a b=some (I (pairV s q a b),[]):=by
 have hn4:=c.n4;have l1:=Zy1 (c.vt ha) (Zb6 (Zec q (shlI 1 a) (shlI 1 b)) 0 (atA q a).Vars);have l2:=Zy1 (c.vt hb) (Zb6 (Zec q (shlI 1 a) (shlI 1 b)) 0 (atA q b).Vars);refine Zcng _ _ _ _ _ ⟨_,Zlq c.le c.lq 1,?_⟩;rw[(Zb65 c).1,if_pos rfl,w_in (x:=(q.Atoms.length:Int)-1) ⟨by omega,by omega⟩];refine⟨_,Zbu _ _ _,?_⟩;rw[show inR (a:Int) 0 ((q.Atoms.length:Int)-1)=true from Zy.2 ⟨by omega,by omega⟩,if_pos rfl];refine⟨_,Zbu _ _ _,?_⟩;rw[show inR (b:Int) 0 ((q.Atoms.length:Int)-1)=true from Zy.2 ⟨by omega,by omega⟩,if_pos rfl,if_neg (by omega)];exact⟨by omega,by omega,_,Zcvx q c.lq c.vq _ _ (Zy3 c ha) (Zy3 c hb),_,_,_,_,Zsb c ha,by omega,_,Zez ha,_,Zbkv (by have:=c.vars3 ha;omega) (Z6p c _ _),_,Zbkn (c.lt ha) (c.vt ha) (c.cols ha _),_,_,_,_,Zsb c hb,by omega,_,Zez hb,_,Zbkv (by have:=c.vars3 hb;omega) (Z6p c _ _),_,Zbkn (c.lt hb) (c.vt hb) (c.cols hb _),_,Zcum (by omega) (by omega),rfl⟩
theorem Zcv9{s:Zh}{q:Zc}(c:Ctx s q){a b:Nat}(ha:a<q.Atoms.length)(hb:b<q.Atoms.length)(cc:a≠b):Zq9 s q a b=some (I (pairV s q a b),[]):=by
 have hn4:=c.n4;have l1:=Zy1 (c.vt ha) (Zb6 (Zec q (shlI 1 a) (shlI 1 b)) 0 (atA q a).Vars);have l2:=Zy1 (c.vt hb) (Zb6 (Zec q (shlI 1 a) (shlI 1 b)) 0 (atA q b).Vars);refine Zcqh _ _ _ _ _ ⟨_,Zi7 _ c.lq,_,Zgp c.le c.lq _,?_⟩;rw[(Zb65 c).2,if_pos rfl,w_in (x:=(q.Atoms.length:Int)-1) ⟨by omega,by omega⟩];refine⟨_,Z8 _ _ _,?_⟩;rw[show inR (a:Int) 0 ((q.Atoms.length:Int)-1)=true from Zy.2 ⟨by omega,by omega⟩,if_pos rfl];refine⟨_,Z8 _ _ _,?_⟩;rw[show inR (b:Int) 0 ((q.Atoms.length:Int)-1)=true from Zy.2 ⟨by omega,by omega⟩,if_pos rfl,if_neg (by omega)];exact⟨by omega,by omega,_,Zb6x q c.lq c.vq _ _ (Zy3 c ha) (Zy3 c hb),_,_,_,_,x_16S c ha,by omega,_,Zez ha,_,Zbkw (by have:=c.vars3 ha;omega) (Z6p c _ _),_,Zbkt (c.lt ha) (c.vt ha) (c.cols ha _),_,_,_,_,x_16S c hb,by omega,_,Zez hb,_,Zbkw (by have:=c.vars3 hb;omega) (Z6p c _ _),_,Zbkt (c.lt hb) (c.vt hb) (c.cols hb _),_,Zcun (by omega) (by omega),rfl⟩
end Go.Proofs.YtnnjbejcffjgfaaGreat
