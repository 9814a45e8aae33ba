/-
  Parts of the proofs for this seat: LI LJ LK LL LM LN LO LP LR LT LU LW LX LY.
-/
import Derived.Test.YtobfkfgdneeabaaGreatP35
import Derived.Test.YtobfkfgdneeabaaGreatP37
set_option linter.all false
set_option maxRecDepth 100000
set_option maxHeartbeats 4000000
namespace Go.Proofs.YtobfkfgdneeabaaGreat
open Go.AM
noncomputable section
theorem ZT8{a b c:V2}(h1:ZH a b<0)(h2:ZH b c<0):ZH a c<0:=by
 grind [I8,Int.lt_or_eq_of_le,UM,Kv]
def ZGk:∀{l:XS} {p:Option (V2)},WJ DF p l=true->Hf l/\∀q,p=some q->∀x∈l,ZH q x<0
 |[],p,_=>⟨List.Pairwise.nil,λq _ x hx=>by cases hx⟩
 |a::l,p,h=>by
  simp only[WJ,Yf]at h;obtain⟨h1,h2⟩:=ZGk h.2;have h3:=h2 a rfl;refine⟨Y4.2 ⟨h3,h1⟩,λq hq x hx=>?_⟩;subst hq;have h4:ZH q a<0:=by simpa[BD,DF]using h.1
  grind [ZT8]
def ZGl{t:Zl}(h:ZO t=true):Ua t.Rows=t.Rows:=by
 unfold ZO at h;simp only[Yf]at h;exact Zre (Z2F _) (ZGk h.2.2).1 λx=>rU _ _
def cF(n:Int):V2:=if n=1 then[0]else if n=2 then[0,1]else[0,1,2]
def ZGm{t:Zl}(h:ZO t=true){r:V2}(hr:r∈t.Rows):(r.length:Int)=t.Arity:=by
 unfold ZO at h;simp only[Yf]at h;have h1:=Ym.1 h.2.1 r hr;unfold B3 at h1
 simp_all
def ZT9{n:Int}(h:Am n 1 3=true){r:V2}(hr:(r.length:Int)=n):X1 r (cF n)=r:=by
 have h':=ZK.1 h
 match r with
 |[a] =>
  obtain rfl:n=1:=by simpa using hr.symm
  rfl
 |[a,b] =>
  obtain rfl:n=2:=by simpa using hr.symm
  rfl
 |[a,b,c] =>
  obtain rfl:n=3:=by simpa using hr.symm
  rfl
 |[]=>simp at hr;omega
 |_::_::_::_::_=>simp at hr;omega
def ZTA{t:Zl}(h:ZO t=true):Hs t.Rows (cF t.Arity)=t.Rows:=by
 unfold Hs
 have:XV t.Rows (cF t.Arity)=t.Rows:=by
  unfold XV;refine(CZ λr hr=>ZT9 (VB h) (ZGm h hr)).trans (List.map_id _)
 rw[this,ZGl h]
def ZTB{t:Zl}(h:ZO t=true):(ZJ t).Groups[((((ZJ t).Groups.length:Int)-1)).toNat]?=some (grp t.Rows (cF t.Arity)):=by
 have h':=ZK.1 (VB h)
 have:t.Arity=1\/t.Arity=2\/t.Arity=3:=by omega
 unfold ZJ Vr cF;rcases this with e|e|e<;>simp[e]
def ZTC{t:Zl}(h:ZO t=true):0<(ZJ t).Groups.length/\(ZJ t).Groups.length<=7:=by
 have:=bY (VB h);simpa[ZJ]using this
def Z3M{t:Zl}(hT:ZO t=true):Em (ZJ t):=by
 have h7:=bY (VB hT);have h8:=Qn hT;refine⟨by simp[ZJ];omega,λg hg=>?_⟩;obtain⟨c,hc,rfl⟩:=Yn.1 hg;have hc3:=(Z3F (VB hT) c hc).1;have hg:=Z3G t.Rows c;refine⟨by simp only[grp];omega,⟨by simp only[grp];omega,λr hr=>?_⟩,by simp only[grp,Lp,Y1];omega⟩;have:=ZFS hr;omega
def Ve{t:Zl}(h:ZO t=true):∀r∈t.Rows,r.length<=4:=λr hr=>by
 have:=ZGm h hr
 grind [ZK,VB]
def AbF{t:Zl}(h:CC t)(hv:ZO t=true)(a:KI)(b:Int):∀i,i<=t.Rows.length->∀acc:XS,acc.length<=i->(∀x∈acc,x.length<=4)->J8 acc (t.Rows.drop i)=t.Rows->jO a b t.Name t.Arity acc t.Rows i=some (.tup [.agg [.t (.str t.Name),I t.Arity,.own 0],Bo true],[.arr 38 1 true (t.Rows.map Ae)]):=by
 have h8:=Qn hv;refine down _ ?_ ?_
 .intro acc ha h4 he;apply aG.1.2;rw[Yl]at he;have he:acc=t.Rows:=he;subst he;rw[Ao];have:=ZqE t h
  simp_all
 .intro i hi ih acc ha h4 he;apply aG.1.2;rw[Yg hi]at he;have hr4:=Ve hv _ (Ye hi);have hp:=rV acc t.Rows[i] false;rw[An,An,wS hi E];refine⟨E,_,gE hi,_,Z2G E h4 hr4,ih _ E (λx hx=>?_) he⟩
  grind [OH]
def ZTD(row:V2)(hr:row.length<=4):KE row=some (.own 0,[.arr 38 1 true ((WO [] row false).map Ae)]):=by
 apply Xl.2.1.2.1;apply Xl.2.1.1.2;simp[WO];omega
def ZTE{t:Zl}(hv:ZO t=true):H6 t.Name t.Arity=some (Bo true,[]):=by
 unfold ZO at hv
 simp_all [Yf,Xg.2.2.2.2.2,Z2b,ZS,Xg.2.2.2.2.1]
def PT{t:Zl}(h:CC t)(hv:ZO t=true):Zop t.Name t.Arity t.Rows=some (.tup [.agg [.t (.str t.Name),I t.Arity,.own 0],Bo true],[.arr 38 1 true (t.Rows.map Ae)]):=by
 have h8:=Qn hv;apply aG.2.1;apply aG.1.1;have hp:=Z2H t.Rows;rw[ZGl hv]at hp;by_cases h0:t.Rows=[]
 .simp_all [ZTE]
 .have hl:0<t.Rows.length:=CE.2 h0;rw[An,show w (0+1)=((0+1:Nat):Int) by decide];have hr4:=Ve hv _ (Ye hl);refine⟨E,_,gE (i:=0) hl,_,ZTD _ hr4,AbF h hv _ _ (0+1) E _ ?_ ?_ ?_⟩
  .exact rV [] _ _
  .simp_all [OH]
  .have e:t.Rows=t.Rows[0]::t.Rows.drop (0+1):=by
    have:=Yg hl
    rwa [Yq]at this
   rw[e]at hp;exact hp.trans e.symm
def vE{t:Zl}(h:CC t)(hv:ZO t=true):Zoq (ZJ t)=some (.tup [.agg [.t (.str t.Name),I t.Arity,.own 0],Bo true],[.arr 38 1 true (t.Rows.map Ae)]):=by
 have h7:=ZTC hv;apply aG.2.2.1;rw[Ao,ZV (x:=((ZJ t).Groups.length:Int)-1) ⟨E,E⟩];refine⟨E,_,ZTB hv,_,_,_,_,?_,rfl⟩;rw[show(grp t.Rows (cF t.Arity)).Values=t.Rows from ZTA hv];exact PT h hv
theorem Z3N{t:Zl}(h:CC t)(hv:ZO t=true):Gx (ZJ t)=some (Bo true,[]):=by
 refine aG.2.2.2 _ _ ⟨_,_,_,_,vE h hv,?_⟩;rw[Ya rfl];refine⟨_,Z3I h hv,true,?_,rfl⟩;have:=ZGc (ZJ t) (ZJ t) (Z3M hv) (Z3M hv)
 simp_all
def Qu(t:Zl)(cols:V2):V2:=(ZE (Lp t.Rows cols)).reverse
theorem ZGn(rows:XS)(cols:V2):(Lp rows cols).length<=rows.length:=by
 unfold Lp;rw[Y1];exact Z3G rows cols
theorem ZTF(l:V2):(ZE l).length=l.length:=(RH _ _).length_eq
def Z3O(x:Int):∀(c:V2) (k:Nat),k<=c.length->(∀z∈c.drop k,z<x)->(k=0\/¬c.getD (k-1) 0<x)->c.take k++[x]++c.drop k=Uy x c
 |[],k,hk,_,_=>by
  have:k=0:=by simpa using hk
  subst this;rfl
 |y::ys,k,hk,h1,h2=>by
  unfold Uy
  cases k with
  |zero =>
   rw[Yq]at h1;rw[Ya ⟨h1 y Z,λz hz=>h1 z (by simp[hz])⟩]
   rfl
  |succ k =>
   have hn:¬(y<x/\∀z∈ys,z<x):=by
    rintro⟨c1,c2⟩;rcases h2 with h2|h2
    .omega
    .apply h2;rw[Ydr]
     cases k with
     |zero=>exact c1
     |succ k =>
      have hk':k<ys.length:=by simp at hk;omega
      have:(y::ys).getD (k+1) 0=ys[k]:=by rw[List.getD_cons_succ,CF,Yh hk'];rfl
      rw[this];exact c2 _ (Ye hk')
   rw[Yb hn]
   have:=Z3O x ys k (by simpa using hk) (by simpa using h1) (by
    cases k with
    |zero=>exact .inl rfl
    |succ k =>
     right;rcases h2 with h2|h2
     .omega
     .simpa using h2)
   rw[<-this];rfl
def ZTG(x:Int)(l:V2):(Uy x l).length=l.length+1:=by simpa using(ZrA x l).length_eq
def ZTH{l out:V2}{i:Nat}(hi:i<l.length)(ho:out.length<=1000)(res:XR)(cc:Gz (Uy l[i] out) l (w ((i:Int)+1))=some res):∀k,k<=out.length->(∀z∈out.drop k,z<l[i])->MM out l i k=some res:=by
 intro k
 induction k with
 |zero =>
  intro hk hz;apply ZCl;rw[Ao];have e:=Z3O l[i] out 0 hk hz (.inl rfl)
  grind
 |succ k ih =>
  intro hk hz;have hk':k<out.length:=by omega
  apply ZCl;have hw:w (((k+1:Nat):Int)-1)=(k:Int):=by rw[ZV ⟨E,E⟩];omega
  rw[An,hw];refine⟨E,_,Ln hk',E,_,gE hi,?_⟩;by_cases c:out.getD k 0<l[i]
  .grind [List.drop_eq_getElem_cons,Pz]
  .rw[Yb c];have e:=Z3O l[i] out (k+1) hk hz (.inr (by rw[Ydr];exact c))
   grind
def ZTI(l:V2)(hl:l.length<=500):∀i,i<=l.length->∀out:V2,out.length<=i->Gz out l i=some (.own 0,[.arr 3 1 true (((l.drop i).foldl (λo x=>Uy x o) out).map ic)]):=by
 refine down _ ?_ ?_
 .simp[pG.1.1,Yl]
 .intro i hi ih out ho;apply pG.1.1;rw[An,Yg hi];exact ZTH hi E _ (by rw[wS hi E];exact ih _ (by rw[ZTG];omega)) out.length (Yi _) Z
def PU{l:V2}(hl:l.length<=500):Zo2 l=some (.own 0,[.arr 3 1 true ((ZE l).reverse.map ic)]):=by
 have:=ZTI l hl 0 (Yc _) [] Z;apply pG.1.2;rw[<-Pl];exact this
def ZTJ(rows:XS):Hs rows []=if rows=[]then[]else[[]]:=by
 unfold Hs;refine Zre (Z2F _) ?_ λx=>?_
 .split
  .exact List.Pairwise.nil
  .simp
 .rw[rU];unfold XV
  cases rows with
  |nil=>simp
  |cons r rows=>simp[X1]
def ZTK(rows:XS):cnt (XV rows []) []=rows.length:=by
 unfold cnt XV;rw[List.filter_eq_self.2 (by intro x hx;obtain⟨r,_,rfl⟩:=Yn.1 hx;simp[X1])];simp
def ZTL(t:Zl):Qu t []=if t.Rows=[]then[]else[(t.Rows.length:Int)]:=by
 unfold Qu Lp;rw[ZTJ];split
 .simp[ZE]
 .rw[Yv,De,ZTK];simp[ZE]
def ZTM{n:Int}(h:Am n 1 3=true){cols:V2}(hc:WZ n cols=true)(h0:cols≠[]):cols∈Vr n:=by
 have h':=ZK.1 h;have hl:=Z3H hc E;have hn:n=1\/n=2\/n=3:=by omega
 match cols,h0 with
 |[a],_ =>
  simp only[WZ,VA,BD,Fn,Bool.and_true,ZK]at hc
  have:a=0\/a=1\/a=2:=by omega
  rcases hn with rfl|rfl|rfl<;>rcases this with rfl|rfl|rfl<;>first|decide|omega
 |[a,b],_ =>
  simp only[WZ,VA,BD,Fn,Bool.and_true,Yf,ZK,decide_eq_true_eq]at hc
  have:a=0\/a=1\/a=2:=by omega
  have:b=0\/b=1\/b=2:=by omega
  rcases hn with rfl|rfl|rfl<;>rcases ‹a=0\/a=1\/a=2› with rfl|rfl|rfl<;>rcases ‹b=0\/b=1\/b=2› with rfl|rfl|rfl<;>first|decide|omega
 |[a,b,c],_ =>
  simp only[WZ,VA,BD,Fn,Bool.and_true,Yf,ZK,decide_eq_true_eq]at hc;have e:a=0/\b=1/\c=2/\n=3:=by omega
  obtain⟨rfl,rfl,rfl,rfl⟩:=e
  decide
 |_::_::_::_::_,_=>simp at hl;omega
def AbG{t:Zl}(hv:ZO t=true){cols:V2}(c:cols.length<=3):∀i,i<=(Vr t.Arity).length->cols∈(Vr t.Arity).drop i->jW (ZJ t) cols i=some (.own 0,[.arr 3 1 true ((Qu t cols).map ic)]):=by
 have h7:=bY (VB hv);have h8:=Qn hv;have hgl:(ZJ t).Groups.length=(Vr t.Arity).length:=by simp[ZJ]
 refine down _ ?_ ?_
 .simp
 .intro i hi ih hm;have hg:(ZJ t).Groups[((i:Nat):Int).toNat]?=some (grp t.Rows (Vr t.Arity)[i]):=by
   rw[Yj];unfold ZJ;rw[RI,Yh hi];rfl
  have hc3:=(Z3F (VB hv) _ (Ye hi)).1;apply pG.2.1;rw[An,wS hi E];refine⟨E,_,hg,_,KV _ _ (by simp only[grp];omega) E,?_⟩;rw[show(grp t.Rows (Vr t.Arity)[i]).Columns=(Vr t.Arity)[i]from rfl];by_cases e:(Vr t.Arity)[i]=cols
  .rw[Ya (by rw[<-e];exact KX _)];have hl:=ZGn t.Rows (Vr t.Arity)[i];refine⟨_,PU (by simp only[grp];omega),?_⟩;rw[<-e];rfl
  .grind [UM,List.drop_eq_getElem_cons]
theorem vF{t:Zl}(hv:ZO t=true){cols:V2}(hc:WZ t.Arity cols=true):Tf (ZJ t) cols=some (.own 0,[.arr 3 1 true ((Qu t cols).map ic)]):=by
 have hA:=ZK.1 (VB hv);have hl:=Z3H hc E;apply pG.2.2;by_cases h0:cols=[]
 .subst h0;rw[Ya Z,ZTL];have e:(ZJ t).RowCount=(t.Rows.length:Int):=rfl
  simp_all
 .have:=CE.2 h0;rw[Ao];have:=AbG hv (cols:=cols) E 0 (Yc _) (by rw[Yq];exact ZTM (VB hv) hc h0);simpa using this
def Z3P{t:Zl}(h:CC t)(hv:ZO t=true){cols:V2}(hc:WZ t.Arity cols=true):Ti (ZJ t) cols=some (.own 0,[.arr 3 1 true ((Qu t cols).map ic)]):=by
 grind [Wh.1.2.1.1,Z3N,vF]
def Hu(t:Zl)(cols:V2):Int:=(Qu t cols).getD 0 0
def ZTN{t:Zl}(h:CC t)(hv:ZO t=true){cols:V2}(hc:WZ t.Arity cols=true):Zo9 (ZJ t) cols=some (I (Hu t cols),[]):=by
 refine Wh.2.2.1.2 _ _ _ ⟨_,Z3P h hv hc,?_⟩;unfold Hu
 grind
def ZTO{t:Zl}(hv:ZO t=true){cols:V2}{x:Int}(hx:x∈Qu t cols):0<=x/\x<=8:=by
 have h8:=Qn hv;unfold Qu at hx;rw[List.mem_reverse]at hx;obtain⟨g,_,rfl⟩:=Yn.1 ((RH _ _).mem_iff.1 hx);have h1:=ZFT (XV t.Rows cols) g;have h2:=ZFU (XV t.Rows cols) g
 grind [ZrN]
def Z3Q{t:Zl}(hv:ZO t=true)(cols:V2):(Qu t cols).length<=8:=by
 have h8:=Qn hv;unfold Qu
 grind [List.length_reverse,ZTF,ZGn]
def ZTP{t:Zl}(hv:ZO t=true)(cols:V2):0<=Hu t cols/\Hu t cols<=8:=by
 unfold Hu
 cases e:Qu t cols with
 |nil=>exact⟨Z,Z⟩
 |cons a l=>exact ZTO hv (cols:=cols) (by rw[e];simp)
structure Ctx (s:Zs) (q:Zc):Prop where
 le:Qt s
 lq:AW q
 st:PP s=true
 qf:ZN s.Zj q=true
def Bl(q:Zc)(i:Nat):Zd:=q.Atoms.getD i ⟨⟨#[]⟩,[]⟩
def tab(s:Zs)(q:Zc)(i:Nat):Zl:=(ZZ s.Zj (Bl q i).Name).getD ⟨⟨#[]⟩,0,[]⟩
def PV{q:Zc}{i:Nat}(h:i<q.Atoms.length):q.Atoms[((i:Nat):Int).toNat]?=some (Bl q i):=by
 unfold Bl
 simp_all
def ZTQ{q:Zc}{i:Nat}(h:i<q.Atoms.length):Bl q i∈q.Atoms:=by
 unfold Bl
 simp_all
section
variable{s:Zs}{q:Zc}(c:Ctx s q)
include c
theorem Ctx.vd:WC s.Zj=true:=by
 have:=c.st;unfold PP at this
 simp_all
theorem Ctx.tabs:s.ZM.Tables=s.Zj.Tables.map ZJ:=by
 have:=c.st;unfold PP at this
 simp_all
theorem Ctx.vq:Zx q.Zi q.Atoms=true:=by
 have:=c.qf;unfold ZN at this
 simp_all
theorem Ctx.n4:1<=q.Atoms.length/\q.Atoms.length<=4:=by
 have:=XF c.vq;omega
theorem Ctx.look{i:Nat}(h:i<q.Atoms.length):ZZ s.Zj (Bl q i).Name=some (tab s q i)/\(tab s q i).Arity=((Bl q i).Vars.length:Int):=by
 have hq:=c.qf;unfold ZN at hq;simp only[Yf]at hq;have:=Ym.1 hq.2 _ (ZTQ h);unfold WT at this;unfold tab
 grind
theorem Ctx.vt{i:Nat}(h:i<q.Atoms.length):ZO (tab s q i)=true:=b8 (c.look h).1
theorem Ctx.lt{i:Nat}(h:i<q.Atoms.length):CC (tab s q i):=ZGd c.le.d (c.look h).1
theorem vG(n:KI):∀i,i<=s.Zj.Tables.length->∀t,(s.Zj.Tables.drop i).find? (λt=>decide (t.Name=n))=some t->jT s.ZM ⟨#[]⟩ 0 0 n i=some (.tup [.agg [.t (.str t.Name),I t.Arity,I (t.Rows.length:Int),.own 0],Bo true],[.arr 261 3 true ((ZJ t).Groups.map ZA.c)]):=by
 have hl:s.ZM.Tables.length=s.Zj.Tables.length:=by rw[c.tabs,Y1]
 have h6:=Z3J c.vd;refine down _ ?_ ?_
 .simp
 .intro i hi ih t ht;have hg:s.ZM.Tables[((i:Nat):Int).toNat]?=some (ZJ s.Zj.Tables[i]):=by
   rw[Yj,c.tabs,RI,Yh hi];rfl
  rw[Yg hi,List.find?_cons]at ht;have hT:=Ye hi;apply W9.1.2.2.2.1;rw[An,wS hi E];refine⟨E,_,hg,?_⟩;have en:(ZJ s.Zj.Tables[i]).Name=s.Zj.Tables[i].Name:=rfl;by_cases e:s.Zj.Tables[i].Name=n
  .rw[decide_eq_true e]at ht;cases ht;rw[Ya (by rw[en];exact e)];refine⟨_,Z3N (c.le.d.2 _ hT) (QJ c.vd hT),?_⟩;rw[Ya rfl];exact⟨_,_,_,_,vD _ (Z3M (QJ c.vd hT)),rfl⟩
  .simp_all
theorem Ctx.find{i:Nat}(h:i<q.Atoms.length):s.Zj.Tables.find? (λt=>decide (t.Name=(Bl q i).Name))=some (tab s q i):=by
 have:=(c.look h).1;unfold ZZ at this
 rwa [Ya c.vd]at this
theorem ZTR{i:Nat}(h:i<q.Atoms.length):Zot s.ZM (Bl q i).Name=some (.tup [.agg [.t (.str (tab s q i).Name),I (tab s q i).Arity,I ((tab s q i).Rows.length:Int),.own 0],Bo true],[.arr 261 3 true ((ZJ (tab s q i)).Groups.map ZA.c)]) :=
 W9.1.2.2.2.2 _ _ _ (vG c _ 0 (Yc _) _ (by rw[Yq];exact c.find h))
theorem PW{i:Nat}(h:i<q.Atoms.length):QB s q i=some (.agg [.t (.str (tab s q i).Name),I (tab s q i).Arity,I ((tab s q i).Rows.length:Int),.own 0],[.arr 261 3 true ((ZJ (tab s q i)).Groups.map ZA.c)]) :=
 W9.2.1.1.1 _ _ _ _ ⟨E,_,PV h,_,_,_,_,_,ZTR c h,rfl⟩
end
def BT(s:Zs)(q:Zc)(m:Int):Bool:=PP s && (ZN s.Zj q && Am m 1 (ZU q.Zi q.Atoms))
def K2{s:Zs}{q:Zc}(h:Qt s)(hq:AW q)(m:Int):VG s q m=some (Bo (BT s q m),[]):=by
 refine X8.1.2.2.2.2 _ _ _ _ ⟨_,ZT6 h,?_⟩;unfold BT;rcases ft (PP s)with e|e
 .rw[e,Ya rfl,Yk];refine⟨_,IY _ h.d _ hq,?_⟩
  simp_all
 .simp_all
theorem vH{s:Zs}{q:Zc}(h:Qt s)(hq:AW q){m:Int}(e:BT s q m=true):Ctx s q/\1<=m/\m<2 ^ q.Atoms.length:=by
 unfold BT at e;simp only[Yf]at e;have c:Ctx s q:=⟨h,hq,e.1,e.2.1⟩;have h1:=ZK.1 e.2.2;have h2:=(Jv c.vq).2.1;unfold ZU at h1
 grind
def VO(vars:V2):Nat->V2->V2
 |_,[]=>[]
 |k,v::vs=>if has vars v=true then(k:Int)::VO vars (k+1) vs else VO vars (k+1) vs
def Z3R(c:V2)(n:Int):∀(vs:V2) (k:Nat) (p:Option Int),(∀q,p=some q->q<k)->(k:Int)+vs.length<=n->VA n p (VO c k vs)=true
 |[],_,_,_,_=>rfl
 |v::vs,k,p,hp,hn=>by
  simp only[Ys]at hn;unfold VO;split
  .simp only[VA,Yf];refine⟨⟨ZK.2 ⟨E,E⟩,?_⟩,Z3R c n vs (k+1) (some k) (λq hq=>by cases hq;omega) E⟩
   cases p with
   |none=>rfl
   |some q=>simpa[BD,Fn]using hp q rfl
  .exact Z3R c n vs (k+1) p (λq hq=>by have:=hp q hq;omega) E
def ZTS(vars:V2){n:Int}{vs:V2}(h:n=vs.length):WZ n (VO vars 0 vs)=true:=Z3R vars n vs 0 none (λq hq=>by cases hq) E
def vI(a:Zd)(vars:V2)(ha:a.Vars.length<=1000)(hv:Le vars):∀i,i<=a.Vars.length->∀out:V2,out.length<=i->Td a out vars i=some (.own 0,[.arr 3 1 true ((out++VO vars i (a.Vars.drop i)).map ic)]):=by
 refine down _ ?_ ?_
 .intro out ho;apply W9.2.2.2.2.1;rw[Ao,Yl];simp[VO]
 .intro i hi ih out ho;apply W9.2.2.2.2.1;rw[An,wS hi E,Yg hi,VO];refine⟨E,_,gE hi,_,G3 _ _ hv,?_⟩
  grind
def Z3S{a:Zd}{vars:V2}(ha:a.Vars.length<=1000)(hv:Le vars):ML a vars=some (.own 0,[.arr 3 1 true ((VO vars 0 a.Vars).map ic)]):=W9.2.2.2.2.2 _ _ _ (by simpa using vI a vars ha hv 0 (Yc _) [] Z)
def Ctx.vars3{s:Zs}{q:Zc}(c:Ctx s q){i:Nat}(h:i<q.Atoms.length):(Bl q i).Vars.length<=3:=by
 have h1:=(c.look h).2;have h2:=ZK.1 (VB (c.vt h));omega
def Ctx.cols{s:Zs}{q:Zc}(c:Ctx s q){i:Nat}(h:i<q.Atoms.length)(cc:V2):WZ (tab s q i).Arity (VO cc 0 (Bl q i).Vars)=true:=ZTS cc (c.look h).2
def ZB(m:Int):Nat->Nat->V4
 |_,0=>[]
 |i,k+1=>if Zw m i=true then i::ZB m (i+1) k else ZB m (i+1) k
def ZGo(m:Int):∀(k i:Nat),OR m i k=(ZB m i k).map λn:Nat=>(n:Int)
 |0,i=>rfl
 |k+1,i=>by
  rw[ZEk,ZGo m k (i+1),ZB];split<;>simp
def ZGp(m:Int):∀(a i b:Nat),ZB m i (a+b)=ZB m i a++ZB m (i+a) b
 |0,i,b=>by simp[ZB]
 |a+1,i,b=>by
  rw[show a+1+b=(a+b)+1 by omega,ZB,ZB,ZGp m a (i+1) b,show i+1+a=i+(a+1) by omega];split<;>rfl
def ZGq(m:Int):∀(k i:Nat),(∀j,i<=j->j<i+k->Zw m j=false)->ZB m i k=[]
 |0,_,_=>rfl
 |k+1,i,h=>by
  rw[ZB,h i E E,Yb Om];exact ZGq m k (i+1) λj h1 h2=>h j E E
set_option maxRecDepth 100000 in
def vJ:∀(a:Fin 16) (n i:Fin 5),a.1<2 ^ n.1->n.1<=i.1->Zw (a.1:Int) i.1=false:=by decide
def Z3T{m:Int}{n:Nat}(h0:0<=m)(hm:m<2 ^ n)(hn:n<=4):ZB m 0 4=ZB m 0 n:=by
 have h16:m<16:=by
  have:(2:Nat) ^ n<=2 ^ 4:=Nat.pow_le_pow_right Om hn
  grind
 obtain⟨a,rfl⟩:=m16 ⟨h0,h16⟩;have ha:a.1<2 ^ n:=by
  grind
 have h4:ZB (a.1:Int) 0 4=ZB (a.1:Int) 0 n++ZB (a.1:Int) (0+n) (4-n):=by
  have:=ZGp (a.1:Int) n 0 (4-n)
  rwa [show n+(4-n)=4 by omega]at this
 rw[h4,ZGq (a.1:Int) (4-n) (0+n) λj h1 h2=>vJ a ⟨n,E⟩ ⟨j,E⟩ ha (by simpa using h1),CX]
def PX{m:Int}:∀{k i j:Nat},j∈ZB m i k->i<=j/\j<i+k/\Zw m j=true
 |0,i,j,h=>by cases h
 |k+1,i,j,h=>by
  rw[ZB]at h;split at h
  .rcases Yy.1 h with rfl|h
   .simp_all
   .obtain⟨a,b,c⟩:=PX h;exact⟨E,E,c⟩
  .obtain⟨a,b,c⟩:=PX h;exact⟨E,E,c⟩
def PY{m:Int}{n:Nat}(h0:0<=m)(hm:m<2 ^ n)(hn:n<=4):Bf m:=by
 have:(2:Nat) ^ n<=2 ^ 4:=Nat.pow_le_pow_right Om hn
 grind
def VC(s:Zs)(q:Zc)(i:Nat):Int:=((tab s q i).Rows.length:Int)
def ZrU(s:Zs)(q:Zc)(l:V4)(n:Int):Int:=l.foldl (λa i=>a*VC s q i) n
def ZGr(m:Int):∀(k i:Nat),(ZB m i k).length<=k
 |0,_=>Yi _
 |k+1,i=>by
  rw[ZB];have:=ZGr m k (i+1)
  grind
def ZTT{s:Zs}{q:Zc}(c:Ctx s q){n:Int}{i:Nat}(hi:i<q.Atoms.length)(h0:0<=n)(h1:n<=4096):w (n*VC s q i)=n*VC s q i:=by
 have h8:=Qn (c.vt hi);have hr:0<=VC s q i/\VC s q i<=8:=⟨by unfold VC;omega,by unfold VC;omega⟩;have h2:=Int.mul_nonneg h0 hr.1;have h3:=Int.mul_le_mul h1 hr.2 hr.1 E
 grind [ZV]
section
variable{s:Zs}{q:Zc}(c:Ctx s q){m:Int}(h1:1<=m)(h2:m<2 ^ q.Atoms.length)
include c h1 h2
theorem Ctx.msk:sB m=(ZB m 0 q.Atoms.length).map λn:Nat=>(n:Int):=by
 unfold sB;rw[ZGo,Z3T E h2 c.n4.2]
omit h1 h2 in
theorem vK:∀i,i<=q.Atoms.length->∀n,0<=n->n<=8 ^ i->Tc s q m n i=some (I (ZrU s q (ZB m i (q.Atoms.length-i)) n),[]):=by
 have hn4:=c.n4;have p8:∀i,i<=4->(8:Int) ^ i<=4096:=by
  intro i hi
  have:(8:Nat) ^ i<=8 ^ 4:=Nat.pow_le_pow_right Om hi
  grind
 refine down _ ?_ ?_
 .intro n _ _;apply W9.2.2.1.2;rw[Ao,Et];rfl
 .intro i hi ih n h0 hn;have h8:=Qn (c.vt hi);have hr:0<=VC s q i/\VC s q i<=8:=⟨by unfold VC;omega,by unfold VC;omega⟩;have hp:=p8 i E;have hpp:(8:Int) ^ (i+1)=8 ^ i*8:=Int.pow_succ 8 i;apply W9.2.2.1.2;rw[An,wS hi E,show q.Atoms.length-i=(q.Atoms.length-(i+1))+1 by omega,ZB];refine⟨E,?_⟩;by_cases e:Ai (As m i) 1=1
  .rw[Ya e,Ya (by unfold Zw;exact decide_eq_true e)];refine⟨_,_,_,_,PW c hi,?_⟩;rw[show((tab s q i).Rows.length:Int)=VC s q i from rfl,ZTT c hi h0 E];refine ih _ (Int.mul_nonneg h0 hr.1) ?_;rw[hpp];exact Int.mul_le_mul hn hr.2 hr.1 E
  .rw[Yb e,Yb (by unfold Zw;simpa using e)]
   grind
theorem ZTU(le:BT s q m=true):jV s q m=some (I (ZrU s q (ZB m 0 q.Atoms.length) 1),[]):=by
 refine W9.2.2.2.1 _ _ _ _ ⟨_,K2 c.le c.lq m,?_⟩;rw[le,Ya rfl];exact vK c 0 (Yc _) 1 E Z
end
def JM(s:Zs)(q:Zc)(i:Nat)(c:Int):Int:=if i<q.Atoms.length then Hu (tab s q i) (VO (ZI q c) 0 (Bl q i).Vars)else 0
def CY(s:Zs)(q:Zc):Nat->Int->Int->Int
 |0,_,_=>1
 |f+1,used,left=>if left=0 then 1 else(ZB left 0 4).foldl (λb i=>bst b (JM s q i used*CY s q f (Az used (Ac 1 i)) (Z6 left (Ac 1 i)))) (-1)
def ZGs{s:Zs}{q:Zc}(c:Ctx s q)(i:Nat)(cc:Int):0<=JM s q i cc/\JM s q i cc<=8:=by
 unfold JM;split
 .exact ZTP (c.vt ‹_›) _
 .omega
set_option maxRecDepth 100000 in
def vL:∀(l:Fin 16) (i:Fin 4),Zw (l.1:Int) i.1=true->Bf (Z6 l.1 (Ac 1 i.1))/\X0 (Z6 l.1 (Ac 1 i.1))+1=X0 l.1:=by decide
set_option maxRecDepth 100000 in
theorem Z3U:∀l:Fin 16,l.1≠0->1<=X0 l.1/\ZB (l.1:Int) 0 4≠[]:=by decide
def ZGt:∀(l u:Fin 16),Z6 (l.1:Int) u.1<=l.1:=by decide +kernel
def PZ:∀l:Fin 16,Z6 (l.1:Int) 0=l.1:=by decide
theorem P0:∀l:Fin 16,Ai 0 (l.1:Int)=0:=by decide
def ZGu{s:Zs}{q:Zc}(c:Ctx s q):∀(f:Nat) (cc cd:Int),Bf cd->0<=CY s q f cc cd/\CY s q f cc cd<=8 ^ f
 |0,_,_,_=>⟨by simp[CY],by simp[CY]⟩
 |f+1,cc,cd,hl=>by
  unfold CY;have hp:(1:Int)<=8 ^ f:=by exact_mod_cast Nat.pos_of_ne_zero Z
  have e8:(8:Int) ^ (f+1)=8*8 ^ f:=by rw[Int.pow_succ,Int.mul_comm]
  split
  .omega
  .rename_i hne;obtain⟨a,rfl⟩:=m16 hl;refine ZFA E _ (λi=>JM s q i cc*CY s q f (Az cc (Ac 1 i)) (Z6 (a.1:Int) (Ac 1 i))) _ (λi hi=>?_) E (.inl (Z3U a E).2);have hm:=PX hi;have h1:=ZGs c i cc;have h2:=ZGu c f (Az cc (Ac 1 i)) (Z6 (a.1:Int) (Ac 1 i)) (vL a ⟨i,E⟩ hm.2.2).1
   simp_all [Int.mul_nonneg,Int.mul_le_mul]
def ZTV{s:Zs}{q:Zc}(c:Ctx s q)(m:Int):Le (ZI q m):=by
 have:=OS q c.vq m;omega
def ZTW{s:Zs}{q:Zc}{i:Nat}(h:i<q.Atoms.length)(used:Int):JM s q i used=Hu (tab s q i) (VO (ZI q used) 0 (Bl q i).Vars):=by
 unfold JM;rw[Ya h]
def AbH{f:Nat}(h:f<=4):(1:Int)<=8 ^ f/\(8:Int) ^ f<=4096:=by
 have h1:(8:Nat) ^ f<=8 ^ 4:=Nat.pow_le_pow_right Om h
 grind
def Hv(s:Zs)(q:Zc)(f:Nat)(c cc:Int)(i:Nat):Int:=JM s q i c*CY s q f (Az c (Ac 1 i)) (Z6 cc (Ac 1 i))
def vM{s:Zs}{q:Zc}(c:Ctx s q){f:Nat}(hf:f<=4){used left:Int}(hl:Bf left){i:Nat}(hi:i<4)(hm:Zw left i=true):w (JM s q i used*CY s q f (Az used (Ac 1 i)) (Z6 left (Ac 1 i)))=Hv s q f used left i:=by
 obtain⟨a,rfl⟩:=m16 hl;have h1:=ZGs c i used;have h2:=ZGu c f (Az used (Ac 1 i)) (Z6 (a.1:Int) (Ac 1 i)) (vL a ⟨i,hi⟩ hm).1;have h3:=AbH hf;have h4:=Int.mul_nonneg h1.1 h2.1;have h5:=Int.mul_le_mul h1.2 h2.2 h2.1 E;exact ZV ⟨E,E⟩
def ZTX{s:Zs}{q:Zc}{f:Nat}{c left:Int}(h:left≠0):CY s q (f+1) c left=(ZB left 0 4).foldl (λb i=>bst b (Hv s q f c left i)) (-1):=by
 rw[CY,Yb h];rfl
theorem ZGv{m:Int}(h:Bf m):X0 m<=4:=by
 grind [m16,ZEf]
def P4:∀(m u:Fin 16),Ai (u.1:Int) m.1=u.1->Bf (Z6 (m.1:Int) u.1)/\((u.1:Int)=m.1↔Z6 (m.1:Int) u.1=0):=by decide +kernel
def ZGw:∀(m u:Fin 16) (i:Fin 4),Ai (u.1:Int) m.1=u.1->(Zw (Z6 (m.1:Int) u.1) i.1=(Zw (m.1:Int) i.1 && !Zw (u.1:Int) i.1))/\(Zw (m.1:Int) i.1=true->Ai (Az (u.1:Int) (Ac 1 i.1)) m.1=Az (u.1:Int) (Ac 1 i.1))/\Bf (Az (u.1:Int) (Ac 1 i.1))/\Z6 (m.1:Int) (Az (u.1:Int) (Ac 1 i.1))=Z6 (Z6 (m.1:Int) u.1) (Ac 1 i.1):=by decide +kernel
def vN{s:Zs}{q:Zc}(c:Ctx s q){f:Nat}(hf:f<=4){mask used:Int}(hm:Bf mask)(cc:mask<2 ^ q.Atoms.length)(hu:Bf used)(hs:Ai used mask=used)(ih:∀(u:Int),Bf u->Ai u mask=u->X0 (Z6 mask u)<=f->Tg ((List.range q.Atoms.length).map λi=>ZJ (tab s q i)) q mask u=some (I (CY s q f u (Z6 mask u)),[]))(hp:X0 (Z6 mask used)<=f+1):∀i,i<=q.Atoms.length->∀b,Th q ((List.range q.Atoms.length).map λi=>ZJ (tab s q i)) mask used b i=some (I ((ZB (Z6 mask used) i (q.Atoms.length-i)).foldl (λb i=>bst b (Hv s q f used (Z6 mask used) i)) b),[]):=by
 have hn4:=c.n4;have Dc:Bf (Z6 mask used):=by
  obtain⟨a,rfl⟩:=m16 hm;obtain⟨u,rfl⟩:=m16 hu;exact(P4 a u hs).1
 refine down _ ?_ ?_
 .intro b;apply Wh.1.1.1.1;rw[Ao,Et];rfl
 .intro i hi vO b;have hb:Zw (Z6 mask used) i=(Zw mask i && !Zw used i)/\(Zw mask i=true->Ai (Az used (Ac 1 i)) mask=Az used (Ac 1 i))/\Bf (Az used (Ac 1 i))/\Z6 mask (Az used (Ac 1 i))=Z6 (Z6 mask used) (Ac 1 i):=by
   obtain⟨a,rfl⟩:=m16 hm;obtain⟨u,rfl⟩:=m16 hu;exact ZGw a u ⟨i,E⟩ hs
  apply Wh.1.1.1.1;rw[An,wS hi E,show q.Atoms.length-i=(q.Atoms.length-(i+1))+1 by omega,ZB,hb.1];refine⟨E,?_⟩;by_cases e:Ai (As mask i) 1=1
  .have e':Zw mask i=true:=decide_eq_true e;rw[Ya e,e',Yk];rcases ft (Zw used i)with e2|e2
   .grind [JA]
   .have hleft:Zw (Z6 mask used) i=true:=by rw[hb.1,e',e2];rfl
    rw[Ya ((JA hu E).2 e2),e2,Ya (by rfl),cV];have hg:((List.range q.Atoms.length).map λi=>ZJ (tab s q i))[((i:Nat):Int).toNat]?=some (ZJ (tab s q i)):=by
     simp_all
    have hpn:X0 (Z6 mask (Az used (Ac 1 i)))<=f:=by
     rw[hb.2.2.2];obtain⟨a,ha⟩:=m16 Dc;rw[ha]at hp hleft|-;have:=(vL a ⟨i,E⟩ hleft).2;simp only at this;omega
    have hd:((Qu (tab s q i) (VO (ZI q used) 0 (Bl q i).Vars))++[0])[0]?=some (JM s q i used):=by
     rw[ZTW hi];unfold Hu
     grind
    have hlen:=Z3Q (c.vt hi) (VO (ZI q used) 0 (Bl q i).Vars);have hvl:MF (Xi (pV used q.Atoms))=some (.own 0,[.arr 3 1 true ((ZI q used).map ic)]):=by
     have:=ZEl (pV used q.Atoms) 0 E [] Z;have e4:=ZEm q c.vq used;apply Ur.2.2.2
     simp_all
    refine⟨E,_,hg,_,PV hi,_,IV q used c.lq (Gp c.vq),_,hvl,_,Z3S (by have:=c.vars3 hi;omega) (ZTV c used),_,vF (c.vt hi) (c.cols hi _),E,_,hd,_,ih _ hb.2.2.1 (hb.2.1 e') hpn,?_⟩;rw[hb.2.2.2,vM c hf Dc E hleft];by_cases h1:b<0
    .rw[Ya h1,show bst b (Hv s q f used (Z6 mask used) i)=Hv s q f used (Z6 mask used) i by unfold bst;rw[Ya (.inl h1)]];exact vO _
    .rw[Yb h1];by_cases h2:Hv s q f used (Z6 mask used) i<b
     .rw[Ya h2,show bst b (Hv s q f used (Z6 mask used) i)=Hv s q f used (Z6 mask used) i by unfold bst;rw[Ya (.inr h2)]];exact vO _
     .rw[Yb h2,show bst b (Hv s q f used (Z6 mask used) i)=b by unfold bst;rw[Yb (by rintro(h|h);exact h1 h;exact h2 h)]];exact vO _
  .have e':Zw mask i=false:=decide_eq_false e
   simp_all
theorem ZTY{s:Zs}{q:Zc}(c:Ctx s q){mask:Int}(hm:Bf mask)(cd:mask<2 ^ q.Atoms.length):∀(f:Nat),f<=5->∀(cc:Int),Bf cc->Ai cc mask=cc->X0 (Z6 mask cc)<=f->Tg ((List.range q.Atoms.length).map λi=>ZJ (tab s q i)) q mask cc=some (I (CY s q f cc (Z6 mask cc)),[]):=by
 intro f;have key:∀cc,Bf cc->Ai cc mask=cc->Bf (Z6 mask cc)/\(cc=mask↔Z6 mask cc=0):=by
  intro cc hu hs;obtain⟨a,rfl⟩:=m16 hm;obtain⟨u,rfl⟩:=m16 hu;exact P4 a u hs
 induction f with
 |zero =>
  intro _ cc hu hs hp;obtain⟨k1,k2⟩:=key cc hu hs;apply Wh.1.1.1.2;have h0:Z6 mask cc=0:=by
   obtain⟨a,ha⟩:=m16 k1
   grind [Z3U]
  rw[Ya (k2.2 h0)];rfl
 |succ f ih =>
  intro hf cc hu hs hp;obtain⟨k1,k2⟩:=key cc hu hs;apply Wh.1.1.1.2;by_cases h0:cc=mask
  .rw[Ya h0,CY,Ya (k2.1 h0)]
  have hne:Z6 mask cc≠0:=λhc=>h0 (k2.2 hc)
  rw[Yb h0,ZTX hne];have hn4:=c.n4;have hlt:Z6 mask cc<2 ^ q.Atoms.length:=by
   have:Z6 mask cc<=mask:=by
    obtain⟨a,rfl⟩:=m16 hm;obtain⟨u,rfl⟩:=m16 hu;exact ZGt a u
   omega
  have:=vN c (f:=f) E hm cd hu hs (ih E) hp 0 (Yc _) (-1);rw[Hz,<-Z3T k1.1 hlt hn4.2]at this;exact this
def ZTZ{s:Zs}{q:Zc}(c:Ctx s q){m:Int}(h1:1<=m)(h2:m<2 ^ q.Atoms.length)(le:BT s q m=true):jX s q m=some (I (CY s q 4 0 m),[]):=by
 have hn4:=c.n4;have h16:=PY E h2 c.n4.2;have e0:Z6 m 0=m:=by obtain⟨a,rfl⟩:=m16 h16;exact PZ a
 have main:∀i,i<=q.Atoms.length->jY s q ((List.range i).map λi=>ZJ (tab s q i)) m i=some (I (CY s q 4 0 m),[]):=by
  refine down _ ?_ ?_
  .grind [Wh.1.1.2.1,ZTY,m16,P0,ZGv]
  .intro i hi ih;apply Wh.1.1.2.1;rw[An,wS hi E];rw[Di,Y5]at ih;exact⟨_,_,_,_,PW c hi,by simp;omega,ih⟩
 refine Wh.1.1.2.2 _ _ _ _ ⟨_,K2 c.le c.lq m,?_⟩
 grind
def ZGx(s:Zs)(q:Zc)(a b:Nat):Int:=Z3E (Qu (tab s q a) (VO (Ub q (Ac 1 a) (Ac 1 b)) 0 (Bl q a).Vars)) (Qu (tab s q b) (VO (Ub q (Ac 1 a) (Ac 1 b)) 0 (Bl q b).Vars))
def Z3V{s:Zs}{q:Zc}(c:Ctx s q){i:Nat}(h:i<q.Atoms.length):MQ q.Atoms (Ac 1 i):=by
 have hn4:=c.n4;have h1:(2:Nat) ^ i<2 ^ q.Atoms.length:=Nat.pow_lt_pow_right Om h
 grind [ZrL,Int.toNat_natCast,Int.natCast_nonneg]
def ZUa{s:Zs}{q:Zc}(c:Ctx s q):BT s q 1=true/\BT s q (ZU q.Zi q.Atoms)=true:=by
 have h1:=Jv c.vq;have hn:=c.n4;have h2:(2:Nat) ^ 1<=2 ^ q.Atoms.length:=Nat.pow_le_pow_right Om hn.1;have e:((2:Int) ^ q.Atoms.length)=(((2:Nat) ^ q.Atoms.length:Nat):Int):=by push_cast;rfl
 have hf:ZU q.Zi q.Atoms=2 ^ q.Atoms.length-1:=by unfold ZU;rw[Ya c.vq,h1.2.1]
 unfold BT;rw[c.st,c.qf,hf,Yk,Yk,Yk,Yk]
 grind [ZK]
def ZGy{s:Zs}{q:Zc}(c:Ctx s q)(a b:Int):Le (Ub q a b):=by
 have:=OS q c.vq a;have h2:=Ydv (has (ZI q b)) (ZI q a);unfold Ub;omega
def ZUb{s:Zs}{q:Zc}(c:Ctx s q){a b:Nat}(ha:a<q.Atoms.length)(hb:b<q.Atoms.length)(cc:a≠b):Tj s q a b=some (I (ZGx s q a b),[]):=by
 have hn4:=c.n4;have l1:=Z3Q (c.vt ha) (VO (Ub q (Ac 1 a) (Ac 1 b)) 0 (Bl q a).Vars);have l2:=Z3Q (c.vt hb) (VO (Ub q (Ac 1 a) (Ac 1 b)) 0 (Bl q b).Vars);refine Wh.2.1.1.1 _ _ _ _ _ ⟨_,W5 _ c.lq,_,K2 c.le c.lq _,?_⟩;rw[(ZUa c).2,Ya rfl,ZV (x:=(q.Atoms.length:Int)-1) ⟨E,E⟩];refine⟨_,ZS _ _ _,?_⟩;rw[show Am (a:Int) 0 ((q.Atoms.length:Int)-1)=true from ZK.2 ⟨E,E⟩,Ya rfl];refine⟨_,ZS _ _ _,?_⟩;rw[show Am (b:Int) 0 ((q.Atoms.length:Int)-1)=true from ZK.2 ⟨E,E⟩,Ya rfl,Ao];exact⟨E,E,_,Z2R q c.lq c.vq _ _ (Z3V c ha) (Z3V c hb),_,_,_,_,PW c ha,E,_,PV ha,_,Z3S (by have:=c.vars3 ha;omega) (ZGy c _ _),_,Z3P (c.lt ha) (c.vt ha) (c.cols ha _),_,_,_,_,PW c hb,E,_,PV hb,_,Z3S (by have:=c.vars3 hb;omega) (ZGy c _ _),_,Z3P (c.lt hb) (c.vt hb) (c.cols hb _),_,ZTm E E,rfl⟩
def ZDb(k:Int)(r:V2):Prop:=∀x∈r,-k<=x/\x<=k
section
variable{full:Nat}(hf:1<=full/\full<=15)
include hf
theorem vP(minus:V2)(hm:minus.length<=1000)(hb:∀e∈minus,e<=full):∀i,i<=minus.length->∀r:V2,r.length=full->Tq r minus i=some (.own 0,[.arr 3 1 true ((Jf (-1) (minus.drop i) r).map ic)]):=by
 refine down _ ?_ ?_
 .intro r hr;apply Ww.1.1.2.1;rw[Ao,Yl];rfl
 .intro i hi ih r hr;have he:=hb _ (Ye hi);apply Ww.1.1.2.1;rw[An,wS hi E,Yg hi,Jf];refine⟨E,_,gE hi,?_⟩;by_cases c:0<minus[i]
  .rw[Ya c,Ya c,ZV (x:=minus[i]-1) ⟨E,E⟩];exact⟨E,_,gD E,ih _ (by rw[Y7];exact hr)⟩
  .grind
theorem vQ(cc minus:V2)(hm:minus.length<=1000/\cc.length<=900)(hb:∀e∈minus,e<=full)(hp:∀e∈cc,e<=full):∀i,i<=cc.length->∀r:V2,r.length=full->MP r cc minus i=some (.own 0,[.arr 3 1 true ((Jf (-1) minus (Jf 1 (cc.drop i) r)).map ic)]):=by
 refine down _ ?_ ?_
 .intro r hr;apply Ww.1.1.1;rw[Ao,Yl];simpa[Jf]using vP hf minus hm.1 hb 0 (Yc _) r hr
 .intro i hi ih r hr;have he:=hp _ (Ye hi);apply Ww.1.1.1;rw[An,wS hi E,Yg hi,Jf];refine⟨E,_,gE hi,?_⟩;by_cases c:0<cc[i]
  .rw[Ya c,Ya c,ZV (x:=cc[i]-1) ⟨E,E⟩];exact⟨E,_,gD E,ih _ (by rw[Y7];exact hr)⟩
  .grind
end
def Z7(n:Int):Nat:=(Ac 1 n-1).toNat
def JN{n:Int}(h:Am n 1 4=true):w (Ac 1 n-1)=(Z7 n:Int)/\1<=Z7 n/\Z7 n<=15:=by
 have h':=ZK.1 h
 have:n=1\/n=2\/n=3\/n=4:=by omega
 rcases this with rfl|rfl|rfl|rfl<;>decide
theorem ZrV{n:Int}(h:Am n 1 4=true)(c minus:V2)(hm:minus.length<=1000/\c.length<=900)(hb:∀e∈minus,e<=Z7 n)(hp:∀e∈c,e<=Z7 n):GB n c minus=some (.own 0,[.arr 3 1 true ((V9 (Z7 n) c minus).map ic)]):=by
 have h':=ZK.1 h;obtain⟨e,h1,h2⟩:=JN h;apply ZN3;rw[e,Yj];have:=vQ (full:=Z7 n) ⟨h1,h2⟩ c minus hm hb hp 0 (Yc _) (List.replicate (Z7 n) 0) Z;exact⟨E,E,E,ZFP E,E,by simpa[V9]using this⟩
def AbI(i j s:Int)(full:Nat):V2:=V9 full [s,Az (Az s (Ac 1 i)) (Ac 1 j)] [Az s (Ac 1 i),Az s (Ac 1 j)]
def JO(full:Nat)(i j:Int):Nat->Int->XS
 |0,_=>[]
 |f+1,s=>if Ai (As s i) 1=0/\Ai (As s j) 1=0 then AbI i j s full::JO full i j f (s+1)else JO full i j f (s+1)
def JP(full:Nat)(i:Int):Nat->Int->XS
 |0,_=>[]
 |f+1,j=>JO full i j (full+1) 0++JP full i f (j+1)
def JQ(n full:Nat):Nat->Int->XS
 |0,_=>[]
 |f+1,i=>JP full i f (i+1)++JQ n full f (i+1)
def P5(full:Nat):Nat->Int->XS
 |0,_=>[]
 |f+1,i=>V9 full [(full:Int)-Ac 1 i] [(full:Int)]::P5 full f (i+1)
def elem(n:Int):XS:=P5 (Z7 n) n.toNat 0++JQ n.toNat (Z7 n) n.toNat 0
theorem Z3W(full:Nat)(i j:Int):∀f s,(JO full i j f s).length<=f
 |0,_=>Yi _
 |f+1,s=>by
  unfold JO;have:=Z3W full i j f (s+1)
  grind
theorem Z3X{full:Nat}(hf:full<=15)(i:Int):∀f j,(JP full i f j).length<=f*16
 |0,_=>by simp[JP]
 |f+1,j=>by
  unfold JP;have h1:=Z3X hf i f (j+1)
  grind [Z3W,List.length_append]
def ZGz{full:Nat}(hf:full<=15)(n:Nat):∀f i,f<=4->(JQ n full f i).length<=f*64
 |0,_,_=>by simp[JQ]
 |f+1,i,h=>by
  unfold JQ;have h1:=ZGz hf n f (i+1) E
  grind [Z3X,List.length_append]
def ZG0(full:Nat):∀f i,(P5 full f i).length=f
 |0,_=>rfl
 |f+1,i=>by unfold P5;rw[Ys,ZG0]
def ZrW(full:Nat)(a b:V2):(V9 full a b).length=full:=by unfold V9;rw[Z37,Z37,w8]
theorem Z3Y(full:Nat)(i j:Int):∀f s,∀r∈JO full i j f s,r.length=full
 |0,_,r,h=>by cases h
 |f+1,s,r,h=>by
  unfold JO at h;split at h
  .rcases Yy.1 h with rfl|h
   .exact ZrW _ _ _
   .exact Z3Y full i j f (s+1) r h
  .exact Z3Y full i j f (s+1) r h
theorem ZG1(full:Nat)(i:Int):∀f j,∀r∈JP full i f j,r.length=full
 |0,_,r,h=>by cases h
 |f+1,j,r,h=>by
  unfold JP at h;rcases Yp.1 h with h|h
  .grind [Z3Y]
  .exact ZG1 full i f (j+1) r h
theorem ZG2(n full:Nat):∀f i,∀r∈JQ n full f i,r.length=full
 |0,_,r,h=>by cases h
 |f+1,i,r,h=>by
  unfold JQ at h;rcases Yp.1 h with h|h
  .grind [ZG1]
  .exact ZG2 n full f (i+1) r h
theorem ZG3(full:Nat):∀f i,∀r∈P5 full f i,r.length=full
 |0,_,r,h=>by cases h
 |f+1,i,r,h=>by
  unfold P5 at h;rcases Yy.1 h with rfl|h
  .exact ZrW _ _ _
  .exact ZG3 full f (i+1) r h
def ZUc{n:Int}:∀r∈elem n,r.length=Z7 n:=by
 intro r h;rcases Yp.1 h with h|h
 .grind [ZG3]
 .grind [ZG2]
def ZG4{n:Int}(h:Am n 1 4=true):1<=(elem n).length/\(elem n).length<=300:=by
 have h':=ZK.1 h;obtain⟨_,h1,h2⟩:=JN h;have h3:=ZGz h2 n.toNat n.toNat 0 E;unfold elem;rw[Yo,ZG0];omega
instance (ss:V2):Decidable (O7 ss):=by unfold O7;infer_instance
def vS:∀(n:Fin 5) (i j:Fin 4) (s:Fin 16),1<=n.1->i.1<j.1->j.1<n.1->s.1<=Z7 n.1->Ai (As (s.1:Int) i.1) 1=0->Ai (As (s.1:Int) j.1) 1=0->O7 ([(s.1:Int),Az (Az s.1 (Ac 1 i.1)) (Ac 1 j.1)]++[Az s.1 (Ac 1 i.1),Az s.1 (Ac 1 j.1)])/\Az (Az (s.1:Int) (Ac 1 i.1)) (Ac 1 j.1)<=Z7 n.1/\Az (s.1:Int) (Ac 1 i.1)<=Z7 n.1/\Az (s.1:Int) (Ac 1 j.1)<=Z7 n.1:=by decide +kernel
def P6:∀(n:Fin 5) (i:Fin 4),1<=n.1->i.1<n.1->Z6 (Z7 n.1:Int) (Ac 1 i.1)=(Z7 n.1:Int)-Ac 1 i.1/\w ((Z7 n.1:Int)-Ac 1 i.1)=(Z7 n.1:Int)-Ac 1 i.1/\O7 ([(Z7 n.1:Int)-Ac 1 i.1]++[(Z7 n.1:Int)])/\(Z7 n.1:Int)-Ac 1 i.1<=Z7 n.1:=by decide +kernel
def ZUd{n:Int}(h:Am n 1 4=true){i j s:Int}(hi:0<=i)(c:i<j)(hj:j<n)(hs:0<=s)(cc:s<=Z7 n)(b1:Ai (As s i) 1=0)(b2:Ai (As s j) 1=0):O7 ([s,Az (Az s (Ac 1 i)) (Ac 1 j)]++[Az s (Ac 1 i),Az s (Ac 1 j)])/\(∀e∈[s,Az (Az s (Ac 1 i)) (Ac 1 j)],e<=Z7 n)/\(∀e∈[Az s (Ac 1 i),Az s (Ac 1 j)],e<=Z7 n):=by
 have h':=ZK.1 h;obtain⟨_,h1,h2⟩:=JN h;have en:n=((⟨n.toNat,E⟩:Fin 5).1:Int):=by simp only;omega
 have ei:i=((⟨i.toNat,E⟩:Fin 4).1:Int):=by simp only;omega
 have ej:j=((⟨j.toNat,E⟩:Fin 4).1:Int):=by simp only;omega
 have es:s=((⟨s.toNat,E⟩:Fin 16).1:Int):=by simp only;omega
 have:=vS ⟨n.toNat,E⟩ ⟨i.toNat,E⟩ ⟨j.toNat,E⟩ ⟨s.toNat,E⟩ (by simp only;omega) (by simp only;omega) (by simp only;omega) (by rw[<-en];simp only;omega) (by rw[<-es,<-ei];exact b1) (by rw[<-es,<-ej];exact b2)
 grind
def ZUe{n:Int}(h:Am n 1 4=true){i:Int}(hi:0<=i)(hj:i<n):Z6 (Z7 n:Int) (Ac 1 i)=(Z7 n:Int)-Ac 1 i/\w ((Z7 n:Int)-Ac 1 i)=(Z7 n:Int)-Ac 1 i/\O7 ([(Z7 n:Int)-Ac 1 i]++[(Z7 n:Int)])/\(Z7 n:Int)-Ac 1 i<=Z7 n:=by
 have h':=ZK.1 h;have en:n=((⟨n.toNat,E⟩:Fin 5).1:Int):=by simp only;omega
 have ei:i=((⟨i.toNat,E⟩:Fin 4).1:Int):=by simp only;omega
 have:=P6 ⟨n.toNat,E⟩ ⟨i.toNat,E⟩ (by simp only;omega) (by simp only;omega)
 grind
def ZUf{n:Int}(h:Am n 1 4=true){i j:Int}(hi:0<=i)(c:i<j)(hj:j<n)(res:XR):∀(f:Nat) (s:Int) (x:XS),s+f=(Z7 n:Int)+1->0<=s->x.length+f<=100000->Tt (x++JO (Z7 n) i j f s) n (Z7 n) i (w (j+1))=some res->Tu x n (Z7 n) i j s=some res:=by
 obtain⟨_,h1,h2⟩:=JN h;intro f
 induction f with
 |zero =>
  intro s x hs h0 hx next
  apply Ww.1.2.2.1;rw[Ao]
  simpa[JO]using next
 |succ f ih =>
  intro s x hs h0 hx next
  apply Ww.1.2.2.1;rw[An,ZV (x:=s+1) ⟨E,E⟩];rw[JO]at next
  refine⟨E,?_⟩;by_cases b1:Ai (As s i) 1=0
  .rw[Ya b1];refine⟨E,?_⟩;by_cases b2:Ai (As s j) 1=0
   .rw[Ya b2];rw[Ya ⟨b1,b2⟩]at next
    obtain⟨g1,g2,g3⟩:=ZUd h hi c hj h0 E b1 b2;refine⟨_,ZrV h _ _ Z g3 g2,E,?_⟩;refine ih (s+1) _ E E (by simp;omega) ?_;rw[D6];exact next
   .grind
  .grind
def ZUg{n:Int}(h:Am n 1 4=true){i:Int}(hi:0<=i)(c:i<n)(res:XR):∀(f:Nat) (j:Int) (x:XS),j+f=n->i<j->x.length+16*f<=90000->Ts (x++JP (Z7 n) i f j) n (Z7 n) (w (i+1))=some res->Tt x n (Z7 n) i j=some res:=by
 obtain⟨_,h1,h2⟩:=JN h;have h':=ZK.1 h;intro f
 induction f with
 |zero =>
  intro j x hj hij hx next
  apply Ww.1.2.1.2;rw[Ao]
  simpa[JP]using next
 |succ f ih =>
  intro j x hj hij hx next
  apply Ww.1.2.1.2;rw[An];have hl:=Z3W (Z7 n) i j (Z7 n+1) 0;refine ZUf h hi hij E res (Z7 n+1) 0 x E E E ?_;rw[ZV (x:=j+1) ⟨E,E⟩];refine ih (j+1) _ E E (by rw[Yo];omega) ?_;rw[D6];exact next
def ZUh{n:Int}(h:Am n 1 4=true):∀(f:Nat) (i:Int) (x:XS),i+f=n->0<=i->x.length+64*f<=80000->Ts x n (Z7 n) i=some (.own 0,[.arr 38 1 true ((x++JQ n.toNat (Z7 n) f i).map Ae)]):=by
 obtain⟨_,h1,h2⟩:=JN h;have h':=ZK.1 h;intro f
 induction f with
 |zero =>
  intro i x hi h0 hx;apply Ww.1.2.1.1;rw[Ao]
  simp[JQ]
 |succ f ih =>
  intro i x hi h0 hx;apply Ww.1.2.1.1;rw[An,ZV (x:=i+1) ⟨E,E⟩];have hl:=Z3X h2 i f (i+1);refine ZUg h h0 E _ f (i+1) x E E E ?_;rw[ZV (x:=i+1) ⟨E,E⟩];have:=ih (i+1) (x++JP (Z7 n) i f (i+1)) E E (by rw[Yo];omega);rw[D6]at this;exact this
def ZUi{n:Int}(h:Am n 1 4=true):∀(f:Nat) (i:Int) (x:XS),i+f=n->0<=i->x.length+f<=1000->kJ x n (Z7 n) i=some (.own 0,[.arr 38 1 true ((x++(P5 (Z7 n) f i++JQ n.toNat (Z7 n) n.toNat 0)).map Ae)]):=by
 obtain⟨_,h1,h2⟩:=JN h;have h':=ZK.1 h;intro f
 induction f with
 |zero =>
  intro i x hi h0 hx;apply Ww.1.1.2.2;rw[Ao]
  exact ZUh h n.toNat 0 x E E E
 |succ f ih =>
  intro i x hi h0 hx;obtain⟨g1,g2,g3,g4⟩:=ZUe h h0 (show i<n by omega);apply Ww.1.1.2.2;rw[An,ZV (x:=i+1) ⟨E,E⟩];refine⟨E,?_⟩;rw[g2];refine⟨_,ZrV h _ _ Z Z (by simpa using g4),E,?_⟩;have:=ih (i+1) (x++[V9 (Z7 n) [(Z7 n:Int)-Ac 1 i] [(Z7 n:Int)]]) E E (by simp;omega);rw[D6]at this;exact this
def ZUj{n:Int}(h:Am n 1 4=true):kI n=some (.own 0,[.arr 38 1 true ((elem n).map Ae)]):=by
 have h':=ZK.1 h;refine Ww.1.2.2.2 _ _ ⟨_,ZS _ _ _,?_⟩;rw[h,Ya rfl,(JN h).1];refine⟨E,?_⟩;have:=ZUi h n.toNat 0 [] E E (by simp;omega);simpa[elem]using this
def ZrX(m:Int):V2:=(ZB m 0 3).map λn:Nat=>(n:Int)
def vT(m:Int):∀i,i<=3->∀out:V2,out.length<=i->Mw out m i=some (.own 0,[.arr 3 1 true ((out++(ZB m i (3-i)).map λn:Nat=>(n:Int)).map ic)]):=by
 refine down _ ?_ ?_
 .intro out ho;apply Xt.2.2.1.2;rw[Ao];simp[ZB]
 .intro i hi ih out ho;apply Xt.2.2.1.2;rw[An,wS (show i<3 from hi) E,show 3-i=(3-(i+1))+1 by omega,ZB];refine⟨E,?_⟩;by_cases e:Ai (As m i) 1=1
  .rw[Ya e,Ya (show Zw m i=true from decide_eq_true e)]
   grind
  .rw[Yb e,Yb (by unfold Zw;simpa using e)];exact ih out E
def vU(m:Int):UC m=some (.own 0,[.arr 3 1 true ((ZrX m).map ic)]):=Xt.2.2.2.1 _ _ (by simpa[ZrX]using vT m 0 E [] Z)
def Z3Z(m n:Int):∀(k i:Nat) (p:Option Int),(∀q,p=some q->q<i)->(∀j,j∈ZB m i k->(j:Int)<n)->VA n p ((ZB m i k).map λn:Nat=>(n:Int))=true
 |0,_,_,_,_=>rfl
 |k+1,i,p,hp,hn=>by
  rw[ZB]at hn|-;split
  .rename_i e;rw[Ya e]at hn;simp only[Yv,VA,Yf];have h1:=hn i Z;refine⟨⟨ZK.2 ⟨E,E⟩,?_⟩,Z3Z m n k (i+1) (some i) (λq hq=>by cases hq;omega) (λj hj=>hn j (by simp[hj]))⟩
   cases p with
   |none=>rfl
   |some q=>simpa[BD,Fn]using hp q rfl
  .rename_i e;rw[Yb e]at hn;exact Z3Z m n k (i+1) p (λq hq=>by have:=hp q hq;omega) hn
structure P7 (m:Int) (n:Nat):Prop where
 h0:0<=m
 hm:m<2 ^ n
 hn:1<=n/\n<=3
def P7.lt8{m:Int}{n:Nat}(h:P7 m n):0<=m/\m<8:=by
 have:(2:Nat) ^ n<=2 ^ 3:=Nat.pow_le_pow_right Om h.hn.2
 have e:((2:Int) ^ n)=(((2:Nat) ^ n:Nat):Int):=by push_cast;rfl
 have:=h.h0;have:=h.hm;omega
def P7.mem{m:Int}{n:Nat}(h:P7 m n){j:Nat}(hj:j∈ZB m 0 3):j<n:=by
 obtain⟨_,h3,hb⟩:=PX hj;rcases D7 j n with hl|hl
 .exact hl
 .exfalso;have h8:=h.lt8;have hn:=h.hn;have em:m=((⟨m.toNat,E⟩:Fin 16).1:Int):=by simp only;omega
  have:=vJ ⟨m.toNat,E⟩ ⟨n,E⟩ ⟨j,E⟩ (by
   have e:((2:Int) ^ n)=(((2:Nat) ^ n:Nat):Int):=by push_cast;rfl
   have:=h.hm;have:=h.h0
   simp only;omega) hl
  rw[<-em]at this;rw[this]at hb;cases hb
def P7.ok{m:Int}{n:Nat}(h:P7 m n):WZ n (ZrX m)=true:=Z3Z m n 3 0 none (λq hq=>by cases hq) (λj hj=>by have:=h.mem hj;omega)
def Z4a(t:Zl)(a:Zd)(m:Nat):ZD:=⟨Hr 0 (bW m 0 a.Vars),Hr 0 a.Vars,PC (Hu t (ZrX m))⟩
def FH(t:Zl)(a:Zd):List ZD:=if t.Rows=[]then[]else(List.range (2 ^ a.Vars.length-1)).map (Z4a t a)
def P8(l:List ZD):XR:=(.own 0,[.arr 336 3 true (l.map ZD.c)])
section
variable{t:Zl}{a:Zd}(h:CC t)(hv:ZO t=true)(ha:t.Arity=(a.Vars.length:Int))
include h hv ha
omit h in
theorem ar3:1<=a.Vars.length/\a.Vars.length<=3:=by have:=ZK.1 (VB hv);omega
omit h in
theorem ZG5:w (Ac 1 (ZJ t).Arity-1)=((2 ^ a.Vars.length-1:Nat):Int)/\(2:Nat) ^ a.Vars.length<=8/\2<=(2:Nat) ^ a.Vars.length:=by
 have h3:=ar3 hv ha;have h1:(2:Nat) ^ a.Vars.length<=2 ^ 3:=Nat.pow_le_pow_right Om h3.2;have h2:(2:Nat) ^ 1<=2 ^ a.Vars.length:=Nat.pow_le_pow_right Om h3.1;have e:((2:Int) ^ a.Vars.length)=(((2:Nat) ^ a.Vars.length:Nat):Int):=by push_cast;rfl
 rw[show(ZJ t).Arity=t.Arity from rfl,ha,ZrL E E,Yj,e,ZV ⟨E,E⟩];omega
omit h in
theorem setOf{m:Nat}(hm:m<2 ^ a.Vars.length-1):P7 m a.Vars.length:=by
 have e:((2:Int) ^ a.Vars.length)=(((2:Nat) ^ a.Vars.length:Nat):Int):=by push_cast;rfl
 exact⟨E,E,ar3 hv ha⟩
theorem vV:∀m,m<=2 ^ a.Vars.length-1->Tm (ZJ t) a ((List.range m).map (Z4a t a)) m=some (P8 ((List.range (2 ^ a.Vars.length-1)).map (Z4a t a))):=by
 have h3:=ar3 hv ha;obtain⟨f1,f2,f3⟩:=ZG5 hv ha;refine down _ ?_ ?_
 .refine Wh.2.2.2.2.2 _ _ _ _ _ ⟨by rw[show(ZJ t).Arity=t.Arity from rfl];omega,?_⟩;rw[f1,Ao];rfl
 .intro m hm ih;have hs:=setOf hv ha hm;refine Wh.2.2.2.2.2 _ _ _ _ _ ⟨by rw[show(ZJ t).Arity=t.Arity from rfl];omega,?_⟩;rw[f1,An,wS hm E];rw[Di,Y5]at ih;exact⟨_,uK E,_,ZTk E,_,vU _,_,ZTN h hv (by rw[ha];exact hs.ok),_,ZTj _,by simp;omega,ih⟩
theorem ZUk:j7 (ZJ t) a=some (P8 (FH t a)):=by
 have e:(ZJ t).RowCount=(t.Rows.length:Int):=rfl;refine J1.1.1 _ _ _ ⟨_,Z3N h hv,?_⟩;rw[Ya rfl];unfold FH;by_cases h1:t.Rows=[]
 .rw[Ya (by rw[e,h1];rfl),Ya h1];rfl
 .have:=CE.2 h1;rw[Yb (by rw[e];omega),Yb h1,Ya (show(a.Vars.length:Int)=(ZJ t).Arity from ha.symm)];exact vV h hv ha 0 (Yc _)
omit h in
theorem ZG6:(FH t a).length<=7/\(t.Rows≠[]->0<(FH t a).length):=by
 obtain⟨f1,f2,f3⟩:=ZG5 hv ha;unfold FH
 grind
end
def P9(s:Zs)(q:Zc):V4->List ZD->List ZD
 |[],acc=>acc
 |i::l,acc=>if FH (tab s q i) (Bl q i)=[]then[]else P9 s q l (acc++FH (tab s q i) (Bl q i))
def FI(s:Zs)(q:Zc)(m:Int):List ZD:=P9 s q (ZB m 0 q.Atoms.length) []
section
variable{s:Zs}{q:Zc}(c:Ctx s q)
include c
theorem vW{i:Nat}(h:i<q.Atoms.length):j7 (ZJ (tab s q i)) (Bl q i)=some (P8 (FH (tab s q i) (Bl q i))):=ZUk (c.lt h) (c.vt h) (c.look h).2
theorem vX{m:Int}(cc:Bf m):∀i,i<=q.Atoms.length->∀acc:List ZD,acc.length<=7*i->Tn s q acc m i=some (P8 (P9 s q (ZB m i (q.Atoms.length-i)) acc)):=by
 have hn4:=c.n4;refine down _ ?_ ?_
 .intro acc ha;apply J1.1.2.1;rw[Ao,Et];rfl
 .intro i hi ih acc hacc;have hlen:=ZG6 (c.vt hi) (c.look hi).2;apply J1.1.2.1;rw[An,wS hi E,show q.Atoms.length-i=(q.Atoms.length-(i+1))+1 by omega,ZB];refine⟨E,?_⟩;by_cases e:Ai (As m i) 1=0
  .rw[Ya e,Yb (by unfold Zw;rw[e];decide)];exact ih acc E
  .have e1:Zw m i=true:=by
    rcases ft (Zw m i)with e1|e1
    .exact e1
    .grind [JA]
   rw[Yb e,Ya e1,P9];refine⟨_,_,_,_,PW c hi,E,_,PV hi,_,vW c hi,?_⟩;by_cases e:FH (tab s q i) (Bl q i)=[]
   .rw[Ya (by rw[e];rfl),Ya e];rfl
   .have:=CE.2 e
    grind
theorem Z4b{m:Int}(cc:Bf m)(le:BT s q m=true):j8 s q m=some (P8 (FI s q m)):=by
 refine J1.1.2.2 _ _ _ _ ⟨_,K2 c.le c.lq m,?_⟩;rw[le,Ya rfl];exact vX c cc 0 (Yc _) [] Z
theorem ZG7:∀(l:V4) (acc:List ZD),(∀i∈l,i<q.Atoms.length)->(P9 s q l acc).length<=acc.length+7*l.length
 |[],acc,_=>by simp[P9]
 |i::l,acc,h=>by
  have hi:=h i Z;have hlen:=ZG6 (c.vt hi) (c.look hi).2;unfold P9;split
  .simp
  .have:=ZG7 l (acc++FH (tab s q i) (Bl q i)) (λj hj=>h j (by simp[hj]))
   grind
theorem ZG8(m:Int):(FI s q m).length<=28:=by
 have h0:(FI s q m).length<=([]:List ZD).length+7*(ZB m 0 q.Atoms.length).length:=ZG7 c (ZB m 0 q.Atoms.length) [] (λi hi=>by have:=PX hi;omega);have h1:=ZGr m q.Atoms.length 0;have h2:([]:List ZD).length=0:=rfl;have:=c.n4;omega
end
def Lt(m:Int):Nat->V2->Int->Int
 |_,[],x=>x
 |i,v::vs,x=>Lt m (i+1) vs (if Am v 0 3=true/\Ai (As m v) 1=1 then Az x (Ac 1 i)else x)
def QW(l:List ZD)(c:V2):List ZD:=l.map λy=>⟨Lt y.From 0 c 0,Lt y.To 0 c 0,y.Bits⟩
def vY(m:Int)(vars:V2)(h4:vars.length<=4):∀i,i<=vars.length->∀x,Tp m vars x i=some (I (Lt m i (vars.drop i) x),[]):=by
 refine down _ ?_ ?_
 .intro x;apply J1.2.1.1;rw[Ao,Yl];rfl
 .intro i hi ih x;apply J1.2.1.1;rw[An,An,wS hi E,Yg hi,Lt]
  simp_all [gE,ZS,ft,ZK]
theorem vZ(m:Int){vars:V2}(h4:vars.length<=4):j9 m vars=some (I (Lt m 0 vars 0),[]):=J1.2.1.2 _ _ _ (by simpa using vY m vars h4 0 (Yc _) 0)
theorem ZUl{l:List ZD}{c:V2}{i:Nat}(h:i<l.length):QW (l.take (i+1)) c=QW (l.take i) c++[⟨Lt l[i].From 0 c 0,Lt l[i].To 0 c 0,l[i].Bits⟩]:=by
 unfold QW;rw[Yx h,Y5];rfl
theorem ZG9(l:List ZD)(vars:V2):(QW l vars).length=l.length:=by simp[QW]
def ZUm{l:List ZD}{vars:V2}(h4:vars.length<=4)(hl:l.length<=1000):kG l vars=some (P8 (QW l vars)):=by
 have main:∀i,i<=l.length->kH (QW (l.take i) vars) l vars i=some (P8 (QW l vars)):=by
  refine down _ ?_ ?_
  .apply J1.2.2.1;rw[Ao,Yw];rfl
  .intro i hi ih;apply J1.2.2.1
   grind [wS,ZUl,gE,vZ,ZG9,List.length_take]
 exact J1.2.2.2 _ _ _ (by simpa[QW]using main 0 (Yc _))
def Q1(full:Nat)(y:ZD):Option (V2):=if Am y.To 1 full=true/\0<=y.From/\Ai y.From y.To=y.From/\y.From≠y.To then some (V9 full [y.To] [y.From])else none
def Ra(full:Nat):List ZD->XS->V2->Option (XS×V2)
 |[],r,l=>some (r,l)
 |y::ys,r,l=>match Q1 full y with
  |none=>none
  |some row=>Ra full ys (r++[row]) (l++[y.Bits])
def Lu(l:List ZD)(n:Int):Option Program:=if Am n 1 4=true then(match Ra (Z7 n) l (elem n) (List.replicate (elem n).length 0)with
 |none=>none
 |some (r,lm)=>if QV ⟨V9 (Z7 n) [(Z7 n:Int)] [],r,lm⟩=true then some ⟨V9 (Z7 n) [(Z7 n:Int)] [],r,lm⟩else none)else none
def wB(o:Option Program):XR:=match o with
 |none=>(.tup [.agg [.own 0,.own 1,.own 2],Bo false],[.arr 3 1 true (([]:V2).map ic),.arr 38 1 true (([]:XS).map Ae),.arr 3 1 true (([]:V2).map ic)])
 |some p=>(.tup [.agg [.own 0,.own 1,.own 2],Bo true],[.arr 3 1 true (p.Objective.map ic),.arr 38 1 true (p.Rows.map Ae),.arr 3 1 true (p.Limits.map ic)])
structure cG (full:Nat) (rs:XS) (ls:V2) (k:Nat):Prop where
 r:rs.length<=300+k
 l:ls.length=rs.length
 row:∀x∈rs,x.length=full
def cG.le{full k:Nat}{r:XS}{l:V2}(h:cG full r l k)(hf:full<=15)(hk:k<=100):Lo ⟨V9 full [(full:Int)] [],r,l⟩ :=
 ⟨by rw[show(Program.Objective ⟨V9 full [(full:Int)] [],r,l⟩)=V9 full [(full:Int)] []from rfl,ZrW];omega,by have:=h.r;show r.length<=1000;omega,by have:=h.r;have:=h.l;show l.length<=1000;omega,λx hx=>by have:=h.row x hx;omega⟩
def cG.add{full k:Nat}{r:XS}{l:V2}(h:cG full r l k)(a b:V2)(c:Int):cG full (r++[V9 full a b]) (l++[c]) (k+1) :=
 ⟨by have:=h.r;simp;omega,by simp[h.l],λx hx=>by
  rcases Yp.1 hx with hx|hx
  .exact h.row x hx
  .rw[List.mem_singleton.1 hx];exact ZrW _ _ _⟩
def ZUn{f t:Int}(h0:0<=f)(ht:0<=t/\t<=15)(h:Ai f t=f):f<=t:=by
 have e:Ai f t<=t:=by
  unfold Ai;have hb:(BitVec.ofInt 64 t).toNat=t.toNat:=by
   grind
  grind [Nat.and_le_right,ZF]
 omega
def epR(full:Nat)(o:Option (XS×V2)):XR:=match o with
 |none=>wB none
 |some (r,lm)=>wB (if QV ⟨V9 full [(full:Int)] [],r,lm⟩=true then some ⟨V9 full [(full:Int)] [],r,lm⟩else none)
section
variable{n:Int}(h:Am n 1 4=true)
include h
theorem wC(ys:List ZD)(hy:ys.length<=60):∀i,i<=ys.length->∀(r:XS) (l:V2),cG (Z7 n) r l i->Tx (V9 (Z7 n) [(Z7 n:Int)] []) r l ys n (Z7 n) i=some (epR (Z7 n) (Ra (Z7 n) (ys.drop i) r l)):=by
 obtain⟨_,h1,h2⟩:=JN h;refine down _ ?_ ?_
 .intro r l hb;apply Ww.2.2.1.2;rw[Ao,Yl];refine⟨_,ZFK (hb.le h2 E),?_⟩;unfold Ra epR;rcases ft (QV ⟨V9 (Z7 n) [(Z7 n:Int)] [],r,l⟩)with e|e
  .rw[e,Ya rfl];simp only[e,if_true];rfl
  .rw[e,Yb Om];simp only[e];rfl
 .intro i hi ih r l hb;apply Ww.2.2.1.2;rw[An,wS hi E,Yg hi,Ra];refine⟨E,_,gE hi,_,ZS _ _ _,?_⟩;rcases ft (Am ys[i].To 1 (Z7 n))with e|e
  .have e':=ZK.1 e;rw[e,Ya rfl];refine⟨_,ZS _ _ _,?_⟩;by_cases c1:ys[i].From<0
   .rw[Yb (by rw[show Am ys[i].From 0 (Z7 n)=false by simp[Am];omega];decide),show Q1 (Z7 n) ys[i]=none from Ao];rfl
   by_cases c2:Ai ys[i].From ys[i].To=ys[i].From
   .have hle:=ZUn (show 0<=ys[i].From by omega) E c2;rw[Ya (ZK.2 ⟨E,E⟩),Ya c2];by_cases c3:ys[i].From=ys[i].To
    .rw[Ya c3,show Q1 (Z7 n) ys[i]=none from Yb (λhc=>hc.2.2.2 c3)];rfl
    rw[Yb c3,Ao,show Q1 (Z7 n) ys[i]=some (V9 (Z7 n) [ys[i].To] [ys[i].From])from Ya ⟨e,E,c2,c3⟩];have hadd:=hb.add [ys[i].To] [ys[i].From] ys[i].Bits;have hr:=hb.r;have hl:=hb.l
    grind [ZrV]
   .rw[Yb c2,show Q1 (Z7 n) ys[i]=none from Yb (λhc=>c2 hc.2.2.1)];split<;>rfl
  .rw[e,Yb Om,show Q1 (Z7 n) ys[i]=none from Yb (by rw[e];simp)];rfl
theorem ZUo{ys:List ZD}(hy:ys.length<=60):MS ys n=some (wB (Lu ys n)):=by
 have h':=ZK.1 h;obtain⟨e,h1,h2⟩:=JN h;have hel:=ZG4 h;refine ZCm _ _ _ ⟨_,ZS _ _ _,?_⟩;rw[h,Ya rfl,e];refine⟨E,_,ZrV h [(Z7 n:Int)] [] Z Z Z,_,ZUj h,E,E,by rw[Yj];exact ZFP E,E,?_⟩;rw[Yj];have:=wC h ys hy 0 (Yc _) (elem n) (List.replicate (elem n).length 0) ⟨E,Z,ZUc⟩;rw[Yq]at this;refine Yd this ?_;unfold Lu epR
 grind
omit h in
theorem ZGA{full:Nat}:∀(ys:List ZD) (r:XS) (l:V2) (o:XS×V2),r≠[]->Ra full ys r l=some o->o.1≠[]
 |[],r,l,o,hr,h=>by cases h;exact hr
 |y::ys,r,l,o,hr,h=>by
  unfold Ra at h
  cases e:Q1 full y with
  |none=>rw[e]at h;cases h
  |some row=>rw[e]at h;exact ZGA ys _ _ o Z h
omit h in
theorem ZUp{ys:List ZD}{n:Int}{p:Program}(h:Lu ys n=some p):QV p=true/\p.Rows≠[]:=by
 unfold Lu at h;split at h
 .rename_i hn;split at h
  .cases h
  .rename_i r lm he;split at h
   .rename_i hp;cases h;have hel:=ZG4 hn;exact⟨hp,ZGA _ _ _ _ (λhc=>by rw[hc]at hel;simp at hel) he⟩
   .cases h
 .cases h
end
def Rb{p:Program}(h:QV p=true):Lo p/\p.Objective≠[]:=by
 have:=ZrJ h;have h1:=this.o;have h2:=this.r;have h3:=this.l;exact⟨⟨E,E,E,λr hr=>by have:=this.row r hr;omega⟩,λhc=>by rw[hc]at h1;simp at h1⟩
def Hw(s:Zs)(q:Zc)(m:Int):Option Zb:=if FI s q m=[]then none else(match Lu (QW (FI s q m) (ZI q m)) (ZI q m).length with
 |none=>none
 |some p=>(bV p).map Zv.Value)
def ZUq{o:Option Zv}{r:Rs}(h:Ans o r):∃P D:List Zb,r=some (.tup [.agg [I ((o.map Zv.Value).getD r0).Num,I ((o.map Zv.Value).getD r0).Den,.own 0,.own 1],Bo (o.map Zv.Value).isSome],[.arr 293 2 true (P.map Zb.c),.arr 293 2 true (D.map Zb.c)]):=by
 cases o with
 |none=>exact⟨[],[],h⟩
 |some d=>obtain⟨P,D,Cx⟩:=h;exact⟨P,D,Cx⟩
theorem ZUr{s:Zs}{q:Zc}(c:Ctx s q)(m:Int):Am ((ZI q m).length:Int) 1 4=true\/(ZI q m).length=0:=by
 have:=OS q c.vq m
 grind [ZK]
theorem ZUs(ys:List ZD):True/\MS ys 0=some (wB none)/\Lu ys 0=none:=by
 refine⟨trivial,ZCm _ _ _ ⟨_,ZS _ _ _,?_⟩,rfl⟩;rw[Yb Om];rfl
section
variable{s:Zs}{q:Zc}(c:Ctx s q){m:Int}(h1:1<=m)(h2:m<2 ^ q.Atoms.length)(le:BT s q m=true)
include c h1 h2 le
omit h1 h2 le in
theorem wD:MS (QW (FI s q m) (ZI q m)) (ZI q m).length=some (wB (Lu (QW (FI s q m) (ZI q m)) (ZI q m).length)):=by
 grind [ZUr,ZUo,ZG9,ZG8,ZUs]
theorem ZUt:lH s q m=some (oR (Hw s q m)):=by
 have hq:=ZG8 c m;have hv4:=OS q c.vq m;have hMQ:MQ q.Atoms m:=⟨E,h2⟩;have h16:=PY E h2 c.n4.2;have key:∃P D:List Zb,ZoV s q m=some (.tup [.agg [I ((Hw s q m).getD r0).Num,I ((Hw s q m).getD r0).Den,.own 0,.own 1],Bo (Hw s q m).isSome],[.arr 293 2 true (P.map Zb.c),.arr 293 2 true (D.map Zb.c)]):=by
  unfold Hw;by_cases e0:FI s q m=[]
  .rw[Ya e0];refine⟨[],[],XL.2.1.1.1 _ _ _ _ ⟨[],[],[],false,Ww.2.2.2.1 _ _ _ _ ⟨_,Z4b c h16 le,?_⟩,?_⟩⟩
   .simp_all
   .rw[Yb Om];rfl
  .have hp:=CE.2 e0;rw[Yb e0];have hE:=wD c (m:=m);have hR:=ZUm (l:=FI s q m) hv4 E
   cases e1:Lu (QW (FI s q m) (ZI q m)) (ZI q m).length with
   |none =>
    rw[e1]at hE;refine⟨[],[],XL.2.1.1.1 _ _ _ _ ⟨[],[],[],false,Ww.2.2.2.1 _ _ _ _ ⟨_,Z4b c h16 le,?_⟩,?_⟩⟩
    .rw[Ao];exact⟨_,sC q c.lq c.vq m hMQ,_,hR,[],[],[],false,hE,rfl⟩
    .rw[Yb Om];rfl
   |some p =>
    rw[e1]at hE;obtain⟨hok,hrows⟩:=ZUp e1;obtain⟨hle,Acr⟩:=Rb hok;obtain⟨P,D,Cx⟩:=ZUq (ZTb hle hrows);refine⟨P,D,XL.2.1.1.1 _ _ _ _ ⟨p.Objective,p.Rows,p.Limits,true,Ww.2.2.2.1 _ _ _ _ ⟨_,Z4b c h16 le,?_⟩,?_⟩⟩
    .rw[Ao];exact⟨_,sC q c.lq c.vq m hMQ,_,hR,_,_,_,true,hE,rfl⟩
    .rw[Ya rfl];exact⟨_,_,_,_,Cx,rfl⟩
 obtain⟨P,D,Cx⟩:=key;exact XL.2.1.1.2 _ _ _ _ ⟨_,_,_,_,Cx,rfl⟩
end
theorem ZUu{s:Zs}{q:Zc}{m:Int}{r:Zb}(h:Hw s q m=some r):vR r=true/\0<=r.Num:=by
 unfold Hw at h;split at h
 .cases h
 split at h
 .cases h
 .rename_i p _
  cases e:bV p with
  |none=>rw[e]at h;cases h
  |some d =>
   rw[e]at h;cases h;have:=ZTc e;exact⟨this.v.vv,this.x⟩
def wE(s:Zs)(q:Zc)(l:V4):Bool:=l.any λi=>decide (VC s q i=0)
def K3(s:Zs)(q:Zc)(m:Int):Int:=if wE s q (ZB m 0 q.Atoms.length)=true then 0 else match Hw s q m with
 |none=>4096
 |some r=>tG r
section
variable{s:Zs}{q:Zc}(c:Ctx s q)
include c
theorem wF{m:Int}(h1:1<=m)(h2:m<2 ^ q.Atoms.length)(le:BT s q m=true):∀i,i<=q.Atoms.length->lL s q m i=some (I (if wE s q (ZB m i (q.Atoms.length-i))=true then 0 else match Hw s q m with|none=>4096|some r=>tG r),[]):=by
 have hn4:=c.n4;refine down _ ?_ ?_
 .apply ZY.1.1.1.1;rw[Ao,Et,Yb (by simp[wE,ZB])];refine⟨_,_,ZUt c h1 h2 le,?_⟩
  grind [ZUu,ZTi]
 .intro i hi ih;apply ZY.1.1.1.1;rw[An,wS hi E,show q.Atoms.length-i=(q.Atoms.length-(i+1))+1 by omega,ZB];refine⟨E,?_⟩;by_cases e:Ai (As m i) 1=1
  .rw[Ya e,Ya (show Zw m i=true from decide_eq_true e)];refine⟨_,_,_,_,PW c hi,?_⟩;have e0:wE s q (i::ZB m (i+1) (q.Atoms.length-(i+1)))=(decide (VC s q i=0) || wE s q (ZB m (i+1) (q.Atoms.length-(i+1)))):=rfl;rw[e0];by_cases e:VC s q i=0
   .rw[show((tab s q i).Rows.length:Int)=VC s q i from rfl,Ya e,decide_eq_true e,Ya (by rfl)]
   .rw[show((tab s q i).Rows.length:Int)=VC s q i from rfl,Yb e,decide_eq_false e,HA];exact ih
  .rw[Yb e,Yb (show ¬Zw m i=true by unfold Zw;simpa using e)];exact ih
theorem ZUv{m:Int}(h1:1<=m)(h2:m<2 ^ q.Atoms.length)(le:BT s q m=true):TI s q m=some (I (K3 s q m),[]):=by
 refine ZY.1.1.1.2 _ _ _ _ ⟨_,K2 c.le c.lq m,?_⟩;rw[le,Ya rfl];exact wF c h1 h2 le 0 (Yc _)
end
def Z4c(P C:Int)(p e:Option Int):Int×Int :=
 let a:=if C<P then(C,2)else(P,1)
 let b:=match p with
  |some x=>if x<a.1 then(x,3)else a
  |none=>a
 match e with
 |some x=>if x<b.1 then(x,4)else b
 |none=>b
def ZrY(s:Zs)(q:Zc)(l:V4):Option Int:=match l with
 |[a,b]=>some (ZGx s q a b)
 |_=>none
def ZrZ(s:Zs)(q:Zc)(m:Int):Int×Int:=Z4c (ZrU s q (ZB m 0 q.Atoms.length) 1) (CY s q 4 0 m) (ZrY s q (ZB m 0 q.Atoms.length)) (if 1<(ZB m 0 q.Atoms.length).length then some (K3 s q m)else none)
def ZGB{m:Int}:∀{k i a b:Nat} {l:V4},ZB m i k=a::b::l->a<b
 |0,i,a,b,l,h=>by cases h
 |k+1,i,a,b,l,h=>by
  rw[ZB]at h;split at h
  .obtain⟨rfl,h2⟩:=List.cons.inj h
   have:b∈ZB m (i+1) k:=by rw[h2];simp
   have:=PX this;omega
  .exact ZGB h
section
variable{s:Zs}{q:Zc}(c:Ctx s q){m:Int}(h1:1<=m)(h2:m<2 ^ q.Atoms.length)(le:BT s q m=true)
include c h1 h2 le
theorem Rd:lN s q m=some (.tup [I (ZrZ s q m).1,I (ZrZ s q m).2],[]):=by
 have h16:=PY E h2 c.n4.2;have hmem:∀i∈ZB m 0 q.Atoms.length,i<q.Atoms.length:=λi hi=>by have:=PX hi;omega
 have hne:=@ZGB m q.Atoms.length 0;have hE:=ZUv c h1 h2 le;have hM:=Z2Q h16;rw[c.msk h1 h2]at hM;refine ZY.1.2.1.2 _ _ _ _ ⟨_,K2 c.le c.lq m,?_⟩;rw[le,Ya rfl];refine⟨_,ZTU c h1 h2 le,_,ZTZ c h1 h2 le,?_⟩;unfold ZrZ;generalize ZrU s q (ZB m 0 q.Atoms.length) 1=P;generalize CY s q 4 0 m=C;generalize ZB m 0 q.Atoms.length=l at hmem hne hM;have j1:∀(n r:Int),1<l.length->lO s q (l.map λn:Nat=>(n:Int)) m n r=some (.tup [I (if K3 s q m<n then((K3 s q m,4):Int×Int)else(n,r)).1,I (if K3 s q m<n then((K3 s q m,4):Int×Int)else(n,r)).2],[]):=by
  grind [ZY.1.1.2.1,List.length_map]
 have j1a:∀(n r x:Int),1<l.length->lP s q (l.map λn:Nat=>(n:Int)) m n r x false=some (.tup [I (if K3 s q m<n then((K3 s q m,4):Int×Int)else(n,r)).1,I (if K3 s q m<n then((K3 s q m,4):Int×Int)else(n,r)).2],[]):=by
  grind [ZY.1.1.2.2,List.length_map]
 have j1b:∀(n r:Int),lQ s q (l.map λn:Nat=>(n:Int)) m n r false=some (.tup [I (match(if 1<l.length then some (K3 s q m)else none:Option Int)with|some x=>if x<n then((x,4):Int×Int)else(n,r)|none=>(n,r)).1,I (match(if 1<l.length then some (K3 s q m)else none:Option Int)with|some x=>if x<n then((x,4):Int×Int)else(n,r)|none=>(n,r)).2],[]):=by
  intro n r;apply ZY.1.2.1.1
  grind
 by_cases two:l.length=2
 .obtain⟨a,b,rfl⟩:∃a b,l=[a,b]:=by
   match l,two with
   |[a,b],_=>exact⟨a,b,rfl⟩
  .have hab:=hne rfl;have hPB:=ZUb c (hmem a Z) (hmem b Z) (show a≠b by omega);unfold Z4c ZrY;simp only[Ys,DJ];rw[Ya (show(1:Nat)<0+1+1 by decide)];simp only;by_cases cP:C<P
   .rw[Ya cP];simp only[Ya cP];refine⟨_,hM,?_⟩
    simp_all
   .rw[Yb cP];simp only[Yb cP];refine⟨_,hM,?_⟩
    simp_all
 .have hp:ZrY s q l=none:=by
   unfold ZrY
   grind
  unfold Z4c;rw[hp];simp only;by_cases cP:C<P
  .grind
  .grind
end
open Classical in
def cH(s:Zs)(q:Zc)(m:Int):Int×Int:=if BT s q m=true then ZrZ s q m else(-1,0)
def ZUw{s:Zs}{q:Zc}(h:Qt s)(hq:AW q)(m:Int):lN s q m=some (.tup [I (cH s q m).1,I (cH s q m).2],[]):=by
 unfold cH;rcases ft (BT s q m)with e|e
 .grind [vH,Rd]
 .simp_all [ZY.1.2.1.2,K2]
def ZUx{s:Zs}{q:Zc}(h:Qt s)(hq:AW q)(m:Int):ZoZ s q m=some (I (cH s q m).1,[]):=ZY.1.2.2.1 _ _ _ _ ⟨_,_,ZUw h hq m,rfl⟩
def cJ(s:Zs)(q:Zc)(m:Nat):Int:=if WV q.Atoms (m:Int)=true/\m≠0 then(cH s q m).1 else 0
def Lv(s:Zs)(q:Zc)(k:Nat):V2:=(List.range k).map (cJ s q)
def ZUy(s:Zs)(q:Zc)(k:Nat):Lv s q (k+1)=Lv s q k++[cJ s q k]:=by
 unfold Lv;rw[Di,Y5];rfl
def ZGC(s:Zs)(q:Zc)(k:Nat):(Lv s q k).length=k:=by simp[Lv]
def wG(s:Zs)(q:Zc):V2:=if BT s q 1=true then Lv s q (2 ^ q.Atoms.length)else[]
def Re{s:Zs}{q:Zc}(c:Ctx s q){m:Int}(h1:1<=m)(h2:m<2 ^ q.Atoms.length):BT s q m=true:=by
 have e1:=c.st;have e2:=c.qf;have h3:=(Jv c.vq).2.1;unfold BT;rw[e1,e2,Yk,Yk];refine ZK.2 ⟨h1,?_⟩;unfold ZU;rw[Ya c.vq,h3];omega
section
variable{s:Zs}{q:Zc}(c:Ctx s q)
include c
theorem Rf:∀k:Nat,k<=2 ^ q.Atoms.length->TJ s q (Lv s q k) k=some (.own 0,[.arr X5 1 true ((Lv s q (2 ^ q.Atoms.length)).map ic)]):=by
 have hf:=Lh c.vq;have hp:=ZEi q.Atoms.length;have h16:2 ^ q.Atoms.length<=16:=Nat.pow_le_pow_right (E:0<2) (XF c.vq).2;refine down _ ?_ ?_
 .refine ZY.1.2.2.2.1 _ _ _ _ _ ⟨_,W5 q c.lq,?_⟩
  grind
 .intro k hk ih;have Fj:w ((k:Int)+1)=((k+1:Nat):Int):=by rw[show((k+1:Nat):Int)=(k:Int)+1 by omega];exact ZF E E
  have hr:Am (k:Int) 0 (ZU q.Zi q.Atoms)=true:=ZK.2 ⟨E,by rw[hf];omega⟩;have ec:WW q.Zi q.Atoms k=(decide ((k:Int)≠0) && WV q.Atoms k):=by unfold WW;rw[c.vq,hr,Yk,Yk]
  have hl:=ZGC s q k;refine ZY.1.2.2.2.1 _ _ _ _ _ ⟨_,W5 q c.lq,?_⟩;rw[Ya (by rw[hf];omega)];refine⟨_,QM q c.lq k,?_⟩;rw[Fj,ec];rw[ZUy]at ih;rcases ft (decide ((k:Int)≠0) && WV q.Atoms k)with e|e
  .rw[Ya e];refine⟨_,ZUx c.le c.lq k,E,?_⟩;simp only[Yf,decide_eq_true_eq]at e;have ea:cJ s q k=(cH s q k).1:=by unfold cJ;rw[Ya ⟨e.2,E⟩]
   rw[ea]at ih;exact ih
  .rw[Yb (by rw[e];decide)];refine⟨E,?_⟩;have ea:cJ s q k=0:=by
    unfold cJ;rw[Yb];rintro⟨h1,h2⟩
    simp_all
   rw[ea]at ih;exact ih
end
def ZGD{s:Zs}{q:Zc}:BT s q (ZU q.Zi q.Atoms)=BT s q 1:=by
 unfold BT;congr 2;by_cases h:1<=ZU q.Zi q.Atoms
 .rw[ZK.2 ⟨h,Int.le_refl _⟩,ZK.2 ⟨Int.le_refl _,h⟩]
 .have e1:Am (ZU q.Zi q.Atoms) 1 (ZU q.Zi q.Atoms)≠true:=λhh=>h (ZK.1 hh).1
  have e2:Am 1 1 (ZU q.Zi q.Atoms)≠true:=λhh=>h (ZK.1 hh).2
  simp_all
def Z4d{s:Zs}{q:Zc}(h:Qt s)(hq:AW q):Zpb s q=some (.own 0,[.arr X5 1 true ((wG s q).map ic)]):=by
 refine ZY.1.2.2.2.2 _ _ _ ⟨_,W5 q hq,_,K2 h hq _,?_⟩;rw[ZGD];unfold wG;rcases ft (BT s q 1)with e|e
 .obtain⟨c,h1,h2⟩:=vH h hq e;rw[Ya e,Ya e];exact Rf c 0 (Yc _)
 .simp_all
theorem Rg{α:Type}{x:List α}{i:Nat}(h:i<x.length)(f:α->Int):(x.take (i+1)).map f=(x.take i).map f++[f x[i]]:=by
 grind [List.take_add_one,List.getElem?_eq_getElem]
def wH(x y:V2)(hx:x.length<=1000)(hl:y.length=x.length):∀i,i<=x.length->lT x y ((x.take i).map X4) ((y.take i).map X4) i=some (.tup [.agg ((⟨x.map X4,y.map X4⟩:Box).c.map .t),Bo true],[]):=by
 refine down x.length ?_ ?_
 .apply ZY.2.2.1.2;rw[Ao,Yw,<-hl,Yw];rfl
 .intro i hi ih;have hj:i<y.length:=by omega
  have Fj:w ((i:Int)+1)=((i+1:Nat):Int):=by rw[show((i+1:Nat):Int)=(i:Int)+1 by omega];exact ZF E E
  apply ZY.2.2.1.2;rw[An];refine⟨E,x[i],by rw[Yj,Yh hi],_,sP _,by simp;omega,y[i],by rw[Yj,Yh hj],_,sP _,by simp;omega,?_⟩
  grind [Rg]
theorem wI(x y:V2)(h0:0<x.length)(hx:x.length<=1000)(hl:y.length=x.length):Zpc x y 0=some (.tup [.agg ((⟨x.map X4,y.map X4⟩:Box).c.map .t),Bo true],[]):=by
 have b:=wH x y hx hl 1 h0;apply ZY.2.2.1.1;obtain⟨a,x,rfl⟩:=List.exists_cons_of_ne_nil (List.ne_nil_of_length_pos h0);obtain⟨c,y,rfl⟩:=List.exists_cons_of_ne_nil (List.ne_nil_of_length_pos (E:0<y.length));rw[Ya Z];refine⟨Om,a,rfl,_,sP _,c,rfl,_,sP _,?_⟩;rw[show w (0+1)=1 from by decide];simpa using b
def fx(xs:V2)(v:Int):Int:=XD (λx=>decide (v=x)) xs 0
def Zsa(v x:Z2):Bool:=decide (v.Name=x.Name/\v.Column=x.Column/\v.Into=x.Into/\v.IntoColumn=x.IntoColumn)
def wJ(s:Zs)(a b:Zd)(v:Int):Bool:=(decide (a.Name=b.Name) && decide (fx a.Vars v=fx b.Vars v)) || s.Inclusions.any (Zsa ⟨a.Name,fx a.Vars v,b.Name,fx b.Vars v⟩)
def Rh(s:Zs)(q:Zc)(k:Nat)(v:Int)(l:V4):Bool:=l.any λa=>has (Bl q a).Vars v && wJ s (Bl q a) (Bl q k) v
def wK(q:Zc)(c:Int)(k:Nat):V2:=(Bl q k).Vars.filter (has (ZI q c))
def Lw(s:Zs)(q:Zc)(c:Int)(k:Nat):Bool:=if Ai (As c k) 1=1 then false else match wK q c k with
 |[v]=>Rh s q k v (ZB c 0 q.Atoms.length)
 |_=>false
section
variable{s:Zs}{q:Zc}(c:Ctx s q)
include c
theorem atv{i:Nat}(h:i<q.Atoms.length):Le (Bl q i).Vars:=by have:=c.vars3 h;omega
theorem ZGE{k:Nat}(hk:k<q.Atoms.length)(v:Int):Gw (Bl q k) v=some (I (fx (Bl q k).Vars v),[]):=by
 have h3:=c.vars3 hk;have l:∀i,i<=(Bl q k).Vars.length->S6 (Bl q k) v i=some (I (XD (λx=>decide (v=x)) ((Bl q k).Vars.drop i) i),[]):=by
  refine down _ ?_ ?_
  .apply X8.2.1.1.1;rw[Ao,Yl];rfl
  .intro i hi ih;apply X8.2.1.1.1;rw[An,wS hi E,Sf _ hi];refine⟨E,_,gE hi,?_⟩
   grind
 exact X8.2.1.1.2 _ _ _ (l 0 (Yc _))
theorem Ri{v:V2}{want:Z2}{mask i k:Int}{R:Bool}(hR:MK s q v mask i (w (k+1))=some (Bo R,[])):∀j,j<=s.Inclusions.length->jL s q v want mask i k j=some (Bo ((s.Inclusions.drop j).any (Zsa want) || R),[]):=by
 have hx:=c.le.x;refine down _ ?_ ?_
 .simp_all [X8.2.1.2.2,Yl]
 .intro j hj ih;apply X8.2.1.2.2;rw[An,wS hj E,Yg hj,HB];refine⟨E,_,gE hj,?_⟩;by_cases e:s.Inclusions[j].Name=want.Name/\s.Inclusions[j].Column=want.Column/\s.Inclusions[j].Into=want.Into/\s.Inclusions[j].IntoColumn=want.IntoColumn
  .rw[Ya e,show Zsa want s.Inclusions[j]=true from decide_eq_true ⟨e.1.symm,e.2.1.symm,e.2.2.1.symm,e.2.2.2.symm⟩];rfl
  .rw[Yb e,show Zsa want s.Inclusions[j]=false from decide_eq_false λh=>e ⟨h.1.symm,h.2.1.symm,h.2.2.1.symm,h.2.2.2.symm⟩,HA];exact ih
theorem Rj{cc:Int}(cd:Bf cc){i:Nat}(hi:i<q.Atoms.length)(v:Int):∀k,k<=q.Atoms.length->MK s q [v] cc i k=some (Bo (Rh s q i v (ZB cc k (q.Atoms.length-k))),[]):=by
 have hn4:=c.n4;refine down _ ?_ ?_
 .apply X8.2.1.2.1;rw[Ao,Et];rfl
 .intro k hk ih;apply X8.2.1.2.1;rw[An,show q.Atoms.length-k=(q.Atoms.length-(k+1))+1 by omega,ZB];refine⟨E,?_⟩;rcases ft (Zw cc k)with e|e
  .rw[Yb (λhc=>by rw[(JA cd E).1 hc]at e;cases e),e,Ya rfl,Rh,HB];refine⟨E,_,PV hk,v,rfl,_,G3 _ _ (atv c hk),?_⟩;rcases ft (has (Bl q k).Vars v)with e2|e2
   .rw[e2,Ya rfl,Yk,wJ];refine⟨_,ZGE c hk v,E,_,PV hi,_,ZGE c hi v,?_⟩;have cont:=Ri c (v:=[v]) (want:=⟨(Bl q k).Name,fx (Bl q k).Vars v,(Bl q i).Name,fx (Bl q i).Vars v⟩) (mask:=cc) (i:=i) (k:=k) (by rw[wS hk E];exact ih) 0 (Yc _);rw[Yq]at cont;by_cases en:(Bl q k).Name=(Bl q i).Name
    .rw[Ya en];by_cases ef:fx (Bl q k).Vars v=fx (Bl q i).Vars v
     .simp_all
     .rw[Yb ef,decide_eq_false ef,Bool.and_false,HA];exact cont
    .rw[Yb en,decide_eq_false en,FM,HA];exact cont
   .rw[e2,Yb Om,FM,HA,wS hk E];exact ih
  .grind [JA,wS]
end
def ZGF{n:Int}:∀{vs c:V2},UB n c vs=true->vs.Nodup/\∀v∈vs,v ∉ c
 |[],_,_=>⟨C2,λv hv=>by cases hv⟩
 |x::xs,c,h=>by
  simp only[UB,Yf,Bool.not_eq_true']at h;obtain⟨h1,h2⟩:=ZGF h.2
  grind [Xj,List.nodup_cons]
def Z4e{A B:V2}(hB:B.Nodup)(h:∀x,x∈A↔x∈B){v:Int}(hA:A=[v]):B=[v]:=by
 subst hA;have hall:∀x∈B,x=v:=λx hx=>by simpa using(h x).2 hx
 match B,hB,h v with
 |[],_,hv=>exact absurd (hv.1 Z) Z
 |[x],_,_=>rw[hall x Z]
 |x::y::r,hn,_ =>
  simp_all
theorem Z4f{α:Type}(p:α->Bool){l:List α}(h:l.Nodup):(l.filter p).Nodup:=List.Pairwise.filter p h
def ZUz(m:Int)(qa:List Zd)(k:Nat):(ZX m qa k).Nodup:=by
 unfold ZX
 grind [List.range,Z4f,List.nodup_range]
section
variable{s:Zs}{q:Zc}(c:Ctx s q)
include c
theorem Z4g{k:Nat}(hk:k<q.Atoms.length)(cc x:Int):x∈wK q cc k↔x∈Ub q cc (Ac 1 k):=by
 have hA:Bl q k=q.Atoms[k]:=by unfold Bl;rw[CF,Yh hk];rfl
 have hok:WF q.Zi (Bl q k)=true:=by
  have hv:=c.vq;simp only[Zx,Yf,Ym]at hv
  simp_all
 have e:has (ZI q (Ac 1 k)) x=has (Bl q k).Vars x:=by
  rw[show has (ZI q (Ac 1 k)) x=Bz q.Atoms (Ac 1 k) x from Ml c.vq _ _,hA];unfold Bz;rcases ft (Am x 0 3)with ei|ei
  .rw[ei,Yk,OM _ c.n4.2 hk]
   grind [ZK]
  .rw[ei,FM];refine(Bool.eq_false_iff.2 λhh=>?_).symm;rw[<-hA]at hh;simp only[WF,Yf]at hok;have h1:=ZK.1 (Zn2 hok.2 x (Xj.1 hh));have h2:=Kf c.vq
   grind [ZK]
 unfold wK Ub
 grind [Xj]
theorem ZGG{got:Int}(h1:1<=got)(h2:got<2 ^ q.Atoms.length){k:Nat}(hk:k<q.Atoms.length):Zoo s q got k=some (Bo (Lw s q got k),[]):=by
 have h16:=PY E h2 c.n4.2;have hn4:=c.n4;have hA:Bl q k=q.Atoms[k]:=by unfold Bl;rw[CF,Yh hk];rfl
 have hnA:(wK q got k).Nodup:=by
  have hv:=c.vq;simp only[Zx,Yf,Ym]at hv;have hok:=hv.1.2 _ (Ye hk);rw[<-hA]at hok;simp only[WF,Yf]at hok;exact Z4f _ (ZGF hok.2).1
 have hnB:(Ub q got (Ac 1 k)).Nodup:=Z4f _ (ZUz _ _ _);have wn:w ((q.Atoms.length:Int)-1)=(q.Atoms.length:Int)-1:=ZF E E;have hf:MQ q.Atoms got:=Zrl c.vq (ZK.2 ⟨E,by rw[Lh c.vq];omega⟩);refine X8.2.2.1.1 _ _ _ _ _ ⟨_,K2 c.le c.lq got,?_⟩;rw[Re c h1 h2,Ya rfl];refine⟨_,ZS _ _ _,?_⟩;rw[wn,ZK.2 ⟨E,E⟩,Ya rfl];refine⟨E,?_⟩;unfold Lw;by_cases eb:Ai (As got k) 1=1
 .simp_all
 rw[Yb eb,Yb eb];refine⟨_,Z2R q c.lq c.vq got (Ac 1 k) hf (Z3V c hk),?_⟩
 match hS:wK q got k with
 |[v] =>
  have hB:=Z4e hnB (Z4g c hk got) hS;rw[hB,Ya (by rfl)];have:=Rj c h16 hk v 0 (Yc _)
  exact this
 |[] =>
  rw[Yb];intro h;obtain⟨v,hv⟩:=List.length_eq_one_iff.1 (by exact_mod_cast h:(Ub q got (Ac 1 k)).length=1);have:=Z4e hnA (λx=>(Z4g c hk got x).symm) hv
  simp_all
 |a::b::r =>
  rw[Yb];intro h;obtain⟨v,hv⟩:=List.length_eq_one_iff.1 (by exact_mod_cast h:(Ub q got (Ac 1 k)).length=1);have:=Z4e hnA (λx=>(Z4g c hk got x).symm) hv
  simp_all
end
def FJ(s:Zs)(q:Zc):Nat->Int->Int->Bool
 |0,_,left=>decide (left=0)
 |f+1,got,left=>if left=0 then true else(ZB left 0 4).any λi=>Lw s q got i && FJ s q f (Az got (Ac 1 i)) (Z6 left (Ac 1 i))
theorem ZGH(s:Zs)(q:Zc)(f:Nat)(g:Int):FJ s q f g 0=true:=by
 cases f<;>rfl
def wL:∀(n:Fin 5) (g:Fin 16) (i:Fin 4),g.1<2 ^ n.1->i.1<n.1->1<=Az (g.1:Int) (Ac 1 i.1)/\Az (g.1:Int) (Ac 1 i.1)<2 ^ n.1:=by decide +kernel
def wM:∀(n:Fin 5) (i:Fin 4),i.1<n.1->1<=Ac 1 (i.1:Int)/\Ac 1 (i.1:Int)<2 ^ n.1/\Az 0 (Ac 1 (i.1:Int))=Ac 1 (i.1:Int):=by decide +kernel
def wO:∀(m:Fin 16) (i:Fin 4),Zw (m.1:Int) i.1=true->Ai (Ac 1 (i.1:Int)) m.1=Ac 1 (i.1:Int):=by decide +kernel
def ZU0(k:Nat):((2:Int) ^ k)=(((2:Nat) ^ k:Nat):Int):=by push_cast;rfl
def Rk{n:Nat}(hn:n<=4){g:Int}(h:Bf g)(hg:g<2 ^ n){i:Nat}(hi:i<n):1<=Az g (Ac 1 i)/\Az g (Ac 1 i)<2 ^ n:=by
 obtain⟨a,rfl⟩:=m16 h;have e:=ZU0 n;exact wL ⟨n,E⟩ a ⟨i,E⟩ (by simp only;omega) hi
def wQ{n:Nat}(hn:n<=4){i:Nat}(hi:i<n):1<=Ac 1 (i:Int)/\Ac 1 (i:Int)<2 ^ n/\Az 0 (Ac 1 (i:Int))=Ac 1 (i:Int):=wM ⟨n,E⟩ ⟨i,E⟩ hi
section
variable{s:Zs}{q:Zc}(c:Ctx s q)
include c
end
def Uh(l:V2)(u:Int):Int:=l.foldl (λu x=>Az u (Ac 1 x)) u
def ZU1(l:V2)(u x:Int):Uh (l++[x]) u=Az (Uh l u) (Ac 1 x):=by unfold Uh;rw[List.foldl_append];rfl
def WkR(o:V2)(mask c:Int)(b:Bool)(r:Rs):Prop :=
 (c=mask/\r=some (.own 0,[.arr 3 1 true (o.map ic)]))\/
 (c≠mask/\∃y:V2,(0<(y.length:Int)↔b=true)/\r=some (.own 1,[.arr 3 1 true (o.map ic),.arr 3 1 true (y.map ic)]))
def wR(s:Zs)(q:Zc)(o:V2)(mask:Int)(ho:o.length<=1000)(hp:∀x∈o,0<=x):∀i,i<=o.length->∀u r,(if Uh (o.drop i) u=mask then some (AV.own 0,[AF.arr 3 1 true (o.map ic)])=some r else Km o s q mask (Uh (o.drop i) u) 0=some r)->jM o s q mask u i=some r:=by
 refine down _ ?_ ?_
 .intro u r hr;rw[Yl]at hr;apply X8.2.2.1.2;rw[Ao];exact hr
 .intro i hi ih u r hr;rw[Yg hi]at hr;apply X8.2.2.1.2;rw[An,wS hi E];exact⟨E,_,gE hi,by have:=hp _ (Ye hi);omega,ih _ _ hr⟩
def wT{s:Zs}{q:Zc}{o:V2}{mask:Int}{b:Bool}(ho:o.length<=1000)(hp:∀x∈o,0<=x)(h:Uh o 0≠mask->∃y:V2,(0<(y.length:Int)↔b=true)/\Km o s q mask (Uh o 0) 0=some (.own 1,[.arr 3 1 true (o.map ic),.arr 3 1 true (y.map ic)])):WkR o mask (Uh o 0) b (Kl o s q mask):=by
 by_cases e:Uh o 0=mask
 .refine .inl ⟨e,X8.2.2.2.2.1 _ _ _ _ _ (wR s q o mask ho hp 0 (Yc _) 0 _ ?_)⟩
  simp_all
 .obtain⟨y,h1,h2⟩:=h e;refine .inr ⟨e,y,h1,X8.2.2.2.2.1 _ _ _ _ _ (wR s q o mask ho hp 0 (Yc _) 0 _ ?_)⟩
  simp_all
section
variable{s:Zs}{q:Zc}(c:Ctx s q)
include c
theorem AbJ{f:Nat}{mask used:Int}(hm:Bf mask)(co:mask<2 ^ q.Atoms.length)(hu:Bf used)(cn:1<=used)(cc:used<2 ^ q.Atoms.length)(hs:Ai used mask=used)(cp:used≠mask)(hp:X0 (Z6 mask used)<=f+1)(o:V2)(ho:o.length+f+1<=1000)(cd:∀x∈o,0<=x)(cl:Uh o 0=used)
  (ih:∀(p:V2) (u:Int),p.length+f<=1000->(∀x∈p,0<=x)->Uh p 0=u->Bf u->1<=u->u<2 ^ q.Atoms.length->Ai u mask=u->X0 (Z6 mask u)<=f->WkR p mask u (FJ s q f u (Z6 mask u)) (Kl p s q mask)) :
  ∀i,i<=q.Atoms.length->∃y:V2,(0<(y.length:Int)↔((ZB (Z6 mask used) i (q.Atoms.length-i)).any λi=>Lw s q used i && FJ s q f (Az used (Ac 1 i)) (Z6 (Z6 mask used) (Ac 1 i)))=true)/\Km o s q mask used i=some (.own 1,[.arr 3 1 true (o.map ic),.arr 3 1 true (y.map ic)]):=by
 have hn4:=c.n4;have Dc:Bf (Z6 mask used):=by
  obtain⟨a,rfl⟩:=m16 hm;obtain⟨u,rfl⟩:=m16 hu;exact(P4 a u hs).1
 refine down _ ?_ ?_
 .refine⟨[],by rw[Et];simp[ZB],X8.2.2.2.1 _ _ _ _ _ _ _ ?_⟩;rw[Ao]
 .intro i hi vO;have hb:Zw (Z6 mask used) i=(Zw mask i && !Zw used i)/\(Zw mask i=true->Ai (Az used (Ac 1 i)) mask=Az used (Ac 1 i))/\Bf (Az used (Ac 1 i))/\Z6 mask (Az used (Ac 1 i))=Z6 (Z6 mask used) (Ac 1 i):=by
   obtain⟨a,rfl⟩:=m16 hm;obtain⟨u,rfl⟩:=m16 hu;exact ZGw a u ⟨i,E⟩ hs
  rw[show q.Atoms.length-i=(q.Atoms.length-(i+1))+1 by omega,ZB,hb.1];rcases ft (Zw mask i)with e|e
  .have e1:Ai (As mask i) 1=1:=of_decide_eq_true e;rw[e,Yk];have skip:Lw s q used i=false->∀r,Km o s q mask used ((i+1:Nat):Int)=some r->Km o s q mask used i=some r:=by
    intro ee r hr;apply X8.2.2.2.1;rw[An,Ya e1,wS hi E]
    simp_all [ZGG]
   rcases ft (Zw used i)with e2|e2
   .have ee:Lw s q used i=false:=by unfold Lw;rw[Ya (of_decide_eq_true e2)]
    grind
   .rw[e2,Ya (by rfl),HB];rcases ft (Lw s q used i)with ee|ee
    .rw[ee,Yk];have hleft:Zw (Z6 mask used) i=true:=by rw[hb.1,e,e2];rfl
     have hpn:X0 (Z6 mask (Az used (Ac 1 i)))<=f:=by
      rw[hb.2.2.2];obtain⟨a,ha⟩:=m16 Dc;rw[ha]at hp hleft|-;have:=(vL a ⟨i,E⟩ hleft).2;simp only at this;omega
     have hor:=Rk hn4.2 hu cc hi;have rcl:=ih (o++[(i:Int)]) (Az used (Ac 1 i)) (by simp;omega) (by intro x hx;rcases Yp.1 hx with h|h;exact cd x h;simp at h;omega) (by rw[ZU1,cl]) hb.2.2.1 hor.1 hor.2 (hb.2.1 e) hpn;rw[hb.2.2.2]at rcl
     have stp:∀r,((∃v2:V2,Kl (o++[(i:Int)]) s q mask=some (.own 0,[.arr 3 1 true (v2.map ic)])/\(if 0<(v2.length:Int)then some (AV.own 1,[AF.arr 3 1 true (o.map ic),.arr 3 1 true (v2.map ic)])=some r else Km o s q mask used ((i+1:Nat):Int)=some r))\/
       (∃v3 v4:V2,Kl (o++[(i:Int)]) s q mask=some (.own 1,[.arr 3 1 true (v3.map ic),.arr 3 1 true (v4.map ic)])/\(if 0<(v4.length:Int)then some (AV.own 1,[AF.arr 3 1 true (o.map ic),.arr 3 1 true (v4.map ic)])=some r else Km o s q mask used ((i+1:Nat):Int)=some r)))->Km o s q mask used i=some r:=by
      intro r hr;apply X8.2.2.2.1;rw[An,Ya e1,wS hi E];refine⟨E,_,ZGG c cn cc hi,?_⟩
      grind
     rcases rcl with⟨r0,r1⟩|⟨r0,y,r1,r2⟩
     .have hz:Z6 (Z6 mask used) (Ac 1 i)=0:=by
       rw[<-hb.2.2.2];obtain⟨a,ha⟩:=m16 hm;obtain⟨u,hu'⟩:=m16 hb.2.2.1;have:=(P4 a u (by rw[<-ha,<-hu'];exact hb.2.1 e)).2
       simp_all
      rw[hz,ZGH,Bool.true_or];refine⟨o++[(i:Int)],Z,stp _ (.inl ⟨_,r1,?_⟩)⟩;rw[Ya Z]
     .rcases ft (FJ s q f (Az used (Ac 1 i)) (Z6 (Z6 mask used) (Ac 1 i)))with e5|e5
      .grind
      .grind
    .grind
  .have e1:¬Ai (As mask i) 1=1:=of_decide_eq_false e;obtain⟨y,h1,h2⟩:=vO;rw[e,FM,Yb Om]
   grind [X8.2.2.2.1,wS]
theorem ZU2{mask:Int}(hm:Bf mask)(cc:mask<2 ^ q.Atoms.length):∀(f:Nat),f<=5->∀(p:V2) (u:Int),p.length+f<=1000->(∀x∈p,0<=x)->Uh p 0=u->Bf u->1<=u->u<2 ^ q.Atoms.length->Ai u mask=u->X0 (Z6 mask u)<=f->WkR p mask u (FJ s q f u (Z6 mask u)) (Kl p s q mask):=by
 intro f
 induction f with
 |zero =>
  intro _ p u hp hpos hou hu hu1 hu2 hs hpc;subst hou;refine wT E hpos λhne=>?_
  exfalso;obtain⟨a,ha⟩:=m16 hm;obtain⟨w,hw⟩:=m16 hu;rw[ha,hw]at hs hpc hne;have k:=P4 a w hs;obtain⟨z,hz⟩:=m16 k.1;have k2:=k.2;rw[hz]at hpc k2;by_cases h:z.1=0
  .omega
  .grind [Z3U]
 |succ f ih =>
  intro hf p u hp hpos hou hu hu1 hu2 hs hpc;subst hou;refine wT E hpos λhne=>?_
  have Dc:Bf (Z6 mask (Uh p 0))/\(Uh p 0=mask↔Z6 mask (Uh p 0)=0):=by
   obtain⟨a,rfl⟩:=m16 hm;obtain⟨u,hu'⟩:=m16 hu;rw[hu']at hs|-;exact P4 a u hs
  have hlt:Z6 mask (Uh p 0)<2 ^ q.Atoms.length:=by
   have:Z6 mask (Uh p 0)<=mask:=by
    obtain⟨a,rfl⟩:=m16 hm;obtain⟨u,hu'⟩:=m16 hu
    simp_all [ZGt]
   omega
  have b:=AbJ c hm cc hu hu1 hu2 hs hne hpc p E hpos rfl (λy u a1 a2 a3 a4 a5 a6 a7 a8=>ih E y u a1 a2 a3 a4 a5 a6 a7 a8) 0 (Yc _);rw[FJ,Yb (λh=>hne (Dc.2.2 h)),Z3T Dc.1.1 hlt c.n4.2];exact b
def cK(s:Zs)(q:Zc)(m b:Int)(i:Nat):Int:=if FJ s q 4 (Ac 1 i) (Z6 m (Ac 1 i))=true then(if b<VC s q i then VC s q i else b)else b
def lbV(s:Zs)(q:Zc)(m:Int):Int:=(ZB m 0 q.Atoms.length).foldl (cK s q m) 0
theorem ZU3{m:Int}(h1:1<=m)(h2:m<2 ^ q.Atoms.length)(le:BT s q m=true){i:Nat}(hi:i<q.Atoms.length):∃y:V2,S8 s q m i=some (.own 0,[.arr 3 1 true (y.map ic)])/\(0<(y.length:Int)↔(Zw m i && FJ s q 4 (Ac 1 i) (Z6 m (Ac 1 i)))=true):=by
 have hn4:=c.n4;have h16:=PY E h2 hn4.2;have wn:w ((q.Atoms.length:Int)-1)=(q.Atoms.length:Int)-1:=ZF E E;have stp:∀r,(if Ai (As m i) 1=0 then some (AV.own 0,[AF.arr 3 1 true (([]:V2).map ic)])=some r else((∃v3:V2,Kl [(i:Int)] s q m=some (.own 0,[.arr 3 1 true (v3.map ic)])/\some (AV.own 0,[AF.arr 3 1 true (v3.map ic)])=some r)\/(∃v4 v5:V2,Kl [(i:Int)] s q m=some (.own 1,[.arr 3 1 true (v4.map ic),.arr 3 1 true (v5.map ic)])/\some (AV.own 0,[AF.arr 3 1 true (v5.map ic)])=some r)))->S8 s q m i=some r:=by
  intro r hr;refine X8.2.2.2.2.2 _ _ _ _ _ ⟨_,K2 c.le c.lq m,?_⟩;rw[le,Ya rfl];refine⟨_,ZS _ _ _,?_⟩
  grind [ZK]
 rcases ft (Zw m i)with e|e
 .have e1:¬Ai (As m i) 1=0:=λhc=>by rw[(JA h16 E).1 hc]at e;cases e
  have hsh:=wQ hn4.2 hi;have hpm:=ZGv h16;have hpl:X0 (Z6 m (Ac 1 i))<=4:=by
   obtain⟨a,rfl⟩:=m16 h16;have:=(vL a ⟨i,E⟩ e).2
   grind
  have hsub:Ai (Ac 1 (i:Int)) m=Ac 1 i:=by
   obtain⟨a,rfl⟩:=m16 h16;exact wO a ⟨i,E⟩ e
  have wk:=ZU2 c h16 h2 4 E [(i:Int)] (Ac 1 i) Z Z hsh.2.2 (PY E hsh.2.1 hn4.2) hsh.1 hsh.2.1 hsub hpl;rw[e,Yk];rcases wk with⟨r0,r1⟩|⟨r0,y,r1,r2⟩
  .have hz:Z6 m (Ac 1 i)=0:=by
    obtain⟨a,ha⟩:=m16 h16;obtain⟨u,hu'⟩:=m16 (PY E hsh.2.1 hn4.2:Bf (Ac 1 (i:Int)));have:=(P4 a u (by rw[<-ha,<-hu'];exact hsub)).2
    simp_all
   grind [ZGH]
  .grind
 .refine⟨[],stp _ ?_,by rw[e];simp⟩
  grind [JA]
theorem wU{m:Int}(h1:1<=m)(h2:m<2 ^ q.Atoms.length)(le:BT s q m=true):∀i,i<=q.Atoms.length->∀b,Ta s q m b i=some (I ((ZB m i (q.Atoms.length-i)).foldl (cK s q m) b),[]):=by
 have hn4:=c.n4;refine down _ ?_ ?_
 .intro b;apply W9.2.1.1.2;rw[Ao,Et];rfl
 .intro i hi ih b;obtain⟨y,y1,y2⟩:=ZU3 c h1 h2 le hi;apply W9.2.1.1.2;rw[An,wS hi E,show q.Atoms.length-i=(q.Atoms.length-(i+1))+1 by omega,ZB];refine⟨_,y1,?_⟩;rcases ft (Zw m i)with e|e
  .rw[e,Yk]at y2;rw[e,Ya rfl,cV];rcases ft (FJ s q 4 (Ac 1 i) (Z6 m (Ac 1 i)))with e5|e5
   .rw[Ya (y2.2 e5)];refine⟨_,_,_,_,PW c hi,?_⟩;have ee:cK s q m b i=(if b<((tab s q i).Rows.length:Int)then((tab s q i).Rows.length:Int)else b):=by unfold cK;rw[e5,Ya rfl];rfl
    rw[<-ee];exact ih _
   .rw[Yb (λh=>by rw[y2.1 h]at e5;cases e5)];have ee:cK s q m b i=b:=by unfold cK;rw[e5,Yb Om]
    rw[ee];exact ih _
  .simp_all
end
def lbF(s:Zs)(q:Zc)(m:Int):Int:=if BT s q m=true then lbV s q m else -1
def ZU4{s:Zs}{q:Zc}(h:Qt s)(hq:AW q)(m:Int):Zov s q m=some (I (lbF s q m),[]):=by
 refine W9.2.1.2.1 _ _ _ _ ⟨_,K2 h hq m,?_⟩;unfold lbF;rcases ft (BT s q m)with e|e
 .obtain⟨c,h1,h2⟩:=vH h hq e;rw[Ya e,Ya e];exact wU c h1 h2 e 0 (Yc _) 0
 .simp_all
def cL(s:Zs)(q:Zc)(m:Nat):Int:=if WV q.Atoms (m:Int)=true/\m≠0 then lbF s q m else 0
def Lx(s:Zs)(q:Zc)(k:Nat):V2:=(List.range k).map (cL s q)
def ZU5(s:Zs)(q:Zc)(k:Nat):Lx s q (k+1)=Lx s q k++[cL s q k]:=by
 unfold Lx;rw[Di,Y5];rfl
def Z4h(s:Zs)(q:Zc)(k:Nat):(Lx s q k).length=k:=by simp[Lx]
def Hx(s:Zs)(q:Zc):V2:=if BT s q 1=true then Lx s q (2 ^ q.Atoms.length)else[]
section
variable{s:Zs}{q:Zc}(c:Ctx s q)
include c
theorem Rl:∀k:Nat,k<=2 ^ q.Atoms.length->Tb s q (Lx s q k) k=some (.own 0,[.arr X5 1 true ((Lx s q (2 ^ q.Atoms.length)).map ic)]):=by
 have hf:=Lh c.vq;have hp:=ZEi q.Atoms.length;have h16:2 ^ q.Atoms.length<=16:=Nat.pow_le_pow_right (E:0<2) (XF c.vq).2;refine down _ ?_ ?_
 .refine W9.2.1.2.2 _ _ _ _ _ ⟨_,W5 q c.lq,?_⟩
  grind
 .intro k hk ih;have Fj:w ((k:Int)+1)=((k+1:Nat):Int):=by rw[show((k+1:Nat):Int)=(k:Int)+1 by omega];exact ZF E E
  have hr:Am (k:Int) 0 (ZU q.Zi q.Atoms)=true:=ZK.2 ⟨E,by rw[hf];omega⟩;have ec:WW q.Zi q.Atoms k=(decide ((k:Int)≠0) && WV q.Atoms k):=by unfold WW;rw[c.vq,hr,Yk,Yk]
  have hl:=Z4h s q k;refine W9.2.1.2.2 _ _ _ _ _ ⟨_,W5 q c.lq,?_⟩;rw[Ya (by rw[hf];omega)];refine⟨_,QM q c.lq k,?_⟩;rw[Fj,ec];rw[ZU5]at ih;rcases ft (decide ((k:Int)≠0) && WV q.Atoms k)with e|e
  .rw[Ya e];refine⟨_,ZU4 c.le c.lq k,E,?_⟩;simp only[Yf,decide_eq_true_eq]at e;have ea:cL s q k=lbF s q k:=by unfold cL;rw[Ya ⟨e.2,E⟩]
   rw[ea]at ih;exact ih
  .rw[Yb (by rw[e];decide)];refine⟨E,?_⟩;have ea:cL s q k=0:=by
    unfold cL;rw[Yb];rintro⟨h1,h2⟩
    simp_all
   rw[ea]at ih;exact ih
end
def Z4i{s:Zs}{q:Zc}(h:Qt s)(hq:AW q):jU s q=some (.own 0,[.arr X5 1 true ((Hx s q).map ic)]):=by
 refine W9.2.2.1.1 _ _ _ ⟨_,W5 q hq,_,K2 h hq _,?_⟩;rw[ZGD];unfold Hx;rcases ft (BT s q 1)with e|e
 .obtain⟨c,h1,h2⟩:=vH h hq e;rw[Ya e,Ya e];exact Rl c 0 (Yc _)
 .simp_all
def ZU6{s:Zs}{q:Zc}(h:Qt s)(hq:AW q):(Hx s q).length<=16:=by
 unfold Hx;rcases ft (BT s q 1)with e|e
 .obtain⟨c,_,_⟩:=vH h hq e;rw[Ya e,Z4h];exact Nat.pow_le_pow_right (E:0<2) (XF c.vq).2
 .simp_all
def ZU7{s:Zs}{q:Zc}(e:BT s q 1=true):(Hx s q).length=2 ^ q.Atoms.length/\(wG s q).length=2 ^ q.Atoms.length:=by
 unfold Hx wG;rw[Ya e,Ya e,Z4h,ZGC];exact⟨rfl,rfl⟩
def okB(s:Zs)(q:Zc):Bool:=BT s q 1 && WW q.Zi q.Atoms (ZU q.Zi q.Atoms)
def bbV(s:Zs)(q:Zc):Box:=if okB s q=true then⟨(Hx s q).map X4,(wG s q).map X4⟩else⟨[],[]⟩
def ZU8{s:Zs}{q:Zc}(h:Qt s)(hq:AW q):lS s q=some (.tup [.agg ((bbV s q).c.map .t),Bo (okB s q)],[])/\(bbV s q).Low.length<=17/\(bbV s q).High.length<=17:=by
 have l1:=ZU6 h hq;unfold bbV okB;rcases ft (BT s q 1)with e|e
 .have hl:=ZU7 e;have h1:1<=2 ^ q.Atoms.length:=Nat.one_le_two_pow;rcases ft (WW q.Zi q.Atoms (ZU q.Zi q.Atoms))with e2|e2
  .refine⟨ZY.2.2.2.1 _ _ _ ⟨_,Z4i h hq,_,Z4d h hq,?_⟩,?_⟩
   .rw[Ao,e,Yk];refine⟨_,W5 q hq,_,QM q hq _,?_⟩
    grind [wI]
   .grind
  .simp_all [ZY.2.2.2.1,Z4i,Z4d,Yk,W5,QM]
 .have e0:Hx s q=[]:=by unfold Hx;rw[Yb (by rw[e];decide)]
  simp_all [ZY.2.2.2.1,Z4i,Z4d,FM]
end
