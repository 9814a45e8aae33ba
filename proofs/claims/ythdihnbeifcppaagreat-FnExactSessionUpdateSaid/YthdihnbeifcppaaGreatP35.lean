/-
  Parts of the proofs for this seat: NA LK NB.
-/
import Derived.Test.YthdihnbeifcppaaGreatP34
set_option linter.all false
set_option maxRecDepth 100000
set_option maxHeartbeats 4000000
namespace Go.Proofs.YthdihnbeifcppaaGreat
open Go.AM
abbrev Lf{α:Type}(xs:List α):Prop:=xs.length<=4294967296
abbrev LfT(t:Zc):Prop:=Lf t.Rows/\∀r∈t.Rows,Lf r
abbrev LfD(d:Zl):Prop:=Lf d.Tables/\∀t∈d.Tables,LfT t
abbrev LfF(fs:List Zp):Prop:=Lf fs/\∀f∈fs,Lf f.From
structure LfS (s:Zs):Prop where
 d:LfD s.Zl
 k:LeK s.Zu
 f:LfF s.Dependencies
 x:Lf s.Inclusions
def LfS.le{s:Zs}(h:LfS s):Zir s :=
 ⟨⟨by have:=h.d.1;omega,λt ht=>⟨by have:=(h.d.2 t ht).1;omega,λr hr=>by have:=(h.d.2 t ht).2 r hr;omega⟩⟩,h.k,⟨by have:=h.f.1;omega,λx hx=>by have:=h.f.2 x hx;omega⟩,by have:=h.x;omega⟩
abbrev LfM(m:Za):Prop:=Lf m.Scan.Steps/\Lf m.Sort_.Steps/\Lf m.Hash.Steps/\Lf m.Merge.Steps/\Lf m.Nested.Steps
def LfM.le{m:Za}(h:LfM m):LeM m:=⟨by have:=h.1;omega,by have:=h.2.1;omega,by have:=h.2.2.1;omega,by have:=h.2.2.2.1;omega,by have:=h.2.2.2.2;omega⟩
abbrev dbR(d:Zl):V3:=(.agg [.own 0],[.arr 179 3 true (d.Tables.map Zc.c)])
abbrev ZeD(c:Zu):V3:=(.agg [I c.Version,.own 0],[.arr 191 4 true (c.Tables.map Zk.c)])
abbrev JF(s:Zs):V3:=(.agg [.own 0,I s.Zu.Version,.own 1,.own 2,.own 3],[.arr 179 3 true (s.Zl.Tables.map Zc.c),.arr 191 4 true (s.Zu.Tables.map Zk.c),.arr 185 3 true (s.Dependencies.map Zp.c),.arr 187 4 true (s.Inclusions.map Zr.c)])
def tkS{α:Type}{xs:List α}{i:Nat}(h:i<xs.length):xs.take i++[xs[i]]=xs.take (i+1):=(Y4 h).symm
def tk1{α:Type}{xs:List α}(h:0<xs.length):[xs[0]]=xs.take 1:=by
 rw[<-tkS h];rfl
def w01:w (0+1)=((1:Nat):Int):=by decide
def tkl{α:Type}{xs:List α}{i:Nat}(h:i<xs.length)(hl:xs.length<=4294967296):(xs.take i).length+1<=68719476736:=by
 rw[Yt];omega
def tks{α:Type}{xs:List α}(h:xs.length<=4294967296):xs.length<=68719476736:=by omega
def ZJw(xs:V4)(hl:Lf xs)(hr:∀r∈xs,Lf r):∀i,i<=xs.length->ZcP (xs.take i) xs xs.length i=some (.own 0,[.arr 42 1 true (xs.map isc)]):=by
 refine down _ ?_ ?_
 .apply XW.1.1.1.2;rw[Ynx,Yp]
 .intro i hi ih;apply XW.1.1.1.2;rw[Ypx,wS hi (by omega)];rw[<-tkS hi]at ih;exact⟨by omega,_,gE hi,_,KP _ (tks (hr _ (Yc hi))),tkl hi hl,ih⟩
def Z4I(xs:V4)(hl:Lf xs)(hr:∀r∈xs,Lf r):Zae xs=some (.own 0,[.arr 42 1 true (xs.map isc)]) :=
 XW.1.1.2.1 _ _ (by simpa using ZJw xs hl hr 0 (Yd _))
def Ja(t:Zc)(h:LfT t):WJ t=some (.agg [.t (.str t.Name),I t.Arity,.own 0],[.arr 42 1 true (t.Rows.map isc)]) :=
 XW.1.1.2.2 _ _ ⟨_,Z4I _ h.1 h.2,rfl⟩
def l_cDB(d:Zl)(h:LfD d):∀i,i<=d.Tables.length->Zfr (d.Tables.take i) d.Tables d.Tables.length i=some (dbR d):=by
 have hl:=h.1;refine down _ ?_ ?_
 .apply XW.1.2.1.2;rw[Ynx,Yp]
 .intro i hi ih;apply XW.1.2.1.2;rw[Ypx,wS hi (by omega)];rw[<-tkS hi]at ih;exact⟨by omega,_,gE hi,_,_,_,Ja _ (h.2 _ (Yc hi)),tkl hi hl,ih⟩
def ZaF(d:Zl)(h:LfD d):QZ d=some (dbR d):=by
 refine XW.1.2.2.1 _ _ (XW.1.2.1.1 _ _ _ _ ?_);by_cases e:d.Tables=[]
 .rw[Yb (by rw[e];simp),dbR,e]
 .have h0:0<d.Tables.length:=Ybn.2 e;rw[Ypx,w01];have:=l_cDB d h 1 h0;rw[<-tk1 h0]at this;exact⟨by omega,_,gE (i:=0) h0,_,_,_,Ja _ (h.2 _ (Yc h0)),this⟩
def ZJx(s:Zk)(h:LeS s)(a:UP)(b c:Int):∀i,i<=s.Groups.length->Zft s a b c (s.Groups.take i) s.Groups s.Groups.length i=some (.agg [.t (.str s.Name),I s.Arity,I s.RowCount,.own 0],[.arr 249 3 true (s.Groups.map Zy.c)]):=by
 have hl:=h.1;refine down _ ?_ ?_
 .apply XW.1.2.2.2.1;rw[Ynx,Yp]
 .intro i hi ih;apply XW.1.2.2.2.1;rw[Ypx,wS hi (by omega)];rw[<-tkS hi]at ih;have g:=h.2 _ (Yc hi);exact⟨by omega,_,gE hi,_,KP _ (tks g.1),_,Z4I _ g.2.1.1 g.2.1.2,_,KP _ (tks g.2.2),tkl hi hl,ih⟩
def Z4J(s:Zk)(h:LeS s):Zfs s=some (.agg [.t (.str s.Name),I s.Arity,I s.RowCount,.own 0],[.arr 249 3 true (s.Groups.map Zy.c)]) :=
 XW.1.2.2.2.2 _ _ (by simpa using ZJx s h ⟨#[]⟩ 0 0 0 (Yd _))
def l_cCat(c:Zu)(h:LeK c)(a:Int):∀i,i<=c.Tables.length->Zfu a c.Version (c.Tables.take i) c.Tables c.Tables.length i=some (ZeD c):=by
 have hl:=h.1;refine down _ ?_ ?_
 .apply XW.2.1.1.2;rw[Ynx,Yp]
 .intro i hi ih;apply XW.2.1.1.2;rw[Ypx,wS hi (by omega)];rw[<-tkS hi]at ih;exact⟨by omega,_,gE hi,_,_,_,_,Z4J _ (h.2 _ (Yc hi)),tkl hi hl,ih⟩
def ZJy(c:Zu)(h:LeK c):ZjK c=some (ZeD c):=by
 refine XW.2.1.2.1 _ _ (XW.2.1.1.1 _ _ _ _ _ _ ?_);by_cases e:c.Tables=[]
 .rw[Yb (by rw[e];simp),ZeD,e]
 .have h0:0<c.Tables.length:=Ybn.2 e;rw[Ypx,w01];have:=l_cCat c h 0 1 h0;rw[<-tk1 h0]at this;exact⟨by omega,_,gE (i:=0) h0,_,_,_,_,Z4J _ (h.2 _ (Yc h0)),this⟩
def ZJz(xs:List Zp)(h:LfF xs):∀i,i<=xs.length->Zfv (xs.take i) xs xs.length i=some (.own 0,[.arr 185 3 true (xs.map Zp.c)]):=by
 have hl:=h.1;refine down _ ?_ ?_
 .apply XW.2.1.2.2;rw[Ynx,Yp]
 .intro i hi ih;apply XW.2.1.2.2;rw[Ypx,wS hi (by omega)];rw[<-tkS hi]at ih;exact⟨by omega,_,gE hi,_,KP _ (tks (h.2 _ (Yc hi))),tkl hi hl,ih⟩
def Z4K(s:Zs)(h:LfS s):Zbv s=some (JF s) :=
 XW.2.2.1.2 _ _ ⟨_,ZaF _ h.d,_,_,ZJy _ h.k,_,XW.2.2.1.1 _ _ (by simpa using ZJz _ h.f 0 (Yd _)),tks h.x,rfl⟩
def l_s4(t:Zc)(h:LfT t)(a:UP)(b:Int):∀i,i<=t.Rows.length->Zdv t a b t.Name t.Arity (t.Rows.take i) i=some (.agg [.t (.str t.Name),I t.Arity,.own 0],[.arr 42 1 true (t.Rows.map isc)]):=by
 have hl:=h.1;refine down _ ?_ ?_
 .apply WL.2.1.2.2;rw[Ynx,Yp]
 .intro i hi ih;apply WL.2.1.2.2;rw[Ypx,wS hi (by omega)];rw[<-tkS hi]at ih;exact⟨by omega,_,gE hi,tks (h.2 _ (Yc hi)),tkl hi hl,ih⟩
abbrev s4R(t:Zc):V3:=(.agg [.t (.str t.Name),I t.Arity,.own 0],[.arr 42 1 true (t.Rows.map isc)])
def Jb(t:Zc)(h:LfT t):W7 t=some (s4R t):=by
 refine WL.2.2.1.1 _ _ (WL.2.1.2.1 _ _ _ _ _ _ _ ?_);by_cases e:t.Rows=[]
 .rw[Yb (by rw[e];simp),s4R,e]
 .have h0:0<t.Rows.length:=Ybn.2 e;rw[Ypx,w01];have:=l_s4 t h ⟨#[]⟩ 0 1 h0;rw[<-tk1 h0]at this;exact⟨by omega,_,gE (i:=0) h0,tks (h.2 _ (Yc h0)),this⟩
def l_s5(d:Zl)(h:LfD d):∀i,i<=d.Tables.length->Zg8 d (d.Tables.take i) i=some (dbR d):=by
 have hl:=h.1;refine down _ ?_ ?_
 .apply WL.2.2.2.1;rw[Ynx,Yp]
 .intro i hi ih;apply WL.2.2.2.1;rw[Ypx,wS hi (by omega)];rw[<-tkS hi]at ih;have s:=Jb _ (h.2 _ (Yc hi));exact⟨by omega,_,gE hi,_,_,_,s,tkl hi hl,ih⟩
def JG(d:Zl)(h:LfD d):Ux d=some (dbR d):=by
 refine WL.2.2.2.2 _ _ (WL.2.2.1.2 _ _ _ ?_);by_cases e:d.Tables=[]
 .rw[Yb (by rw[e];simp),dbR,e]
 .have h0:0<d.Tables.length:=Ybn.2 e;rw[Ypx,w01];have:=l_s5 d h 1 h0;rw[<-tk1 h0]at this;have s:=Jb _ (h.2 _ (Yc h0));exact⟨by omega,_,gE (i:=0) h0,_,_,_,s,this⟩
def l_s13(s:Zk)(h:LeS s)(a:UP)(b c:Int)(r:V3){i:Nat}(hi:i<s.Groups.length)(cc:J0 s a b c s.Name s.Arity s.RowCount (s.Groups.take (i+1)) ((i+1:Nat):Int)=some r) :
  (∀k,k<=s.Groups[i].Values.length->ZgC s a b c s.Name s.Arity s.RowCount (s.Groups.take i) s.Groups[i].Columns (s.Groups[i].Values.take k) s.Groups[i].Counts i k=some r):=by
 have hl:=h.1;have g:=h.2 _ (Yc hi);have hv:=g.2.1.1;refine down _ ?_ ?_
 .refine XT.1.2.1.2 _ _ _ _ _ _ _ _ _ _ _ _ _ _ ⟨by omega,_,gE hi,?_⟩;rw[Ynx,Yp,wS hi (by omega)];rw[<-tkS hi]at cc;exact⟨tkl hi hl,cc⟩
 .intro k hk ih;refine XT.1.2.1.2 _ _ _ _ _ _ _ _ _ _ _ _ _ _ ⟨by omega,_,gE hi,?_⟩;rw[Ypx,wS hk (by omega)];rw[<-tkS hk]at ih;exact⟨by omega,_,gE hk,tks (g.2.1.2 _ (Yc hk)),tkl hk hv,ih⟩
def l_s13b(s:Zk)(h:LeS s)(a:UP)(b c:Int):∀i,i<=s.Groups.length->J0 s a b c s.Name s.Arity s.RowCount (s.Groups.take i) i=some (.agg [.t (.str s.Name),I s.Arity,I s.RowCount,.own 0],[.arr 249 3 true (s.Groups.map Zy.c)]):=by
 have hl:=h.1;refine down _ ?_ ?_
 .apply XT.1.1.2.2;rw[Ynx,Yp]
 .intro i hi ih;have g:=h.2 _ (Yc hi);have hv:=g.2.1.1;apply XT.1.1.2.2;rw[Ypx];refine⟨by omega,_,gE hi,tks g.1,tks g.2.2,XT.1.2.1.1 _ _ _ _ _ _ _ _ _ _ _ _ _ ⟨by omega,_,gE hi,?_⟩⟩;by_cases e:s.Groups[i].Values=[]
  .rw[Yb (by rw[e];simp),wS hi (by omega)];rw[<-tkS hi]at ih;refine⟨tkl hi hl,?_⟩;rw[<-ih];congr 3;exact Zy.ext rfl e.symm rfl
  .have h0:0<s.Groups[i].Values.length:=Ybn.2 e;rw[Ypx,w01];have:=l_s13 s h a b c _ hi ih 1 h0;rw[<-tk1 h0]at this;exact⟨by omega,_,gE (i:=0) h0,tks (g.2.1.2 _ (Yc h0)),this⟩
def l_s13c(s:Zk)(h:LeS s)(r:V3)(hi:0<s.Groups.length)(c:J0 s ⟨#[]⟩ 0 0 s.Name s.Arity s.RowCount (s.Groups.take 1) ((1:Nat):Int)=some r) :
  ∀k,k<=s.Groups[0].Values.length->ZgB s ⟨#[]⟩ 0 0 s.Name s.Arity s.RowCount s.Groups[0].Columns (s.Groups[0].Values.take k) s.Groups[0].Counts 0 k=some r:=by
 have hl:=h.1;have g:=h.2 _ (Yc hi);have hv:=g.2.1.1;refine down _ ?_ ?_
 .refine XT.1.1.2.1 _ _ _ _ _ _ _ _ _ _ _ _ _ ⟨by omega,_,gE (i:=0) hi,?_⟩;rw[Ynx,Yp,w01];rw[<-tk1 hi]at c;exact c
 .intro k hk ih;refine XT.1.1.2.1 _ _ _ _ _ _ _ _ _ _ _ _ _ ⟨by omega,_,gE (i:=0) hi,?_⟩;rw[Ypx,wS hk (by omega)];rw[<-tkS hk]at ih;exact⟨by omega,_,gE hk,tks (g.2.1.2 _ (Yc hk)),tkl hk hv,ih⟩
def Z4L(s:Zk)(h:LeS s):Zg9 s=some (.agg [.t (.str s.Name),I s.Arity,I s.RowCount,.own 0],[.arr 249 3 true (s.Groups.map Zy.c)]):=by
 have hl:=h.1;refine XT.1.2.2.1 _ _ (XT.1.1.1.1 _ _ _ _ _ _ _ _ _ ?_);by_cases e0:s.Groups=[]
 .rw[Yb (by rw[e0];simp),e0]
 .have hi:0<s.Groups.length:=Ybn.2 e0;have g:=h.2 _ (Yc hi);have ih:=l_s13b s h ⟨#[]⟩ 0 0 1 hi;rw[Ypx];refine⟨by omega,_,gE (i:=0) hi,tks g.1,tks g.2.2,XT.1.1.1.2 _ _ _ _ _ _ _ _ _ _ _ _ ⟨by omega,_,gE (i:=0) hi,?_⟩⟩;by_cases e:s.Groups[0].Values=[]
  .rw[Yb (by rw[e];simp),w01];rw[<-tk1 hi]at ih;rw[<-ih];congr 2;exact Zy.ext rfl e.symm rfl
  .have h0:0<s.Groups[0].Values.length:=Ybn.2 e;rw[Ypx,w01];have:=l_s13c s h _ hi ih 1 h0;rw[<-tk1 h0]at this;exact⟨by omega,_,gE (i:=0) h0,tks (g.2.1.2 _ (Yc h0)),this⟩
abbrev Lq(q:Zj):Prop:=Lf q.Atoms/\∀a∈q.Atoms,Lf a.Vars
abbrev Lr(r:Region):Prop:=Lf r.Zg.Steps/\Lf r.Box.Low/\Lf r.Box.High
abbrev Lc(es:List Zo):Prop:=Lf es/\∀e∈es,Lq e.Zj/\Lr e.Region
def Lq.le{q:Zj}(h:Lq q):LeQ q:=⟨by have:=h.1;omega,λa ha=>by have:=h.2 a ha;omega⟩
def Lc.le{c:ZH}(h:Lc c.Entries):LeC c:=⟨by have:=h.1;omega,λe he=>⟨(h.2 e he).1.le,by have:=(h.2 e he).2.2.1;omega,by have:=(h.2 e he).2.2.2;omega⟩⟩
def ZJ0(a b:Int)(as':List Ze)(h:Lf as'/\∀a∈as',Lf a.Vars):∀i,i<=as'.length->Zfw a b (as'.take i) as' as'.length i=some (.agg [I b,.own 0],[.arr 251 2 true (as'.map Ze.c)]):=by
 have hl:=h.1;refine down _ ?_ ?_
 .apply XW.2.2.2.2.1;rw[Ynx,Yp]
 .intro i hi ih;apply XW.2.2.2.2.1;rw[Ypx,wS hi (by omega)];rw[<-tkS hi]at ih;exact⟨by omega,_,gE hi,_,KP _ (tks (h.2 _ (Yc hi))),tkl hi hl,ih⟩
def Z4M(q:Zj)(h:Lq q):ZcQ q=some (.agg [I q.Zm,.own 0],[.arr 251 2 true (q.Atoms.map Ze.c)]):=by
 refine XW.2.2.2.2.2 _ _ (XW.2.2.2.1 _ _ _ _ _ _ ?_);by_cases e:q.Atoms=[]
 .rw[Yb (by rw[e];simp),e]
 .have h0:0<q.Atoms.length:=Ybn.2 e;rw[Ypx,w01];have:=ZJ0 0 q.Zm q.Atoms h 1 h0;rw[<-tk1 h0]at this;exact⟨by omega,_,gE (i:=0) h0,_,KP _ (tks (h.2 _ (Yc h0))),this⟩
def ZJ1(b:Box)(h1:Lf b.Low)(h2:Lf b.High):ZjM b=some (.agg [.own 0,.own 1],[.arr 3 1 true (b.Low.map ic),.arr 3 1 true (b.High.map ic)]):=VL.1.1.2.1 _ _ ⟨_,KP _ (by omega),_,KP _ (by omega),rfl⟩
def Z4N(r:Region)(h:Lr r):Zfx r=some (.agg [.own 0,.own 1,.own 2,I r.Percent],[.arr 277 3 true (r.Zg.Steps.map Zh.c),.arr 3 1 true (r.Box.Low.map ic),.arr 3 1 true (r.Box.High.map ic)]):=VL.1.1.2.2 _ _ ⟨_,VL.1.1.1 _ _ ⟨by have:=h.1;omega,rfl⟩,_,_,ZJ1 _ h.2.1 h.2.2,rfl⟩
def ZJ2(a b:Int)(es:List Zo)(h:Lc es):∀i,i<=es.length->Zfy a b (es.take i) es es.length i=some (.agg [I b,.own 0],[.arr 128 8 true (es.map Zo.c)]):=by
 have hl:=h.1;refine down _ ?_ ?_
 .apply VL.1.2.2.1;rw[Ynx,Yp]
 .intro i hi ih;apply VL.1.2.2.1;rw[Ypx,wS hi (by omega)];rw[<-tkS hi]at ih;obtain⟨g1,g2⟩:=h.2 _ (Yc hi);exact⟨by omega,_,gE hi,_,_,Z4M _ g1,_,_,_,_,Z4N _ g2,tkl hi hl,ih⟩
def Z4O(c:ZH)(h:Lc c.Entries):ZcR c=some (.agg [I c.Clock,.own 0],[.arr 128 8 true (c.Entries.map Zo.c)]):=by
 refine VL.1.2.2.2 _ _ (VL.1.2.1 _ _ _ _ _ _ ?_);by_cases e:c.Entries=[]
 .rw[Yb (by rw[e];simp),e]
 .have h0:0<c.Entries.length:=Ybn.2 e;rw[Ypx,w01];have:=ZJ2 0 c.Clock c.Entries h 1 h0;rw[<-tk1 h0]at this;obtain⟨g1,g2⟩:=h.2 _ (Yc h0);exact⟨by omega,_,gE (i:=0) h0,_,_,Z4M _ g1,_,_,_,_,Z4N _ g2,this⟩
def l_l7(q:Zj)(h:Lq q)(a b:Int):∀i,i<=q.Atoms.length->ZgI q a b (q.Atoms.take i) i=some (.agg [I b,L 2 (q.Atoms.map Ze.c)],[]):=by
 have hl:=h.1;refine down _ ?_ ?_
 .apply XT.2.2.2.2.1;rw[Ynx,Yp]
 .intro i hi ih;apply XT.2.2.2.2.1;rw[Ypx,wS hi (by omega)];rw[<-tkS hi]at ih;exact⟨by omega,_,gE hi,tks (h.2 _ (Yc hi)),tkl hi hl,ih⟩
def ZJ3(q:Zj)(h:Lq q):ZgH q=some (.agg (q.c.map .t),[]):=by
 refine XT.2.2.2.2.2 _ _ (XT.2.2.2.1 _ _ _ _ _ ?_);by_cases e:q.Atoms=[]
 .rw[Yb (by rw[e];simp)];simp[e]
 .have h0:0<q.Atoms.length:=Ybn.2 e;rw[Ypx,w01];have:=l_l7 q h 0 q.Zm 1 h0;rw[<-tk1 h0]at this;exact⟨by omega,_,gE (i:=0) h0,tks (h.2 _ (Yc h0)),by simpa using this⟩
def ZJ4(b:Box)(h1:Lf b.Low)(h2:Lf b.High):ZkK b=some (.agg (b.c.map .t),[]):=Qi.1.1.1 _ _ ⟨by omega,by omega,rfl⟩
def ZJ5(r:Region)(h:Lr r):ZkL r=some (.agg (r.c.map .t),[]):=Qi.1.1.2 _ _ ⟨by have:=h.1;omega,_,ZJ4 _ h.2.1 h.2.2,rfl⟩
def Zmr(e:Zo)(h:Lq e.Zj/\Lr e.Region):Zar e=some (.agg (e.c.map .t),[]):=Qi.1.2.1 _ _ ⟨_,ZJ3 _ h.1,_,ZJ5 _ h.2,rfl⟩
def l_l39(c:ZH)(h:Lc c.Entries)(a b:Int):∀i,i<=c.Entries.length->ZgJ c a b false (c.Entries.take i) i=some (.agg [I b,L 8 (c.Entries.map Zo.c)],[]):=by
 have hl:=h.1;refine down _ ?_ ?_
 .apply Qi.1.2.2.2;rw[Ynx,Yp]
 .intro i hi ih;apply Qi.1.2.2.2;rw[Ypx,wS hi (by omega)];rw[<-tkS hi]at ih;exact⟨by omega,_,gE hi,_,Zmr _ (h.2 _ (Yc hi)),tkl hi hl,ih⟩
def Z4P(c:ZH)(h:Lc c.Entries):Zdx c=some (.agg (c.c.map .t),[]):=by
 refine Qi.2.1.1 _ _ (Qi.1.2.2.1 _ _ _ _ _ ?_);by_cases e:c.Entries=[]
 .rw[Yb (by rw[e];simp)];simp[e]
 .have h0:0<c.Entries.length:=Ybn.2 e;rw[Ypx,w01];have:=l_l39 c h 0 c.Clock 1 h0;rw[<-tk1 h0]at this;exact⟨by omega,_,gE (i:=0) h0,_,Zmr _ (h.2 _ (Yc h0)),by simpa using this⟩
def l_s14(c:Zu)(h:LeK c)(a:Int):∀i,i<=c.Tables.length->ZgD c a c.Version (c.Tables.take i) i=some (ZeD c):=by
 have hl:=h.1;refine down _ ?_ ?_
 .apply XT.1.2.2.2.2;rw[Ynx,Yp]
 .intro i hi ih;apply XT.1.2.2.2.2;rw[Ypx,wS hi (by omega)];rw[<-tkS hi]at ih;exact⟨by omega,_,gE hi,_,_,_,_,Z4L _ (h.2 _ (Yc hi)),tkl hi hl,ih⟩
def ZJ6(c:Zu)(h:LeK c):ZkJ c=some (ZeD c):=by
 refine XT.2.1.1.1 _ _ (XT.1.2.2.2.1 _ _ _ _ _ ?_);by_cases e:c.Tables=[]
 .rw[Yb (by rw[e];simp),ZeD,e]
 .have h0:0<c.Tables.length:=Ybn.2 e;rw[Ypx,w01];have:=l_s14 c h 0 1 h0;rw[<-tk1 h0]at this;exact⟨by omega,_,gE (i:=0) h0,_,_,_,_,Z4L _ (h.2 _ (Yc h0)),this⟩
def Z4Q(xs:List Zp)(h:LfF xs):∀i,i<=xs.length->ZgF (xs.take i) xs i=some (.own 0,[.arr 185 3 true (xs.map Zp.c)]):=by
 have hl:=h.1;refine down _ ?_ ?_
 .apply XT.2.1.1.2;rw[Ynx,Yp]
 .intro i hi ih;apply XT.2.1.1.2;rw[Ypx,wS hi (by omega)];rw[<-tkS hi]at ih;exact⟨by omega,_,gE hi,tks (h.2 _ (Yc hi)),tkl hi hl,ih⟩
def Z4R(s:Zs)(h:LfS s):J1 s=some (JF s) :=
 XT.2.1.2.2 _ _ ⟨_,JG _ h.d,_,_,ZJ6 _ h.k,_,XT.2.1.2.1 _ _ (by simpa using Z4Q _ h.f 0 (Yd _)),tks h.x,rfl⟩
abbrev modV(m:Za)(k:Nat):V2:=[I m.Scan.Fixed,I m.Scan.Zv,I m.Scan.Zw,I m.Scan.Zz,I m.Scan.Zx,.own k,I m.Sort_.Fixed,I m.Sort_.Zv,I m.Sort_.Zw,I m.Sort_.Zz,I m.Sort_.Zx,.own (k+1),I m.Hash.Fixed,I m.Hash.Zv,I m.Hash.Zw,I m.Hash.Zz,I m.Hash.Zx,.own (k+2),I m.Merge.Fixed,I m.Merge.Zv,I m.Merge.Zw,I m.Merge.Zz,I m.Merge.Zx,.own (k+3),I m.Nested.Fixed,I m.Nested.Zv,I m.Nested.Zw,I m.Nested.Zz,I m.Nested.Zx,.own (k+4)]
abbrev modB(m:Za):UA:=[.arr 256 2 true (m.Scan.Steps.map Zd.c),.arr 256 2 true (m.Sort_.Steps.map Zd.c),.arr 256 2 true (m.Hash.Steps.map Zd.c),.arr 256 2 true (m.Merge.Steps.map Zd.c),.arr 256 2 true (m.Nested.Steps.map Zd.c)]
def ZJ7(m:Za)(h:LfM m):ZgG m=some (.agg (modV m 0),modB m) :=
 XT.2.2.1.2 _ _ ⟨_,_,_,_,_,_,XT.2.2.1.1 _ _ ⟨tks h.1,rfl⟩,_,_,_,_,_,_,XT.2.2.1.1 _ _ ⟨tks h.2.1,rfl⟩,_,_,_,_,_,_,XT.2.2.1.1 _ _ ⟨tks h.2.2.1,rfl⟩,_,_,_,_,_,_,XT.2.2.1.1 _ _ ⟨tks h.2.2.2.1,rfl⟩,_,_,_,_,_,_,XT.2.2.1.1 _ _ ⟨tks h.2.2.2.2,rfl⟩,rfl⟩
def ZJ8(m:Za)(h:LfM m):ZjL m=some (.agg (modV m 0),modB m):=by
 have hop:Q5 m=some (.bsl 1 5,[.box (m.c.map .t),.box [.ptr 0 0,.ptr 0 6,.ptr 0 12,.ptr 0 18,.ptr 0 24]]):=XS.1.2.2.2.2 _ _ rfl;have c1:=Wb.2.2.2 m.Scan _ ⟨tks h.1,rfl⟩;have c2:=Wb.2.2.2 m.Sort_ _ ⟨tks h.2.1,rfl⟩;have c3:=Wb.2.2.2 m.Hash _ ⟨tks h.2.2.1,rfl⟩;have c4:=Wb.2.2.2 m.Merge _ ⟨tks h.2.2.2.1,rfl⟩;have c5:=Wb.2.2.2 m.Nested _ ⟨tks h.2.2.2.2,rfl⟩;unfold Q5 at hop;unfold Zuw at c1 c2 c3 c4 c5;simp only[Za.c_def,Z0.c_def,Yx,Ycm]at hop c1 c2 c3 c4 c5;unfold ZjL;refine run ZB7 rfl ?_;simp +decide[Zyc,Zyb,hop,c1,c2,c3,c4,c5,Zn Zya.eq_1,Z1]
abbrev sesV(s:ZJ):AV:=.agg (.own 0::I s.Zs.Zu.Version::.own 1::.own 2::.own 3::(modV s.Za 4++[I s.Cache.Clock,.own 9,I s.Ratio,I s.Slack,I s.Queries,I s.Spent]))
abbrev sesB(s:ZJ):UA:=(JF s.Zs).2++(modB s.Za++[.arr 128 8 true (s.Cache.Entries.map Zo.c)])
structure LfE (s:ZJ):Prop where
 st:LfS s.Zs
 mo:LfM s.Za
 ca:Lc s.Cache.Entries
def ZJ9(s:ZJ)(h:LfE s):Zfz s=some (sesV s,sesB s) :=
 VL.2.1.1 _ _ ⟨_,_,_,_,_,Z4K _ h.st,_,_,_,_,_,_,_,_,_,_,_,_,_,_,_,_,_,_,_,_,_,_,_,_,_,_,_,_,_,_,ZJ8 _ h.mo,_,_,Z4O _ h.ca,rfl⟩
def ZJA(s:ZJ)(h:LfE s):ZgK s=some (.agg (s.c.map .t),[]) :=
 Qi.2.1.2.1 _ _ ⟨_,_,_,_,_,Z4R _ h.st,_,_,_,_,_,_,_,_,_,_,_,_,_,_,_,_,_,_,_,_,_,_,_,_,_,_,_,_,_,_,ZJ7 _ h.mo,_,Z4P _ h.ca,rfl⟩
