/-
  Parts of the proofs for this seat: IN IS SJ SK.
-/
import Derived.Test.YthpdbpfamhcgiaaGreatP32
set_option linter.all false
set_option maxRecDepth 100000
set_option maxHeartbeats 4000000
namespace Go.Proofs.YthpdbpfamhcgiaaGreat
open Go.AM
structure WR (m:Zn) (sizes:V6) (qa:List Ze) (M:Int) (E:List Zd):Prop where
 ne:E≠[]
 up:E.Pairwise λa b=>a.Zl<b.Zl
 mask:∀e∈E,e.Mask=M
 ord:∀e∈E,-1<=e.Zl/\e.Zl<=3
 makes:∀e∈E,XY m sizes qa e.Zg.Steps M e.Zl e.Zv
 len:∀e∈E,1<=e.Zg.Steps.length/\e.Zg.Steps.length+3<=4*XR M
def ZBD:∀{E:List Zd} {lo:Int},E.Pairwise (λa b=>a.Zl<b.Zl)->(∀e∈E,lo<=e.Zl/\e.Zl<=3)->lo<=4->(E.length:Int)<=4-lo
 |[],lo,_,_,h=>by simp;omega
 |e::E,lo,hp,ho,h=>by
  rw[Y4]at hp;have he:=ho e (by simp);have:=ZBD (lo:=e.Zl+1) hp.2 (λx hx=>⟨by have:=hp.1 x hx;omega,(ho x (by simp[hx])).2⟩) (by omega)
  grind
def WR.le{m:Zn}{sizes:V6}{qa:List Ze}{M:Int}{E:List Zd}(h:WR m sizes qa M E):E.length<=5:=by
 have:=ZBD (lo:=-1) h.up h.ord (by omega);omega
def Zqh:∀{E:List Zd} {e:Zd},E.Pairwise (λa b=>a.Zl<b.Zl)->e∈E->ofO E e.Zl=some e
 |a::E,e,hp,he=>by
  rw[Y4]at hp;rcases Yba.1 he with rfl|he
  .simp[ofO]
  .have:¬a.Zl=e.Zl:=by have:=hp.1 e he;omega
   have ih:=Zqh hp.2 he;unfold ofO at ih|-
   simp_all
def ZBE{c v:Int}:∀{E:List Zd},E.Pairwise (λa b=>a.Zl<b.Zl)->E.find? (λe=>decide (e.Zl=v) && decide (e.Zv<=c))=match ofO E v with
  |some e=>if e.Zv<=c then some e else none
  |none=>none
 |[],_=>by simp[ofO]
 |a::E,hp=>by
  rw[Y4]at hp;have ih:=ZBE (c:=c) (v:=v) hp.2;unfold ofO at ih|-
  grind
def srt(m:Zn)(sizes:V6)(M:Int)(E:List Zd)(v:Int):Zd:=⟨M,v,w ((Xz E).Zv+XQ m.Zz (ZU sizes M) 0 (ZU sizes M)),⟨Zer (Xz E).Zg.Steps v⟩⟩
def inp(m:Zn)(sizes:V6)(M:Int)(E:List Zd)(v:Int):Zd:=match ofO E v with
 |some e=>if e.Zv<=(srt m sizes M E v).Zv then e else srt m sizes M E v
 |none=>srt m sizes M E v
def resI(x:List Zj):Option Zd->V3
 |some e=>(.agg (e.Zg.c.map .t),[])
 |none=>(.agg [.own 0],[.arr 258 3 true (x.map Zj.c)])
def ZPx(m:Zn)(hm:LeM m)(q:Zf)(hq:LeQ q)(sizes:V6)(hs:Le sizes)(x:List Zj)(c:Int)(hc:ZaT m q.Zk q.Zb x sizes=c)(v:Int)(E:List Zd)(hl:E.length<=5):∀i,i<=E.length->ZjG m q x sizes v E E.length i=some (resI x ((E.drop i).find? (λe=>decide (e.Zl=v) && decide (e.Zv<=c)))):=by
 have hcost:=ZBt m hm q hq ⟨x⟩ sizes hs;rw[show ZaT m q.Zk q.Zb (Zg.mk x).Steps sizes=c from hc]at hcost;refine down _ ?_ ?_
 .simp only[Yk,List.find?_nil];apply UY.2.2.2.1;rw[Ynx];rfl
 .intro i hi ih;have h4:=Xd (i:=i) (by omega);rw[Yi hi,List.find?_cons];have hw:w ((i:Int)+1)=((i+1:Nat):Int):=by rw[show w ((i:Int)+1)=(i:Int)+1 from h4];simp
  by_cases e:E[i].Zl=v
  .by_cases e2:E[i].Zv<=c
   .simp only[e,e2,decide_true,Bool.and_self];apply UY.2.2.2.1;rw[Ypx];refine⟨by omega,E[i],by rw[Yh];exact Yf hi,?_⟩;rw[Ya e];exact⟨c,hcost,by rw[Ya e2];rfl⟩
   .simp only[e,e2,decide_true,decide_false,Bool.and_false];apply UY.2.2.2.1
    grind
  .simp only[e,decide_false,Yc4];apply UY.2.2.2.1
   simp_all
def WR.best{m:Zn}{sizes:V6}{qa:List Ze}{M:Int}{E:List Zd}(h:WR m sizes qa M E):Xz E∈E:=Z0Y h.ne
theorem Qb{M:Int}(h:M16 M):XR M<=4:=by
 grind [m16,ZAG]
def WR.srt_makes{m:Zn}{sizes:V6}{qa:List Ze}{M:Int}{E:List Zd}(h:WR m sizes qa M E){v:Int}(hv:vin qa M v=true)(hb:(Xz E).Zl≠v):XY m sizes qa (srt m sizes M E v).Zg.Steps M v (srt m sizes M E v).Zv:=ZPp (h.makes _ h.best) hv hb
def Z0Z(m:Zn)(hm:LeM m)(hg:WC m.Zz)(q:Zf)(hq:LeQ q)(hv:Z9 q.Zk q.Zb=true)(sizes:V6)(hs:Le sizes)(cc:Q3 sizes)(cd:VM q.Zk q.Zb sizes=true){M:Int}(hM:M16 M){E:List Zd}(h:WR m sizes q.Zb M E){v:Int}(cl:vin q.Zb M v=true) :
  Zdy m q sizes E v=some (.agg ((inp m sizes M E v).Zg.c.map .t),[])\/Zdy m q sizes E v=some (.agg [.own 0],[.arr 258 3 true ((inp m sizes M E v).Zg.Steps.map Zj.c)]):=by
 have h4:=Qb hM;have hlen:=h.len _ h.best;by_cases e:(Xz E).Zl=v
 .left;have ho:=Zqh h.up h.best;rw[e]at ho;have hb:=(h.makes _ h.best).bound (by omega);have hp:=ZBB hg cc M M;have hu:=Zh0 m.Zz (ZU sizes M) 0 (ZU sizes M)
  have:inp m sizes M E v=Xz E:=by
   unfold inp;rw[ho];simp only;rw[Ya];unfold srt
   grind [Q2]
  rw[this];exact UY.2.2.2.2 _ _ _ _ _ _ ⟨_,Zqf E h.ne (by have:=h.le;omega),by rw[Ya e]⟩
 .have hc:=XY.cost (h.srt_makes cl e) hv (by simp only[srt,Zer,Yq,Yw,Ybj];omega) cd;have hloop:=ZPx m hm q hq sizes hs _ _ hc v E h.le 0 (Yc _);rw[Ym,ZBE h.up]at hloop
  have hx:Zdy m q sizes E v=some (resI (srt m sizes M E v).Zg.Steps (match ofO E v with
   |some e=>if e.Zv<=(srt m sizes M E v).Zv then some e else none
   |none=>none)):=UY.2.2.2.2 _ _ _ _ _ _ ⟨_,Zqf E h.ne (by have:=h.le;omega),by
    rw[Yb e]
    exact⟨_,ZPj _ _ (by omega),hloop⟩⟩
  rw[hx];unfold inp
  cases ofO E v with
  |none=>exact .inr rfl
  |some y =>
   simp only;split
   .exact .inl rfl
   .exact .inr rfl
def Z1a(m:Zn)(hm:LeM m)(sizes:V6)(fr:Bool)(l:List Zd)(hl:l.length<=1000){M:Int}(h0:0<=M)(hM:sizes[M.toNat]?=some (ZU sizes M))(cd:ofM l M≠[])(cc:(Xz (ofM l M)).Zg.Steps.length<=1000)(v:Int) :
  ZgM sizes fr l m M v=some (.agg ((inp m sizes M (ofM l M) v).c.map .t),[.arr 3 1 true (sizes.map ic),.arr 328 4 fr (l.map Zd.c)])\/
  ZgM sizes fr l m M v=some (.agg [I (inp m sizes M (ofM l M) v).Mask,I (inp m sizes M (ofM l M) v).Zl,I (inp m sizes M (ofM l M) v).Zv,.own 2],[.arr 3 1 true (sizes.map ic),.arr 328 4 fr (l.map Zd.c),.arr 258 3 true ((inp m sizes M (ofM l M) v).Zg.Steps.map Zj.c)]):=by
 obtain⟨k1,k2⟩:=Zqg cd;have hf:=ZB8 l M v;unfold inp
 cases ho:ofO (ofM l M) v with
 |none =>
  rw[ho]at hf;simp only at hf;refine .inr (ZgW.2.2 _ _ _ _ _ _ _ ⟨_,Zhy l M hl,k1,_,k2,h0,_,hM,_,Kr _ hm.2.1 _ _ _,_,Zqd l M v hl,?_⟩);rw[hf,Ynx]
  exact⟨_,ZBu _ _ cc,rfl⟩
 |some e =>
  rw[ho]at hf;simp only at hf;simp only;by_cases hc:e.Zv<=(srt m sizes M (ofM l M) v).Zv
  .rw[Ya hc];refine .inl (ZgW.2.2 _ _ _ _ _ _ _ ⟨_,Zhy l M hl,k1,_,k2,h0,_,hM,_,Kr _ hm.2.1 _ _ _,_,Zqd l M v hl,?_⟩);rw[Ya hf.1];exact⟨_,hf.2,by rw[Ya (show e.Zv<=w ((Xz (ofM l M)).Zv+XQ m.Zz (ZU sizes M) 0 (ZU sizes M))from hc)]⟩
  .rw[Yb hc];refine .inr (ZgW.2.2 _ _ _ _ _ _ _ ⟨_,Zhy l M hl,k1,_,k2,h0,_,hM,_,Kr _ hm.2.1 _ _ _,_,Zqd l M v hl,?_⟩);rw[Ya hf.1];exact⟨_,hf.2,by rw[Yb (show ¬e.Zv<=w ((Xz (ofM l M)).Zv+XQ m.Zz (ZU sizes M) 0 (ZU sizes M))from hc)];exact⟨_,ZBu _ _ cc,rfl⟩⟩
def jc(m:Zn)(sizes:V6)(a b:Zd)(k:Int):Int:=w (w (a.Zv+b.Zv)+XQ (mOp m k) (ZU sizes a.Mask) (ZU sizes b.Mask) (ZU sizes (orI a.Mask b.Mask)))
theorem ZlL{l:List Zd}{i:Nat}{e:Zd}(h:l[i]?=some e):l.set i e=l:=by
 grind [List.getElem?_eq_some_iff,List.set_getElem_self]
def Z1b(m:Zn)(hm:LeM m)(sizes:V6)(mine:List Zd)(a b:Zd)(k v o:Int)(ho:-1<=o/\o<=3){e:Zd}(he:mine[(o+1).toNat]?=some e)(ha:0<=a.Mask/\sizes[a.Mask.toNat]?=some (ZU sizes a.Mask))(hb:0<=b.Mask/\sizes[b.Mask.toNat]?=some (ZU sizes b.Mask))(cc:0<=orI a.Mask b.Mask/\sizes[(orI a.Mask b.Mask).toNat]?=some (ZU sizes (orI a.Mask b.Mask)))(la:a.Zg.Steps.length<=1000)(lb:b.Zg.Steps.length<=1000) :
  ZdW sizes mine m a b k v o=some (.tup [],[.arr 3 1 true (sizes.map ic),.arr 328 4 true ((mine.set (o+1).toNat (W0 e (orI a.Mask b.Mask) o (jc m sizes a b k) (Vp a.Zg.Steps b.Zg.Steps k v))).map Zd.c)]):=by
 have hw:w (o+1)=o+1:=Q2 (by omega) (by omega);refine Ue.2.1.2.2 _ _ _ _ _ _ _ _ _ ⟨mOp m k,Zeh m k,ha.1,_,ha.2,hb.1,_,hb.2,cc.1,_,cc.2,_,Kr _ (hm.op k) _ _ _,by omega,e,by rw[hw];exact he,?_⟩;rw[hw];by_cases e0:e.Mask=0
 .rw[Ya e0];refine⟨_,Zcj a.Zg b.Zg _ _ la lb,?_⟩;simp[W0,e0,jc]
 .rw[Yb e0];by_cases e1:jc m sizes a b k<e.Zv
  .have e2:=e1;unfold jc at e2;rw[Ya e2];refine⟨_,Zcj a.Zg b.Zg _ _ la lb,?_⟩;unfold W0;rw[Yb e0,Ya e1];rfl
  .have e2:=e1;unfold jc at e2;rw[Yb e2];unfold W0
   grind [ZlL]
def ZPy(m:Zn)(hm:LeM m)(sizes:V6)(mine:List Zd)(a b:Zd)(k v o:Int)(ho:-1<=o/\o<=3){e:Zd}(he:mine[(o+1).toNat]?=some e)(ha:0<=a.Mask/\sizes[a.Mask.toNat]?=some (ZU sizes a.Mask))(hb:0<=b.Mask/\sizes[b.Mask.toNat]?=some (ZU sizes b.Mask))(cc:0<=orI a.Mask b.Mask/\sizes[(orI a.Mask b.Mask).toNat]?=some (ZU sizes (orI a.Mask b.Mask)))(la:a.Zg.Steps.length<=1000)(lb:b.Zg.Steps.length<=1000) :
  Zlr sizes mine b.Zg.Steps m a b.Mask b.Zl b.Zv k v o=some (.tup [],[.arr 3 1 true (sizes.map ic),.arr 328 4 true ((mine.set (o+1).toNat (W0 e (orI a.Mask b.Mask) o (jc m sizes a b k) (Vp a.Zg.Steps b.Zg.Steps k v))).map Zd.c),.arr 258 3 true (b.Zg.Steps.map Zj.c)]):=by
 have hw:w (o+1)=o+1:=Q2 (by omega) (by omega);refine ZgW.1.1 _ _ _ _ _ _ _ _ _ _ _ _ ⟨mOp m k,Zeh m k,ha.1,_,ha.2,hb.1,_,hb.2,cc.1,_,cc.2,_,Kr _ (hm.op k) _ _ _,by omega,e,by rw[hw];exact he,?_⟩;rw[hw];by_cases e0:e.Mask=0
 .rw[Ya e0];refine⟨_,Zcj a.Zg ⟨b.Zg.Steps⟩ _ _ la lb,?_⟩;simp[W0,e0,jc]
 .rw[Yb e0];by_cases e1:jc m sizes a b k<e.Zv
  .have e2:=e1;unfold jc at e2;rw[Ya e2];refine⟨_,Zcj a.Zg ⟨b.Zg.Steps⟩ _ _ la lb,?_⟩;unfold W0;rw[Yb e0,Ya e1];rfl
  .have e2:=e1;unfold jc at e2;rw[Yb e2];unfold W0
   grind [ZlL]
def ZPz(m:Zn)(hm:LeM m)(sizes:V6)(mine:List Zd)(a b:Zd)(k v o:Int)(ho:-1<=o/\o<=3){e:Zd}(he:mine[(o+1).toNat]?=some e)(ha:0<=a.Mask/\sizes[a.Mask.toNat]?=some (ZU sizes a.Mask))(hb:0<=b.Mask/\sizes[b.Mask.toNat]?=some (ZU sizes b.Mask))(cc:0<=orI a.Mask b.Mask/\sizes[(orI a.Mask b.Mask).toNat]?=some (ZU sizes (orI a.Mask b.Mask)))(la:a.Zg.Steps.length<=1000)(lb:b.Zg.Steps.length<=1000) :
  Zls sizes mine a.Zg.Steps m a.Mask a.Zl a.Zv b k v o=some (.tup [],[.arr 3 1 true (sizes.map ic),.arr 328 4 true ((mine.set (o+1).toNat (W0 e (orI a.Mask b.Mask) o (jc m sizes a b k) (Vp a.Zg.Steps b.Zg.Steps k v))).map Zd.c),.arr 258 3 true (a.Zg.Steps.map Zj.c)]):=by
 have hw:w (o+1)=o+1:=Q2 (by omega) (by omega);refine ZgW.1.2 _ _ _ _ _ _ _ _ _ _ _ _ ⟨mOp m k,Zeh m k,ha.1,_,ha.2,hb.1,_,hb.2,cc.1,_,cc.2,_,Kr _ (hm.op k) _ _ _,by omega,e,by rw[hw];exact he,?_⟩;rw[hw];by_cases e0:e.Mask=0
 .rw[Ya e0];refine⟨_,Zcj ⟨a.Zg.Steps⟩ b.Zg _ _ la lb,?_⟩;simp[W0,e0,jc]
 .rw[Yb e0];by_cases e1:jc m sizes a b k<e.Zv
  .have e2:=e1;unfold jc at e2;rw[Ya e2];refine⟨_,Zcj ⟨a.Zg.Steps⟩ b.Zg _ _ la lb,?_⟩;unfold W0;rw[Yb e0,Ya e1];rfl
  .have e2:=e1;unfold jc at e2;rw[Yb e2];unfold W0
   grind [ZlL]
def ZP0(m:Zn)(hm:LeM m)(sizes:V6)(mine:List Zd)(a b:Zd)(k v o:Int)(ho:-1<=o/\o<=3){e:Zd}(he:mine[(o+1).toNat]?=some e)(ha:0<=a.Mask/\sizes[a.Mask.toNat]?=some (ZU sizes a.Mask))(hb:0<=b.Mask/\sizes[b.Mask.toNat]?=some (ZU sizes b.Mask))(cc:0<=orI a.Mask b.Mask/\sizes[(orI a.Mask b.Mask).toNat]?=some (ZU sizes (orI a.Mask b.Mask)))(la:a.Zg.Steps.length<=1000)(lb:b.Zg.Steps.length<=1000) :
  Zlt sizes mine a.Zg.Steps b.Zg.Steps m a.Mask a.Zl a.Zv b.Mask b.Zl b.Zv k v o=some (.tup [],[.arr 3 1 true (sizes.map ic),.arr 328 4 true ((mine.set (o+1).toNat (W0 e (orI a.Mask b.Mask) o (jc m sizes a b k) (Vp a.Zg.Steps b.Zg.Steps k v))).map Zd.c),.arr 258 3 true (a.Zg.Steps.map Zj.c),.arr 258 3 true (b.Zg.Steps.map Zj.c)]):=by
 have hw:w (o+1)=o+1:=Q2 (by omega) (by omega);refine ZgW.2.1 _ _ _ _ _ _ _ _ _ _ _ _ _ _ _ ⟨mOp m k,Zeh m k,ha.1,_,ha.2,hb.1,_,hb.2,cc.1,_,cc.2,_,Kr _ (hm.op k) _ _ _,by omega,e,by rw[hw];exact he,?_⟩;rw[hw];by_cases e0:e.Mask=0
 .rw[Ya e0];refine⟨_,Zcj ⟨a.Zg.Steps⟩ ⟨b.Zg.Steps⟩ _ _ la lb,?_⟩;simp[W0,e0,jc]
 .rw[Yb e0];by_cases e1:jc m sizes a b k<e.Zv
  .have e2:=e1;unfold jc at e2;rw[Ya e2];refine⟨_,Zcj ⟨a.Zg.Steps⟩ ⟨b.Zg.Steps⟩ _ _ la lb,?_⟩;unfold W0;rw[Yb e0,Ya e1];rfl
  .have e2:=e1;unfold jc at e2;rw[Yb e2];unfold W0
   grind [ZlL]
def Jp{α:Type}(f:α->Zd->α)(E:List Zd):Nat->Int->α->α
 |0,_,x=>x
 |n+1,o,x=>Jp f E n (o+1) (match ofO E o with|some e=>f x e|none=>x)
def ZBF{α:Type}(f:α->Zd->α){E F:List Zd}:∀(n:Nat) (o:Int) (x:α),(∀p,o<=p->ofO E p=ofO F p)->Jp f E n o x=Jp f F n o x
 |0,_,_,_=>rfl
 |n+1,o,x,h=>by
  rw[Jp,Jp,h o (Int.le_refl o)];exact ZBF f n (o+1) _ (λp hp=>h p (by omega))
def ZBG{α:Type}(f:α->Zd->α):∀(n:Nat) (o:Int) (x:α),Jp f [] n o x=x
 |0,_,_=>rfl
 |n+1,o,x=>by rw[Jp];exact ZBG f n (o+1) x
def Z1c{α:Type}(f:α->Zd->α):∀(n:Nat) (E:List Zd) (o:Int) (x:α),E.Pairwise (λa b=>a.Zl<b.Zl)->(∀e∈E,o<=e.Zl/\e.Zl<o+n)->Jp f E n o x=E.foldl f x
 |0,[],_,_,_,_=>rfl
 |0,e::E,o,x,_,h=>by have:=h e (by simp);omega
 |n+1,[],o,x,_,_=>ZBG f (n+1) o x
 |n+1,e::E,o,x,hp,h=>by
  have hc:=Y4.1 hp;have he:=h e (by simp);rw[Jp];by_cases eo:e.Zl=o
  .have h1:ofO (e::E) o=some e:=by simp[ofO,eo]
   rw[h1,Y7];simp only;rw[ZBF f (F:=E) n (o+1) (f x e) (λp hpo=>by unfold ofO;rw[List.find?_cons];simp[show ¬e.Zl=p by omega])];exact Z1c f n E (o+1) (f x e) hc.2 (λy hy=>by have:=hc.1 y hy;have:=h y (by simp[hy]);omega)
  .have h1:ofO (e::E) o=none:=by
    unfold ofO;rw[List.find?_eq_none];intro y hy
    have:e.Zl<=y.Zl:=by
     rcases Yba.1 hy with rfl|hy
     .exact Int.le_refl _
     .have:=hc.1 y hy;omega
    simp;omega
   rw[h1];simp only
   exact Z1c f n (e::E) (o+1) x hp (λy hy=>by
    have:=h y hy
    have:e.Zl<=y.Zl:=by
     rcases Yba.1 hy with rfl|hy
     .exact Int.le_refl _
     .have:=hc.1 y hy;omega
    omega)
def zE:Zd:=⟨0,0,0,⟨[]⟩⟩
def UE(m:Zn)(sizes:V6)(a b:Zd)(k v o:Int)(c:List Zd):List Zd :=
 c.set (o+1).toNat (W0 ((c[(o+1).toNat]?).getD zE) (orI a.Mask b.Mask) o (jc m sizes a b k) (Vp a.Zg.Steps b.Zg.Steps k v))
def Jq(m:Zn)(sizes:V6)(b:Zd)(c:List Zd)(e:Zd):List Zd:=UE m sizes e b 5 0 e.Zl c
def JS(m:Zn)(sizes:V6)(A B:Int)(E F c:List Zd)(v:Int):List Zd:=UE m sizes (inp m sizes A E v) (inp m sizes B F v) 4 v v c
def Zes(m:Zn)(sizes:V6)(A B:Int)(sh:V6)(E F c:List Zd):List Zd :=
 sh.foldl (JS m sizes A B E F) (E.foldl (Jq m sizes (Xz F)) (UE m sizes (Xz E) (Xz F) 3 0 (-1) c))
def K1{m:Zn}{sizes:V6}{a b:Zd}{k v o:Int}{mine:List Zd}:(UE m sizes a b k v o mine).length=mine.length:=by simp[UE]
def Zqi{m:Zn}{sizes:V6}{b:Zd}:∀{E c:List Zd},(E.foldl (Jq m sizes b) c).length=c.length
 |[],_=>rfl
 |e::E,c=>by rw[Y7,Zqi];exact K1
def ZBH{m:Zn}{sizes:V6}{A B:Int}{E F:List Zd}:∀{sh:V6} {c:List Zd},(sh.foldl (JS m sizes A B E F) c).length=c.length
 |[],_=>rfl
 |e::sh,c=>by rw[Y7,ZBH];exact K1
def ZBI{m:Zn}{sizes:V6}{A B:Int}{sh:V6}{E F mine:List Zd}:(Zes m sizes A B sh E F mine).length=mine.length:=by
 unfold Zes;rw[ZBH,Zqi,K1]
structure Z1d (m:Zn) (sizes:V6) (qa:List Ze) (M:Int) (o:Int) (e:Zd):Prop where
 mask:e.Mask=M
 ord:e.Zl=o
 makes:XY m sizes qa e.Zg.Steps M o e.Zv
 len:1<=e.Zg.Steps.length/\e.Zg.Steps.length+3<=4*XR M
def UF(m:Zn)(sizes:V6)(qa:List Ze)(M:Int)(c:List Zd):Prop :=
 c.length=5/\∀(k:Nat) (e:Zd),c[k]?=some e->e.Mask≠0->Z1d m sizes qa M ((k:Int)-1) e
def ZBJ(m:Zn)(sizes:V6)(qa:List Ze)(M:Int):UF m sizes qa M (List.replicate 5 zE):=by
 refine⟨by simp,λk e h h0=>?_⟩;rw[List.getElem?_replicate]at h;split at h
 .cases h;exact absurd rfl h0
 .cases h
def ZP1{m:Zn}{sizes:V6}{qa:List Ze}{M:Int}{mine:List Zd}(h:UF m sizes qa M mine){a b:Zd}{k v o:Int}(ho:-1<=o/\o<=3)(hM:orI a.Mask b.Mask=M)
  (c:XY m sizes qa (Vp a.Zg.Steps b.Zg.Steps k v) M o (jc m sizes a b k)) (hl:(Vp a.Zg.Steps b.Zg.Steps k v).length+3<=4*XR M):UF m sizes qa M (UE m sizes a b k v o mine):=by
 refine⟨by rw[K1];exact h.1,λj e hj h0=>?_⟩;have h5:=h.1;unfold UE at hj;have hlt:(o+1).toNat<mine.length:=by omega
 rw[List.getElem?_set]at hj;by_cases ej:(o+1).toNat=j
 .rw[Ya ej,Ya hlt]at hj;cases hj;have eo:(j:Int)-1=o:=by omega
  rw[eo];rw[Yf hlt]at h0|-;simp only[Option.getD_some]at h0|-;have hold:=h.2 (o+1).toNat mine[(o+1).toNat] (Yf hlt);have eo2:(((o+1).toNat:Nat):Int)-1=o:=by omega
  rw[eo2]at hold;have hnew:Z1d m sizes qa M o ⟨orI a.Mask b.Mask,o,jc m sizes a b k,⟨Vp a.Zg.Steps b.Zg.Steps k v⟩⟩:=⟨hM,rfl,c,by simp[Vp];omega,hl⟩;unfold W0
  grind
 .rw[Yb ej]at hj;exact h.2 j e hj h0
def ZP2{m:Zn}{sizes:V6}{qa:List Ze}{M:Int}{mine:List Zd}(h:UF m sizes qa M mine)(c:mine.filter sm≠[]):WR m sizes qa M (mine.filter sm):=by
 have hg:∀e∈mine.filter sm,∃o,(-1<=o/\o<=3)/\Z1d m sizes qa M o e:=by
  intro e he;rw[Ybb]at he;obtain⟨k,hk⟩:=List.mem_iff_getElem?.1 he.1;have hlt:=(Ybh.1 hk).1;have h5:=h.1
  have:e.Mask≠0:=by simpa[sm]using he.2
  exact⟨(k:Int)-1,by omega,h.2 k e hk this⟩
 refine⟨c,?_,?_,?_,?_,?_⟩
 .rw[List.pairwise_filter,Ybv];intro i j hi hj hij s1 s2;have g1:=h.2 i _ (Yf hi) (by simpa[sm]using s1);have g2:=h.2 j _ (Yf hj) (by simpa[sm]using s2);rw[g1.ord,g2.ord];omega
 .intro e he;obtain⟨o,_,g⟩:=hg e he;exact g.mask
 .intro e he;obtain⟨o,ho,g⟩:=hg e he;rw[g.ord];exact ho
 .intro e he;obtain⟨o,_,g⟩:=hg e he;rw[g.ord];exact g.makes
 .intro e he;obtain⟨o,_,g⟩:=hg e he;exact g.len
