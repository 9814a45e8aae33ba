/-
  Parts of the proofs for this seat: IN IS SJ SK SM.
-/
import Derived.Test.YthdihnbeifcppaaGreatP29
set_option linter.all false
set_option maxRecDepth 100000
set_option maxHeartbeats 4000000
namespace Go.Proofs.YthdihnbeifcppaaGreat
open Go.AM
structure Wq (m:Za) (sizes:V6) (qa:List Ze) (M:Int) (E:List Zb):Prop where
 ne:E≠[]
 up:E.Pairwise λa b=>a.Order<b.Order
 mask:∀e∈E,e.Mask=M
 ord:∀e∈E,-1<=e.Order/\e.Order<=3
 makes:∀e∈E,X5 m sizes qa e.Zg.Steps M e.Order e.Cost
 len:∀e∈E,1<=e.Zg.Steps.length/\e.Zg.Steps.length+3<=4*Xz M
def Z4q:∀{E:List Zb} {lo:Int},E.Pairwise (λa b=>a.Order<b.Order)->(∀e∈E,lo<=e.Order/\e.Order<=3)->lo<=4->(E.length:Int)<=4-lo
 |[],lo,_,_,h=>by simp;omega
 |e::E,lo,hp,ho,h=>by
  rw[Ybt]at hp;have he:=ho e (by simp);have:=Z4q (lo:=e.Order+1) hp.2 (λx hx=>⟨by have:=hp.1 x hx;omega,(ho x (by simp[hx])).2⟩) (by omega);simp only[Ym];omega
def Wq.le{m:Za}{sizes:V6}{qa:List Ze}{M:Int}{E:List Zb}(h:Wq m sizes qa M E):E.length<=5:=by
 have:=Z4q (lo:=-1) h.up h.ord (by omega);omega
def Zmm:∀{E:List Zb} {e:Zb},E.Pairwise (λa b=>a.Order<b.Order)->e∈E->ofO E e.Order=some e
 |a::E,e,hp,he=>by
  rw[Ybt]at hp;rcases Y3.1 he with rfl|he
  .simp[ofO]
  .have:¬a.Order=e.Order:=by have:=hp.1 e he;omega
   have ih:=Zmm hp.2 he;unfold ofO at ih|-;rw[List.find?_cons];simp[this,ih]
def Z4r{c v:Int}:∀{E:List Zb},E.Pairwise (λa b=>a.Order<b.Order)->E.find? (λe=>decide (e.Order=v) && decide (e.Cost<=c))=match ofO E v with
  |some e=>if e.Cost<=c then some e else none
  |none=>none
 |[],_=>by simp[ofO]
 |a::E,hp=>by
  rw[Ybt]at hp;have ih:=Z4r (c:=c) (v:=v) hp.2;unfold ofO at ih|-;rw[List.find?_cons,List.find?_cons];by_cases e:a.Order=v
  .by_cases e2:a.Cost<=c
   .simp[e,e2]
   .have hn:E.find? (λe=>decide (e.Order=v) && decide (e.Cost<=c))=none:=by
     rw[List.find?_eq_none];intro x hx;have:=hp.1 x hx;simp;omega
    simp[e,e2];intro x hx hxv;have:=hp.1 x hx;omega
  .simp only[e,decide_false,Ycq];exact ih
def srt(m:Za)(sizes:V6)(M:Int)(E:List Zb)(v:Int):Zb:=⟨M,v,w ((Xh E).Cost+XB m.Sort_ (ZE sizes M) 0 (ZE sizes M)),⟨Zcl (Xh E).Zg.Steps v⟩⟩
def inp(m:Za)(sizes:V6)(M:Int)(E:List Zb)(v:Int):Zb:=match ofO E v with
 |some e=>if e.Cost<=(srt m sizes M E v).Cost then e else srt m sizes M E v
 |none=>srt m sizes M E v
def resI(x:List Zh):Option Zb->V3
 |some e=>(.agg (e.Zg.c.map .t),[])
 |none=>(.agg [.own 0],[.arr 277 3 true (x.map Zh.c)])
def ZIu(m:Za)(hm:LeM m)(q:Zj)(hq:LeQ q)(sizes:V6)(hs:Le sizes)(x:List Zh)(c:Int)(hc:U5 m q.Zm q.Atoms x sizes=c)(v:Int)(E:List Zb)(hl:E.length<=5):∀i,i<=E.length->Zgu m q x sizes v E E.length i=some (resI x ((E.drop i).find? (λe=>decide (e.Order=v) && decide (e.Cost<=c)))):=by
 have hcost:=ZuJ m hm q hq ⟨x⟩ sizes hs;rw[show U5 m q.Zm q.Atoms (Zg.mk x).Steps sizes=c from hc]at hcost;refine down _ ?_ ?_
 .simp only[Yo,List.find?_nil];apply U1.2.2.2.1;rw[Ynx];rfl
 .intro i hi ih;have h4:=ZL (i:=i) (by omega);rw[Yi hi,List.find?_cons];have hw:w ((i:Int)+1)=((i+1:Nat):Int):=by rw[show w ((i:Int)+1)=(i:Int)+1 from h4];simp
  by_cases e:E[i].Order=v
  .by_cases e2:E[i].Cost<=c
   .simp only[e,e2,decide_true,Bool.and_self];apply U1.2.2.2.1;rw[Ypx];refine⟨by omega,E[i],by rw[Yk];exact Yf hi,?_⟩;rw[Ya e];exact⟨c,hcost,by rw[Ya e2];rfl⟩
   .simp only[e,e2,decide_true,decide_false,Bool.and_false];apply U1.2.2.2.1;rw[Ypx];refine⟨by omega,E[i],by rw[Yk];exact Yf hi,?_⟩;rw[Ya e];exact⟨c,hcost,by rw[Yb e2,hw];exact ih⟩
  .simp only[e,decide_false,Ycq];apply U1.2.2.2.1;rw[Ypx];refine⟨by omega,E[i],by rw[Yk];exact Yf hi,?_⟩;rw[Yb e,hw];exact ih
def Wq.best{m:Za}{sizes:V6}{qa:List Ze}{M:Int}{E:List Zb}(h:Wq m sizes qa M E):Xh E∈E:=ZuP h.ne
def Um{M:Int}(h:M16 M):Xz M<=4:=by
 obtain⟨a,rfl⟩:=m16 h;exact(Z32 a).2.2.2
def Wq.srt_makes{m:Za}{sizes:V6}{qa:List Ze}{M:Int}{E:List Zb}(h:Wq m sizes qa M E){v:Int}(hv:vin qa M v=true)(hb:(Xh E).Order≠v):X5 m sizes qa (srt m sizes M E v).Zg.Steps M v (srt m sizes M E v).Cost:=ZIm (h.makes _ h.best) hv hb
def ZuQ(m:Za)(hm:LeM m)(hg:XZ m.Sort_)(q:Zj)(hq:LeQ q)(hv:Z6 q.Zm q.Atoms=true)(sizes:V6)(hs:Le sizes)(cc:U7 sizes)(cd:WC q.Zm q.Atoms sizes=true){M:Int}(hM:M16 M){E:List Zb}(h:Wq m sizes q.Atoms M E){v:Int}(cl:vin q.Atoms M v=true) :
  ZbD m q sizes E v=some (.agg ((inp m sizes M E v).Zg.c.map .t),[])\/ZbD m q sizes E v=some (.agg [.own 0],[.arr 277 3 true ((inp m sizes M E v).Zg.Steps.map Zh.c)]):=by
 have h4:=Um hM;have hlen:=h.len _ h.best;by_cases e:(Xh E).Order=v
 .left;have ho:=Zmm h.up h.best;rw[e]at ho;have hb:=(h.makes _ h.best).bound (by omega);have hp:=Z4o hg cc M M;have hu:=Ze9 m.Sort_ (ZE sizes M) 0 (ZE sizes M)
  have:inp m sizes M E v=Xh E:=by
   unfold inp;rw[ho];simp only;rw[Ya];unfold srt;simp only;rw[WF (by omega) (by omega)];omega
  rw[this];exact U1.2.2.2.2 _ _ _ _ _ _ ⟨_,Zmk E h.ne (by have:=h.le;omega),by rw[Ya e]⟩
 .have hc:=X5.cost (h.srt_makes cl e) hv (by simp only[srt,Zcl,Yn,Ym,Ybr];omega) cd;have hloop:=ZIu m hm q hq sizes hs _ _ hc v E h.le 0 (Yd _);rw[Ys,Z4r h.up]at hloop
  have hx:ZbD m q sizes E v=some (resI (srt m sizes M E v).Zg.Steps (match ofO E v with
   |some e=>if e.Cost<=(srt m sizes M E v).Cost then some e else none
   |none=>none)):=U1.2.2.2.2 _ _ _ _ _ _ ⟨_,Zmk E h.ne (by have:=h.le;omega),by
    rw[Yb e]
    exact⟨_,ZIg _ _ (by omega),hloop⟩⟩
  rw[hx];unfold inp
  cases ofO E v with
  |none=>exact .inr rfl
  |some y =>
   simp only;split
   .exact .inl rfl
   .exact .inr rfl
def ZuR(m:Za)(hm:LeM m)(sizes:V6)(fr:Bool)(l:List Zb)(hl:l.length<=1000){M:Int}(h0:0<=M)(hM:sizes[M.toNat]?=some (ZE sizes M))(cd:ofM l M≠[])(cc:(Xh (ofM l M)).Zg.Steps.length<=1000)(v:Int) :
  ZhB sizes fr l m M v=some (.agg ((inp m sizes M (ofM l M) v).c.map .t),[.arr 3 1 true (sizes.map ic),.arr 287 4 fr (l.map Zb.c)])\/
  ZhB sizes fr l m M v=some (.agg [I (inp m sizes M (ofM l M) v).Mask,I (inp m sizes M (ofM l M) v).Order,I (inp m sizes M (ofM l M) v).Cost,.own 2],[.arr 3 1 true (sizes.map ic),.arr 287 4 fr (l.map Zb.c),.arr 277 3 true ((inp m sizes M (ofM l M) v).Zg.Steps.map Zh.c)]):=by
 obtain⟨k1,k2⟩:=Zml cd;have hf:=Z4l l M v;unfold inp
 cases ho:ofO (ofM l M) v with
 |none =>
  rw[ho]at hf;simp only at hf;refine .inr (WN.1.1.1 _ _ _ _ _ _ _ ⟨_,Ze7 l M hl,k1,_,k2,h0,_,hM,_,Kl _ hm.2.1 _ _ _,_,Zmi l M v hl,?_⟩);rw[hf,Ynx]
  exact⟨_,Z3X _ _ cc,rfl⟩
 |some e =>
  rw[ho]at hf;simp only at hf;simp only;by_cases hc:e.Cost<=(srt m sizes M (ofM l M) v).Cost
  .rw[Ya hc];refine .inl (WN.1.1.1 _ _ _ _ _ _ _ ⟨_,Ze7 l M hl,k1,_,k2,h0,_,hM,_,Kl _ hm.2.1 _ _ _,_,Zmi l M v hl,?_⟩);rw[Ya hf.1];exact⟨_,hf.2,by rw[Ya (show e.Cost<=w ((Xh (ofM l M)).Cost+XB m.Sort_ (ZE sizes M) 0 (ZE sizes M))from hc)]⟩
  .rw[Yb hc];refine .inr (WN.1.1.1 _ _ _ _ _ _ _ ⟨_,Ze7 l M hl,k1,_,k2,h0,_,hM,_,Kl _ hm.2.1 _ _ _,_,Zmi l M v hl,?_⟩);rw[Ya hf.1];exact⟨_,hf.2,by rw[Yb (show ¬e.Cost<=w ((Xh (ofM l M)).Cost+XB m.Sort_ (ZE sizes M) 0 (ZE sizes M))from hc)];exact⟨_,Z3X _ _ cc,rfl⟩⟩
def jc(m:Za)(sizes:V6)(a b:Zb)(k:Int):Int:=w (w (a.Cost+b.Cost)+XB (mOp m k) (ZE sizes a.Mask) (ZE sizes b.Mask) (ZE sizes (orI a.Mask b.Mask)))
def Zin{l:List Zb}{i:Nat}{e:Zb}(h:l[i]?=some e):l.set i e=l:=by
 obtain⟨h1,rfl⟩:=Y2.1 h;exact List.set_getElem_self h1
def ZuS(m:Za)(hm:LeM m)(sizes:V6)(mine:List Zb)(a b:Zb)(k v o:Int)(ho:-1<=o/\o<=3){e:Zb}(he:mine[(o+1).toNat]?=some e)(ha:0<=a.Mask/\sizes[a.Mask.toNat]?=some (ZE sizes a.Mask))(hb:0<=b.Mask/\sizes[b.Mask.toNat]?=some (ZE sizes b.Mask))(cc:0<=orI a.Mask b.Mask/\sizes[(orI a.Mask b.Mask).toNat]?=some (ZE sizes (orI a.Mask b.Mask)))(la:a.Zg.Steps.length<=1000)(lb:b.Zg.Steps.length<=1000) :
  ZbV sizes mine m a b k v o=some (.tup [],[.arr 3 1 true (sizes.map ic),.arr 287 4 true ((mine.set (o+1).toNat (XN e (orI a.Mask b.Mask) o (jc m sizes a b k) (WD a.Zg.Steps b.Zg.Steps k v))).map Zb.c)]):=by
 have hw:w (o+1)=o+1:=WF (by omega) (by omega);refine Wj.2.1.2.2 _ _ _ _ _ _ _ _ _ ⟨mOp m k,Zev m k,ha.1,_,ha.2,hb.1,_,hb.2,cc.1,_,cc.2,_,Kl _ (hm.op k) _ _ _,by omega,e,by rw[hw];exact he,?_⟩;rw[hw];by_cases e0:e.Mask=0
 .rw[Ya e0];refine⟨_,ZaC a.Zg b.Zg _ _ la lb,?_⟩;simp[XN,e0,jc]
 .rw[Yb e0];by_cases e1:jc m sizes a b k<e.Cost
  .have e2:=e1;unfold jc at e2;rw[Ya e2];refine⟨_,ZaC a.Zg b.Zg _ _ la lb,?_⟩;unfold XN;rw[Yb e0,Ya e1];rfl
  .have e2:=e1;unfold jc at e2;rw[Yb e2];unfold XN;rw[Yb e0,Yb e1,Zin he]
def ZIv(m:Za)(hm:LeM m)(sizes:V6)(mine:List Zb)(a b:Zb)(k v o:Int)(ho:-1<=o/\o<=3){e:Zb}(he:mine[(o+1).toNat]?=some e)(ha:0<=a.Mask/\sizes[a.Mask.toNat]?=some (ZE sizes a.Mask))(hb:0<=b.Mask/\sizes[b.Mask.toNat]?=some (ZE sizes b.Mask))(cc:0<=orI a.Mask b.Mask/\sizes[(orI a.Mask b.Mask).toNat]?=some (ZE sizes (orI a.Mask b.Mask)))(la:a.Zg.Steps.length<=1000)(lb:b.Zg.Steps.length<=1000) :
  Zh6 sizes mine b.Zg.Steps m a b.Mask b.Order b.Cost k v o=some (.tup [],[.arr 3 1 true (sizes.map ic),.arr 287 4 true ((mine.set (o+1).toNat (XN e (orI a.Mask b.Mask) o (jc m sizes a b k) (WD a.Zg.Steps b.Zg.Steps k v))).map Zb.c),.arr 277 3 true (b.Zg.Steps.map Zh.c)]):=by
 have hw:w (o+1)=o+1:=WF (by omega) (by omega);refine Wj.2.2.2.2.1 _ _ _ _ _ _ _ _ _ _ _ _ ⟨mOp m k,Zev m k,ha.1,_,ha.2,hb.1,_,hb.2,cc.1,_,cc.2,_,Kl _ (hm.op k) _ _ _,by omega,e,by rw[hw];exact he,?_⟩;rw[hw];by_cases e0:e.Mask=0
 .rw[Ya e0];refine⟨_,ZaC a.Zg ⟨b.Zg.Steps⟩ _ _ la lb,?_⟩;simp[XN,e0,jc]
 .rw[Yb e0];by_cases e1:jc m sizes a b k<e.Cost
  .have e2:=e1;unfold jc at e2;rw[Ya e2];refine⟨_,ZaC a.Zg ⟨b.Zg.Steps⟩ _ _ la lb,?_⟩;unfold XN;rw[Yb e0,Ya e1];rfl
  .have e2:=e1;unfold jc at e2;rw[Yb e2];unfold XN;rw[Yb e0,Yb e1,Zin he]
def ZIw(m:Za)(hm:LeM m)(sizes:V6)(mine:List Zb)(a b:Zb)(k v o:Int)(ho:-1<=o/\o<=3){e:Zb}(he:mine[(o+1).toNat]?=some e)(ha:0<=a.Mask/\sizes[a.Mask.toNat]?=some (ZE sizes a.Mask))(hb:0<=b.Mask/\sizes[b.Mask.toNat]?=some (ZE sizes b.Mask))(cc:0<=orI a.Mask b.Mask/\sizes[(orI a.Mask b.Mask).toNat]?=some (ZE sizes (orI a.Mask b.Mask)))(la:a.Zg.Steps.length<=1000)(lb:b.Zg.Steps.length<=1000) :
  Zh7 sizes mine a.Zg.Steps m a.Mask a.Order a.Cost b k v o=some (.tup [],[.arr 3 1 true (sizes.map ic),.arr 287 4 true ((mine.set (o+1).toNat (XN e (orI a.Mask b.Mask) o (jc m sizes a b k) (WD a.Zg.Steps b.Zg.Steps k v))).map Zb.c),.arr 277 3 true (a.Zg.Steps.map Zh.c)]):=by
 have hw:w (o+1)=o+1:=WF (by omega) (by omega);refine Wj.2.2.2.2.2 _ _ _ _ _ _ _ _ _ _ _ _ ⟨mOp m k,Zev m k,ha.1,_,ha.2,hb.1,_,hb.2,cc.1,_,cc.2,_,Kl _ (hm.op k) _ _ _,by omega,e,by rw[hw];exact he,?_⟩;rw[hw];by_cases e0:e.Mask=0
 .rw[Ya e0];refine⟨_,ZaC ⟨a.Zg.Steps⟩ b.Zg _ _ la lb,?_⟩;simp[XN,e0,jc]
 .rw[Yb e0];by_cases e1:jc m sizes a b k<e.Cost
  .have e2:=e1;unfold jc at e2;rw[Ya e2];refine⟨_,ZaC ⟨a.Zg.Steps⟩ b.Zg _ _ la lb,?_⟩;unfold XN;rw[Yb e0,Ya e1];rfl
  .have e2:=e1;unfold jc at e2;rw[Yb e2];unfold XN;rw[Yb e0,Yb e1,Zin he]
def ZIx(m:Za)(hm:LeM m)(sizes:V6)(mine:List Zb)(a b:Zb)(k v o:Int)(ho:-1<=o/\o<=3){e:Zb}(he:mine[(o+1).toNat]?=some e)(ha:0<=a.Mask/\sizes[a.Mask.toNat]?=some (ZE sizes a.Mask))(hb:0<=b.Mask/\sizes[b.Mask.toNat]?=some (ZE sizes b.Mask))(cc:0<=orI a.Mask b.Mask/\sizes[(orI a.Mask b.Mask).toNat]?=some (ZE sizes (orI a.Mask b.Mask)))(la:a.Zg.Steps.length<=1000)(lb:b.Zg.Steps.length<=1000) :
  Zh8 sizes mine a.Zg.Steps b.Zg.Steps m a.Mask a.Order a.Cost b.Mask b.Order b.Cost k v o=some (.tup [],[.arr 3 1 true (sizes.map ic),.arr 287 4 true ((mine.set (o+1).toNat (XN e (orI a.Mask b.Mask) o (jc m sizes a b k) (WD a.Zg.Steps b.Zg.Steps k v))).map Zb.c),.arr 277 3 true (a.Zg.Steps.map Zh.c),.arr 277 3 true (b.Zg.Steps.map Zh.c)]):=by
 have hw:w (o+1)=o+1:=WF (by omega) (by omega);refine ZF9 _ _ _ _ _ _ _ _ _ _ _ _ _ _ _ ⟨mOp m k,Zev m k,ha.1,_,ha.2,hb.1,_,hb.2,cc.1,_,cc.2,_,Kl _ (hm.op k) _ _ _,by omega,e,by rw[hw];exact he,?_⟩;rw[hw];by_cases e0:e.Mask=0
 .rw[Ya e0];refine⟨_,ZaC ⟨a.Zg.Steps⟩ ⟨b.Zg.Steps⟩ _ _ la lb,?_⟩;simp[XN,e0,jc]
 .rw[Yb e0];by_cases e1:jc m sizes a b k<e.Cost
  .have e2:=e1;unfold jc at e2;rw[Ya e2];refine⟨_,ZaC ⟨a.Zg.Steps⟩ ⟨b.Zg.Steps⟩ _ _ la lb,?_⟩;unfold XN;rw[Yb e0,Ya e1];rfl
  .have e2:=e1;unfold jc at e2;rw[Yb e2];unfold XN;rw[Yb e0,Yb e1,Zin he]
def Ks{α:Type}(f:α->Zb->α)(E:List Zb):Nat->Int->α->α
 |0,_,x=>x
 |n+1,o,x=>Ks f E n (o+1) (match ofO E o with|some e=>f x e|none=>x)
def Z4s{α:Type}(f:α->Zb->α){E F:List Zb}:∀(n:Nat) (o:Int) (x:α),(∀p,o<=p->ofO E p=ofO F p)->Ks f E n o x=Ks f F n o x
 |0,_,_,_=>rfl
 |n+1,o,x,h=>by
  rw[Ks,Ks,h o (Int.le_refl o)];exact Z4s f n (o+1) _ (λp hp=>h p (by omega))
def Z4t{α:Type}(f:α->Zb->α):∀(n:Nat) (o:Int) (x:α),Ks f [] n o x=x
 |0,_,_=>rfl
 |n+1,o,x=>by rw[Ks];exact Z4t f n (o+1) x
def ZuT{α:Type}(f:α->Zb->α):∀(n:Nat) (E:List Zb) (o:Int) (x:α),E.Pairwise (λa b=>a.Order<b.Order)->(∀e∈E,o<=e.Order/\e.Order<o+n)->Ks f E n o x=E.foldl f x
 |0,[],_,_,_,_=>rfl
 |0,e::E,o,x,_,h=>by have:=h e (by simp);omega
 |n+1,[],o,x,_,_=>Z4t f (n+1) o x
 |n+1,e::E,o,x,hp,h=>by
  have hc:=Ybt.1 hp;have he:=h e (by simp);rw[Ks];by_cases eo:e.Order=o
  .have h1:ofO (e::E) o=some e:=by simp[ofO,eo]
   rw[h1,Y8];simp only;rw[Z4s f (F:=E) n (o+1) (f x e) (λp hpo=>by unfold ofO;rw[List.find?_cons];simp[show ¬e.Order=p by omega])];exact ZuT f n E (o+1) (f x e) hc.2 (λy hy=>by have:=hc.1 y hy;have:=h y (by simp[hy]);omega)
  .have h1:ofO (e::E) o=none:=by
    unfold ofO;rw[List.find?_eq_none];intro y hy
    have:e.Order<=y.Order:=by
     rcases Y3.1 hy with rfl|hy
     .exact Int.le_refl _
     .have:=hc.1 y hy;omega
    simp;omega
   rw[h1];simp only
   exact ZuT f n (e::E) (o+1) x hp (λy hy=>by
    have:=h y hy
    have:e.Order<=y.Order:=by
     rcases Y3.1 hy with rfl|hy
     .exact Int.le_refl _
     .have:=hc.1 y hy;omega
    omega)
def zE:Zb:=⟨0,0,0,⟨[]⟩⟩
def VR(m:Za)(sizes:V6)(a b:Zb)(k v o:Int)(c:List Zb):List Zb :=
 c.set (o+1).toNat (XN ((c[(o+1).toNat]?).getD zE) (orI a.Mask b.Mask) o (jc m sizes a b k) (WD a.Zg.Steps b.Zg.Steps k v))
def Kt(m:Za)(sizes:V6)(b:Zb)(c:List Zb)(e:Zb):List Zb:=VR m sizes e b 5 0 e.Order c
def KW(m:Za)(sizes:V6)(A B:Int)(E F c:List Zb)(v:Int):List Zb:=VR m sizes (inp m sizes A E v) (inp m sizes B F v) 4 v v c
def Zcm(m:Za)(sizes:V6)(A B:Int)(sh:V6)(E F c:List Zb):List Zb :=
 sh.foldl (KW m sizes A B E F) (E.foldl (Kt m sizes (Xh F)) (VR m sizes (Xh E) (Xh F) 3 0 (-1) c))
def QO{m:Za}{sizes:V6}{a b:Zb}{k v o:Int}{mine:List Zb}:(VR m sizes a b k v o mine).length=mine.length:=by simp[VR]
def Zmn{m:Za}{sizes:V6}{b:Zb}:∀{E c:List Zb},(E.foldl (Kt m sizes b) c).length=c.length
 |[],_=>rfl
 |e::E,c=>by rw[Y8,Zmn];exact QO
def Z4u{m:Za}{sizes:V6}{A B:Int}{E F:List Zb}:∀{sh:V6} {c:List Zb},(sh.foldl (KW m sizes A B E F) c).length=c.length
 |[],_=>rfl
 |e::sh,c=>by rw[Y8,Z4u];exact QO
def Z4v{m:Za}{sizes:V6}{A B:Int}{sh:V6}{E F mine:List Zb}:(Zcm m sizes A B sh E F mine).length=mine.length:=by
 unfold Zcm;rw[Z4u,Zmn,QO]
structure ZuU (m:Za) (sizes:V6) (qa:List Ze) (M:Int) (o:Int) (e:Zb):Prop where
 mask:e.Mask=M
 ord:e.Order=o
 makes:X5 m sizes qa e.Zg.Steps M o e.Cost
 len:1<=e.Zg.Steps.length/\e.Zg.Steps.length+3<=4*Xz M
def VS(m:Za)(sizes:V6)(qa:List Ze)(M:Int)(c:List Zb):Prop :=
 c.length=5/\∀(k:Nat) (e:Zb),c[k]?=some e->e.Mask≠0->ZuU m sizes qa M ((k:Int)-1) e
def Z4w(m:Za)(sizes:V6)(qa:List Ze)(M:Int):VS m sizes qa M (List.replicate 5 zE):=by
 refine⟨by simp,λk e h h0=>?_⟩;rw[List.getElem?_replicate]at h;split at h
 .cases h;exact absurd rfl h0
 .cases h
def ZIy{m:Za}{sizes:V6}{qa:List Ze}{M:Int}{mine:List Zb}(h:VS m sizes qa M mine){a b:Zb}{k v o:Int}(ho:-1<=o/\o<=3)(hM:orI a.Mask b.Mask=M)
  (c:X5 m sizes qa (WD a.Zg.Steps b.Zg.Steps k v) M o (jc m sizes a b k)) (hl:(WD a.Zg.Steps b.Zg.Steps k v).length+3<=4*Xz M):VS m sizes qa M (VR m sizes a b k v o mine):=by
 refine⟨by rw[QO];exact h.1,λj e hj h0=>?_⟩;have h5:=h.1;unfold VR at hj;have hlt:(o+1).toNat<mine.length:=by omega
 rw[List.getElem?_set]at hj;by_cases ej:(o+1).toNat=j
 .rw[Ya ej,Ya hlt]at hj;cases hj;have eo:(j:Int)-1=o:=by omega
  rw[eo];rw[Yf hlt]at h0|-;simp only[Option.getD_some]at h0|-;have hold:=h.2 (o+1).toNat mine[(o+1).toNat] (Yf hlt);have eo2:(((o+1).toNat:Nat):Int)-1=o:=by omega
  rw[eo2]at hold;have hnew:ZuU m sizes qa M o ⟨orI a.Mask b.Mask,o,jc m sizes a b k,⟨WD a.Zg.Steps b.Zg.Steps k v⟩⟩:=⟨hM,rfl,c,by simp[WD];omega,hl⟩;unfold XN;split
  .exact hnew
  .rename_i hm0;split
   .exact hnew
   .exact hold hm0
 .rw[Yb ej]at hj;exact h.2 j e hj h0
def ZIz{m:Za}{sizes:V6}{qa:List Ze}{M:Int}{mine:List Zb}(h:VS m sizes qa M mine)(c:mine.filter sm≠[]):Wq m sizes qa M (mine.filter sm):=by
 have hg:∀e∈mine.filter sm,∃o,(-1<=o/\o<=3)/\ZuU m sizes qa M o e:=by
  intro e he;rw[Ybc]at he;obtain⟨k,hk⟩:=List.mem_iff_getElem?.1 he.1;have hlt:=(Y2.1 hk).1;have h5:=h.1
  have:e.Mask≠0:=by simpa[sm]using he.2
  exact⟨(k:Int)-1,by omega,h.2 k e hk this⟩
 refine⟨c,?_,?_,?_,?_,?_⟩
 .rw[List.pairwise_filter,Ycs];intro i j hi hj hij s1 s2;have g1:=h.2 i _ (Yf hi) (by simpa[sm]using s1);have g2:=h.2 j _ (Yf hj) (by simpa[sm]using s2);rw[g1.ord,g2.ord];omega
 .intro e he;obtain⟨o,_,g⟩:=hg e he;exact g.mask
 .intro e he;obtain⟨o,ho,g⟩:=hg e he;rw[g.ord];exact ho
 .intro e he;obtain⟨o,_,g⟩:=hg e he;rw[g.ord];exact g.makes
 .intro e he;obtain⟨o,_,g⟩:=hg e he;exact g.len
def ZaD{m:Za}{sizes:V6}{qa:List Ze}{M:Int}{E:List Zb}(h:Wq m sizes qa M E)(hg:XZ m.Sort_)(c:U7 sizes)(hM:M16 M){v:Int}(hv:vin qa M v=true) :
  (inp m sizes M E v).Mask=M/\(inp m sizes M E v).Order=v/\X5 m sizes qa (inp m sizes M E v).Zg.Steps M v (inp m sizes M E v).Cost/\1<=(inp m sizes M E v).Zg.Steps.length/\(inp m sizes M E v).Zg.Steps.length+2<=4*Xz M:=by
 have h4:=Um hM;have hlen:=h.len _ h.best;have hb:=(h.makes _ h.best).bound (by omega);have hp:=Z4o hg c M M;have hu:=Ze9 m.Sort_ (ZE sizes M) 0 (ZE sizes M);have hsrt:(Xh E).Order≠v->(srt m sizes M E v).Mask=M/\(srt m sizes M E v).Order=v/\X5 m sizes qa (srt m sizes M E v).Zg.Steps M v (srt m sizes M E v).Cost/\1<=(srt m sizes M E v).Zg.Steps.length/\(srt m sizes M E v).Zg.Steps.length+2<=4*Xz M:=by
  intro hne;refine⟨rfl,rfl,h.srt_makes hv hne,?_,?_⟩<;>simp only[srt,Zcl,Yn,Ym,Ybr]<;>omega
 unfold inp
 cases ho:ofO E v with
 |none =>
  refine hsrt (λhe=>?_);have:=Zmm h.up h.best;rw[he,ho]at this
  cases this
 |some e =>
  have hmem:e∈E:=List.mem_of_find?_eq_some ho;have hov:e.Order=v:=by have:=List.find?_some ho;simpa using this
  simp only;by_cases hc:e.Cost<=(srt m sizes M E v).Cost
  .rw[Ya hc];have hm:=h.makes e hmem;rw[hov]at hm;have:=h.len e hmem;exact⟨h.mask e hmem,hov,hm,by omega,by omega⟩
  .rw[Yb hc];refine hsrt (λhe=>hc ?_);have hx:=Zmm h.up h.best;rw[he,ho]at hx;cases hx;unfold srt;simp only;rw[WF (by omega) (by omega)];omega
structure Ku (qa:List Ze) (A B M:Int):Prop where
 a16:M16 A
 b16:M16 B
 or:orI A B=M
 dis:andI A B=0
 shr:shr qa A B=true
 pop:Xz A+Xz B=Xz M
def ZuV{m:Za}{sizes:V6}{qa:List Ze}{A B M:Int}(hp:Ku qa A B M){mine:List Zb}(h:VS m sizes qa M mine){a b:Zb}{k v o oa ob:Int}(ho:-1<=o/\o<=3)(hk:3<=k)(ha:a.Mask=A)(hb:b.Mask=B)(ma:X5 m sizes qa a.Zg.Steps A oa a.Cost)(mb:X5 m sizes qa b.Zg.Steps B ob b.Cost)(hj:Qs qa ⟨k,0,v⟩ (A,oa) (B,ob)=some o)(hl:a.Zg.Steps.length+2<=4*Xz A/\b.Zg.Steps.length+2<=4*Xz B):VS m sizes qa M (VR m sizes a b k v o mine):=by
 have hpop:=hp.pop;refine ZIy h ho (by rw[ha,hb];exact hp.or) ?_ (by simp only[WD,Yn,Ym,Ybr];omega);have:=Z4d (x:=⟨k,0,v⟩) ma mb hk rfl hp.dis hp.shr hj;rw[hp.or]at this;unfold jc;rw[ha,hb,hp.or];exact this
def Z4x{m:Za}{sizes:V6}{qa:List Ze}{A B M:Int}(hp:Ku qa A B M){b:Zb}{ob:Int}(hb:b.Mask=B)(mb:X5 m sizes qa b.Zg.Steps B ob b.Cost)(lb:b.Zg.Steps.length+2<=4*Xz B):∀{E c:List Zb},(∀e∈E,e.Mask=A/\(-1<=e.Order/\e.Order<=3)/\X5 m sizes qa e.Zg.Steps A e.Order e.Cost/\e.Zg.Steps.length+2<=4*Xz A)->VS m sizes qa M c->VS m sizes qa M (E.foldl (Kt m sizes b) c)
 |[],_,_,h=>h
 |e::E,c,he,h=>by
  obtain⟨e1,e2,e3,e4⟩:=he e (by simp);rw[Y8];exact Z4x hp hb mb lb (λx hx=>he x (by simp[hx])) (ZuV hp h e2 (by omega) e1 hb e3 mb Z4f ⟨e4,lb⟩)
def Z4y{m:Za}{sizes:V6}{qa:List Ze}{A B M:Int}(hp:Ku qa A B M)(hg:XZ m.Sort_)(cc:U7 sizes){E F:List Zb}(hE:Wq m sizes qa A E)(hF:Wq m sizes qa B F):∀{sh:V6} {c:List Zb},(∀v∈sh,(-1<=v/\v<=3)/\vin qa A v=true/\vin qa B v=true)->VS m sizes qa M c->VS m sizes qa M (sh.foldl (KW m sizes A B E F) c)
 |[],_,_,h=>h
 |v::sh,c,hv,h=>by
  obtain⟨v1,v2,v3⟩:=hv v (by simp);obtain⟨a1,a2,a3,a4,a5⟩:=ZaD hE hg cc hp.a16 v2;obtain⟨b1,b2,b3,b4,b5⟩:=ZaD hF hg cc hp.b16 v3;rw[Y8];exact Z4y hp hg cc hE hF (λx hx=>hv x (by simp[hx])) (ZuV hp h v1 (by omega) a1 b1 a3 b3 (Z4g v2 v3 rfl rfl) ⟨a5,b5⟩)
def ZI0{m:Za}{sizes:V6}{qa:List Ze}{A B M:Int}(hp:Ku qa A B M)(hg:XZ m.Sort_)(c:U7 sizes){E F:List Zb}(hE:Wq m sizes qa A E)(hF:Wq m sizes qa B F){sh:V6}{mine:List Zb}(hv:∀v∈sh,(-1<=v/\v<=3)/\vin qa A v=true/\vin qa B v=true)(h:VS m sizes qa M mine):VS m sizes qa M (Zcm m sizes A B sh E F mine):=by
 have lE:=hE.len _ hE.best;have lF:=hF.len _ hF.best;have mE:=hE.makes _ hE.best;have mF:=hF.makes _ hF.best;unfold Zcm;refine Z4y hp hg c hE hF hv (Z4x hp (hF.mask _ hF.best) mF (by omega) (λe he=>⟨hE.mask e he,hE.ord e he,hE.makes e he,by have:=hE.len e he;omega⟩) ?_);exact ZuV hp h (by omega) (by omega) (hE.mask _ hE.best) (hF.mask _ hF.best) mE mF Z4e ⟨by omega,by omega⟩
