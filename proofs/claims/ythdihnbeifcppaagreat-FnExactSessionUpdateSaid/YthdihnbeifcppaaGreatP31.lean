/-
  Parts of the proofs for this seat: SC SD SE SF SG SH IE.
-/
import Derived.Test.YthdihnbeifcppaaGreatP30
set_option linter.all false
set_option maxRecDepth 100000
set_option maxHeartbeats 4000000
namespace Go.Proofs.YthdihnbeifcppaaGreat
open Go.AM
def pos(e:Zb):Bool:=decide (0<e.Mask)
def ZI1(mine:List Zb)(h5:mine.length=5)(sizes:V6)(fr1:Bool)(l:List Zb):∀i:Nat,i<=5->∀(fr:Bool) (out:List Zb),out.length<=i->∃fr',ZbW mine fr out sizes fr1 l i=some (.own 2,[.arr 3 1 true (sizes.map ic),.arr 287 4 fr1 (l.map Zb.c),.arr 287 4 fr' ((out++(mine.drop i).filter pos).map Zb.c)]):=by
 refine down _ ?_ ?_
 .intro fr out ho;refine⟨fr,WN.1.2.2.1 _ _ _ _ _ _ _ _ ?_⟩;rw[Ynx,Yb1 (by omega)];simp
 .intro i hi ih fr out ho;have h4:=ZL (i:=i) (by omega);have hlt:i<mine.length:=by omega
  have hw:w ((i:Int)+1)=((i+1:Nat):Int):=by rw[show w ((i:Int)+1)=(i:Int)+1 from h4];simp
  rw[Yi hlt,Yb5];by_cases e:0<mine[i].Mask
  .obtain⟨fr',h⟩:=ih false (out++[mine[i]]) (by simp;omega);refine⟨fr',WN.1.2.2.1 _ _ _ _ _ _ _ _ ?_⟩;rw[Ypx];refine⟨by omega,mine[i],by rw[Yk];exact Yf hlt,?_⟩;rw[Ya e,hw];refine⟨by omega,?_⟩;simpa[pos,e]using h
  .obtain⟨fr',h⟩:=ih fr out (by omega);refine⟨fr',WN.1.2.2.1 _ _ _ _ _ _ _ _ ?_⟩;rw[Ypx];refine⟨by omega,mine[i],by rw[Yk];exact Yf hlt,?_⟩;rw[Yb e,hw];simpa[pos,e]using h
def ZI2{m:Za}{sizes:V6}{qa:List Ze}{M:Int}{mine:List Zb}(h:VS m sizes qa M mine)(hM:0<M):mine.filter pos=mine.filter sm:=by
 refine List.filter_congr λe he=>?_
 obtain⟨k,hk⟩:=List.mem_iff_getElem?.1 he;by_cases h0:e.Mask=0
 .simp[pos,sm,h0]
 .have:=(h.2 k e hk h0).mask;simp[pos,sm,h0];omega
def Kv(sizes:V6)(M:Int):Prop:=0<=M/\sizes[M.toNat]?=some (ZE sizes M)
def ZuW{m:Za}{sizes:V6}{a b:Zb}{k v o:Int}{mine:List Zb}{e:Zb}(he:mine[(o+1).toNat]?=some e):mine.set (o+1).toNat (XN e (orI a.Mask b.Mask) o (jc m sizes a b k) (WD a.Zg.Steps b.Zg.Steps k v))=VR m sizes a b k v o mine:=by
 simp[VR,he]
def ZI3(m:Za)(hm:LeM m)(hg:XZ m.Sort_)(sizes:V6)(c:U7 sizes)(qa:List Ze)(fr:Bool)(l:List Zb)(hl:l.length<=1000){A B M:Int}(hp:Ku qa A B M)(hE:Wq m sizes qa A (ofM l A))(hF:Wq m sizes qa B (ofM l B))(zA:Kv sizes A)(zB:Kv sizes B)(zM:Kv sizes M)(x:Xk)(k:Nat)(sh:V6)(cc:x.shared[k]?=some sh)(cd:sh.length<=1000)(hv:∀v∈sh,(-1<=v/\v<=3)/\vin qa A v=true/\vin qa B v=true)(r:V3):∀i,i<=sh.length->∀mine:List Zb,mine.length=5->Zeb sizes fr l m x ((sh.drop i).foldl (KW m sizes A B (ofM l A) (ofM l B)) mine) (w ((k:Int)+1))=some r->J7 sizes fr l m x mine k A B i=some r:=by
 have pA:=Um hp.a16;have pB:=Um hp.b16;refine down _ ?_ ?_
 .intro mine h5 h;refine WN.1.2.2.2 _ _ _ _ _ _ _ _ _ _ _ ⟨by omega,sh,by rw[Yk];exact cc,?_⟩;rw[Ynx];simpa using h
 .intro i hi ih mine h5 h;have h4:=ZL (i:=i) (by omega);have hw:w ((i:Int)+1)=((i+1:Nat):Int):=by rw[show w ((i:Int)+1)=(i:Int)+1 from h4];simp
  rw[Yi hi,Y8]at h;have ih:=ih _ (by rw[show(KW m sizes A B (ofM l A) (ofM l B) mine sh[i]).length=mine.length from QO];exact h5) h;obtain⟨v1,v2,v3⟩:=hv sh[i] (Yc hi);obtain⟨a1,a2,a3,a4,a5⟩:=ZaD hE hg c hp.a16 v2;obtain⟨b1,b2,b3,b4,b5⟩:=ZaD hF hg c hp.b16 v3;have hlt:(sh[i]+1).toNat<mine.length:=by omega
  have he:mine[(sh[i]+1).toNat]?=some mine[(sh[i]+1).toNat]:=Yf hlt;have ea:0<=(inp m sizes A (ofM l A) sh[i]).Mask/\sizes[(inp m sizes A (ofM l A) sh[i]).Mask.toNat]?=some (ZE sizes (inp m sizes A (ofM l A) sh[i]).Mask):=by rw[a1];exact zA
  have eb:0<=(inp m sizes B (ofM l B) sh[i]).Mask/\sizes[(inp m sizes B (ofM l B) sh[i]).Mask.toNat]?=some (ZE sizes (inp m sizes B (ofM l B) sh[i]).Mask):=by rw[b1];exact zB
  have eab:0<=orI (inp m sizes A (ofM l A) sh[i]).Mask (inp m sizes B (ofM l B) sh[i]).Mask/\sizes[(orI (inp m sizes A (ofM l A) sh[i]).Mask (inp m sizes B (ofM l B) sh[i]).Mask).toNat]?=some (ZE sizes (orI (inp m sizes A (ofM l A) sh[i]).Mask (inp m sizes B (ofM l B) sh[i]).Mask)):=by rw[a1,b1,hp.or];exact zM
  have la:(inp m sizes A (ofM l A) sh[i]).Zg.Steps.length<=1000:=by omega
  have lb:(inp m sizes B (ofM l B) sh[i]).Zg.Steps.length<=1000:=by omega
  have o0:=ZuS m hm sizes mine _ _ 4 sh[i] sh[i] v1 he ea eb eab la lb;have o1:=ZIv m hm sizes mine _ _ 4 sh[i] sh[i] v1 he ea eb eab la lb;have o2:=ZIw m hm sizes mine _ _ 4 sh[i] sh[i] v1 he ea eb eab la lb;have o3:=ZIx m hm sizes mine _ _ 4 sh[i] sh[i] v1 he ea eb eab la lb;rw[ZuW he]at o0 o1 o2 o3;refine WN.1.2.2.2 _ _ _ _ _ _ _ _ _ _ _ ⟨by omega,sh,by rw[Yk];exact cc,?_⟩;rw[Ypx];refine⟨by omega,sh[i],by rw[Yk];exact Yf hi,?_⟩;rw[hw];have bA:=hE.len _ hE.best;have bB:=hF.len _ hF.best;rcases ZuR m hm sizes fr l hl zA.1 zA.2 hE.ne (by omega) sh[i]with ha|ha
  .refine .inl ⟨_,ha,?_⟩;rcases ZuR m hm sizes fr l hl zB.1 zB.2 hF.ne (by omega) sh[i]with hb|hb
   .exact .inl ⟨_,hb,_,_,o0,ih⟩
   .exact .inr ⟨_,_,_,_,hb,_,_,_,o1,ih⟩
  .refine .inr ⟨_,_,_,_,ha,?_⟩;rcases ZuR m hm sizes fr l hl zB.1 zB.2 hF.ne (by omega) sh[i]with hb|hb
   .exact .inl ⟨_,hb,_,_,_,o2,ih⟩
   .exact .inr ⟨_,_,_,_,hb,_,_,_,_,o3,ih⟩
def ZuX(m:Za)(hm:LeM m)(sizes:V6)(qa:List Ze)(fr:Bool)(l:List Zb)(hl:l.length<=1000){A B M:Int}(hp:Ku qa A B M)(hE:Wq m sizes qa A (ofM l A))(b:Zb)(hb:b.Mask=B)(lb:b.Zg.Steps.length<=1000)(zA:Kv sizes A)(zB:Kv sizes B)(zM:Kv sizes M)(x:Xk)(k:Int)(r:V3):∀n:Nat,n<=5->∀mine:List Zb,mine.length=5->J7 sizes fr l m x (Ks (Kt m sizes b) (ofM l A) n (4-n) mine) k A B 0=some r->Zec sizes fr l m x mine b k A B (4-n)=some r
 |0,_,mine,h5,h=>by
  apply WN.1.2.1;rw[Ynx]
  exact h
 |n+1,hn,mine,h5,h=>by
  have pA:=Um hp.a16;have hw:w ((4:Int)-((n+1:Nat):Int)+1)=4-(n:Int):=by rw[WF (by omega) (by omega)];omega
  rw[Ks,show(4:Int)-((n+1:Nat):Int)+1=4-(n:Int) by omega]at h;have hf:=Z4l l A (4-((n+1:Nat):Int));apply WN.1.2.1;rw[Ypx,hw];refine⟨_,Zmi l A _ hl,?_⟩
  cases ho:ofO (ofM l A) (4-((n+1:Nat):Int))with
  |none =>
   rw[ho]at hf h;simp only at hf h;rw[hf,Ynx]
   exact ZuX m hm sizes qa fr l hl hp hE b hb lb zA zB zM x k r n (by omega) mine h5 h
  |some e =>
   rw[ho]at hf h;simp only at hf h;have hmem:e∈ofM l A:=List.mem_of_find?_eq_some ho;have hov:e.Order=4-((n+1:Nat):Int):=by have:=List.find?_some ho;simpa using this
   have le:=hE.len e hmem;have me:=hE.mask e hmem;have hlt:((4-((n+1:Nat):Int))+1).toNat<mine.length:=by omega
   have he:=Yf hlt;have o0:=ZuS m hm sizes mine e b 5 0 (4-((n+1:Nat):Int)) (by omega) he (by rw[me];exact zA) (by rw[hb];exact zB) (by rw[me,hb,hp.or];exact zM) (by omega) lb;rw[ZuW he]at o0;rw[Ya hf.1];refine⟨e,hf.2,_,_,o0,?_⟩;rw[show Kt m sizes b mine e=VR m sizes e b 5 0 (4-((n+1:Nat):Int)) mine by rw[Kt,hov]]at h;exact ZuX m hm sizes qa fr l hl hp hE b hb lb zA zB zM x k r n (by omega) _ (by rw[QO];exact h5) h
def QP(m:Za)(sizes:V6)(M:Int)(l c:List Zb)(p:Int×V6):List Zb:=Zcm m sizes p.1 (M-p.1) p.2 (ofM l p.1) (ofM l (M-p.1)) c
structure Zcn (m:Za) (sizes:V6) (qa:List Ze) (l:List Zb) (M A:Int) (sh:V6):Prop where
 pair:Ku qa A (M-A) M
 left:Wq m sizes qa A (ofM l A)
 right:Wq m sizes qa (M-A) (ofM l (M-A))
 zA:Kv sizes A
 zB:Kv sizes (M-A)
 len:sh.length<=1000
 vars:∀v∈sh,(-1<=v/\v<=3)/\vin qa A v=true/\vin qa (M-A) v=true
def ZI4(m:Za)(hm:LeM m)(hg:XZ m.Sort_)(sizes:V6)(cc:U7 sizes)(qa:List Ze)(fr:Bool)(l:List Zb)(hl:l.length<=1000)(x:Xk)(zM:Kv sizes x.mask)(cd:M16 x.mask)(c:x.ZK.length=x.shared.length)(hx:x.ZK.length<=100)(ok:∀p∈x.ZK.zip x.shared,Zcn m sizes qa l x.mask p.1 p.2)(r:V3):∀i,i<=x.ZK.length->∀mine:List Zb,mine.length=5->ZbW (((x.ZK.zip x.shared).drop i).foldl (QP m sizes x.mask l) mine) true [] sizes fr l 0=some r->Zeb sizes fr l m x mine i=some r:=by
 have hz:(x.ZK.zip x.shared).length=x.ZK.length:=by simp[c]
 refine down _ ?_ ?_
 .intro mine h5 h;apply WN.1.1.2;rw[Ynx];rw[Yb1 (by omega)]at h;exact h
 .intro i hi ih mine h5 h;have h4:=ZL (i:=i) (by omega);have hw:w ((i:Int)+1)=((i+1:Nat):Int):=by rw[show w ((i:Int)+1)=(i:Int)+1 from h4];simp
  have hiz:i<(x.ZK.zip x.shared).length:=by omega
  have his:i<x.shared.length:=by omega
  rw[Yi hiz,Y8,List.getElem_zip]at h;have o:=ok _ (Yc hiz);rw[List.getElem_zip]at o;have ih:=ih _ (by rw[show(QP m sizes x.mask l mine (x.ZK[i],x.shared[i])).length=mine.length from Z4v];exact h5) h;have hB:w (x.mask-x.ZK[i])=x.mask-x.ZK[i]:=by
   have:=o.pair.b16;have:=o.pair.a16;exact WF (by omega) (by omega)
  obtain⟨k1,k2⟩:=Zml o.left.ne;obtain⟨j1,j2⟩:=Zml o.right.ne;have eM:=o.left.mask _ o.left.best;have fM:=o.right.mask _ o.right.best;have pA:=Um o.pair.a16;have pB:=Um o.pair.b16;have la:=o.left.len _ o.left.best;have lb:=o.right.len _ o.right.best;have hlt:((-1:Int)+1).toNat<mine.length:=by simp;omega
  have he:=Yf hlt;have o0:=ZuS m hm sizes mine _ _ 3 0 (-1) (by omega) he (by rw[eM];exact o.zA) (by rw[fM];exact o.zB) (by rw[eM,fM,o.pair.or];exact zM) (by omega) (by omega);rw[ZuW he]at o0;apply WN.1.1.2;rw[Ypx];refine⟨by omega,x.ZK[i],by rw[Yk];exact Yf hi,?_⟩;rw[hB];refine⟨_,Ze7 l _ hl,k1,_,k2,_,Ze7 l _ hl,j1,_,j2,_,_,o0,?_⟩;refine ZuX m hm sizes qa fr l hl o.pair o.left _ fM (by omega) o.zA o.zB zM x i r 5 (Yh _) _ (by rw[QO];exact h5) ?_;rw[ZuT _ 5 _ _ _ o.left.up (λe he=>by have:=o.left.ord e he;omega)];refine ZI3 m hm hg sizes cc qa fr l hl o.pair o.left o.right o.zA o.zB zM x i _ (Yf his) o.len o.vars r 0 (Yd _) _ (by rw[Zmn,QO];exact h5) ?_;rw[hw,Ys];exact ih
def ZuY{m:Za}{sizes:V6}{qa:List Ze}{l:List Zb}{M:Int}(hg:XZ m.Sort_)(cc:U7 sizes):∀{ps:List (Int×V6)} {c:List Zb},(∀p∈ps,Zcn m sizes qa l M p.1 p.2)->VS m sizes qa M c->VS m sizes qa M (ps.foldl (QP m sizes M l) c)
 |[],_,_,h=>h
 |p::ps,c,hp,h=>by
  have o:=hp p (by simp);rw[Y8];exact ZuY hg cc (λy hy=>hp y (by simp[hy])) (ZI0 o.pair hg cc o.left o.right o.vars h)
def ZeA(m:Za)(sizes:V6)(M:Int)(l:List Zb)(ps:List (Int×V6)):List Zb:=ps.foldl (QP m sizes M l) (List.replicate 5 zE)
def ZI5(m:Za)(hm:LeM m)(hg:XZ m.Sort_)(sizes:V6)(cc:U7 sizes)(qa:List Ze)(fr:Bool)(l:List Zb)(hl:l.length<=1000)(x:Xk)(zM:Kv sizes x.mask)(cl:M16 x.mask)(h0:0<x.mask)(cd:x.ZK.length=x.shared.length)(hx:x.ZK.length<=100)(ok:∀p∈x.ZK.zip x.shared,Zcn m sizes qa l x.mask p.1 p.2) :
  ∃fr',Zlx sizes fr l m x=some (.own 2,[.arr 3 1 true (sizes.map ic),.arr 287 4 fr (l.map Zb.c),.arr 287 4 fr' (((ZeA m sizes x.mask l (x.ZK.zip x.shared)).filter sm).map Zb.c)]):=by
 have hs:VS m sizes qa x.mask (ZeA m sizes x.mask l (x.ZK.zip x.shared)):=ZuY hg cc ok (Z4w m sizes qa x.mask);obtain⟨fr',h⟩:=ZI1 _ hs.1 sizes fr l 0 (by omega) true [] (Yh _);rw[Ys,Y7,ZI2 hs h0]at h;exact⟨fr',WN.2.1.1 _ _ _ _ _ _ (ZI4 m hm hg sizes cc qa fr l hl x zM cl cd hx ok _ 0 (Yd _) _ (by simp) (by rw[Ys];exact h))⟩
def ZI6{m:Za}{sizes:V6}{a b:Zb}{k v o:Int}(ho:-1<=o/\o<=3)(a0 a1 a2 a3 a4:Zb):VR m sizes a b k v o [a0,a1,a2,a3,a4] =
  [X0 0 a0 (orI a.Mask b.Mask) o (jc m sizes a b k) (WD a.Zg.Steps b.Zg.Steps k v),X0 1 a1 (orI a.Mask b.Mask) o (jc m sizes a b k) (WD a.Zg.Steps b.Zg.Steps k v),X0 2 a2 (orI a.Mask b.Mask) o (jc m sizes a b k) (WD a.Zg.Steps b.Zg.Steps k v),X0 3 a3 (orI a.Mask b.Mask) o (jc m sizes a b k) (WD a.Zg.Steps b.Zg.Steps k v),X0 4 a4 (orI a.Mask b.Mask) o (jc m sizes a b k) (WD a.Zg.Steps b.Zg.Steps k v)]:=by
 have h5:o=-1\/o=0\/o=1\/o=2\/o=3:=by omega
 rcases h5 with rfl|rfl|rfl|rfl|rfl<;>simp[VR,X0]
def five{mine:List Zb}(h:mine.length=5):∃a0 a1 a2 a3 a4,mine=[a0,a1,a2,a3,a4]:=by
 match mine,h with
 |[a0,a1,a2,a3,a4],_=>exact⟨a0,a1,a2,a3,a4,rfl⟩
def ZuZ(m:Za)(hm:LeM m)(q:Zj)(hq:LeQ q)(cl:Z6 q.Zm q.Atoms=true)(sizes:V6)(hs:Le sizes)(cd:WC q.Zm q.Atoms sizes=true){A B M:Int}(cc:M16 M)(hM:M≠0)(hp:Ku q.Atoms A B M){a b:Zb}{k v o oa ob:Int}(ho:-1<=o/\o<=3)(hk:3<=k)(ha:a.Mask=A)(hb:b.Mask=B)(ma:X5 m sizes q.Atoms a.Zg.Steps A oa a.Cost)(mb:X5 m sizes q.Atoms b.Zg.Steps B ob b.Cost)(hj:Qs q.Atoms ⟨k,0,v⟩ (A,oa) (B,ob)=some o)(hl:a.Zg.Steps.length+2<=4*Xz A/\b.Zg.Steps.length+2<=4*Xz B)(a0 a1 a2 a3 a4:Zb) :
  ∃b0 b1 b2 b3 b4 t,VR m sizes a b k v o [a0,a1,a2,a3,a4]=[b0,b1,b2,b3,b4]/\(t=.dead\/t=.arr 277 3 true ((WD a.Zg.Steps b.Zg.Steps k v).map Zh.c))/\Jy m q sizes M a0 a1 a2 a3 a4 (sm a0) (sm a1) (sm a2) (sm a3) (sm a4) (WD a.Zg.Steps b.Zg.Steps k v) o=some (.tup [],[We m q sizes M b0 b1 b2 b3 b4 (sm b0) (sm b1) (sm b2) (sm b3) (sm b4),t]):=by
 have hpop:=hp.pop;have p4:=Um cc;have mk:=Z4d (x:=⟨k,0,v⟩) ma mb hk rfl hp.dis hp.shr hj;rw[hp.or]at mk;have hc:=X5.cost mk cl (by simp only[Yn,Ym,Ybr];omega) cd;obtain⟨t,ht,hx⟩:=Z4h m hm q hq sizes hs M hM a0 a1 a2 a3 a4 (WD a.Zg.Steps b.Zg.Steps k v) o ho _ hc;refine⟨_,_,_,_,_,t,ZI6 ho a0 a1 a2 a3 a4,ht,?_⟩;rw[hx];simp only[jc,ha,hb,hp.or]
def Zio{qa:List Ze}{M A:Int}(h:A∈ZK qa M):1<=A/\A<M/\andI A M=A/\Wp qa A=true/\Wp qa (M-A)=true:=by
 unfold ZK Qq at h;rw[Yr]at h;obtain⟨k,hk,rfl⟩:=h;rw[Ybc,List.mem_range'_1]at hk;obtain⟨⟨h1,h2⟩,h3⟩:=hk;simp only[Va,Yg,decide_eq_true_eq]at h3;exact⟨by omega,by omega,h3⟩
def ZI7{qa:List Ze}{M:Int}{k:Nat}(h1:1<=k)(h2:(k:Int)<M)(h3:Va qa M k=true):(k:Int)∈ZK qa M:=by
 unfold ZK Qq;rw[Yr];exact⟨k,by rw[Ybc,List.mem_range'_1];exact⟨⟨h1,by omega⟩,h3⟩,rfl⟩
def Zva{qa:List Ze}{M:Int}(h:M16 M):(ZK qa M).length<=16:=by
 unfold ZK Qq;rw[Y9];refine Y1 (Ybs _ _) ?_;rw[List.length_range'];omega
set_option maxRecDepth 100000 in
def ZI8:∀a b c d e f g h:Bool,XM (e,f,g,h) (a,b,c,d)=(e,f,g,h)->Xz (toI (e,f,g,h))+Xz (toI (Vb (a,b,c,d) (e,f,g,h)))=Xz (toI (a,b,c,d))/\orB (e,f,g,h) (Vb (a,b,c,d) (e,f,g,h))=(a,b,c,d)/\XM (e,f,g,h) (Vb (a,b,c,d) (e,f,g,h))=(false,false,false,false):=by decide
def Z4z{n:Int}{qa:List Ze}(hv:Z6 n qa=true){M:Int}(h:MQ qa M):inN qa.length (ofI M)=true:=by
 have h4:=WH hv;have h16:=(h.m16 hv).1;obtain⟨a,rfl⟩:=m16 h16;have key:∀a:Fin 16,(a.1<2->inN 1 (ofI (a.1:Int))=true)/\(a.1<4->inN 2 (ofI (a.1:Int))=true)/\(a.1<8->inN 3 (ofI (a.1:Int))=true)/\inN 4 (ofI (a.1:Int))=true:=by decide
 have hk:=key a;have hl:qa.length=1\/qa.length=2\/qa.length=3\/qa.length=4:=by omega
 have h2:=h.2;rcases hl with e|e|e|e
 .rw[e]at h2|-;exact hk.1 (by omega)
 .rw[e]at h2|-;exact hk.2.1 (by omega)
 .rw[e]at h2|-;exact hk.2.2.1 (by omega)
 .rw[e]at h2|-;exact hk.2.2.2
def okf1(g:Ed){n:Nat}(hn:1<=n/\n<=4)(p:B4):Ze4 g n p=true:=by
 have:=f1 g.a g.b g.c g.d g.e g.f p.1 p.2.1 p.2.2.1 p.2.2.2;have hl:n=1\/n=2\/n=3\/n=4:=by omega
 rcases hl with rfl|rfl|rfl|rfl
 .exact this.1
 .exact this.2.1
 .exact this.2.2.1
 .exact this.2.2.2
def okf2(g:Ed){n:Nat}(hn:1<=n/\n<=4)(p x:B4):Ze5 g n p x=true:=by
 have:=f2 g.a g.b g.c g.d g.e g.f p.1 p.2.1 p.2.2.1 p.2.2.2 x.1 x.2.1 x.2.2.1 x.2.2.2;have hl:n=1\/n=2\/n=3\/n=4:=by omega
 rcases hl with rfl|rfl|rfl|rfl
 .exact this.1
 .exact this.2.1
 .exact this.2.2.1
 .exact this.2.2.2
def ZI9{n:Int}{qa:List Ze}(hv:Z6 n qa=true){M A:Int}(hM:MQ qa M)(hc:Wp qa M=true)(h:A∈ZK qa M):Ku qa A (M-A) M:=by
 obtain⟨h1,h2,h3,_,_⟩:=Zio h;have h16:=(hM.m16 hv).1;have a16:M16 A:=by omega
 have b16:M16 (M-A):=by omega
 have eM:=ZuN h16;have eA:=ZuN a16;have hsub:XM (ofI A) (ofI M)=ofI A:=by
  apply ZuO;rw[<-Zmf,eM,eA];exact h3
 have eB:=Z3U hsub;rw[eM,eA]at eB;have hp:=ZI8 (ofI M).1 (ofI M).2.1 (ofI M).2.2.1 (ofI M).2.2.2 (ofI A).1 (ofI A).2.1 (ofI A).2.2.1 (ofI A).2.2.2 hsub;have hp1:Xz (toI (ofI A))+Xz (toI (Vb (ofI M) (ofI A)))=Xz (toI (ofI M)):=hp.1;have hp2:orB (ofI A) (Vb (ofI M) (ofI A))=ofI M:=hp.2.1;have hp3:XM (ofI A) (Vb (ofI M) (ofI A))=(false,false,false,false):=hp.2.2;refine⟨a16,b16,?_,?_,?_,?_⟩
 .rw[eB];have:=Z3T (ofI A) (Vb (ofI M) (ofI A));rw[hp2,eM,eA]at this;exact this
 .rw[eB];have:=Zmf (ofI A) (Vb (ofI M) (ofI A));rw[hp3,eA]at this;exact this
 .rw[eB];have:=ZId (WH hv).2 (ofI A) (Vb (ofI M) (ofI A)) hp3;rw[eA]at this;rw[this];have h5:=okf2 (QN qa) (WH hv) (ofI M) (ofI A);have hcb:=Zik hv (ofI M);rw[eM,hc]at hcb;have hin:=Z4z hv hM;have n0:ofI A≠(false,false,false,false):=λhe=>by
   rw[he]at eA
   have:toI (false,false,false,false)=0:=rfl
   omega
  have nM:ofI A≠ofI M:=λhe=>by rw[he,eM]at eA;omega
  unfold Ze5 at h5;rw[hsub,<-hcb,hin]at h5;simpa[n0,nM]using h5
 .rw[eB];rw[eM,eA]at hp1;exact hp1
def ZIA{n:Int}{qa:List Ze}(hv:Z6 n qa=true){M:Int}(hM:MQ qa M)(h0:M≠0)(hc:Wp qa M=true)(h1:QL (ofI M)=false):ZK qa M≠[]:=by
 have h16:=(hM.m16 hv).1;have eM:=ZuN h16;have h5:=okf1 (QN qa) (WH hv) (ofI M);have hcb:=Zik hv (ofI M);rw[eM,hc]at hcb;have hin:=Z4z hv hM;have nz:ofI M≠(false,false,false,false):=λhe=>by
  rw[he]at eM
  have:toI (false,false,false,false)=0:=rfl
  omega
 have one:∀(x:B4) (k:Nat),toI x=(k:Int)->1<=k->QL x=true->XM x x=x->Vc (QN qa) qa.length x=true->XM (ofI M) x≠(false,false,false,false)->(XM (ofI M) x=x)->Vc (QN qa) qa.length (Vb (ofI M) x)=true->ZK qa M≠[]:=by
  intro x k hk hk1 hx hxx hcx hne hsub hcs;have hsub':XM x (ofI M)=x:=by
   have:XM x (ofI M)=XM (ofI M) x:=by
    obtain⟨a,b,c,d⟩:=x;show(a && (ofI M).1,b && (ofI M).2.1,c && (ofI M).2.2.1,d && (ofI M).2.2.2)=((ofI M).1 && a,(ofI M).2.1 && b,(ofI M).2.2.1 && c,(ofI M).2.2.2 && d);simp only[Bool.and_comm]
   rw[this,hsub]
  have e1:=Z3U hsub';rw[eM,hk]at e1;have hxm:x≠ofI M:=λhe=>by rw[<-he,hx]at h1;cases h1
  have hle:(k:Int)<M:=by
   have q1:=toI_16 (Vb (ofI M) x);have q2:toI (Vb (ofI M) x)≠0:=by
    intro hz;apply hxm;apply ZuO;rw[eM,hk];omega
   omega
  have:(k:Int)∈ZK qa M:=by
   refine ZI7 hk1 hle ?_;unfold Va;rw[e1,Zik hv,hcs,<-hk,Zik hv,hcx]
   have:andI (toI x) M=toI x:=by
    have:=Zmf x (ofI M);rw[eM,hsub']at this;exact this
   rw[this];simp
  exact List.ne_nil_of_mem this
 have c1:∀(g:Ed) (n:Nat),1<=n/\n<=4->Vc g n (true,false,false,false)=true/\Vc g n (false,true,false,false)=true/\Vc g n (false,false,true,false)=true/\Vc g n (false,false,false,true)=true:=by
  have key:∀a b c d e f:Bool,∀n:Fin 5,1<=n.1->Vc ⟨a,b,c,d,e,f⟩ n.1 (true,false,false,false)=true/\Vc ⟨a,b,c,d,e,f⟩ n.1 (false,true,false,false)=true/\Vc ⟨a,b,c,d,e,f⟩ n.1 (false,false,true,false)=true/\Vc ⟨a,b,c,d,e,f⟩ n.1 (false,false,false,true)=true:=by decide
  intro g n hn;exact key g.a g.b g.c g.d g.e g.f ⟨n,by omega⟩ hn.1
 obtain⟨k0,k1,k2,k3⟩:=c1 (QN qa) qa.length (WH hv);have sel:∀a b c d:Bool,(¬XM (a,b,c,d) (true,false,false,false)=(false,false,false,false)->XM (a,b,c,d) (true,false,false,false)=(true,false,false,false))/\(¬XM (a,b,c,d) (false,true,false,false)=(false,false,false,false)->XM (a,b,c,d) (false,true,false,false)=(false,true,false,false))/\(¬XM (a,b,c,d) (false,false,true,false)=(false,false,false,false)->XM (a,b,c,d) (false,false,true,false)=(false,false,true,false))/\(¬XM (a,b,c,d) (false,false,false,true)=(false,false,false,false)->XM (a,b,c,d) (false,false,false,true)=(false,false,false,true)):=by
  intro a b c d;cases a<;>cases b<;>cases c<;>cases d<;>simp[XM]
 have hs:=sel (ofI M).1 (ofI M).2.1 (ofI M).2.2.1 (ofI M).2.2.2;unfold Ze4 at h5;rw[hin,<-hcb,h1]at h5;have nz':(ofI M == (false,false,false,false))=false:=by simpa using nz
 rw[nz']at h5;simp only[Bool.not_true,Ybz,Yc3,Yg,bne_iff_ne,ne_eq]at h5;rcases h5 with((h5|h5)|h5)|h5
 .exact one _ 1 rfl (by omega) rfl rfl k0 h5.1 (hs.1 h5.1) h5.2
 .exact one _ 2 rfl (by omega) rfl rfl k1 h5.1 (hs.2.1 h5.1) h5.2
 .exact one _ 4 rfl (by omega) rfl rfl k2 h5.1 (hs.2.2.1 h5.1) h5.2
 .exact one _ 8 rfl (by omega) rfl rfl k3 h5.1 (hs.2.2.2 h5.1) h5.2
