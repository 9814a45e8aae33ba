/-
  Parts of the proofs for this seat: IA IC.
-/
import Derived.Test.YthdihnbeifcppaaGreatP31
set_option linter.all false
set_option maxRecDepth 100000
set_option maxHeartbeats 4000000
namespace Go.Proofs.YthdihnbeifcppaaGreat
open Go.AM
structure Ve (m:Za) (q:Zj) (sizes:V6):Prop where
 hm:LeM m
 hg:XZ m.Sort_
 hq:LeQ q
 hv:Z6 q.Zm q.Atoms=true
 hs:Le sizes
 hcl:U7 sizes
 hsv:WC q.Zm q.Atoms sizes=true
def ZIB{m:Za}{q:Zj}{sizes:V6}(b:Ve m q sizes){A B M:Int}(cc:M16 M)(hM:M≠0)(hp:Ku q.Atoms A B M){E F:List Zb}(hE:Wq m sizes q.Atoms A E)(hF:Wq m sizes q.Atoms B F)
  (sh:V6) (cd:sh.length<=1000) (hv:∀v∈sh,(-1<=v/\v<=3)/\vin q.Atoms A v=true/\vin q.Atoms B v=true)
  (fr:Bool) (c:List (List Zb)) (fr1:Bool) (out:List Zb) (x x1:V6) (x3 x4 x5 x6:Int) (r:V3) :
  ∀i,i<=sh.length->∀a0 a1 a2 a3 a4:Zb,(∀b0 b1 b2 b3 b4,(sh.drop i).foldl (KW m sizes A B E F) [a0,a1,a2,a3,a4]=[b0,b1,b2,b3,b4]->
   ZbE m q fr c fr1 out m q sizes M b0 b1 b2 b3 b4 (sm b0) (sm b1) (sm b2) (sm b3) (sm b4) x x1 sizes M x3 x4 x5 (w (x6+1))=some r)->
  Zdo m q fr c fr1 out m q sizes M a0 a1 a2 a3 a4 (sm a0) (sm a1) (sm a2) (sm a3) (sm a4) x x1 sh sizes M E F x3 x4 x5 x6 sh.length i=some r:=by
 have pA:=Um hp.a16;have pB:=Um hp.b16;refine down _ ?_ ?_
 .intro a0 a1 a2 a3 a4 h;apply KM.2.2.2;rw[Ynx];exact h _ _ _ _ _ (by simp)
 .intro i hi ih a0 a1 a2 a3 a4 h;have h4:=ZL (i:=i) (by omega);have hw:w ((i:Int)+1)=((i+1:Nat):Int):=by rw[show w ((i:Int)+1)=(i:Int)+1 from h4];simp
  rw[Yi hi,Y8]at h;obtain⟨v1,v2,v3⟩:=hv sh[i] (Yc hi);obtain⟨k1,k2,k3,k4,k5⟩:=ZaD hE b.hg b.hcl hp.a16 v2;obtain⟨j1,j2,j3,j4,j5⟩:=ZaD hF b.hg b.hcl hp.b16 v3;obtain⟨b0,b1,b2,b3,b4,t,hJ,ht,hx⟩:=ZuZ m b.hm q b.hq b.hv sizes b.hs b.hsv cc hM hp (a:=inp m sizes A E sh[i]) (b:=inp m sizes B F sh[i]) (k:=4) (v:=sh[i]) v1 (by omega) k1 j1 k3 j3 (Z4g v2 v3 rfl rfl) ⟨k5,j5⟩ a0 a1 a2 a3 a4;rw[show KW m sizes A B E F [a0,a1,a2,a3,a4] sh[i]=[b0,b1,b2,b3,b4]from hJ]at h;have ih:=ih b0 b1 b2 b3 b4 h;apply KM.2.2.2;rw[Ypx];refine⟨by omega,sh[i],by rw[Yk];exact Yf hi,?_⟩;rw[hw];rcases ZuQ m b.hm b.hg q b.hq b.hv sizes b.hs b.hcl b.hsv hp.a16 hE v2 with ha|ha
  .refine .inl ⟨_,ha,?_⟩;rcases ZuQ m b.hm b.hg q b.hq b.hv sizes b.hs b.hcl b.hsv hp.b16 hF v3 with hb|hb
   .refine .inl ⟨_,hb,_,Ze6 _ _ _ _ (by omega) (by omega),?_⟩;rcases ht with rfl|rfl
    .exact .inl ⟨m,q,sizes,M,b0,b1,b2,b3,b4,_,_,_,_,_,hx,ih⟩
    .exact .inr ⟨m,q,sizes,M,b0,b1,b2,b3,b4,_,_,_,_,_,_,hx,ih⟩
   .refine .inr ⟨_,hb,_,Ze6 _ ⟨(inp m sizes B F sh[i]).Zg.Steps⟩ _ _ (by omega) (by show(inp m sizes B F sh[i]).Zg.Steps.length<=1000;omega),?_⟩;rcases ht with rfl|rfl
    .exact .inl ⟨m,q,sizes,M,b0,b1,b2,b3,b4,_,_,_,_,_,hx,ih⟩
    .exact .inr ⟨m,q,sizes,M,b0,b1,b2,b3,b4,_,_,_,_,_,_,hx,ih⟩
  .refine .inr ⟨_,ha,?_⟩;rcases ZuQ m b.hm b.hg q b.hq b.hv sizes b.hs b.hcl b.hsv hp.b16 hF v3 with hb|hb
   .refine .inl ⟨_,hb,_,Ze6 ⟨(inp m sizes A E sh[i]).Zg.Steps⟩ _ _ _ (by show(inp m sizes A E sh[i]).Zg.Steps.length<=1000;omega) (by omega),?_⟩;rcases ht with rfl|rfl
    .exact .inl ⟨m,q,sizes,M,b0,b1,b2,b3,b4,_,_,_,_,_,hx,ih⟩
    .exact .inr ⟨m,q,sizes,M,b0,b1,b2,b3,b4,_,_,_,_,_,_,hx,ih⟩
   .refine .inr ⟨_,hb,_,Ze6 ⟨(inp m sizes A E sh[i]).Zg.Steps⟩ ⟨(inp m sizes B F sh[i]).Zg.Steps⟩ _ _ (by show(inp m sizes A E sh[i]).Zg.Steps.length<=1000;omega) (by show(inp m sizes B F sh[i]).Zg.Steps.length<=1000;omega),?_⟩;rcases ht with rfl|rfl
    .exact .inl ⟨m,q,sizes,M,b0,b1,b2,b3,b4,_,_,_,_,_,hx,ih⟩
    .exact .inr ⟨m,q,sizes,M,b0,b1,b2,b3,b4,_,_,_,_,_,_,hx,ih⟩
def ZIC{m:Za}{q:Zj}{sizes:V6}(b:Ve m q sizes){A B M:Int}(cc:M16 M)(hM:M≠0)(hp:Ku q.Atoms A B M){E F:List Zb}(hE:Wq m sizes q.Atoms A E)(hF:Wq m sizes q.Atoms B F)
  (sh:V6) (cd:ZbC q A (KA M A)=some (.own 0,[.arr 3 1 true (sh.map ic)]))
  (fr:Bool) (c:List (List Zb)) (fr1:Bool) (out:List Zb) (x x1:V6) (x3 x4 x5 x6:Int) (r:V3) :
  ∀i,i<=E.length->∀a0 a1 a2 a3 a4:Zb,(∀b0 b1 b2 b3 b4,(E.drop i).foldl (Kt m sizes (Xh F)) [a0,a1,a2,a3,a4]=[b0,b1,b2,b3,b4]->
   Zdo m q fr c fr1 out m q sizes M b0 b1 b2 b3 b4 (sm b0) (sm b1) (sm b2) (sm b3) (sm b4) x x1 sh sizes M E F x3 x4 x5 x6 sh.length 0=some r)->
  Zdn m q fr c fr1 out m q sizes M a0 a1 a2 a3 a4 (sm a0) (sm a1) (sm a2) (sm a3) (sm a4) (Xh F).Zg x x1 sizes M A E F x3 x4 x5 x6 E E.length i=some r:=by
 have pA:=Um hp.a16;have pB:=Um hp.b16;have lF:=hF.len _ hF.best;have hle:=hE.le;refine down _ ?_ ?_
 .intro a0 a1 a2 a3 a4 h;apply KM.2.2.1;rw[Ynx];exact⟨sh,cd,h _ _ _ _ _ (by simp)⟩
 .intro i hi ih a0 a1 a2 a3 a4 h;have h4:=ZL (i:=i) (by omega);have hw:w ((i:Int)+1)=((i+1:Nat):Int):=by rw[show w ((i:Int)+1)=(i:Int)+1 from h4];simp
  rw[Yi hi,Y8]at h;have hmem:=Yc hi;have lE:=hE.len _ hmem;obtain⟨b0,b1,b2,b3,b4,t,hJ,ht,hx⟩:=ZuZ m b.hm q b.hq b.hv sizes b.hs b.hsv cc hM hp (a:=E[i]) (b:=Xh F) (k:=5) (v:=0) (hE.ord _ hmem) (by omega) (hE.mask _ hmem) (hF.mask _ hF.best) (hE.makes _ hmem) (hF.makes _ hF.best) Z4f ⟨by omega,by omega⟩ a0 a1 a2 a3 a4;rw[show Kt m sizes (Xh F) [a0,a1,a2,a3,a4] E[i]=[b0,b1,b2,b3,b4]from hJ]at h;have ih:=ih b0 b1 b2 b3 b4 h;apply KM.2.2.1;rw[Ypx];refine⟨by omega,E[i],by rw[Yk];exact Yf hi,?_⟩;rw[hw];refine⟨_,Ze6 _ _ _ _ (by omega) (by omega),?_⟩;rcases ht with rfl|rfl
  .exact .inl ⟨m,q,sizes,M,b0,b1,b2,b3,b4,_,_,_,_,_,hx,ih⟩
  .exact .inr ⟨m,q,sizes,M,b0,b1,b2,b3,b4,_,_,_,_,_,_,hx,ih⟩
structure Z40 (m:Za) (q:Zj) (sizes:V6) (out:List Zb) (table:List (List Zb)) (M A:Int) (sh:V6):Prop where
 ok:Zcn m sizes q.Atoms out M A sh
 diff:KA M A=M-A
 sh:ZbC q A (KA M A)=some (.own 0,[.arr 3 1 true (sh.map ic)])
 tA:table[A.toNat]?=some (ofM out A)
 tB:table[(M-A).toNat]?=some (ofM out (M-A))
def ZID{m:Za}{q:Zj}{sizes:V6}(b:Ve m q sizes){M:Int}(cd:M16 M)(hM:M≠0)(cc:List (List Zb))(ht:M.toNat<cc.length)(out:List Zb)(cl:out.length<=1000)(ps:List (Int×V6))(cn:ps.length<=100)
  (ok:∀p∈ps,Z40 m q sizes out cc M p.1 p.2) (fr fr1:Bool) (x:V6) (x2 x3:Int) (r:V3) :
  ∀i,i<=ps.length->∀a0 a1 a2 a3 a4:Zb,(∀f1 E,((ps.drop i).foldl (QP m sizes M out) [a0,a1,a2,a3,a4]).filter sm=E->
   Zap m q f1 (cc.set M.toNat E) (fr1 && flat (E.map Zb.c)) (out++E) x sizes x2 (w (x3+1))=some r)->
  ZbE m q fr cc fr1 out m q sizes M a0 a1 a2 a3 a4 (sm a0) (sm a1) (sm a2) (sm a3) (sm a4) x (ps.map Prod.fst) sizes M x2 x3 ps.length i=some r:=by
 refine down _ ?_ ?_
 .intro a0 a1 a2 a3 a4 h;apply KM.1.2;rw[Ynx];obtain⟨fr',he⟩:=ZIp m q sizes M a0 a1 a2 a3 a4;have hl:(Wa a0 a1 a2 a3 a4).length<=5:=Ybs _ _;exact⟨fr',Wa a0 a1 a2 a3 a4,he,by omega,_,Yf ht,by omega,h _ _ (by rw[Yo];rfl)⟩
 .intro i hi ih a0 a1 a2 a3 a4 h;have h4:=ZL (i:=i) (by omega);have hw:w ((i:Int)+1)=((i+1:Nat):Int):=by rw[show w ((i:Int)+1)=(i:Int)+1 from h4];simp
  rw[Yi hi,Y8]at h;obtain⟨o,hd,hsh,tA,tB⟩:=ok _ (Yc hi);have hget:(ps.map Prod.fst)[i]?=some ps[i].1:=by rw[Yci,Yf hi];rfl
  generalize ps[i]=p at *
  obtain⟨A,sh⟩:=p;simp only at o hd hsh tA tB hget;have hp:=o.pair;have hE:=o.left;have hF:=o.right;have pA:=Um hp.a16;have pB:=Um hp.b16;have lE:=hE.len _ hE.best;have lF:=hF.len _ hF.best;have leE:=hE.le;have leF:=hF.le;obtain⟨b0,b1,b2,b3,b4,t,hJ,htt,hx⟩:=ZuZ m b.hm q b.hq b.hv sizes b.hs b.hsv cd hM hp (a:=Xh (ofM out A)) (b:=Xh (ofM out (M-A))) (k:=3) (v:=0) (o:=-1) (by omega) (by omega) (hE.mask _ hE.best) (hF.mask _ hF.best) (hE.makes _ hE.best) (hF.makes _ hF.best) Z4e ⟨by omega,by omega⟩ a0 a1 a2 a3 a4;have hone:QP m sizes M out [a0,a1,a2,a3,a4] (A,sh)=sh.foldl (KW m sizes A (M-A) (ofM out A) (ofM out (M-A))) ((ofM out A).foldl (Kt m sizes (Xh (ofM out (M-A)))) [b0,b1,b2,b3,b4]):=by
   unfold QP Zcm;rw[<-hJ]
  rw[hone]at h;have hnext:Zdn m q fr cc fr1 out m q sizes M b0 b1 b2 b3 b4 (sm b0) (sm b1) (sm b2) (sm b3) (sm b4) (Xh (ofM out (M-A))).Zg x (ps.map Prod.fst) sizes M A (ofM out A) (ofM out (M-A)) x2 x3 ps.length i (ofM out A) (ofM out A).length 0=some r:=by
   refine ZIC b cd hM hp hE hF sh hsh fr cc fr1 out x _ x2 x3 _ _ r 0 (Yd _) b0 b1 b2 b3 b4 ?_;intro c0 c1 c2 c3 c4 hc;refine ZIB b cd hM hp hE hF sh o.len o.vars fr cc fr1 out x _ x2 x3 _ _ r 0 (Yd _) c0 c1 c2 c3 c4 ?_;intro d0 d1 d2 d3 d4 hdd;rw[hw];rw[Ys]at hc hdd;rw[hc,hdd]at h;exact ih d0 d1 d2 d3 d4 h
  apply KM.1.2;rw[Ypx];refine⟨by omega,A,by rw[Yk];exact hget,hp.a16.1,_,tA,by rw[hd];exact hp.b16.1,_,by rw[hd];exact tB,_,Zmk _ hF.ne (by omega),_,Zmk _ hE.ne (by omega),_,Ze6 _ _ _ _ (by omega) (by omega),?_⟩;rcases htt with rfl|rfl
  .exact .inl ⟨m,q,sizes,M,b0,b1,b2,b3,b4,_,_,_,_,_,hx,hnext⟩
  .exact .inr ⟨m,q,sizes,M,b0,b1,b2,b3,b4,_,_,_,_,_,_,hx,hnext⟩
