/-
  Parts of the proofs for this seat: IA IC.
-/
import Derived.Test.YthpdbpfamhcgiaaGreatP34
set_option linter.all false
set_option maxRecDepth 100000
set_option maxHeartbeats 4000000
namespace Go.Proofs.YthpdbpfamhcgiaaGreat
open Go.AM
structure VO (m:Zn) (q:Zf) (sizes:V6):Prop where
 hm:LeM m
 hg:WC m.Zz
 hq:LeQ q
 hv:Z9 q.Zk q.Zb=true
 hs:Le sizes
 hcl:Q3 sizes
 hsv:VM q.Zk q.Zb sizes=true
def ZPE{m:Zn}{q:Zf}{sizes:V6}(b:VO m q sizes){A B M:Int}(cc:M16 M)(hM:M≠0)(hp:Jr q.Zb A B M){E F:List Zd}(hE:WR m sizes q.Zb A E)(hF:WR m sizes q.Zb B F)
  (sh:V6) (cd:sh.length<=1000) (hv:∀v∈sh,(-1<=v/\v<=3)/\vin q.Zb A v=true/\vin q.Zb B v=true)
  (fr:Bool) (c:List (List Zd)) (fr1:Bool) (out:List Zd) (x x1:V6) (x3 x4 x5 x6:Int) (r:V3) :
  ∀i,i<=sh.length->∀a0 a1 a2 a3 a4:Zd,(∀b0 b1 b2 b3 b4,(sh.drop i).foldl (JS m sizes A B E F) [a0,a1,a2,a3,a4]=[b0,b1,b2,b3,b4]->
   Zdz m q fr c fr1 out m q sizes M b0 b1 b2 b3 b4 (sm b0) (sm b1) (sm b2) (sm b3) (sm b4) x x1 sizes M x3 x4 x5 (w (x6+1))=some r)->
  ZfD m q fr c fr1 out m q sizes M a0 a1 a2 a3 a4 (sm a0) (sm a1) (sm a2) (sm a3) (sm a4) x x1 sh sizes M E F x3 x4 x5 x6 sh.length i=some r:=by
 have pA:=Qb hp.a16;have pB:=Qb hp.b16;refine down _ ?_ ?_
 .simp_all [JJ.2.2.2]
 .intro i hi ih a0 a1 a2 a3 a4 h;have h4:=Xd (i:=i) (by omega);have hw:w ((i:Int)+1)=((i+1:Nat):Int):=by rw[show w ((i:Int)+1)=(i:Int)+1 from h4];simp
  rw[Yi hi,Y7]at h;obtain⟨v1,v2,v3⟩:=hv sh[i] (Ye hi);obtain⟨k1,k2,k3,k4,k5⟩:=Zck hE b.hg b.hcl hp.a16 v2;obtain⟨j1,j2,j3,j4,j5⟩:=Zck hF b.hg b.hcl hp.b16 v3;obtain⟨b0,b1,b2,b3,b4,t,hJ,ht,hx⟩:=Z1j m b.hm q b.hq b.hv sizes b.hs b.hsv cc hM hp (a:=inp m sizes A E sh[i]) (b:=inp m sizes B F sh[i]) (k:=4) (v:=sh[i]) v1 (by omega) k1 j1 k3 j3 (ZB3 v2 v3 rfl rfl) ⟨k5,j5⟩ a0 a1 a2 a3 a4;rw[show JS m sizes A B E F [a0,a1,a2,a3,a4] sh[i]=[b0,b1,b2,b3,b4]from hJ]at h;have ih:=ih b0 b1 b2 b3 b4 h;apply JJ.2.2.2;rw[Ypx];refine⟨by omega,sh[i],by rw[Yh];exact Yf hi,?_⟩;rw[hw];rcases Z0Z m b.hm b.hg q b.hq b.hv sizes b.hs b.hcl b.hsv hp.a16 hE v2 with ha|ha
  .refine .inl ⟨_,ha,?_⟩;rcases Z0Z m b.hm b.hg q b.hq b.hv sizes b.hs b.hcl b.hsv hp.b16 hF v3 with hb|hb
   .refine .inl ⟨_,hb,_,Zhx _ _ _ _ (by omega) (by omega),?_⟩
    grind
   .refine .inr ⟨_,hb,_,Zhx _ ⟨(inp m sizes B F sh[i]).Zg.Steps⟩ _ _ (by omega) (by show(inp m sizes B F sh[i]).Zg.Steps.length<=1000;omega),?_⟩
    grind
  .refine .inr ⟨_,ha,?_⟩;rcases Z0Z m b.hm b.hg q b.hq b.hv sizes b.hs b.hcl b.hsv hp.b16 hF v3 with hb|hb
   .refine .inl ⟨_,hb,_,Zhx ⟨(inp m sizes A E sh[i]).Zg.Steps⟩ _ _ _ (by show(inp m sizes A E sh[i]).Zg.Steps.length<=1000;omega) (by omega),?_⟩
    grind
   .refine .inr ⟨_,hb,_,Zhx ⟨(inp m sizes A E sh[i]).Zg.Steps⟩ ⟨(inp m sizes B F sh[i]).Zg.Steps⟩ _ _ (by show(inp m sizes A E sh[i]).Zg.Steps.length<=1000;omega) (by show(inp m sizes B F sh[i]).Zg.Steps.length<=1000;omega),?_⟩
    grind
def ZPF{m:Zn}{q:Zf}{sizes:V6}(b:VO m q sizes){A B M:Int}(cc:M16 M)(hM:M≠0)(hp:Jr q.Zb A B M){E F:List Zd}(hE:WR m sizes q.Zb A E)(hF:WR m sizes q.Zb B F)
  (sh:V6) (cd:Zdx q A (J4 M A)=some (.own 0,[.arr 3 1 true (sh.map ic)]))
  (fr:Bool) (c:List (List Zd)) (fr1:Bool) (out:List Zd) (x x1:V6) (x3 x4 x5 x6:Int) (r:V3) :
  ∀i,i<=E.length->∀a0 a1 a2 a3 a4:Zd,(∀b0 b1 b2 b3 b4,(E.drop i).foldl (Jq m sizes (Xz F)) [a0,a1,a2,a3,a4]=[b0,b1,b2,b3,b4]->
   ZfD m q fr c fr1 out m q sizes M b0 b1 b2 b3 b4 (sm b0) (sm b1) (sm b2) (sm b3) (sm b4) x x1 sh sizes M E F x3 x4 x5 x6 sh.length 0=some r)->
  ZfC m q fr c fr1 out m q sizes M a0 a1 a2 a3 a4 (sm a0) (sm a1) (sm a2) (sm a3) (sm a4) (Xz F).Zg x x1 sizes M A E F x3 x4 x5 x6 E E.length i=some r:=by
 have pA:=Qb hp.a16;have pB:=Qb hp.b16;have lF:=hF.len _ hF.best;have hle:=hE.le;refine down _ ?_ ?_
 .simp_all [JJ.2.2.1]
 .intro i hi ih a0 a1 a2 a3 a4 h;have h4:=Xd (i:=i) (by omega);have hw:w ((i:Int)+1)=((i+1:Nat):Int):=by rw[show w ((i:Int)+1)=(i:Int)+1 from h4];simp
  rw[Yi hi,Y7]at h;have hmem:=Ye hi;have lE:=hE.len _ hmem;obtain⟨b0,b1,b2,b3,b4,t,hJ,ht,hx⟩:=Z1j m b.hm q b.hq b.hv sizes b.hs b.hsv cc hM hp (a:=E[i]) (b:=Xz F) (k:=5) (v:=0) (hE.ord _ hmem) (by omega) (hE.mask _ hmem) (hF.mask _ hF.best) (hE.makes _ hmem) (hF.makes _ hF.best) ZB2 ⟨by omega,by omega⟩ a0 a1 a2 a3 a4;rw[show Jq m sizes (Xz F) [a0,a1,a2,a3,a4] E[i]=[b0,b1,b2,b3,b4]from hJ]at h;have ih:=ih b0 b1 b2 b3 b4 h;apply JJ.2.2.1
  grind [Int.toNat_natCast,List.getElem?_eq_getElem,Zhx]
structure ZBN (m:Zn) (q:Zf) (sizes:V6) (out:List Zd) (table:List (List Zd)) (M A:Int) (sh:V6):Prop where
 ok:Zet m sizes q.Zb out M A sh
 diff:J4 M A=M-A
 sh:Zdx q A (J4 M A)=some (.own 0,[.arr 3 1 true (sh.map ic)])
 tA:table[A.toNat]?=some (ofM out A)
 tB:table[(M-A).toNat]?=some (ofM out (M-A))
def ZPG{m:Zn}{q:Zf}{sizes:V6}(b:VO m q sizes){M:Int}(cd:M16 M)(hM:M≠0)(cc:List (List Zd))(ht:M.toNat<cc.length)(out:List Zd)(cl:out.length<=1000)(ps:List (Int×V6))(cn:ps.length<=100)
  (ok:∀p∈ps,ZBN m q sizes out cc M p.1 p.2) (fr fr1:Bool) (x:V6) (x2 x3:Int) (r:V3) :
  ∀i,i<=ps.length->∀a0 a1 a2 a3 a4:Zd,(∀f1 E,((ps.drop i).foldl (K2 m sizes M out) [a0,a1,a2,a3,a4]).filter sm=E->
   Zb5 m q f1 (cc.set M.toNat E) (fr1 && flat (E.map Zd.c)) (out++E) x sizes x2 (w (x3+1))=some r)->
  Zdz m q fr cc fr1 out m q sizes M a0 a1 a2 a3 a4 (sm a0) (sm a1) (sm a2) (sm a3) (sm a4) x (ps.map Prod.fst) sizes M x2 x3 ps.length i=some r:=by
 refine down _ ?_ ?_
 .intro a0 a1 a2 a3 a4 h;apply JJ.1.2;rw[Ynx];obtain⟨fr',he⟩:=ZPs m q sizes M a0 a1 a2 a3 a4;have hl:(WP a0 a1 a2 a3 a4).length<=5:=Ycn _ _;exact⟨fr',WP a0 a1 a2 a3 a4,he,by omega,_,Yf ht,by omega,h _ _ (by rw[Yk];rfl)⟩
 .intro i hi ih a0 a1 a2 a3 a4 h;have h4:=Xd (i:=i) (by omega);have hw:w ((i:Int)+1)=((i+1:Nat):Int):=by rw[show w ((i:Int)+1)=(i:Int)+1 from h4];simp
  rw[Yi hi,Y7]at h;obtain⟨o,hd,hsh,tA,tB⟩:=ok _ (Ye hi);have hget:(ps.map Prod.fst)[i]?=some ps[i].1:=by rw[Yds,Yf hi];rfl
  generalize ps[i]=p at *
  obtain⟨A,sh⟩:=p;simp only at o hd hsh tA tB hget;have hp:=o.pair;have hE:=o.left;have hF:=o.right;have pA:=Qb hp.a16;have pB:=Qb hp.b16;have lE:=hE.len _ hE.best;have lF:=hF.len _ hF.best;have leE:=hE.le;have leF:=hF.le;obtain⟨b0,b1,b2,b3,b4,t,hJ,htt,hx⟩:=Z1j m b.hm q b.hq b.hv sizes b.hs b.hsv cd hM hp (a:=Xz (ofM out A)) (b:=Xz (ofM out (M-A))) (k:=3) (v:=0) (o:=-1) (by omega) (by omega) (hE.mask _ hE.best) (hF.mask _ hF.best) (hE.makes _ hE.best) (hF.makes _ hF.best) ZB1 ⟨by omega,by omega⟩ a0 a1 a2 a3 a4;have hone:K2 m sizes M out [a0,a1,a2,a3,a4] (A,sh)=sh.foldl (JS m sizes A (M-A) (ofM out A) (ofM out (M-A))) ((ofM out A).foldl (Jq m sizes (Xz (ofM out (M-A)))) [b0,b1,b2,b3,b4]):=by
   unfold K2 Zes;rw[<-hJ]
  rw[hone]at h;have hnext:ZfC m q fr cc fr1 out m q sizes M b0 b1 b2 b3 b4 (sm b0) (sm b1) (sm b2) (sm b3) (sm b4) (Xz (ofM out (M-A))).Zg x (ps.map Prod.fst) sizes M A (ofM out A) (ofM out (M-A)) x2 x3 ps.length i (ofM out A) (ofM out A).length 0=some r:=by
   refine ZPF b cd hM hp hE hF sh hsh fr cc fr1 out x _ x2 x3 _ _ r 0 (Yc _) b0 b1 b2 b3 b4 ?_;intro c0 c1 c2 c3 c4 hc;refine ZPE b cd hM hp hE hF sh o.len o.vars fr cc fr1 out x _ x2 x3 _ _ r 0 (Yc _) c0 c1 c2 c3 c4 ?_
   grind
  apply JJ.1.2;rw[Ypx];refine⟨by omega,A,by rw[Yh];exact hget,hp.a16.1,_,tA,by rw[hd];exact hp.b16.1,_,by rw[hd];exact tB,_,Zqf _ hF.ne (by omega),_,Zqf _ hE.ne (by omega),_,Zhx _ _ _ _ (by omega) (by omega),?_⟩
  grind
