/-
  Parts of the proofs for this seat: LM LN LO LP.
-/
import Derived.Test.YtnnjbejcffjgfaaGreatP22
set_option linter.unusedSectionVars false
set_option linter.unusedSimpArgs false
set_option linter.unusedVariables false
set_option maxRecDepth 100000
set_option maxHeartbeats 4000000
namespace Go.Proofs.YtnnjbejcffjgfaaGreat
open Go.AM
def Zq(k:Int)(r:List Int):Prop:=∀x∈r,-k<=x/\x<=k
theorem Zb66{k:Int}{r:List Int}(h:Zq k r){i:Nat}{v:Int}(hv:-(k+1)<=v/\v<=k+1):Zq (k+1) (r.set i v):=by
 intro x hx;rcases Ycd hx with hx|rfl
 .have:=h x hx;omega
 .exact hv
theorem Zb67{k:Int}{r:List Int}(h:Zq k r):Zq (k+1) r:=λx hx=>by have:=h x hx;omega
theorem Zb68{k:Int}{r:List Int}(h:Zq k r){i:Nat}(hi:i<r.length):-k<=r.getD i 0/\r.getD i 0<=k:=by
 rw[<-getI hi];exact h _ (Yb hi)
section
variable{full:Nat}(hf:1<=full/\full<=15)
include hf
theorem l_er1(x:List (List Int))(hx:x.length<=100000)(cc minus:List Int)(hm:minus.length<=1000)(hb:∀e∈minus,e<=full):∀i,i<=minus.length->∀r:List Int,r.length=full->Zq (1000+i) r->Zpv x r minus cc full minus.length i=some (.tup [],[.arr 3 1 true (cc.map ic),.arr 3 1 true (minus.map ic),.box [I (full:Int)],.box [.own 5],.dead,.arr 56 1 true ((x++[Zg0 (-1) (minus.drop i) r]).map isc)]):=by
 refine down _ ?_ ?_
 .intro r hr hs;refine Zbzu _ _ _ _ _ _ _ _ ?_;rw[if_neg (by omega),Yg];exact⟨by omega,rfl⟩
 .intro i hi ih r hr hs;have he:=hb _ (Yb hi);refine Zbzu _ _ _ _ _ _ _ _ ?_;rw[if_pos (by omega),wS hi (by omega),Yd hi,Zg0];refine⟨by omega,_,gE hi,?_⟩;by_cases c:0<minus[i]
  .rw[if_pos c,if_pos c,w_in (x:=minus[i]-1) ⟨by omega,by omega⟩];have hg:=Zb68 hs (i:=(minus[i]-1).toNat) (by omega);refine⟨by omega,_,gD (by omega),?_⟩;rw[w_in ⟨by omega,by omega⟩]
   have:=ih (r.set (minus[i]-1).toNat (r.getD (minus[i]-1).toNat 0-1)) (by rw[Y9];exact hr) (by
    have:=Zb66 hs (i:=(minus[i]-1).toNat) (v:=r.getD (minus[i]-1).toNat 0-1) (by omega)
    rwa [show(1000:Int)+(i:Int)+1=1000+((i+1:Nat):Int) by omega]at this)
   rw[show r.getD (minus[i]-1).toNat 0+-1=r.getD (minus[i]-1).toNat 0-1 by omega];exact this
  .rw[if_neg c,if_neg c];exact ih r hr (by have:=Zb67 hs;rwa [show(1000:Int)+(i:Int)+1=1000+((i+1:Nat):Int) by omega]at this)
theorem l_er0(x:List (List Int))(hx:x.length<=100000)(cc minus:List Int)(hm:minus.length<=1000/\cc.length<=900)(hb:∀e∈minus,e<=full)(hp:∀e∈cc,e<=full):∀i,i<=cc.length->∀r:List Int,r.length=full->Zq i r->Zmj minus x r cc full cc.length i=some (.tup [],[.arr 3 1 true (cc.map ic),.arr 3 1 true (minus.map ic),.box [I (full:Int)],.box [.own 5],.dead,.arr 56 1 true ((x++[Zg0 (-1) minus (Zg0 1 (cc.drop i) r)]).map isc)]):=by
 refine down _ ?_ ?_
 .intro r hr hs;refine Zbzt _ _ _ _ _ _ _ _ ?_;rw[if_neg (by omega),Yg];have:=l_er1 hf x hx cc minus hm.1 hb 0 (Ya _) r hr (λy hy=>by have:=hs y hy;omega);simpa[Zg0]using this
 .intro i hi ih r hr hs;have he:=hp _ (Yb hi);refine Zbzt _ _ _ _ _ _ _ _ ?_;rw[if_pos (by omega),wS hi (by omega),Yd hi,Zg0];refine⟨by omega,_,gE hi,?_⟩;by_cases c:0<cc[i]
  .rw[if_pos c,if_pos c,w_in (x:=cc[i]-1) ⟨by omega,by omega⟩];have hg:=Zb68 hs (i:=(cc[i]-1).toNat) (by omega);refine⟨by omega,_,gD (by omega),?_⟩;rw[w_in ⟨by omega,by omega⟩]
   exact ih (r.set (cc[i]-1).toNat (r.getD (cc[i]-1).toNat 0+1)) (by rw[Y9];exact hr) (by
    have:=Zb66 hs (i:=(cc[i]-1).toNat) (v:=r.getD (cc[i]-1).toNat 0+1) (by omega)
    rwa [show(i:Int)+1=((i+1:Nat):Int) by omega]at this)
  .rw[if_neg c,if_neg c];exact ih r hr (by have:=Zb67 hs;rwa [show(i:Int)+1=((i+1:Nat):Int) by omega]at this)
theorem x_er(x:List (List Int))(hx:x.length<=100000)(plus minus:List Int)(hm:minus.length<=1000/\plus.length<=900)(hb:∀e∈minus,e<=full)(hp:∀e∈plus,e<=full)(hd:dis (plus++minus)):Zmi plus minus full x=some (.tup [],[.arr 3 1 true (plus.map ic),.arr 3 1 true (minus.map ic),.box [I (full:Int)],.box [.own 5],.dead,.arr 56 1 true ((x++[rowE full plus minus]).map isc)]):=by
 refine Zcnp ?_;rw[Yh];have:=l_er0 hf x hx plus minus hm hb hp 0 (Ya _) (List.replicate full 0) (by simp) (λy hy=>by rw[Ydb hy];omega);rw[Yq,<-rowK,row_same hd]at this;exact⟨by omega,Zlk (by omega),by omega,this⟩
theorem l_sr1(minus:List Int)(hm:minus.length<=1000)(hb:∀e∈minus,e<=full):∀i,i<=minus.length->∀r:List Int,r.length=full->Zrc r minus i=some (.own 0,[.arr 3 1 true ((Zcq (-1) (minus.drop i) r).map ic)]):=by
 refine down _ ?_ ?_
 .intro r hr;refine Zb2b _ _ _ _ ?_;rw[if_neg (by omega),Yg];rfl
 .intro i hi ih r hr;have he:=hb _ (Yb hi);refine Zb2b _ _ _ _ ?_;rw[if_pos (by omega),wS hi (by omega),Yd hi,Zcq];refine⟨by omega,_,gE hi,?_⟩;by_cases c:0<minus[i]
  .rw[if_pos c,if_pos c,w_in (x:=minus[i]-1) ⟨by omega,by omega⟩];exact⟨by omega,_,gD (by omega),ih _ (by rw[Y9];exact hr)⟩
  .rw[if_neg c,if_neg c];exact ih r hr
theorem l_sr0(cc minus:List Int)(hm:minus.length<=1000/\cc.length<=900)(hb:∀e∈minus,e<=full)(hp:∀e∈cc,e<=full):∀i,i<=cc.length->∀r:List Int,r.length=full->Znf r cc minus i=some (.own 0,[.arr 3 1 true ((Zcq (-1) minus (Zcq 1 (cc.drop i) r)).map ic)]):=by
 refine down _ ?_ ?_
 .intro r hr;refine Zb2a _ _ _ _ _ ?_;rw[if_neg (by omega),Yg];simpa[Zcq]using l_sr1 hf minus hm.1 hb 0 (Ya _) r hr
 .intro i hi ih r hr;have he:=hp _ (Yb hi);refine Zb2a _ _ _ _ _ ?_;rw[if_pos (by omega),wS hi (by omega),Yd hi,Zcq];refine⟨by omega,_,gE hi,?_⟩;by_cases c:0<cc[i]
  .rw[if_pos c,if_pos c,w_in (x:=cc[i]-1) ⟨by omega,by omega⟩];exact⟨by omega,_,gD (by omega),ih _ (by rw[Y9];exact hr)⟩
  .rw[if_neg c,if_neg c];exact ih r hr
end
def fulN(n:Int):Nat:=(shlI 1 n-1).toNat
theorem Zdw{n:Int}(h:inR n 1 4=true):w (shlI 1 n-1)=(fulN n:Int)/\1<=fulN n/\fulN n<=15:=by
 have h':=Zy.1 h
 have:n=1\/n=2\/n=3\/n=4:=by omega
 rcases this with rfl|rfl|rfl|rfl<;>decide
theorem x_sr{n:Int}(h:inR n 1 4=true)(c minus:List Int)(hm:minus.length<=1000/\c.length<=900)(hb:∀e∈minus,e<=fulN n)(hp:∀e∈c,e<=fulN n):Zht n c minus=some (.own 0,[.arr 3 1 true ((rowE (fulN n) c minus).map ic)]):=by
 have h':=Zy.1 h;obtain⟨e,h1,h2⟩:=Zdw h;refine Zcqr ?_;rw[e,Yh];have:=l_sr0 (full:=fulN n) ⟨h1,h2⟩ c minus hm hb hp 0 (Ya _) (List.replicate (fulN n) 0) (by simp);exact⟨by omega,by omega,by omega,Zlk (by omega),by omega,by simpa[rowE]using this⟩
def sRow(i j s:Int)(full:Nat):List Int:=rowE full [s,orI (orI s (shlI 1 i)) (shlI 1 j)] [orI s (shlI 1 i),orI s (shlI 1 j)]
def Zfz(full:Nat)(i j:Int):Nat->Int->List (List Int)
 |0,_=>[]
 |f+1,s=>if andI (shrI s i) 1=0/\andI (shrI s j) 1=0 then sRow i j s full::Zfz full i j f (s+1)else Zfz full i j f (s+1)
def Zf0(full:Nat)(i:Int):Nat->Int->List (List Int)
 |0,_=>[]
 |f+1,j=>Zfz full i j (full+1) 0++Zf0 full i f (j+1)
def Zf1(n full:Nat):Nat->Int->List (List Int)
 |0,_=>[]
 |f+1,i=>Zf0 full i f (i+1)++Zf1 n full f (i+1)
def Zls(full:Nat):Nat->Int->List (List Int)
 |0,_=>[]
 |f+1,i=>rowE full [(full:Int)-shlI 1 i] [(full:Int)]::Zls full f (i+1)
def elem(n:Int):List (List Int):=Zls (fulN n) n.toNat 0++Zf1 n.toNat (fulN n) n.toNat 0
theorem Z6q(full:Nat)(i j:Int):∀f s,(Zfz full i j f s).length<=f
 |0,_=>Yk _
 |f+1,s=>by
  unfold Zfz;have:=Z6q full i j f (s+1);split
  .simp only[Yw];omega
  .omega
theorem Z6r{full:Nat}(hf:full<=15)(i:Int):∀f j,(Zf0 full i f j).length<=f*16
 |0,_=>by simp[Zf0]
 |f+1,j=>by
  unfold Zf0;have h1:=Z6r hf i f (j+1);have h2:=Z6q full i j (full+1) 0;rw[Ys];omega
theorem Zb69{full:Nat}(hf:full<=15)(n:Nat):∀f i,f<=4->(Zf1 n full f i).length<=f*64
 |0,_,_=>by simp[Zf1]
 |f+1,i,h=>by
  unfold Zf1;have h1:=Zb69 hf n f (i+1) (by omega);have h2:=Z6r hf i f (i+1);rw[Ys];omega
theorem Zb7a(full:Nat):∀f i,(Zls full f i).length=f
 |0,_=>rfl
 |f+1,i=>by unfold Zls;rw[Yw,Zb7a]
theorem Z6s(full:Nat)(a b:List Int):(rowE full a b).length=full:=by unfold rowE;rw[Zbjt,Zbjt,Ybu]
theorem Zbk0(full:Nat)(i j:Int):∀f s,∀r∈Zfz full i j f s,r.length=full
 |0,_,r,h=>by cases h
 |f+1,s,r,h=>by
  unfold Zfz at h;split at h
  .rcases Yx.1 h with rfl|h
   .exact Z6s _ _ _
   .exact Zbk0 full i j f (s+1) r h
  .exact Zbk0 full i j f (s+1) r h
theorem Zb7b(full:Nat)(i:Int):∀f j,∀r∈Zf0 full i f j,r.length=full
 |0,_,r,h=>by cases h
 |f+1,j,r,h=>by
  unfold Zf0 at h;rcases Yi.1 h with h|h
  .exact Zbk0 _ _ _ _ _ r h
  .exact Zb7b full i f (j+1) r h
theorem Zb7c(n full:Nat):∀f i,∀r∈Zf1 n full f i,r.length=full
 |0,_,r,h=>by cases h
 |f+1,i,r,h=>by
  unfold Zf1 at h;rcases Yi.1 h with h|h
  .exact Zb7b _ _ _ _ r h
  .exact Zb7c n full f (i+1) r h
theorem Zb7d(full:Nat):∀f i,∀r∈Zls full f i,r.length=full
 |0,_,r,h=>by cases h
 |f+1,i,r,h=>by
  unfold Zls at h;rcases Yx.1 h with rfl|h
  .exact Z6s _ _ _
  .exact Zb7d full f (i+1) r h
theorem Zb7e{n:Int}:∀r∈elem n,r.length=fulN n:=by
 intro r h;rcases Yi.1 h with h|h
 .exact Zb7d _ _ _ r h
 .exact Zb7c _ _ _ _ r h
theorem Zbk1{n:Int}(h:inR n 1 4=true):1<=(elem n).length/\(elem n).length<=300:=by
 have h':=Zy.1 h;obtain⟨_,h1,h2⟩:=Zdw h;have h3:=Zb69 h2 n.toNat n.toNat 0 (by omega);unfold elem;rw[Ys,Zb7a];omega
instance (ss:List Int):Decidable (dis ss):=by unfold dis;infer_instance
theorem f_dis:∀(n:Fin 5) (i j:Fin 4) (s:Fin 16),1<=n.1->i.1<j.1->j.1<n.1->s.1<=fulN n.1->andI (shrI (s.1:Int) i.1) 1=0->andI (shrI (s.1:Int) j.1) 1=0->dis ([(s.1:Int),orI (orI s.1 (shlI 1 i.1)) (shlI 1 j.1)]++[orI s.1 (shlI 1 i.1),orI s.1 (shlI 1 j.1)])/\orI (orI (s.1:Int) (shlI 1 i.1)) (shlI 1 j.1)<=fulN n.1/\orI (s.1:Int) (shlI 1 i.1)<=fulN n.1/\orI (s.1:Int) (shlI 1 j.1)<=fulN n.1:=by decide +kernel
theorem f_disA:∀(n:Fin 5) (i:Fin 4),1<=n.1->i.1<n.1->Zr (fulN n.1:Int) (shlI 1 i.1)=(fulN n.1:Int)-shlI 1 i.1/\w ((fulN n.1:Int)-shlI 1 i.1)=(fulN n.1:Int)-shlI 1 i.1/\dis ([(fulN n.1:Int)-shlI 1 i.1]++[(fulN n.1:Int)])/\(fulN n.1:Int)-shlI 1 i.1<=fulN n.1:=by decide +kernel
theorem Zb7f{n:Int}(h:inR n 1 4=true){i j s:Int}(hi:0<=i)(cc:i<j)(hj:j<n)(hs:0<=s)(c:s<=fulN n)(b1:andI (shrI s i) 1=0)(b2:andI (shrI s j) 1=0):dis ([s,orI (orI s (shlI 1 i)) (shlI 1 j)]++[orI s (shlI 1 i),orI s (shlI 1 j)])/\(∀e∈[s,orI (orI s (shlI 1 i)) (shlI 1 j)],e<=fulN n)/\(∀e∈[orI s (shlI 1 i),orI s (shlI 1 j)],e<=fulN n):=by
 have h':=Zy.1 h;obtain⟨_,h1,h2⟩:=Zdw h;have en:n=((⟨n.toNat,by omega⟩:Fin 5).1:Int):=by simp only;omega
 have ei:i=((⟨i.toNat,by omega⟩:Fin 4).1:Int):=by simp only;omega
 have ej:j=((⟨j.toNat,by omega⟩:Fin 4).1:Int):=by simp only;omega
 have es:s=((⟨s.toNat,by omega⟩:Fin 16).1:Int):=by simp only;omega
 have:=f_dis ⟨n.toNat,by omega⟩ ⟨i.toNat,by omega⟩ ⟨j.toNat,by omega⟩ ⟨s.toNat,by omega⟩ (by simp only;omega) (by simp only;omega) (by simp only;omega) (by rw[<-en];simp only;omega) (by rw[<-es,<-ei];exact b1) (by rw[<-es,<-ej];exact b2);rw[<-en,<-ei,<-ej,<-es]at this;refine⟨this.1,?_,?_⟩
 .intro e he;simp only[Yx,List.not_mem_nil,or_false]at he;rcases he with rfl|rfl;exact c;exact this.2.1
 .intro e he;simp only[Yx,List.not_mem_nil,or_false]at he;rcases he with rfl|rfl;exact this.2.2.1;exact this.2.2.2
theorem Zb7g{n:Int}(h:inR n 1 4=true){i:Int}(hi:0<=i)(hj:i<n):Zr (fulN n:Int) (shlI 1 i)=(fulN n:Int)-shlI 1 i/\w ((fulN n:Int)-shlI 1 i)=(fulN n:Int)-shlI 1 i/\dis ([(fulN n:Int)-shlI 1 i]++[(fulN n:Int)])/\(fulN n:Int)-shlI 1 i<=fulN n:=by
 have h':=Zy.1 h;have en:n=((⟨n.toNat,by omega⟩:Fin 5).1:Int):=by simp only;omega
 have ei:i=((⟨i.toNat,by omega⟩:Fin 4).1:Int):=by simp only;omega
 have:=f_disA ⟨n.toNat,by omega⟩ ⟨i.toNat,by omega⟩ (by simp only;omega) (by simp only;omega);rw[<-en,<-ei]at this;exact this
theorem l_implS{n:Int}(h:inR n 1 4=true){i j:Int}(hi:0<=i)(c:i<j)(hj:j<n)(res:AV×List Blk):∀(f:Nat) (s:Int) (x:List (List Int)),s+f=(fulN n:Int)+1->0<=s->x.length+f<=100000->Zml (fulN n) (x++Zfz (fulN n) i j f s) n i (w (j+1))=some res->Zmm (fulN n) x n i j s=some res:=by
 obtain⟨_,h1,h2⟩:=Zdw h;intro f
 induction f with
 |zero =>
  intro s x hs h0 hx next
  refine Zbzy _ _ _ _ _ _ _ ?_;rw[if_neg (by omega)]
  simpa[Zfz]using next
 |succ f ih =>
  intro s x hs h0 hx next
  refine Zbzy _ _ _ _ _ _ _ ?_;rw[if_pos (by omega),w_in (x:=s+1) ⟨by omega,by omega⟩];rw[Zfz]at next
  refine⟨by omega,?_⟩;by_cases b1:andI (shrI s i) 1=0
  .rw[if_pos b1];refine⟨by omega,?_⟩;by_cases b2:andI (shrI s j) 1=0
   .rw[if_pos b2];rw[if_pos ⟨b1,b2⟩]at next
    obtain⟨g1,g2,g3⟩:=Zb7f h hi c hj h0 (by omega) b1 b2;refine⟨_,_,_,_,x_er ⟨h1,h2⟩ x (by omega) _ _ (by simp) g3 g2 g1,?_⟩;refine ih (s+1) _ (by omega) (by omega) (by simp;omega) ?_;rw[Yz];exact next
   .rw[if_neg b2];rw[if_neg (λhc=>b2 hc.2)]at next
    exact ih (s+1) x (by omega) (by omega) (by omega) next
  .rw[if_neg b1];rw[if_neg (λhc=>b1 hc.1)]at next
   exact ih (s+1) x (by omega) (by omega) (by omega) next
theorem l_implJ{n:Int}(h:inR n 1 4=true){i:Int}(hi:0<=i)(c:i<n)(res:AV×List Blk):∀(f:Nat) (j:Int) (x:List (List Int)),j+f=n->i<j->x.length+16*f<=90000->Zmk (fulN n) (x++Zf0 (fulN n) i f j) n (w (i+1))=some res->Zml (fulN n) x n i j=some res:=by
 obtain⟨_,h1,h2⟩:=Zdw h;have h':=Zy.1 h;intro f
 induction f with
 |zero =>
  intro j x hj hij hx next
  refine Zbzx _ _ _ _ _ _ ?_;rw[if_neg (by omega)]
  simpa[Zf0]using next
 |succ f ih =>
  intro j x hj hij hx next
  refine Zbzx _ _ _ _ _ _ ?_;rw[if_pos (by omega)];have hl:=Z6q (fulN n) i j (fulN n+1) 0;refine l_implS h hi hij (by omega) res (fulN n+1) 0 x (by omega) (by omega) (by omega) ?_;rw[w_in (x:=j+1) ⟨by omega,by omega⟩];refine ih (j+1) _ (by omega) (by omega) (by rw[Ys];omega) ?_;rw[Yz];exact next
theorem l_implI{n:Int}(h:inR n 1 4=true):∀(f:Nat) (i:Int) (x:List (List Int)),i+f=n->0<=i->x.length+64*f<=80000->Zmk (fulN n) x n i=some (.own 0,[.arr 56 1 true ((x++Zf1 n.toNat (fulN n) f i).map isc)]):=by
 obtain⟨_,h1,h2⟩:=Zdw h;have h':=Zy.1 h;intro f
 induction f with
 |zero =>
  intro i x hi h0 hx;refine Zbzw _ _ _ _ _ ?_;rw[if_neg (by omega)]
  simp[Zf1]
 |succ f ih =>
  intro i x hi h0 hx;refine Zbzw _ _ _ _ _ ?_;rw[if_pos (by omega),w_in (x:=i+1) ⟨by omega,by omega⟩];have hl:=Z6r h2 i f (i+1);refine l_implJ h h0 (by omega) _ f (i+1) x (by omega) (by omega) (by omega) ?_;rw[w_in (x:=i+1) ⟨by omega,by omega⟩];have:=ih (i+1) (x++Zf0 (fulN n) i f (i+1)) (by omega) (by omega) (by rw[Ys];omega);rw[Yz]at this;exact this
theorem l_implA{n:Int}(h:inR n 1 4=true):∀(f:Nat) (i:Int) (x:List (List Int)),i+f=n->0<=i->x.length+f<=1000->Zpw (fulN n) x n i=some (.own 0,[.arr 56 1 true ((x++(Zls (fulN n) f i++Zf1 n.toNat (fulN n) n.toNat 0)).map isc)]):=by
 obtain⟨_,h1,h2⟩:=Zdw h;have h':=Zy.1 h;intro f
 induction f with
 |zero =>
  intro i x hi h0 hx;refine Zbzv _ _ _ _ _ ?_;rw[if_neg (by omega)]
  exact l_implI h n.toNat 0 x (by omega) (by omega) (by omega)
 |succ f ih =>
  intro i x hi h0 hx;obtain⟨g1,g2,g3,g4⟩:=Zb7g h h0 (show i<n by omega);refine Zbzv _ _ _ _ _ ?_;rw[if_pos (by omega),w_in (x:=i+1) ⟨by omega,by omega⟩];refine⟨by omega,?_⟩;rw[g1];refine⟨_,_,_,_,x_er ⟨h1,h2⟩ x (by omega) _ _ (by simp) (by simp) (by simpa using g4) g3,?_⟩;have:=ih (i+1) (x++[rowE (fulN n) [(fulN n:Int)-shlI 1 i] [(fulN n:Int)]]) (by omega) (by omega) (by simp;omega);rw[Yz]at this;exact this
theorem Zcwa{n:Int}(h:inR n 1 4=true):Zuw n=some (.own 0,[.arr 56 1 true ((elem n).map isc)]):=by
 have h':=Zy.1 h;refine Zcno _ _ ⟨_,Zbu _ _ _,?_⟩;rw[h,if_pos rfl,(Zdw h).1];refine⟨by omega,?_⟩;have:=l_implA h n.toNat 0 [] (by omega) (by omega) (by simp;omega);simpa[elem]using this
theorem l_specS{n:Int}(h:inR n 1 4=true){i j:Int}(hi:0<=i)(c:i<j)(hj:j<n)(res:AV×List Blk):∀(f:Nat) (s:Int) (x:List (List Int)),s+f=(fulN n:Int)+1->0<=s->x.length+f<=100000->Zre (x++Zfz (fulN n) i j f s) n (fulN n) i (w (j+1))=some res->Zng x n (fulN n) i j s=some res:=by
 obtain⟨_,h1,h2⟩:=Zdw h;intro f
 induction f with
 |zero =>
  intro s x hs h0 hx next
  refine Zb2f _ _ _ _ _ _ _ ?_;rw[if_neg (by omega)]
  simpa[Zfz]using next
 |succ f ih =>
  intro s x hs h0 hx next
  refine Zb2f _ _ _ _ _ _ _ ?_;rw[if_pos (by omega),w_in (x:=s+1) ⟨by omega,by omega⟩];rw[Zfz]at next
  refine⟨by omega,?_⟩;by_cases b1:andI (shrI s i) 1=0
  .rw[if_pos b1];refine⟨by omega,?_⟩;by_cases b2:andI (shrI s j) 1=0
   .rw[if_pos b2];rw[if_pos ⟨b1,b2⟩]at next
    obtain⟨g1,g2,g3⟩:=Zb7f h hi c hj h0 (by omega) b1 b2;refine⟨_,x_sr h _ _ (by simp) g3 g2,by omega,?_⟩;refine ih (s+1) _ (by omega) (by omega) (by simp;omega) ?_;rw[Yz];exact next
   .rw[if_neg b2];rw[if_neg (λhc=>b2 hc.2)]at next
    exact ih (s+1) x (by omega) (by omega) (by omega) next
  .rw[if_neg b1];rw[if_neg (λhc=>b1 hc.1)]at next
   exact ih (s+1) x (by omega) (by omega) (by omega) next
theorem l_specJ{n:Int}(h:inR n 1 4=true){i:Int}(hi:0<=i)(c:i<n)(res:AV×List Blk):∀(f:Nat) (j:Int) (x:List (List Int)),j+f=n->i<j->x.length+16*f<=90000->Zrd (x++Zf0 (fulN n) i f j) n (fulN n) (w (i+1))=some res->Zre x n (fulN n) i j=some res:=by
 obtain⟨_,h1,h2⟩:=Zdw h;have h':=Zy.1 h;intro f
 induction f with
 |zero =>
  intro j x hj hij hx next
  refine Zb2e _ _ _ _ _ _ ?_;rw[if_neg (by omega)]
  simpa[Zf0]using next
 |succ f ih =>
  intro j x hj hij hx next
  refine Zb2e _ _ _ _ _ _ ?_;rw[if_pos (by omega)];have hl:=Z6q (fulN n) i j (fulN n+1) 0;refine l_specS h hi hij (by omega) res (fulN n+1) 0 x (by omega) (by omega) (by omega) ?_;rw[w_in (x:=j+1) ⟨by omega,by omega⟩];refine ih (j+1) _ (by omega) (by omega) (by rw[Ys];omega) ?_;rw[Yz];exact next
theorem l_specI{n:Int}(h:inR n 1 4=true):∀(f:Nat) (i:Int) (x:List (List Int)),i+f=n->0<=i->x.length+64*f<=80000->Zrd x n (fulN n) i=some (.own 0,[.arr 56 1 true ((x++Zf1 n.toNat (fulN n) f i).map isc)]):=by
 obtain⟨_,h1,h2⟩:=Zdw h;have h':=Zy.1 h;intro f
 induction f with
 |zero =>
  intro i x hi h0 hx;refine Zb2d _ _ _ _ _ ?_;rw[if_neg (by omega)]
  simp[Zf1]
 |succ f ih =>
  intro i x hi h0 hx;refine Zb2d _ _ _ _ _ ?_;rw[if_pos (by omega),w_in (x:=i+1) ⟨by omega,by omega⟩];have hl:=Z6r h2 i f (i+1);refine l_specJ h h0 (by omega) _ f (i+1) x (by omega) (by omega) (by omega) ?_;rw[w_in (x:=i+1) ⟨by omega,by omega⟩];have:=ih (i+1) (x++Zf0 (fulN n) i f (i+1)) (by omega) (by omega) (by rw[Ys];omega);rw[Yz]at this;exact this
theorem l_specA{n:Int}(h:inR n 1 4=true):∀(f:Nat) (i:Int) (x:List (List Int)),i+f=n->0<=i->x.length+f<=1000->Zw4 x n (fulN n) i=some (.own 0,[.arr 56 1 true ((x++(Zls (fulN n) f i++Zf1 n.toNat (fulN n) n.toNat 0)).map isc)]):=by
 obtain⟨_,h1,h2⟩:=Zdw h;have h':=Zy.1 h;intro f
 induction f with
 |zero =>
  intro i x hi h0 hx;refine Zb2c _ _ _ _ _ ?_;rw[if_neg (by omega)]
  exact l_specI h n.toNat 0 x (by omega) (by omega) (by omega)
 |succ f ih =>
  intro i x hi h0 hx;obtain⟨g1,g2,g3,g4⟩:=Zb7g h h0 (show i<n by omega);refine Zb2c _ _ _ _ _ ?_;rw[if_pos (by omega),w_in (x:=i+1) ⟨by omega,by omega⟩];refine⟨by omega,?_⟩;rw[g2];refine⟨_,x_sr h _ _ (by simp) (by simp) (by simpa using g4),by omega,?_⟩;have:=ih (i+1) (x++[rowE (fulN n) [(fulN n:Int)-shlI 1 i] [(fulN n:Int)]]) (by omega) (by omega) (by simp;omega);rw[Yz]at this;exact this
theorem Zcwb{n:Int}(h:inR n 1 4=true):Zw3 n=some (.own 0,[.arr 56 1 true ((elem n).map isc)]):=by
 have h':=Zy.1 h;refine Zcqq _ _ ⟨_,Z8 _ _ _,?_⟩;rw[h,if_pos rfl,(Zdw h).1];refine⟨by omega,?_⟩;have:=l_specA h n.toNat 0 [] (by omega) (by omega) (by simp;omega);simpa[elem]using this
def Zg7(m:Int):List Int:=(mskL m 0 3).map λn:Nat=>(n:Int)
theorem f_bo:∀(m:Fin 8) (i:Fin 4),shrI (m.1:Int) i.1=0->mskL (m.1:Int) i.1 (3-i.1)=[]:=by decide
theorem f_bo3:∀(m:Fin 8),shrI (m.1:Int) 3=0:=by decide
theorem l_bo{m:Int}(h:0<=m/\m<8):∀i,i<=3->∀out:List Int,out.length<=i->Zo2 out m i=some (.own 0,[.arr 3 1 true ((out++(mskL m i (3-i)).map λn:Nat=>(n:Int)).map ic)]):=by
 have fz:∀i:Nat,i<=3->shrI m i=0->mskL m i (3-i)=[]:=by
  intro i hi hz;have em:m=((⟨m.toNat,by omega⟩:Fin 8).1:Int):=by simp only;omega
  have:=f_bo ⟨m.toNat,by omega⟩ ⟨i,by omega⟩;rw[<-em]at this;exact this hz
 refine down _ ?_ ?_
 .intro out ho;have hz:shrI m ((3:Nat):Int)=0:=by
   have em:m=((⟨m.toNat,by omega⟩:Fin 8).1:Int):=by simp only;omega
   rw[em];exact f_bo3 _
  refine Zi1 _ _ _ _ ⟨by omega,?_⟩;rw[if_pos hz];simp[mskL]
 .intro i hi ih out ho;refine Zi1 _ _ _ _ ⟨by omega,?_⟩;by_cases hz:shrI m (i:Int)=0
  .rw[if_pos hz,fz i (by omega) hz];simp
  .rw[if_neg hz,wS (show i<3 from hi) (by omega),show 3-i=(3-(i+1))+1 by omega,mskL];by_cases e:andI (shrI m i) 1=1
   .rw[if_pos e,if_pos (show Zx m i=true from decide_eq_true e)];refine⟨by omega,?_⟩;have:=ih (out++[(i:Int)]) (by simp;omega);simpa using this
   .rw[if_neg e,if_neg (by unfold Zx;simpa using e)];exact ih out (by omega)
theorem x_bits{m:Int}(h:0<=m/\m<8):Ze3 m=some (.own 0,[.arr 3 1 true ((Zg7 m).map ic)]):=Zk6 _ _ (by simpa[Zg7]using l_bo h 0 (by omega) [] (by simp))
theorem l_12s(m:Int):∀i,i<=3->∀out:List Int,out.length<=i->Zmv out m i=some (.own 0,[.arr 3 1 true ((out++(mskL m i (3-i)).map λn:Nat=>(n:Int)).map ic)]):=by
 refine down _ ?_ ?_
 .intro out ho;refine Zi3 _ _ _ _ ?_;rw[if_neg (by omega)];simp[mskL]
 .intro i hi ih out ho;refine Zi3 _ _ _ _ ?_;rw[if_pos (by omega),wS (show i<3 from hi) (by omega),show 3-i=(3-(i+1))+1 by omega,mskL];refine⟨by omega,?_⟩;by_cases e:andI (shrI m i) 1=1
  .rw[if_pos e,if_pos (show Zx m i=true from decide_eq_true e)];refine⟨by omega,?_⟩;have:=ih (out++[(i:Int)]) (by simp;omega);simpa using this
  .rw[if_neg e,if_neg (by unfold Zx;simpa using e)];exact ih out (by omega)
theorem x_12s(m:Int):Zeq m=some (.own 0,[.arr 3 1 true ((Zg7 m).map ic)]):=Zb0n _ _ (by simpa[Zg7]using l_12s m 0 (by omega) [] (by simp))
theorem Zbk2(m n:Int):∀(k i:Nat) (p:Option Int),(∀q,p=some q->q<i)->(∀j,j∈mskL m i k->(j:Int)<n)->ascN n p ((mskL m i k).map λn:Nat=>(n:Int))=true
 |0,_,_,_,_=>rfl
 |k+1,i,p,hp,hn=>by
  rw[mskL]at hn|-;split
  .rename_i e;rw[if_pos e]at hn;simp only[Yv,ascN,Yc];have h1:=hn i (by simp);refine⟨⟨Zy.2 ⟨by omega,by omega⟩,?_⟩,Zbk2 m n k (i+1) (some i) (λq hq=>by cases hq;omega) (λj hj=>hn j (by simp[hj]))⟩
   cases p with
   |none=>rfl
   |some q=>simpa[nxt,ltI]using hp q rfl
  .rename_i e;rw[if_neg e]at hn;exact Zbk2 m n k (i+1) p (λq hq=>by have:=hp q hq;omega) hn
structure Zjl (m:Int) (n:Nat):Prop where
 h0:0<=m
 hm:m<2 ^ n
 hn:1<=n/\n<=3
theorem Zjl.lt8{m:Int}{n:Nat}(h:Zjl m n):0<=m/\m<8:=by
 have:(2:Nat) ^ n<=2 ^ 3:=Nat.pow_le_pow_right (by decide) h.hn.2
 have e:((2:Int) ^ n)=(((2:Nat) ^ n:Nat):Int):=by push_cast;rfl
 have:=h.h0;have:=h.hm;omega
theorem Zjl.mem{m:Int}{n:Nat}(h:Zjl m n){j:Nat}(hj:j∈mskL m 0 3):j<n:=by
 obtain⟨_,h3,hb⟩:=Zed hj;rcases Ybi j n with hl|hl
 .exact hl
 .exfalso;have h8:=h.lt8;have hn:=h.hn;have em:m=((⟨m.toNat,by omega⟩:Fin 16).1:Int):=by simp only;omega
  have:=f_hi ⟨m.toNat,by omega⟩ ⟨n,by omega⟩ ⟨j,by omega⟩ (by
   have e:((2:Int) ^ n)=(((2:Nat) ^ n:Nat):Int):=by push_cast;rfl
   have:=h.hm;have:=h.h0
   simp only;omega) hl
  rw[<-em]at this;rw[this]at hb;cases hb
theorem Zjl.ok{m:Int}{n:Nat}(h:Zjl m n):Zbv n (Zg7 m)=true:=Zbk2 m n 3 0 none (λq hq=>by cases hq) (λj hj=>by have:=h.mem hj;omega)
theorem Zb7h(m:Int):∀(vs cc:List Int) (k:Nat),cc.length=k->((mskL m k vs.length).map λn:Nat=>(n:Int)).map (λc=>(cc++vs).getD c.toNat 0)=Zh2 m k vs
 |[],_,_,_=>rfl
 |v::vs,cc,k,hk=>by
  rw[Yw,mskL,Zh2];have ih:=Zb7h m vs (cc++[v]) (k+1) (by simp[hk]);rw[Yz]at ih;by_cases e:andI (shrI m k) 1=1
  .rw[if_pos (show Zx m k=true from decide_eq_true e),if_pos e,Yv,Yv];congr 1;rw[Yh,Yy,Ycg (by omega),hk,Y6];rfl
  .rw[if_neg (show ¬Zx m k=true by unfold Zx;simpa using e),if_neg e];exact ih
theorem msk_3{m:Int}{n:Nat}(h:Zjl m n):mskL m 0 3=mskL m 0 n:=by
 have hn:=h.hn;have h3:=Zbkx m n 0 (3-n);rw[show n+(3-n)=3 by omega]at h3
 have:mskL m (0+n) (3-n)=[]:=by
  refine Zbky m (3-n) (0+n) λj h1 h2=>?_
  rcases tf (Zx m j)with e|e
  .exact e
  .exfalso;have hj:j∈mskL m 0 3->False:=λhc=>by have:=h.mem hc;omega
   apply hj;have key:∀(k i:Nat),i<=j->j<i+k->j∈mskL m i k:=by
    intro k
    induction k with
    |zero=>intro i h1 h2;omega
    |succ k ih =>
     intro i h1 h2;rw[mskL];by_cases hij:i=j
     .subst hij;rw[if_pos e];simp
     .have:=ih (i+1) (by omega) (by omega);split
      .simp[this]
      .exact this
   exact key 3 0 (by omega) (by omega)
 rw[h3,this,Ybl]
theorem Zb7i{m:Int}{vs:List Int}(h:Zjl m vs.length):selC vs (Zg7 m)=Zh2 m 0 vs:=by
 unfold selC Zg7;rw[msk_3 h];exact Zb7h m vs [] 0 rfl
def tcOne(t:Ze)(a:Atom)(m:Nat):Zo:=⟨setV 0 (Zh2 m 0 a.Vars),setV 0 a.Vars,clog (degV t (Zg7 m))⟩
def tcL(t:Ze)(a:Atom):List Zo:=if t.Rows=[]then[]else(List.range (2 ^ a.Vars.length-1)).map (tcOne t a)
def tcR(l:List Zo):AV×List Blk:=(.own 0,[.arr 251 3 true (l.map Zo.c)])
section
variable{t:Ze}{a:Atom}(h:LeT t)(hv:Z3 t=true)(ha:t.Arity=(a.Vars.length:Int))
include h hv ha
omit h in
theorem ar3:1<=a.Vars.length/\a.Vars.length<=3:=by have:=Zy.1 (Zcd hv);omega
omit h in
theorem full3:w (shlI 1 (Zt t).Arity-1)=((2 ^ a.Vars.length-1:Nat):Int)/\(2:Nat) ^ a.Vars.length<=8/\2<=(2:Nat) ^ a.Vars.length:=by
 have h3:=ar3 hv ha;have h1:(2:Nat) ^ a.Vars.length<=2 ^ 3:=Nat.pow_le_pow_right (by decide) h3.2;have h2:(2:Nat) ^ 1<=2 ^ a.Vars.length:=Nat.pow_le_pow_right (by decide) h3.1;have e:((2:Int) ^ a.Vars.length)=(((2:Nat) ^ a.Vars.length:Nat):Int):=by push_cast;rfl
 rw[show(Zt t).Arity=t.Arity from rfl,ha,Zr7 (by omega) (by omega),Yh,e,w_in ⟨by omega,by omega⟩];omega
omit h in
theorem setOf{m:Nat}(hm:m<2 ^ a.Vars.length-1):Zjl m a.Vars.length:=by
 have e:((2:Int) ^ a.Vars.length)=(((2:Nat) ^ a.Vars.length:Nat):Int):=by push_cast;rfl
 exact⟨by omega,by omega,ar3 hv ha⟩
theorem l_itc:∀m,m<=2 ^ a.Vars.length-1->Zpu (Zt t) a ((List.range m).map (tcOne t a)) m=some (tcR ((List.range (2 ^ a.Vars.length-1)).map (tcOne t a))):=by
 have h3:=ar3 hv ha;obtain⟨f1,f2,f3⟩:=full3 hv ha;refine down _ ?_ ?_
 .refine Zbzp _ _ _ _ _ ⟨by rw[show(Zt t).Arity=t.Arity from rfl];omega,?_⟩;rw[f1,if_neg (by omega)];rfl
 .intro m hm ih;have hs:=setOf hv ha hm;have h8:=hs.lt8;refine Zbzp _ _ _ _ _ ⟨by rw[show(Zt t).Arity=t.Arity from rfl];omega,?_⟩;rw[f1,if_pos (by omega),wS hm (by omega)];rw[Ybs,Y0]at ih;have hb3:(Zg7 (m:Int)).length<=3:=by unfold Zg7;rw[Yo];exact Zg6 _ _ _
  have hsel:=Zb41 a.Vars (Zg7 m) (by omega) (by omega) (λx hx=>by
   obtain⟨j,hj,rfl⟩:=Yr.1 hx;have:=hs.mem hj
   omega)
  rw[Zb7i hs]at hsel;have hl:(Zh2 (m:Int) 0 a.Vars).length<=1000:=by rw[<-Zb7i hs];unfold selC;rw[Yo];omega
  refine⟨_,x_bits h8,.inr ⟨_,hsel,_,Zb5i hl,_,Zb5i (by omega),_,Zb6y h hv (by rw[ha];exact hs.ok),_,Zcuj _,by simp;omega,?_⟩⟩;exact ih
theorem Zcwc:Zuo (Zt t) a=some (tcR (tcL t a)):=by
 have e:(Zt t).RowCount=(t.Rows.length:Int):=rfl;refine Zcnk _ _ _ ⟨_,Zb6k h hv,?_⟩;rw[if_pos rfl];unfold tcL;by_cases h1:t.Rows=[]
 .rw[if_pos (by rw[e,h1];rfl),if_pos h1];rfl
 .have:=Yba.2 h1;rw[if_neg (by rw[e];omega),if_neg h1,if_pos (show(a.Vars.length:Int)=(Zt t).Arity from ha.symm)];exact l_itc h hv ha 0 (Ya _)
theorem l_stc:∀m,m<=2 ^ a.Vars.length-1->Zww (Zt t) a ((List.range m).map (tcOne t a)) m=some (tcR ((List.range (2 ^ a.Vars.length-1)).map (tcOne t a))):=by
 have h3:=ar3 hv ha;obtain⟨f1,f2,f3⟩:=full3 hv ha;refine down _ ?_ ?_
 .refine Zb16 _ _ _ _ _ ⟨by rw[show(Zt t).Arity=t.Arity from rfl];omega,?_⟩;rw[f1,if_neg (by omega)];rfl
 .intro m hm ih;have hs:=setOf hv ha hm;refine Zb16 _ _ _ _ _ ⟨by rw[show(Zt t).Arity=t.Arity from rfl];omega,?_⟩;rw[f1,if_pos (by omega),wS hm (by omega)];rw[Ybs,Y0]at ih;exact⟨_,x_16v (by omega),_,Zcul (by omega),_,x_12s _,_,Zcvz h hv (by rw[ha];exact hs.ok),_,Zcuk _,by simp;omega,ih⟩
theorem Zcwd:Zwv (Zt t) a=some (tcR (tcL t a)):=by
 have e:(Zt t).RowCount=(t.Rows.length:Int):=rfl;refine Zcqm _ _ _ ⟨_,Zbkl h hv,?_⟩;rw[if_pos rfl];unfold tcL;by_cases h1:t.Rows=[]
 .rw[if_pos (by rw[e,h1];rfl),if_pos h1];rfl
 .have:=Yba.2 h1;rw[if_neg (by rw[e];omega),if_neg h1,if_pos (show(a.Vars.length:Int)=(Zt t).Arity from ha.symm)];exact l_stc h hv ha 0 (Ya _)
omit h in
theorem Zbk3:(tcL t a).length<=7/\(t.Rows≠[]->0<(tcL t a).length):=by
 obtain⟨f1,f2,f3⟩:=full3 hv ha;unfold tcL;split
 .exact⟨by simp,λhc=>absurd ‹_› hc⟩
 .rw[Yo,List.length_range];exact⟨by omega,λ_=>by omega⟩
end
def qcG(s:Zh)(q:Zc):List Nat->List Zo->List Zo
 |[],acc=>acc
 |i::l,acc=>if tcL (tab s q i) (atA q i)=[]then[]else qcG s q l (acc++tcL (tab s q i) (atA q i))
def qcL(s:Zh)(q:Zc)(m:Int):List Zo:=qcG s q (mskL m 0 q.Atoms.length) []
section
variable{s:Zh}{q:Zc}(c:Ctx s q)
include c
theorem x_TCi{i:Nat}(h:i<q.Atoms.length):Zuo (Zt (tab s q i)) (atA q i)=some (tcR (tcL (tab s q i) (atA q i))):=Zcwc (c.lt h) (c.vt h) (c.look h).2
theorem x_TCs{i:Nat}(h:i<q.Atoms.length):Zwv (Zt (tab s q i)) (atA q i)=some (tcR (tcL (tab s q i) (atA q i))):=Zcwd (c.lt h) (c.vt h) (c.look h).2
theorem l_iqc(l:List Nat)(hl:∀i∈l,i<q.Atoms.length)(h4:l.length<=4):∀i,i<=l.length->∀acc:List Zo,acc.length<=7*i->Zuq s q acc (l.map λn:Nat=>(n:Int)) l.length i=some (tcR (qcG s q (l.drop i) acc)):=by
 refine down _ ?_ ?_
 .intro acc ha;refine Zbzq _ _ _ _ _ _ _ ?_;rw[if_neg (by omega),Yg];rfl
 .intro i hi ih acc hacc;have hm:=hl _ (Yb hi);have hlen:=Zbk3 (c.vt hm) (c.look hm).2;refine Zbzq _ _ _ _ _ _ _ ?_;rw[if_pos (by omega),wS hi (by omega),Yd hi,qcG];refine⟨by omega,_,gM (m:=0) hi,by omega,_,Zez hm,_,_,_,_,_,Zb6z c hm,_,x_TCi c hm,?_⟩;by_cases e:tcL (tab s q l[i]) (atA q l[i])=[]
  .rw[if_pos (by rw[e];rfl),if_pos e];rfl
  .have:=Yba.2 e;rw[if_neg (by omega),if_neg e];exact⟨by omega,ih _ (by rw[Ys];omega)⟩
theorem Zbk4{m:Int}(h1:1<=m)(h2:m<2 ^ q.Atoms.length)(le:okQ s q m=true):Zup s q m=some (tcR (qcL s q m)):=by
 have h16:=Zdn (by omega) h2 c.n4.2;have hl:=Zg6 m q.Atoms.length 0;have hin:inR m 1 (Zbm q.Zp q.Atoms)=true:=by
  unfold okQ at le;simp only[Yc]at le;exact le.2.2
 refine Zcnl _ _ _ _ ⟨_,Zb6c c.le,?_⟩;rw[c.st,if_pos rfl];refine⟨_,Zb4q _ c.le.d _ c.lq,?_⟩;rw[c.qf,if_pos rfl];refine⟨_,Zny _ c.lq,_,Zbu _ _ _,?_⟩;rw[hin,if_pos rfl];refine .inr ⟨_,Zlp h16,?_⟩;rw[c.msk h1 h2,Yo];have:=l_iqc c (mskL m 0 q.Atoms.length) (λi hi=>by have:=Zed hi;omega) (by have:=c.n4;omega) 0 (Ya _) [] (by simp);simpa[qcL]using this
theorem l_sqc{m:Int}(cc:M16 m):∀i,i<=q.Atoms.length->∀acc:List Zo,acc.length<=7*i->Zrb s q acc m i=some (tcR (qcG s q (mskL m i (q.Atoms.length-i)) acc)):=by
 have hn4:=c.n4;refine down _ ?_ ?_
 .intro acc ha;refine Zb17 _ _ _ _ _ _ ?_;rw[if_neg (by omega),Y6];rfl
 .intro i hi ih acc hacc;have hlen:=Zbk3 (c.vt hi) (c.look hi).2;refine Zb17 _ _ _ _ _ _ ?_;rw[if_pos (by omega),wS hi (by omega),show q.Atoms.length-i=(q.Atoms.length-(i+1))+1 by omega,mskL];refine⟨by omega,?_⟩;by_cases e:andI (shrI m i) 1=0
  .rw[if_pos e,if_neg (by unfold Zx;rw[e];decide)];exact ih acc (by omega)
  .have e1:Zx m i=true:=by
    rcases ft (Zx m i)with e1|e1
    .exact e1
    .exact absurd ((Zg4 cc (by omega)).2 e1) e
   rw[if_neg e,if_pos e1,qcG];refine⟨_,_,_,_,x_16S c hi,by omega,_,Zez hi,_,x_TCs c hi,?_⟩;by_cases e:tcL (tab s q i) (atA q i)=[]
   .rw[if_pos (by rw[e];rfl),if_pos e];rfl
   .have:=Yba.2 e;rw[if_neg (by omega),if_neg e];exact⟨by omega,ih _ (by rw[Ys];omega)⟩
theorem Zbk5{m:Int}(cc:M16 m)(le:okQ s q m=true):Zwx s q m=some (tcR (qcL s q m)):=by
 refine Zcqn _ _ _ _ ⟨_,Zgp c.le c.lq m,?_⟩;rw[le,if_pos rfl];exact l_sqc c cc 0 (Ya _) [] (by simp)
theorem Zb7j:∀(l:List Nat) (cc:List Zo),(∀i∈l,i<q.Atoms.length)->(qcG s q l cc).length<=cc.length+7*l.length
 |[],cc,_=>by simp[qcG]
 |i::l,cc,h=>by
  have hi:=h i (by simp);have hlen:=Zbk3 (c.vt hi) (c.look hi).2;unfold qcG;split
  .simp
  .have:=Zb7j l (cc++tcL (tab s q i) (atA q i)) (λj hj=>h j (by simp[hj]));rw[Ys]at this;simp only[Yw];omega
theorem Z6t(m:Int):(qcL s q m).length<=28:=by
 have h0:(qcL s q m).length<=([]:List Zo).length+7*(mskL m 0 q.Atoms.length).length:=Zb7j c (mskL m 0 q.Atoms.length) [] (λi hi=>by have:=Zed hi;omega);have h1:=Zg6 m q.Atoms.length 0;have h2:([]:List Zo).length=0:=rfl;have:=c.n4;omega
end
def mvG(m:Int):Nat->List Int->Int->Int
 |_,[],x=>x
 |i,v::vs,x=>mvG m (i+1) vs (if inR v 0 3=true/\andI (shrI m v) 1=1 then orI x (shlI 1 i)else x)
def renL(l:List Zo)(c:List Int):List Zo:=l.map λy=>⟨mvG y.From 0 c 0,mvG y.To 0 c 0,y.Bits⟩
theorem l_imv(m:Int)(vars:List Int)(h4:vars.length<=4):∀i,i<=vars.length->∀x,Zke vars m x vars vars.length i=some (I (mvG m i (vars.drop i) x),[.box [L 1 (vars.map ic)]]):=by
 refine down _ ?_ ?_
 .intro x;refine Zbzr _ _ _ _ _ _ _ ?_;rw[if_neg (by omega),Yg];rfl
 .intro i hi ih x;refine Zbzr _ _ _ _ _ _ _ ?_;rw[if_pos (by omega),wS hi (by omega),Yd hi,mvG];refine⟨by omega,_,gE hi,?_⟩;rw[if_pos (by omega)];refine⟨_,Zbu _ _ _,?_⟩;rcases ft (inR vars[i] 0 3)with e|e
  .have e':=Zy.1 e;rw[e,if_pos rfl];refine⟨by omega,?_⟩;by_cases c:andI (shrI m vars[i]) 1=1
   .rw[if_pos c,if_pos ⟨rfl,c⟩];exact⟨by omega,ih _⟩
   .rw[if_neg c,if_neg (λhc=>c hc.2)];exact ih _
  .rw[e,if_neg (by decide),if_neg (by simp)];exact ih _
theorem x_imv(m:Int){vars:List Int}(h4:vars.length<=4):Zur vars m=some (I (mvG m 0 vars 0),[.box [L 1 (vars.map ic)]]):=Zcnm _ _ _ (by simpa using l_imv m vars h4 0 (Ya _) 0)
theorem l_smv(m:Int)(vars:List Int)(h4:vars.length<=4):∀i,i<=vars.length->∀x,Znd m vars x i=some (I (mvG m i (vars.drop i) x),[]):=by
 refine down _ ?_ ?_
 .intro x;refine Zb18 _ _ _ _ _ ?_;rw[if_neg (by omega),Yg];rfl
 .intro i hi ih x;refine Zb18 _ _ _ _ _ ?_;rw[if_pos (by omega),if_pos (by omega),wS hi (by omega),Yd hi,mvG];refine⟨by omega,_,gE hi,_,Z8 _ _ _,?_⟩;rcases ft (inR vars[i] 0 3)with e|e
  .have e':=Zy.1 e;rw[e,if_pos rfl];refine⟨by omega,?_⟩;by_cases c:andI (shrI m vars[i]) 1=1
   .rw[if_pos c,if_pos ⟨rfl,c⟩];exact⟨by omega,ih _⟩
   .rw[if_neg c,if_neg (λhc=>c hc.2)];exact ih _
  .rw[e,if_neg (by decide),if_neg (by simp)];exact ih _
theorem x_smv(m:Int){vars:List Int}(h4:vars.length<=4):Zwy m vars=some (I (mvG m 0 vars 0),[]):=Zcqo _ _ _ (by simpa using l_smv m vars h4 0 (Ya _) 0)
theorem Zb7k{l:List Zo}{c:List Int}{i:Nat}(h:i<l.length):renL (l.take (i+1)) c=renL (l.take i) c++[⟨mvG l[i].From 0 c 0,mvG l[i].To 0 c 0,l[i].Bits⟩]:=by
 unfold renL;rw[Y1 h,Y0];rfl
theorem Z6u(l:List Zo)(vars:List Int):(renL l vars).length=l.length:=by simp[renL]
theorem Zcwe{l:List Zo}{vars:List Int}(h4:vars.length<=4)(hl:l.length<=1000):Zus l vars=some (tcR (renL l vars)):=by
 have main:∀i,i<=l.length->Zut vars (renL (l.take i) vars) l l.length i=some (tcR (renL l vars)):=by
  refine down _ ?_ ?_
  .refine Zbzs _ _ _ _ _ _ ?_;rw[if_neg (by omega),Yl];rfl
  .intro i hi ih;refine Zbzs _ _ _ _ _ _ ?_;rw[if_pos (by omega),wS hi (by omega)];rw[Zb7k hi]at ih;exact⟨by omega,_,gE hi,_,_,x_imv _ h4,_,_,x_imv _ h4,by rw[Z6u,Yp];omega,ih⟩
 exact Zcnn _ _ _ (by simpa[renL]using main 0 (Ya _))
theorem Zcwf{l:List Zo}{vars:List Int}(h4:vars.length<=4)(hl:l.length<=1000):Zwz l vars=some (tcR (renL l vars)):=by
 have main:∀i,i<=l.length->Zw0 (renL (l.take i) vars) l vars i=some (tcR (renL l vars)):=by
  refine down _ ?_ ?_
  .refine Zb19 _ _ _ _ _ ?_;rw[if_neg (by omega),Yl];rfl
  .intro i hi ih;refine Zb19 _ _ _ _ _ ?_;rw[if_pos (by omega),wS hi (by omega)];rw[Zb7k hi]at ih;exact⟨by omega,_,gE hi,_,x_smv _ h4,_,x_smv _ h4,by rw[Z6u,Yp];omega,ih⟩
 exact Zcqp _ _ _ (by simpa[renL]using main 0 (Ya _))
def Zc4(full:Nat)(y:Zo):Option (List Int):=if inR y.To 1 full=true/\0<=y.From/\andI y.From y.To=y.From/\y.From≠y.To then some (rowE full [y.To] [y.From])else none
def epF(full:Nat):List Zo->List (List Int)->List Int->Option (List (List Int)×List Int)
 |[],r,l=>some (r,l)
 |y::ys,r,l=>match Zc4 full y with
  |none=>none
  |some row=>epF full ys (r++[row]) (l++[y.Bits])
def entP(l:List Zo)(n:Int):Option Program:=if inR n 1 4=true then(match epF (fulN n) l (elem n) (List.replicate (elem n).length 0)with
 |none=>none
 |some (r,lm)=>if Zcz ⟨rowE (fulN n) [(fulN n:Int)] [],r,lm⟩=true then some ⟨rowE (fulN n) [(fulN n:Int)] [],r,lm⟩else none)else none
def prR(o:Option Program):AV×List Blk:=match o with
 |none=>(.tup [.agg [.own 0,.own 1,.own 2],Bo false],[.arr 3 1 true (([]:List Int).map ic),.arr 56 1 true (([]:List (List Int)).map isc),.arr 3 1 true (([]:List Int).map ic)])
 |some p=>(.tup [.agg [.own 0,.own 1,.own 2],Bo true],[.arr 3 1 true (p.Objective.map ic),.arr 56 1 true (p.Rows.map isc),.arr 3 1 true (p.Limits.map ic)])
structure RowsB (full:Nat) (rs:List (List Int)) (ls:List Int) (k:Nat):Prop where
 r:rs.length<=300+k
 l:ls.length=rs.length
 row:∀x∈rs,x.length=full
theorem RowsB.le{full k:Nat}{r:List (List Int)}{l:List Int}(h:RowsB full r l k)(hf:full<=15)(hk:k<=100):LeP ⟨rowE full [(full:Int)] [],r,l⟩ :=
 ⟨by rw[show(Program.Objective ⟨rowE full [(full:Int)] [],r,l⟩)=rowE full [(full:Int)] []from rfl,Z6s];omega,by have:=h.r;show r.length<=1000;omega,by have:=h.r;have:=h.l;show l.length<=1000;omega,λx hx=>by have:=h.row x hx;omega⟩
theorem RowsB.add{full k:Nat}{r:List (List Int)}{l:List Int}(h:RowsB full r l k)(a b:List Int)(c:Int):RowsB full (r++[rowE full a b]) (l++[c]) (k+1) :=
 ⟨by have:=h.r;simp;omega,by simp[h.l],λx hx=>by
  rcases Yi.1 hx with hx|hx
  .exact h.row x hx
  .rw[List.mem_singleton.1 hx];exact Z6s _ _ _⟩
theorem Zb7l{f t:Int}(h0:0<=f)(ht:0<=t/\t<=15)(h:andI f t=f):f<=t:=by
 have e:andI f t<=t:=by
  unfold andI;have hb:(BitVec.ofInt 64 t).toNat=t.toNat:=by
   rw[BitVec.toNat_ofInt];omega
  have h1:(BitVec.ofInt 64 f &&& BitVec.ofInt 64 t).toNat<=t.toNat:=by
   rw[BitVec.toNat_and,hb];exact Nat.and_le_right
  rw[Zw (by omega) (by omega)];omega
 omega
def epR(full:Nat)(o:Option (List (List Int)×List Int)):AV×List Blk:=match o with
 |none=>prR none
 |some (r,lm)=>prR (if Zcz ⟨rowE full [(full:Int)] [],r,lm⟩=true then some ⟨rowE full [(full:Int)] [],r,lm⟩else none)
theorem row2{full:Nat}{t f:Int}(ht:0<t):(if 0<f then((List.replicate full (0:Int)).set (t-1).toNat 1).set (f-1).toNat (-1)else(List.replicate full (0:Int)).set (t-1).toNat 1)=rowE full [t] [f]:=by
 unfold rowE Zcq Zcq Zcq;rw[if_pos ht];rfl
section
variable{n:Int}(h:inR n 1 4=true)
include h
theorem l_iep(ys:List Zo)(hy:ys.length<=100):∀i,i<=ys.length->∀(r:List (List Int)) (l:List Int),RowsB (fulN n) r l i->Zim (rowE (fulN n) [(fulN n:Int)] []) r l (fulN n) ys ys.length i=some (epR (fulN n) (epF (fulN n) (ys.drop i) r l)):=by
 obtain⟨_,h1,h2⟩:=Zdw h;refine down _ ?_ ?_
 .intro r l hb;refine Zbz3 ?_;rw[if_neg (by omega),Yg];refine⟨_,Zb5a (hb.le h2 hy),?_⟩;unfold epF epR;rcases ft (Zcz ⟨rowE (fulN n) [(fulN n:Int)] [],r,l⟩)with e|e
  .rw[e,if_pos rfl];simp only[e,if_true];rfl
  .rw[e,if_neg (by decide)];simp only[e];rfl
 .intro i hi ih r l hb;refine Zbz3 ?_;rw[if_pos (by omega),wS hi (by omega),Yd hi,epF];refine⟨by omega,_,gE hi,_,Zbu _ _ _,?_⟩;rcases ft (inR ys[i].To 1 (fulN n))with e|e
  .have e':=Zy.1 e;rw[e,if_pos rfl];by_cases c1:ys[i].From<0
   .rw[if_pos c1,show Zc4 (fulN n) ys[i]=none from if_neg (by omega)];rfl
   rw[if_neg c1];by_cases c2:andI ys[i].From ys[i].To=ys[i].From
   .rw[if_pos c2];by_cases c3:ys[i].From=ys[i].To
    .rw[if_pos c3,show Zc4 (fulN n) ys[i]=none from if_neg (λhc=>hc.2.2.2 c3)];rfl
    rw[if_neg c3,show Zc4 (fulN n) ys[i]=some (rowE (fulN n) [ys[i].To] [ys[i].From])from if_pos ⟨e,by omega,c2,c3⟩];have hle:=Zb7l (show 0<=ys[i].From by omega) (by omega) c2;have hadd:=hb.add [ys[i].To] [ys[i].From] ys[i].Bits;have hr:=hb.r;have hl:=hb.l;have ih:=ih _ _ hadd;rw[w_in (x:=ys[i].To-1) ⟨by omega,by omega⟩,w_in (x:=ys[i].From-1) ⟨by omega,by omega⟩,Yh];refine⟨by omega,Zlk (by omega),by omega,by omega,_,gD (by rw[Ybu];omega),?_⟩;have e2:=row2 (full:=fulN n) (t:=ys[i].To) (f:=ys[i].From) (by omega);by_cases c4:0<ys[i].From
    .rw[if_pos c4]at e2|-;rw[<-e2]at ih;exact⟨by omega,_,gD (by rw[Y9,Ybu];omega),by omega,by omega,by rw[e2]at ih|-;exact ih⟩
    .rw[if_neg c4]at e2|-;rw[<-e2]at ih;exact⟨by omega,by omega,by rw[e2]at ih|-;exact ih⟩
   .rw[if_neg c2,show Zc4 (fulN n) ys[i]=none from if_neg (λhc=>c2 hc.2.2.1)];rfl
  .rw[e,if_neg (by decide),show Zc4 (fulN n) ys[i]=none from if_neg (by rw[e];simp)];rfl
theorem Zcwg{ys:List Zo}(hy:ys.length<=60):Zkg ys n=some (prR (entP ys n)):=by
 have h':=Zy.1 h;obtain⟨e,h1,h2⟩:=Zdw h;have hel:=Zbk1 h;refine Zbz4 ⟨_,Zbu _ _ _,?_⟩;rw[h,if_pos rfl,e,w_in (x:=(fulN n:Int)-1) ⟨by omega,by omega⟩,Yh];refine⟨by omega,by omega,by omega,Zlk (by omega),by omega,_,Zcwa h,by omega,_,gD (by rw[Ybu];omega),by omega,by omega,by rw[Yh];exact Zlk (by omega),by omega,?_⟩;rw[Yh];have e2:(List.replicate (fulN n) (0:Int)).set ((fulN n:Int)-1).toNat 1=rowE (fulN n) [(fulN n:Int)] []:=by
  unfold rowE Zcq Zcq Zcq;rw[if_pos (by omega)]
 rw[e2];have:=l_iep h ys (by omega) 0 (Ya _) (elem n) (List.replicate (elem n).length 0) ⟨by omega,by simp,Zb7e⟩;rw[Yq]at this;refine Yf this ?_;unfold entP epR;rw[if_pos h]
 cases epF (fulN n) ys (elem n) (List.replicate (elem n).length 0)with
 |none=>rfl
 |some o=>rfl
theorem l_sep(ys:List Zo)(hy:ys.length<=60):∀i,i<=ys.length->∀(r:List (List Int)) (l:List Int),RowsB (fulN n) r l i->Zrg (rowE (fulN n) [(fulN n:Int)] []) r l ys n (fulN n) i=some (epR (fulN n) (epF (fulN n) (ys.drop i) r l)):=by
 obtain⟨_,h1,h2⟩:=Zdw h;refine down _ ?_ ?_
 .intro r l hb;refine Zb2j _ _ _ _ _ _ _ _ ?_;rw[if_neg (by omega),Yg];refine⟨_,Zb5b (hb.le h2 (by omega)),?_⟩;unfold epF epR;rcases ft (Zcz ⟨rowE (fulN n) [(fulN n:Int)] [],r,l⟩)with e|e
  .rw[e,if_pos rfl];simp only[e,if_true];rfl
  .rw[e,if_neg (by decide)];simp only[e];rfl
 .intro i hi ih r l hb;refine Zb2j _ _ _ _ _ _ _ _ ?_;rw[if_pos (by omega),wS hi (by omega),Yd hi,epF];refine⟨by omega,_,gE hi,_,Z8 _ _ _,?_⟩;rcases ft (inR ys[i].To 1 (fulN n))with e|e
  .have e':=Zy.1 e;rw[e,if_pos rfl];refine⟨_,Z8 _ _ _,?_⟩;by_cases c1:ys[i].From<0
   .rw[if_neg (by rw[show inR ys[i].From 0 (fulN n)=false by simp[inR];omega];decide),show Zc4 (fulN n) ys[i]=none from if_neg (by omega)];rfl
   by_cases c2:andI ys[i].From ys[i].To=ys[i].From
   .have hle:=Zb7l (show 0<=ys[i].From by omega) (by omega) c2;rw[if_pos (Zy.2 ⟨by omega,by omega⟩),if_pos c2];by_cases c3:ys[i].From=ys[i].To
    .rw[if_pos c3,show Zc4 (fulN n) ys[i]=none from if_neg (λhc=>hc.2.2.2 c3)];rfl
    rw[if_neg c3,if_neg (by omega),show Zc4 (fulN n) ys[i]=some (rowE (fulN n) [ys[i].To] [ys[i].From])from if_pos ⟨e,by omega,c2,c3⟩];have hadd:=hb.add [ys[i].To] [ys[i].From] ys[i].Bits;have hr:=hb.r;have hl:=hb.l;have ih:=ih _ _ hadd;exact⟨_,x_sr h _ _ (by simp) (by simpa using(by omega:ys[i].From<=fulN n)) (by simpa using e'.2),by omega,by omega,ih⟩
   .rw[if_neg c2,show Zc4 (fulN n) ys[i]=none from if_neg (λhc=>c2 hc.2.2.1)];split<;>rfl
  .rw[e,if_neg (by decide),show Zc4 (fulN n) ys[i]=none from if_neg (by rw[e];simp)];rfl
theorem Zcwh{ys:List Zo}(hy:ys.length<=60):Zni ys n=some (prR (entP ys n)):=by
 have h':=Zy.1 h;obtain⟨e,h1,h2⟩:=Zdw h;have hel:=Zbk1 h;refine Zb2p ⟨_,Z8 _ _ _,?_⟩;rw[h,if_pos rfl,e];refine⟨by omega,_,x_sr h [(fulN n:Int)] [] (by simp) (by simp) (by simp),_,Zcwb h,by omega,by omega,by rw[Yh];exact Zlk (by omega),by omega,?_⟩;rw[Yh];have:=l_sep h ys hy 0 (Ya _) (elem n) (List.replicate (elem n).length 0) ⟨by omega,by simp,Zb7e⟩;rw[Yq]at this;refine Yf this ?_;unfold entP epR;rw[if_pos h]
 cases epF (fulN n) ys (elem n) (List.replicate (elem n).length 0)with
 |none=>rfl
 |some o=>rfl
omit h in
theorem Zb7m{full:Nat}:∀(ys:List Zo) (r:List (List Int)) (l:List Int) (o:List (List Int)×List Int),r≠[]->epF full ys r l=some o->o.1≠[]
 |[],r,l,o,hr,h=>by cases h;exact hr
 |y::ys,r,l,o,hr,h=>by
  unfold epF at h
  cases e:Zc4 full y with
  |none=>rw[e]at h;cases h
  |some row=>rw[e]at h;exact Zb7m ys _ _ o (by simp) h
omit h in
theorem Zb7n{ys:List Zo}{n:Int}{p:Program}(h:entP ys n=some p):Zcz p=true/\p.Rows≠[]:=by
 unfold entP at h;split at h
 .rename_i hn;split at h
  .cases h
  .rename_i r lm he;split at h
   .rename_i hp;cases h;have hel:=Zbk1 hn;exact⟨hp,Zb7m _ _ _ _ (λhc=>by rw[hc]at hel;simp at hel) he⟩
   .cases h
 .cases h
end
theorem leP_of{p:Program}(h:Zcz p=true):LeP p/\p.Objective≠[]:=by
 have:=Zyv h;have h1:=this.o;have h2:=this.r;have h3:=this.l;exact⟨⟨by omega,by omega,by omega,λr hr=>by have:=this.row r hr;omega⟩,λhc=>by rw[hc]at h1;simp at h1⟩
def entB(s:Zh)(q:Zc)(m:Int):Option Za:=if qcL s q m=[]then none else(match entP (renL (qcL s q m) (Zbe q m)) (Zbe q m).length with
 |none=>none
 |some p=>(lpV p).map Zm.Value)
theorem Zb7o{o:Option Zm}{r:Rs}(h:Ans o r):∃P D:List Za,r=some (.tup [.agg [I ((o.map Zm.Value).getD r0).Num,I ((o.map Zm.Value).getD r0).Den,.own 0,.own 1],Bo (o.map Zm.Value).isSome],[.arr 149 2 true (P.map Za.c),.arr 149 2 true (D.map Za.c)]):=by
 cases o with
 |none=>exact⟨[],[],h⟩
 |some d=>obtain⟨P,D,hPD⟩:=h;exact⟨P,D,hPD⟩
theorem Zb7p{s:Zh}{q:Zc}(c:Ctx s q)(m:Int):inR ((Zbe q m).length:Int) 1 4=true\/(Zbe q m).length=0:=by
 have:=Zjj q c.vq m;by_cases e:(Zbe q m).length=0
 .exact .inr e
 .exact .inl (Zy.2 ⟨by omega,by omega⟩)
theorem Zb7q(ys:List Zo):Zkg ys 0=some (prR none)/\Zni ys 0=some (prR none)/\entP ys 0=none:=by
 refine⟨Zbz4 ⟨_,Zbu _ _ _,?_⟩,Zb2p ⟨_,Z8 _ _ _,?_⟩,rfl⟩
 .rw[if_neg (by decide)];rfl
 .rw[if_neg (by decide)];rfl
section
variable{s:Zh}{q:Zc}(c:Ctx s q){m:Int}(h1:1<=m)(h2:m<2 ^ q.Atoms.length)(le:okQ s q m=true)
include c h1 h2 le
omit h1 h2 le in
theorem x_EPi:Zkg (renL (qcL s q m) (Zbe q m)) (Zbe q m).length=some (prR (entP (renL (qcL s q m) (Zbe q m)) (Zbe q m).length)):=by
 rcases Zb7p c m with e|e
 .exact Zcwg e (by rw[Z6u];have:=Z6t c m;omega)
 .have:=Zb7q (renL (qcL s q m) (Zbe q m));rw[e,show(((0:Nat):Int))=0 from rfl,this.2.2];exact this.1
omit h1 h2 le in
theorem x_EPs:Zni (renL (qcL s q m) (Zbe q m)) (Zbe q m).length=some (prR (entP (renL (qcL s q m) (Zbe q m)) (Zbe q m).length)):=by
 rcases Zb7p c m with e|e
 .exact Zcwh e (by rw[Z6u];have:=Z6t c m;omega)
 .have:=Zb7q (renL (qcL s q m) (Zbe q m));rw[e,show(((0:Nat):Int))=0 from rfl,this.2.2];exact this.2.1
theorem Zcwi:Z2d s q m=some (oR (entB s q m)):=by
 have hq:=Z6t c m;have hv4:=Zjj q c.vq m;have hMQ:MQ q.Atoms m:=⟨by omega,h2⟩;have key:∃P D:List Za,Z2c s q m=some (.tup [.agg [I ((entB s q m).getD r0).Num,I ((entB s q m).getD r0).Den,.own 0,.own 1],Bo (entB s q m).isSome],[.arr 149 2 true (P.map Za.c),.arr 149 2 true (D.map Za.c)]):=by
  unfold entB;by_cases e0:qcL s q m=[]
  .rw[if_pos e0];refine⟨[],[],Zbjd _ _ _ _ ⟨[],[],[],[],false,Zbja _ _ _ _ ⟨_,Zbk4 c h1 h2 le,?_⟩,?_⟩⟩
   .rw[if_pos (by rw[e0];rfl)]
   .rw[if_neg (by decide)];rfl
  .have hp:=Yba.2 e0;rw[if_neg e0];have hE:=x_EPi c (m:=m);have hR:=Zcwe (l:=qcL s q m) hv4 (by omega)
   cases e1:entP (renL (qcL s q m) (Zbe q m)) (Zbe q m).length with
   |none =>
    rw[e1]at hE;refine⟨[],[],Zbjd _ _ _ _ ⟨[],[],[],qcL s q m,false,Zbja _ _ _ _ ⟨_,Zbk4 c h1 h2 le,?_⟩,?_⟩⟩
    .rw[if_neg (by omega)];exact .inl ⟨_,Z6m q c.lq c.vq m hMQ,_,hR,[],[],[],false,hE,rfl⟩
    .rw[if_neg (by decide)];rfl
   |some p =>
    rw[e1]at hE;obtain⟨hok,hrows⟩:=Zb7n e1;obtain⟨hle,hobj⟩:=leP_of hok;obtain⟨P,D,hPD⟩:=Zb7o (Zcub hle hrows hobj);refine⟨P,D,Zbjd _ _ _ _ ⟨p.Objective,p.Rows,p.Limits,qcL s q m,true,Zbja _ _ _ _ ⟨_,Zbk4 c h1 h2 le,?_⟩,?_⟩⟩
    .rw[if_neg (by omega)];exact .inl ⟨_,Z6m q c.lq c.vq m hMQ,_,hR,_,_,_,true,hE,rfl⟩
    .rw[if_pos rfl];exact⟨_,_,_,_,hPD,rfl⟩
 obtain⟨P,D,hPD⟩:=key;exact Zcoe _ _ _ _ ⟨_,_,_,_,hPD,rfl⟩
theorem Zcwj:Zxu s q m=some (oR (entB s q m)):=by
 have hq:=Z6t c m;have hv4:=Zjj q c.vq m;have hMQ:MQ q.Atoms m:=⟨by omega,h2⟩;have h16:=Zdn (by omega) h2 c.n4.2;have key:∃P D:List Za,Z4i s q m=some (.tup [.agg [I ((entB s q m).getD r0).Num,I ((entB s q m).getD r0).Den,.own 0,.own 1],Bo (entB s q m).isSome],[.arr 149 2 true (P.map Za.c),.arr 149 2 true (D.map Za.c)]):=by
  unfold entB;by_cases e0:qcL s q m=[]
  .rw[if_pos e0];refine⟨[],[],Zbjk _ _ _ _ ⟨[],[],[],false,Zbjh _ _ _ _ ⟨_,Zbk5 c h16 le,?_⟩,?_⟩⟩
   .rw[if_pos (by rw[e0];rfl)]
   .rw[if_neg (by decide)];rfl
  .have hp:=Yba.2 e0;rw[if_neg e0];have hE:=x_EPs c (m:=m);have hR:=Zcwf (l:=qcL s q m) hv4 (by omega)
   cases e1:entP (renL (qcL s q m) (Zbe q m)) (Zbe q m).length with
   |none =>
    rw[e1]at hE;refine⟨[],[],Zbjk _ _ _ _ ⟨[],[],[],false,Zbjh _ _ _ _ ⟨_,Zbk5 c h16 le,?_⟩,?_⟩⟩
    .rw[if_neg (by omega)];exact⟨_,Z6n q c.lq c.vq m hMQ,_,hR,[],[],[],false,hE,rfl⟩
    .rw[if_neg (by decide)];rfl
   |some p =>
    rw[e1]at hE;obtain⟨hok,hrows⟩:=Zb7n e1;obtain⟨hle,hobj⟩:=leP_of hok;obtain⟨P,D,hPD⟩:=Zb7o (Zcuc hle hrows);refine⟨P,D,Zbjk _ _ _ _ ⟨p.Objective,p.Rows,p.Limits,true,Zbjh _ _ _ _ ⟨_,Zbk5 c h16 le,?_⟩,?_⟩⟩
    .rw[if_neg (by omega)];exact⟨_,Z6n q c.lq c.vq m hMQ,_,hR,_,_,_,true,hE,rfl⟩
    .rw[if_pos rfl];exact⟨_,_,_,_,hPD,rfl⟩
 obtain⟨P,D,hPD⟩:=key;exact Zcrj _ _ _ _ ⟨_,_,_,_,hPD,rfl⟩
end
theorem Zb7r{s:Zh}{q:Zc}{m:Int}{r:Za}(h:entB s q m=some r):vR r=true/\0<=r.Num:=by
 unfold entB at h;split at h
 .cases h
 split at h
 .cases h
 .rename_i p _
  cases e:lpV p with
  |none=>rw[e]at h;cases h
  |some d =>
   rw[e]at h;cases h;have:=lpV_good e;exact⟨this.v.vv,this.x⟩
def Zh6(s:Zh)(q:Zc)(l:List Nat):Bool:=l.any λi=>decide (Zbp s q i=0)
def esbV(s:Zh)(q:Zc)(m:Int):Int:=if Zh6 s q (mskL m 0 q.Atoms.length)=true then 0 else match entB s q m with
 |none=>4096
 |some r=>pfl r
theorem esb_nn(s:Zh)(q:Zc)(m:Int):0<=esbV s q m:=by
 unfold esbV;split
 .exact Int.le_refl _
 .split
  .decide
  .exact pfl_pos _
section
variable{s:Zh}{q:Zc}(c:Ctx s q)
include c
theorem l_iem(l:List Nat)(hl:∀i∈l,i<q.Atoms.length)(h4:l.length<=4):∀i,i<=l.length->Zul s q (l.map λn:Nat=>(n:Int)) l.length i=some (Bo (Zh6 s q (l.drop i)),[]):=by
 refine down _ ?_ ?_
 .refine Zbzm _ _ _ _ _ _ ?_;rw[if_neg (by omega),Yg];rfl
 .intro i hi ih;have hm:=hl _ (Yb hi);have hk:=Zlg s.Zi c.le.d (atA q l[i]).Name;rw[(c.look hm).1]at hk;refine Zbzm _ _ _ _ _ _ ?_;rw[if_pos (by omega),wS hi (by omega),Yd hi];refine⟨by omega,_,gM (m:=0) hi,by omega,_,Zez hm,.inr ⟨_,_,_,hk,?_⟩⟩;have e0:Zh6 s q (l[i]::l.drop (i+1))=(decide (Zbp s q l[i]=0) || Zh6 s q (l.drop (i+1))):=rfl;rw[e0,show((tab s q l[i]).Rows.length:Int)=Zbp s q l[i]from rfl];by_cases e:Zbp s q l[i]=0
  .rw[if_pos e,decide_eq_true e];rfl
  .rw[if_neg e,decide_eq_false e,Y7];exact ih
theorem x_iem{m:Int}(h1:1<=m)(h2:m<2 ^ q.Atoms.length):Zuk s q m=some (Bo (Zh6 s q (mskL m 0 q.Atoms.length)),[]):=by
 have h16:=Zdn (by omega) h2 c.n4.2;refine Zcnh _ _ _ _ (.inr ⟨_,Zlp h16,?_⟩);rw[c.msk h1 h2,Yo];have:=l_iem c (mskL m 0 q.Atoms.length) (λi hi=>by have:=Zed hi;omega) (by have:=Zg6 m q.Atoms.length 0;have:=c.n4;omega) 0 (Ya _);simpa using this
theorem Zcwk{m:Int}(h1:1<=m)(h2:m<2 ^ q.Atoms.length)(le:okQ s q m=true):Zvj s q m=some (I (esbV s q m),[]):=by
 refine Zcoi _ _ _ _ ⟨_,Zlq c.le c.lq m,?_⟩;rw[le,if_pos rfl];refine⟨_,x_iem c h1 h2,?_⟩;unfold esbV;rcases ft (Zh6 s q (mskL m 0 q.Atoms.length))with e|e
 .rw[e,if_pos rfl,if_pos rfl]
 .rw[e,if_neg (by decide),if_neg (by decide)];refine⟨_,_,Zcwi c h1 h2 le,?_⟩
  cases e2:entB s q m with
  |none=>rw[if_neg (by decide)]
  |some r =>
   rw[if_pos (by rfl)];have hg:=Zb7r e2;exact⟨_,Zcuh hg.1 hg.2,rfl⟩
theorem l_sem{m:Int}(h1:1<=m)(h2:m<2 ^ q.Atoms.length)(le:okQ s q m=true):∀i,i<=q.Atoms.length->Zro s q m i=some (I (if Zh6 s q (mskL m i (q.Atoms.length-i))=true then 0 else match entB s q m with|none=>4096|some r=>pfl r),[]):=by
 have hn4:=c.n4;refine down _ ?_ ?_
 .refine Zb3a _ _ _ _ _ ?_;rw[if_neg (by omega),Y6,if_neg (by simp[Zh6,mskL])];refine⟨_,_,Zcwj c h1 h2 le,?_⟩
  cases e2:entB s q m with
  |none=>rw[if_neg (by decide)]
  |some r =>
   rw[if_pos (by rfl)];have hg:=Zb7r e2;exact⟨_,Zcui hg.1 hg.2,rfl⟩
 .intro i hi ih;refine Zb3a _ _ _ _ _ ?_;rw[if_pos (by omega),wS hi (by omega),show q.Atoms.length-i=(q.Atoms.length-(i+1))+1 by omega,mskL];refine⟨by omega,?_⟩;by_cases e:andI (shrI m i) 1=1
  .rw[if_pos e,if_pos (show Zx m i=true from decide_eq_true e)];refine⟨_,_,_,_,x_16S c hi,?_⟩;have e0:Zh6 s q (i::mskL m (i+1) (q.Atoms.length-(i+1)))=(decide (Zbp s q i=0) || Zh6 s q (mskL m (i+1) (q.Atoms.length-(i+1)))):=rfl;rw[e0];by_cases e:Zbp s q i=0
   .rw[show((tab s q i).Rows.length:Int)=Zbp s q i from rfl,if_pos e,decide_eq_true e,if_pos (by rfl)]
   .rw[show((tab s q i).Rows.length:Int)=Zbp s q i from rfl,if_neg e,decide_eq_false e,Y7];exact ih
  .rw[if_neg e,if_neg (show ¬Zx m i=true by unfold Zx;simpa using e)];exact ih
theorem Zcwl{m:Int}(h1:1<=m)(h2:m<2 ^ q.Atoms.length)(le:okQ s q m=true):Zrn s q m=some (I (esbV s q m),[]):=by
 refine Zcro _ _ _ _ ⟨_,Zgp c.le c.lq m,?_⟩;rw[le,if_pos rfl];exact l_sem c h1 h2 le 0 (Ya _)
end
def lsF:List Int->Nat->Int->Int->Int×Int
 |[],_,b,r=>(b,r)
 |n::ns,i,b,r=>if 0<=n then(if r=0 then lsF ns (i+1) n i else if n<b then lsF ns (i+1) n i else lsF ns (i+1) b r)else lsF ns (i+1) b r
def bestU(P C:Int)(p e:Option Int):Int×Int :=
 let a:=if C<P then(C,2)else(P,1)
 let b:=match p with
  |some x=>if x<a.1 then(x,3)else a
  |none=>a
 match e with
 |some x=>if x<b.1 then(x,4)else b
 |none=>b
theorem lsF_best{P C:Int}{p e:Option Int}(hP:0<=P)(hC:0<=C)(hp:∀x,p=some x->0<=x)(he:∀x,e=some x->0<=x):lsF [-1,P,C,p.getD (-1),e.getD (-1)] 0 (-1) 0=bestU P C p e:=by
 unfold bestU;have s1:lsF [-1,P,C,p.getD (-1),e.getD (-1)] 0 (-1) 0=lsF [C,p.getD (-1),e.getD (-1)] 2 P 1:=by
  unfold lsF;rw[if_neg (by decide)];unfold lsF;rw[if_pos hP,if_pos rfl];rfl
 have s2:lsF [C,p.getD (-1),e.getD (-1)] 2 P 1=lsF [p.getD (-1),e.getD (-1)] 3 (if C<P then((C,2):Int×Int)else(P,1)).1 (if C<P then((C,2):Int×Int)else(P,1)).2:=by
  conv=>lhs;unfold lsF
  rw[if_pos hC,if_neg (by decide)];by_cases c:C<P
  .rw[if_pos c,if_pos c];rfl
  .rw[if_neg c,if_neg c]
 have gen:∀(x:Option Int) (rest:List Int) (i:Nat) (a:Int×Int),(∀y,x=some y->0<=y)->a.2≠0->lsF (x.getD (-1)::rest) i a.1 a.2=lsF rest (i+1) (match x with|some y=>if y<a.1 then(y,(i:Int))else a|none=>a).1 (match x with|some y=>if y<a.1 then(y,(i:Int))else a|none=>a).2:=by
  intro x rest i a hx ha
  cases x with
  |none =>
   show lsF (-1::rest) i a.1 a.2=_
   rw[lsF,if_neg (by decide)]
  |some y =>
   show lsF (y::rest) i a.1 a.2=_;rw[lsF,if_pos (hx y rfl),if_neg ha];simp only;by_cases c:y<a.1
   .rw[if_pos c,if_pos c]
   .rw[if_neg c,if_neg c]
 have ha2:(if C<P then((C,2):Int×Int)else(P,1)).2≠0:=by
  by_cases c:C<P
  .rw[if_pos c];show(2:Int)≠0;decide
  .rw[if_neg c];show(1:Int)≠0;decide
 rw[s1,s2,gen p _ 3 _ hp ha2,gen e _ 4 _ he (by
  cases p with
  |none=>exact ha2
  |some x =>
   simp only;generalize (if C<P then((C,2):Int×Int)else(P,1))=a at ha2;by_cases c:x<a.1
   .rw[if_pos c];show(3:Int)≠0;decide
   .rw[if_neg c];exact ha2)]
 rfl
theorem l_lst(x:List Int)(hx:x.length<=1000):∀i,i<=x.length->∀b r,Zkk x b r x.length i=some (.tup [I (lsF (x.drop i) i b r).1,I (lsF (x.drop i) i b r).2],[]):=by
 refine down _ ?_ ?_
 .intro b r;refine Zb0i _ _ _ _ _ _ ?_;rw[if_neg (by omega),Yg];rfl
 .intro i hi ih b r;refine Zb0i _ _ _ _ _ _ ?_;rw[if_pos (by omega),wS hi (by omega),Yd hi,lsF];refine⟨by omega,_,gE hi,?_⟩;by_cases c1:0<=x[i]
  .rw[if_pos c1,if_pos c1];by_cases c2:r=0
   .rw[if_pos c2,if_pos c2];exact ih _ _
   .rw[if_neg c2,if_neg c2];by_cases c3:x[i]<b
    .rw[if_pos c3,if_pos c3];exact ih _ _
    .rw[if_neg c3,if_neg c3];exact ih _ _
  .rw[if_neg c1,if_neg c1];exact ih _ _
def Zlt(s:Zh)(q:Zc)(l:List Nat):Option Int:=match l with
 |[a,b]=>some (pairV s q a b)
 |_=>none
def bndU(s:Zh)(q:Zc)(m:Int):Int×Int:=bestU (Zgq s q (mskL m 0 q.Atoms.length) 1) (chG s q 4 0 m) (Zlt s q (mskL m 0 q.Atoms.length)) (if 1<(mskL m 0 q.Atoms.length).length then some (esbV s q m)else none)
theorem pairO_nn(s:Zh)(q:Zc)(l:List Nat):∀x,Zlt s q l=some x->0<=x:=by
 intro x h;unfold Zlt at h;split at h
 .cases h;exact pairS_nn _ _
 .cases h
theorem Zbk6{m:Int}:∀{k i a b:Nat} {l:List Nat},mskL m i k=a::b::l->a<b
 |0,i,a,b,l,h=>by cases h
 |k+1,i,a,b,l,h=>by
  rw[mskL]at h;split at h
  .obtain⟨rfl,h2⟩:=List.cons.inj h
   have:b∈mskL m (i+1) k:=by rw[h2];simp
   have:=Zed this;omega
  .exact Zbk6 h
section
variable{s:Zh}{q:Zc}(c:Ctx s q){m:Int}(h1:1<=m)(h2:m<2 ^ q.Atoms.length)(le:okQ s q m=true)
include c h1 h2 le
theorem x_bounds:Z2h s q m=some (.own 0,[.arr 3 1 true (([-1,Zgq s q (mskL m 0 q.Atoms.length) 1,chG s q 4 0 m,(Zlt s q (mskL m 0 q.Atoms.length)).getD (-1),(if 1<(mskL m 0 q.Atoms.length).length then some (esbV s q m)else none).getD (-1)]:List Int).map ic)]):=by
 have h16:=Zdn (by omega) h2 c.n4.2;refine Zcoj _ _ _ _ ⟨_,Zcv1 c h1 h2 le,_,Zcv5 c h1 h2 le,.inr ⟨_,Zlp h16,?_⟩⟩;rw[c.msk h1 h2];have hmem:∀i∈mskL m 0 q.Atoms.length,i<q.Atoms.length:=λi hi=>by have:=Zed hi;omega
 have hne:=@Zbk6 m q.Atoms.length 0;have hE:=Zcwk c h1 h2 le;generalize mskL m 0 q.Atoms.length=l at hmem hne
 match l with
 |[a,b] =>
  rw[if_pos (by simp)];have hab:=hne rfl;refine⟨_,rfl,_,rfl,_,Zcv8 c (hmem a (by simp)) (hmem b (by simp)) (by omega),_,rfl,?_⟩;rw[if_pos (by simp)]
  exact⟨_,hE,_,rfl,rfl⟩
 |[] =>
  rw[if_neg (by simp),if_neg (by simp)];rfl
 |[a] =>
  rw[if_neg (by simp),if_neg (by simp)];rfl
 |a::b::d::l =>
  rw[if_neg (by simp;omega),if_pos (by simp;omega)];refine⟨_,hE,_,rfl,?_⟩;rw[if_pos (by simp)];rfl
theorem x_least:Zvk s q m=some (.tup [I (bndU s q m).1,I (bndU s q m).2],[]):=by
 have h16:=Zdn (by omega) h2 c.n4.2;refine Zcok _ _ _ _ ⟨_,x_bounds c h1 h2 le,?_⟩;have hp:=prod_in c (m:=m);have:=l_lst ([-1,Zgq s q (mskL m 0 q.Atoms.length) 1,chG s q 4 0 m,(Zlt s q (mskL m 0 q.Atoms.length)).getD (-1),(if 1<(mskL m 0 q.Atoms.length).length then some (esbV s q m)else none).getD (-1)]:List Int) (by simp) 0 (Ya _) (-1) 0
 rw[Yq,lsF_best hp.1 (ch_in c h16) (pairO_nn s q _) (by
  intro x hx;split at hx
  .cases hx;exact esb_nn s q m
  .cases hx)]at this
 exact this
theorem x_best:Zxz s q m=some (.tup [I (bndU s q m).1,I (bndU s q m).2],[]):=by
 have h16:=Zdn (by omega) h2 c.n4.2;have hmem:∀i∈mskL m 0 q.Atoms.length,i<q.Atoms.length:=λi hi=>by have:=Zed hi;omega
 have hne:=@Zbk6 m q.Atoms.length 0;have hE:=Zcwl c h1 h2 le;have hM:=Zcvw h16;rw[c.msk h1 h2]at hM;refine Zb3b _ _ _ _ ⟨_,Zgp c.le c.lq m,?_⟩;rw[le,if_pos rfl];refine⟨_,Zcv2 c h1 h2 le,_,Zcv7 c h1 h2 le,?_⟩;unfold bndU;generalize Zgq s q (mskL m 0 q.Atoms.length) 1=P;generalize chG s q 4 0 m=C;generalize mskL m 0 q.Atoms.length=l at hmem hne hM;have j1:∀(n r:Int),1<l.length->Zx0 s q (l.map λn:Nat=>(n:Int)) m n r=some (.tup [I (if esbV s q m<n then((esbV s q m,4):Int×Int)else(n,r)).1,I (if esbV s q m<n then((esbV s q m,4):Int×Int)else(n,r)).2],[]):=by
  intro n r hl;refine Zcrp _ _ _ _ _ _ _ ?_;rw[if_pos (by rw[Yo];omega)];refine⟨_,hE,?_⟩;by_cases cc:esbV s q m<n
  .rw[if_pos cc,if_pos cc]
  .rw[if_neg cc,if_neg cc]
 have j1a:∀(n r x:Int),1<l.length->Zx1 s q (l.map λn:Nat=>(n:Int)) m n r x false=some (.tup [I (if esbV s q m<n then((esbV s q m,4):Int×Int)else(n,r)).1,I (if esbV s q m<n then((esbV s q m,4):Int×Int)else(n,r)).2],[]):=by
  intro n r x hl;refine Zcrq _ _ _ _ _ _ _ _ _ ?_;rw[if_pos (by rw[Yo];omega)];refine⟨_,hE,?_⟩;by_cases cc:esbV s q m<n
  .rw[if_pos cc,if_pos cc]
  .rw[if_neg cc,if_neg cc]
 have j1b:∀(n r:Int),Zx2 s q (l.map λn:Nat=>(n:Int)) m n r false=some (.tup [I (match(if 1<l.length then some (esbV s q m)else none:Option Int)with|some x=>if x<n then((x,4):Int×Int)else(n,r)|none=>(n,r)).1,I (match(if 1<l.length then some (esbV s q m)else none:Option Int)with|some x=>if x<n then((x,4):Int×Int)else(n,r)|none=>(n,r)).2],[]):=by
  intro n r;refine Zcrr _ _ _ _ _ _ _ _ ?_;by_cases hl:1<l.length
  .rw[if_pos (by rw[Yo];omega),if_pos hl];refine⟨_,hE,?_⟩;simp only;by_cases cc:esbV s q m<n
   .rw[if_pos cc,if_pos cc]
   .rw[if_neg cc,if_neg cc]
  .rw[if_neg (by rw[Yo];omega),if_neg hl]
 by_cases two:l.length=2
 .obtain⟨a,b,rfl⟩:∃a b,l=[a,b]:=by
   match l,two with
   |[a,b],_=>exact⟨a,b,rfl⟩
  .have hab:=hne rfl;have hPB:=Zcv9 c (hmem a (by simp)) (hmem b (by simp)) (show a≠b by omega);unfold bestU Zlt;simp only[Yw,Yc1];rw[if_pos (show(1:Nat)<0+1+1 by decide)];simp only;by_cases cP:C<P
   .rw[if_pos cP];simp only[if_pos cP];refine⟨_,hM,?_⟩;rw[if_pos (by rfl)];refine⟨_,rfl,_,rfl,_,hPB,?_⟩;by_cases c3:pairV s q a b<C
    .rw[if_pos c3];simp only[if_pos c3];exact j1 _ _ (by simp)
    .rw[if_neg c3];simp only[if_neg c3];exact j1a _ _ _ (by simp)
   .rw[if_neg cP];simp only[if_neg cP];refine⟨_,hM,?_⟩;rw[if_pos (by rfl)];refine⟨_,rfl,_,rfl,_,hPB,?_⟩;by_cases c3:pairV s q a b<P
    .rw[if_pos c3];simp only[if_pos c3];exact j1 _ _ (by simp)
    .rw[if_neg c3];simp only[if_neg c3];exact j1a _ _ _ (by simp)
 .have hp:Zlt s q l=none:=by
   unfold Zlt;split
   .exact absurd rfl two
   .rfl
  unfold bestU;rw[hp];simp only;by_cases cP:C<P
  .rw[if_pos cP];simp only[if_pos cP];refine⟨_,hM,?_⟩;rw[if_neg (by rw[Yo];omega)];exact j1b _ _
  .rw[if_neg cP];simp only[if_neg cP];refine⟨_,hM,?_⟩;rw[if_neg (by rw[Yo];omega)];exact j1b _ _
end
open Classical in
noncomputable def upF(s:Zh)(q:Zc)(m:Int):Int×Int:=if okQ s q m=true then bndU s q m else(-1,0)
theorem Zcwm{s:Zh}{q:Zc}(h:Zc0 s)(hq:LeQ q)(m:Int):Zxz s q m=some (.tup [I (upF s q m).1,I (upF s q m).2],[]):=by
 unfold upF;rcases ft (okQ s q m)with e|e
 .obtain⟨c,h1,h2⟩:=Zjk h hq e;rw[if_pos e];exact x_best c h1 h2 e
 .rw[if_neg (by rw[e];decide)];refine Zb3b _ _ _ _ ⟨_,Zgp h hq m,?_⟩;rw[if_neg (by rw[e];decide)]
theorem Zcwn{s:Zh}{q:Zc}(h:Zc0 s)(hq:LeQ q)(m:Int):Zx3 s q m=some (I (upF s q m).1,[]):=Zcrs _ _ _ _ ⟨_,_,Zcwm h hq m,rfl⟩
end Go.Proofs.YtnnjbejcffjgfaaGreat
