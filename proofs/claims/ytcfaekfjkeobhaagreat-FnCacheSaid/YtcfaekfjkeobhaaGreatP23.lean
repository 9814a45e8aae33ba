/-
  Parts of the proofs for this seat: IC IF IG IH IJ WC IL.
-/
import Derived.Test.YtcfaekfjkeobhaaGreatP22
set_option linter.unusedSectionVars false
set_option linter.unusedSimpArgs false
set_option linter.unusedVariables false
set_option maxRecDepth 100000
set_option maxHeartbeats 4000000
namespace Go.Proofs.YtcfaekfjkeobhaaGreat
open Go.AM
structure Zbms (m:Ze) (q:Zc) (sizes:List Int) (out:List Za) (table:List (List Za)) (M A:Int) (sh:List Int):Prop where
 ok:Zi3 m sizes q.Atoms out M A sh
 diff:Zhm M A=M-A
 sh:Zmb q A (Zhm M A)=some (.own 0,[.arr 3 1 true (sh.map ic)])
 tA:table[A.toNat]?=some (ofM out A)
 tB:table[(M-A).toNat]?=some (ofM out (M-A))
theorem i_splits{m:Ze}{q:Zc}{sizes:List Int}(b:Base m q sizes){M:Int}(cd:M16 M)(hM:M≠0)(cc:List (List Za))(ht:M.toNat<cc.length)(out:List Za)(cl:out.length<=1000)(ps:List (Int×List Int))(cn:ps.length<=100)
  (ok:∀p∈ps,Zbms m q sizes out cc M p.1 p.2) (fr fr1:Bool) (x:List Int) (x2 x3:Int) (r:AV×List Blk) :
  ∀i,i<=ps.length->∀a0 a1 a2 a3 a4:Za,(∀f1 E,((ps.drop i).foldl (oneJ m sizes M out) [a0,a1,a2,a3,a4]).filter sm=E->
   Zj9 m q f1 (cc.set M.toNat E) (fr1 && flat (E.map Za.c)) (out++E) x sizes x2 (w (x3+1))=some r)->
  Zhy m q fr cc fr1 out m q sizes M a0 a1 a2 a3 a4 (sm a0) (sm a1) (sm a2) (sm a3) (sm a4) x (ps.map Prod.fst) sizes M x2 x3 ps.length i=some r:=by
 refine down _ ?_ ?_
 .intro a0 a1 a2 a3 a4 h;refine Zbko _ _ _ _ _ _ _ _ _ _ _ _ _ _ _ _ _ _ _ _ _ _ _ _ _ _ _ _ _ ?_;rw[if_neg (by omega)];obtain⟨fr',he⟩:=Zb2q m q sizes M a0 a1 a2 a3 a4;have hl:(there a0 a1 a2 a3 a4).length<=5:=Ybr _ _;exact⟨fr',there a0 a1 a2 a3 a4,he,by omega,_,Ya ht,by omega,h _ _ (by rw[Yy];rfl)⟩
 .intro i hi ih a0 a1 a2 a3 a4 h;have h4:=Zw (i:=i) (by omega);have hw:w ((i:Int)+1)=((i+1:Nat):Int):=by rw[show w ((i:Int)+1)=(i:Int)+1 from h4];simp
  rw[Yi hi,Yv]at h;obtain⟨o,hd,hsh,tA,tB⟩:=ok _ (Yf hi);have hget:(ps.map Prod.fst)[i]?=some ps[i].1:=by rw[Ycn,Ya hi];rfl
  generalize ps[i]=p at *
  obtain⟨A,sh⟩:=p;simp only at o hd hsh tA tB hget;have hp:=o.pair;have hE:=o.left;have hF:=o.right;have pA:=Zeb hp.a16;have pB:=Zeb hp.b16;have lE:=hE.len _ hE.best;have lF:=hF.len _ hF.best;have leE:=hE.le;have leF:=hF.le;obtain⟨b0,b1,b2,b3,b4,t,hJ,htt,hx⟩:=x_offJ m b.hm q b.hq b.hv sizes b.hs b.hsv cd hM hp (a:=Z5 (ofM out A)) (b:=Z5 (ofM out (M-A))) (k:=3) (v:=0) (o:=-1) (by omega) (by omega) (hE.mask _ hE.best) (hF.mask _ hF.best) (hE.makes _ hE.best) (hF.makes _ hF.best) hash_p ⟨by omega,by omega⟩ a0 a1 a2 a3 a4;have hone:oneJ m sizes M out [a0,a1,a2,a3,a4] (A,sh)=sh.foldl (Zfq m sizes A (M-A) (ofM out A) (ofM out (M-A))) ((ofM out A).foldl (Ze9 m sizes (Z5 (ofM out (M-A)))) [b0,b1,b2,b3,b4]):=by
   unfold oneJ Zh4;rw[<-hJ]
  rw[hone]at h;have hnext:Zka m q fr cc fr1 out m q sizes M b0 b1 b2 b3 b4 (sm b0) (sm b1) (sm b2) (sm b3) (sm b4) (Z5 (ofM out (M-A))).Plan x (ps.map Prod.fst) sizes M A (ofM out A) (ofM out (M-A)) x2 x3 ps.length i (ofM out A) (ofM out A).length 0=some r:=by
   refine i_nested b cd hM hp hE hF sh hsh fr cc fr1 out x _ x2 x3 _ _ r 0 (Yd _) b0 b1 b2 b3 b4 ?_;intro c0 c1 c2 c3 c4 hc;refine i_merges b cd hM hp hE hF sh o.len o.vars fr cc fr1 out x _ x2 x3 _ _ r 0 (Yd _) c0 c1 c2 c3 c4 ?_;intro d0 d1 d2 d3 d4 hdd;rw[hw];rw[Yk]at hc hdd;rw[hc,hdd]at h;exact ih d0 d1 d2 d3 d4 h
  refine Zbko _ _ _ _ _ _ _ _ _ _ _ _ _ _ _ _ _ _ _ _ _ _ _ _ _ _ _ _ _ ?_;rw[if_pos (by omega)];refine⟨by omega,A,by rw[Yg];exact hget,hp.a16.1,_,tA,by rw[hd];exact hp.b16.1,_,by rw[hd];exact tB,_,Zy2 _ hF.ne (by omega),_,Zy2 _ hE.ne (by omega),_,Zpw _ _ _ _ (by omega) (by omega),?_⟩;rcases htt with rfl|rfl
  .exact .inl ⟨m,q,sizes,M,b0,b1,b2,b3,b4,_,_,_,_,_,hx,hnext⟩
  .exact .inr ⟨m,q,sizes,M,b0,b1,b2,b3,b4,_,_,_,_,_,_,hx,hnext⟩
def Zco(q:Zc)(M:Int):List (Int×List Int):=(Zz q.Atoms M).map λA=>(A,Zha q A (M-A))
def Zkp(m:Ze)(sizes:List Int)(q:Zc)(M a:Int):Za:=⟨M,((q.Atoms[a.toNat]?).map λx=>x.Vars.headD 0).getD 0,Zbg m.Scan (szAt sizes M) 0 (szAt sizes M),⟨[⟨1,a,0⟩]⟩⟩
def entM(m:Ze)(sizes:List Int)(q:Zc)(out:List Za)(M:Int):List Za:=match Zea M with
 |[a]=>[Zkp m sizes q M a]
 |_=>(Zko m sizes M out (Zco q M)).filter sm
theorem Zbmt:∀a:Fin 16,(oneB (ofI (a.1:Int))=true->(Zea (a.1:Int)=[((0:Nat):Int)]/\(a.1:Int)=shlI 1 (0:Nat))\/(Zea (a.1:Int)=[((1:Nat):Int)]/\(a.1:Int)=shlI 1 (1:Nat))\/(Zea (a.1:Int)=[((2:Nat):Int)]/\(a.1:Int)=shlI 1 (2:Nat))\/(Zea (a.1:Int)=[((3:Nat):Int)]/\(a.1:Int)=shlI 1 (3:Nat)))/\(oneB (ofI (a.1:Int))=false->(Zea (a.1:Int)).length≠1):=by decide
theorem Z7h{M:Int}(h:M16 M)(ho:oneB (ofI M)=true):∃i:Nat,i<4/\Zea M=[(i:Int)]/\M=shlI 1 i:=by
 obtain⟨a,rfl⟩:=m16 h;rcases(Zbmt a).1 ho with h|h|h|h
 .exact⟨0,by omega,h⟩
 .exact⟨1,by omega,h⟩
 .exact⟨2,by omega,h⟩
 .exact⟨3,by omega,h⟩
theorem Z7i{M:Int}(h:M16 M)(ho:oneB (ofI M)=false):(Zea M).length≠1:=by
 obtain⟨a,rfl⟩:=m16 h;exact(Zbmt a).2 ho
theorem Z7j{m:Ze}{sizes:List Int}{q:Zc}{out:List Za}{M a:Int}(h:Zea M=[a]):entM m sizes q out M=[Zkp m sizes q M a]:=by unfold entM;rw[h]
theorem Z7k{m:Ze}{sizes:List Int}{q:Zc}{out:List Za}{M:Int}(h:(Zea M).length≠1):entM m sizes q out M=(Zko m sizes M out (Zco q M)).filter sm:=by
 unfold entM;split
 .rename_i a e;rw[e]at h;simp at h
 .rfl
theorem Z7l{m:Ze}{sizes:List Int}{a b:Za}{k v o:Int}(ho:-1<=o/\o<=3)(hM:orI a.Mask b.Mask≠0){mine:List Za}(h5:mine.length=5):(offJ m sizes a b k v o mine).filter sm≠[]:=by
 refine List.ne_nil_of_mem (a:=offE ((mine[(o+1).toNat]?).getD zE) (orI a.Mask b.Mask) o (jc m sizes a b k) (Zcv a.Plan.Steps b.Plan.Steps k v)) (Y4.2 ⟨?_,sm_off hM⟩);unfold offJ;exact List.mem_set (by omega) _
theorem Zbmu{m:Ze}{sizes:List Int}{b:Za}:∀{E c:List Za},(∀e∈E,(-1<=e.Order/\e.Order<=3)/\orI e.Mask b.Mask≠0)->c.length=5->c.filter sm≠[]->(E.foldl (Ze9 m sizes b) c).filter sm≠[]
 |[],_,_,_,h=>h
 |e::E,c,he,h5,h=>by
  rw[Yv];obtain⟨e1,e2⟩:=he e (by simp);exact Zbmu (λx hx=>he x (by simp[hx])) (by rw[show(Ze9 m sizes b c e).length=c.length from Zgm];exact h5) (Z7l e1 e2 h5)
theorem Zbmv{m:Ze}{sizes:List Int}{A B:Int}{E F:List Za}:∀{sh:List Int} {c:List Za},(∀v∈sh,(-1<=v/\v<=3)/\orI (inp m sizes A E v).Mask (inp m sizes B F v).Mask≠0)->c.length=5->c.filter sm≠[]->(sh.foldl (Zfq m sizes A B E F) c).filter sm≠[]
 |[],_,_,_,h=>h
 |v::sh,c,he,h5,h=>by
  rw[Yv];obtain⟨e1,e2⟩:=he v (by simp);exact Zbmv (λx hx=>he x (by simp[hx])) (by rw[show(Zfq m sizes A B E F c v).length=c.length from Zgm];exact h5) (Z7l e1 e2 h5)
theorem one_some{m:Ze}{sizes:List Int}{qa:List Atom}{M:Int}{l:List Za}{p:Int×List Int}(hM:M≠0)(hg:Zbt m.Sort_)(c:Ze7 sizes)(o:Zi3 m sizes qa l M p.1 p.2){mine:List Za}(h5:mine.length=5):(oneJ m sizes M l mine p).filter sm≠[]:=by
 have hp:=o.pair;unfold oneJ Zh4;refine Zbmv (λv hv=>⟨(o.vars v hv).1,?_⟩) (by rw[Zy8,Zgm];exact h5) (Zbmu (λe he=>⟨o.left.ord e he,?_⟩) (by rw[Zgm];exact h5) (Z7l (by omega) ?_ h5))
 .rw[(Zkn o.left hg c hp.a16 (o.vars v hv).2.1).1,(Zkn o.right hg c hp.b16 (o.vars v hv).2.2).1,hp.or];exact hM
 .rw[o.left.mask e he,o.right.mask _ o.right.best,hp.or];exact hM
 .rw[o.left.mask _ o.left.best,o.right.mask _ o.right.best,hp.or];exact hM
theorem Zbmw{m:Ze}{sizes:List Int}{qa:List Atom}{M:Int}{l:List Za}(hM:M≠0)(hg:Zbt m.Sort_)(cc:Ze7 sizes):∀{ps:List (Int×List Int)} {c:List Za},(∀p∈ps,Zi3 m sizes qa l M p.1 p.2)->c.length=5->(ps≠[]\/c.filter sm≠[])->(ps.foldl (oneJ m sizes M l) c).filter sm≠[]
 |[],_,_,_,h=>by rcases h with h|h;exact absurd rfl h;exact h
 |p::ps,c,hp,h5,_=>by
  rw[Yv];exact Zbmw hM hg cc (λx hx=>hp x (by simp[hx])) (by rw[show(oneJ m sizes M l c p).length=c.length from Zbmo];exact h5) (.inr (one_some hM hg cc (hp p (by simp)) h5))
structure Inv (m:Ze) (sizes:List Int) (q:Zc) (done:List Int) (out:List Za):Prop where
 held:∀M∈done,Held m sizes q.Atoms M (ofM out M)
 only:∀e∈out,e.Mask∈done
 len:out.length<=5*done.length
theorem Zbmx{q:Zc}(hv:Zn q.Zf q.Atoms=true){A B:Int}:∀v∈Zha q A B,(-1<=v/\v<=3)/\vin q.Atoms A v=true/\vin q.Atoms B v=true:=by
 intro v hvm;unfold Zha at hvm;rw[Y4]at hvm;obtain⟨h1,h2⟩:=hvm;rw[Zjg]at h2;have key:∀m,v∈Ze6 q m->(0<=v/\v<=3)/\vin q.Atoms m v=true:=by
  intro m hm;unfold Ze6 varL at hm;rw[Y3]at hm;obtain⟨u,hu,rfl⟩:=hm;rw[Y4,Ybp]at hu;have hn:=Zf1 hv;refine⟨by omega,?_⟩;unfold vin;rw[Yc];exact⟨by simp[inR];omega,by rw[Yg];exact hu.2⟩
 obtain⟨k1,k2⟩:=key A h1;obtain⟨k3,k4⟩:=key B h2;exact⟨by omega,k2,k4⟩
theorem Zb3g{q:Zc}(hv:Zn q.Zf q.Atoms=true)(A B:Int):(Zha q A B).length<=1000:=by
 have:=Zt4 q hv A;unfold Zha;have:=Ybr (has (Ze6 q B)) (Ze6 q A);omega
theorem sz_ok{q:Zc}{sizes:List Int}(c:Zb5 q.Zf q.Atoms sizes=true){M:Int}(h:MQ q.Atoms M):SzOk sizes M:=by
 unfold Zb5 at c;simp only[Yc,decide_eq_true_eq]at c;have hf:=Zg8 c.1.1;have h1:=h.1;have h2:=h.2;have hl:M.toNat<sizes.length:=by omega
 refine⟨h1,?_⟩;unfold szAt;rw[Ya hl];rfl
theorem Z7m{qa:List Atom}{M A:Int}(hM:MQ qa M)(h:A∈Zz qa M):MQ qa A/\MQ qa (M-A):=by
 obtain⟨h1,h2,_⟩:=Zud h;have:=hM.2;exact⟨⟨by omega,by omega⟩,⟨by omega,by omega⟩⟩
theorem Zue{m:Ze}{q:Zc}{sizes:List Int}(b:Base m q sizes){done:List Int}{out:List Za}(hi:Inv m sizes q done out){M:Int}(hM:MQ q.Atoms M)(hc:conn q.Atoms M=true)(hd:∀A∈Zz q.Atoms M,A∈done/\M-A∈done):∀p∈Zco q M,Zi3 m sizes q.Atoms out M p.1 p.2:=by
 intro p hp;unfold Zco at hp;rw[Y3]at hp;obtain⟨A,hA,rfl⟩:=hp;obtain⟨d1,d2⟩:=hd A hA;obtain⟨q1,q2⟩:=Z7m hM hA;exact⟨Zb3f b.hv hM hc hA,hi.held A d1,hi.held _ d2,sz_ok b.hsv q1,sz_ok b.hsv q2,Zb3g b.hv _ _,Zbmx b.hv⟩
theorem Z7n{m:Ze}{q:Zc}{sizes:List Int}(b:Base m q sizes){done:List Int}{out:List Za}(hi:Inv m sizes q done out){M:Int}(hM:MQ q.Atoms M)(h0:M≠0)(hc:conn q.Atoms M=true)(hd:∀A∈Zz q.Atoms M,A∈done/\M-A∈done):Held m sizes q.Atoms M (entM m sizes q out M):=by
 have h16:=(hM.m16 b.hv).1
 cases ho:oneB (ofI M)with
 |true =>
  obtain⟨i,hi4,ha,rfl⟩:=Z7h h16 ho;rw[Z7j ha];have hl:i<q.Atoms.length:=by
   have h2:=hM.2;have hl4:=Zcs b.hv;have e:shlI 1 (i:Nat)=2 ^ i:=by
    have:i=0\/i=1\/i=2\/i=3:=by omega
    rcases this with rfl|rfl|rfl|rfl<;>decide
   rw[e]at h2;have h3:(2:Int) ^ i<2 ^ q.Atoms.length:=h2;rw[<-Zg9,<-Zg9]at h3;have h4:2 ^ i<2 ^ q.Atoms.length:=by omega
   exact(Nat.pow_lt_pow_iff_right (by omega)).1 h4
  have hmk:=Zb2p (m:=m) (sizes:=sizes) hl;have hu:=Zgk m.Scan (szAt sizes (shlI 1 i)) 0 (szAt sizes (shlI 1 i));rw[w_id (by omega) (by omega)]at hmk;have hvar:=Zk3 b.hv _ (Yf hl);have he:Zkp m sizes q (shlI 1 i) (i:Int)=⟨shlI 1 i,q.Atoms[i].Vars.headD 0,Zbg m.Scan (szAt sizes (shlI 1 i)) 0 (szAt sizes (shlI 1 i)),⟨[⟨1,i,0⟩]⟩⟩:=by
   simp[Zkp,Ya hl]
  have hpop:popc (shlI 1 (i:Nat))=1:=by
   have:i=0\/i=1\/i=2\/i=3:=by omega
   rcases this with rfl|rfl|rfl|rfl<;>decide
  have hord:0<=q.Atoms[i].Vars.headD 0/\q.Atoms[i].Vars.headD 0<=3:=by
   cases hvs:q.Atoms[i].Vars with
   |nil=>rw[hvs]at hvar;simp at hvar
   |cons v vs =>
    have:=Zvv b.hv _ (Yf hl) v (by rw[hvs];simp);have hn:=Zf1 b.hv;simp[inR]at this;simp only[List.headD_cons];omega
  rw[he];refine⟨by simp,by simp,?_,?_,?_,?_⟩
  .intro e hm;rw[List.mem_singleton.1 hm]
  .intro e hm;rw[List.mem_singleton.1 hm];exact⟨by show -1<=q.Atoms[i].Vars.headD 0;omega,hord.2⟩
  .intro e hm;rw[List.mem_singleton.1 hm];exact hmk
  .intro e hm;rw[List.mem_singleton.1 hm];simp[hpop]
 |false =>
  rw[Z7k (Z7i h16 ho)];have ok:=Zue b hi hM hc hd;have hne:=split_ne b.hv hM h0 hc ho;refine Zb27 (Z7f b.hg b.hcl ok (Zbmp m sizes q.Atoms M)) (Zbmw h0 b.hg b.hcl ok (by simp) (.inl ?_));unfold Zco;intro hh;exact hne (List.map_eq_nil_iff.1 hh)
theorem Zbmy(a b:List Za)(M:Int):ofM (a++b) M=ofM a M++ofM b M:=by simp[ofM]
theorem ofM_all{l:List Za}{M:Int}(h:∀e∈l,e.Mask=M):ofM l M=l:=by
 unfold ofM;rw[List.filter_eq_self];intro e he;simp[h e he]
theorem ofM_no{l:List Za}{M:Int}(h:∀e∈l,e.Mask≠M):ofM l M=[]:=by
 unfold ofM;rw[Ycz];intro e he;simp[h e he]
theorem Zbmz{m:Ze}{q:Zc}{sizes:List Int}(b:Base m q sizes){done:List Int}{out:List Za}(hi:Inv m sizes q done out){M:Int}(hM:MQ q.Atoms M)(h0:M≠0)(hc:conn q.Atoms M=true)(hd:∀A∈Zz q.Atoms M,A∈done/\M-A∈done)(hn:M ∉ done) :
  Inv m sizes q (done++[M]) (out++entM m sizes q out M)/\(∀A∈done,ofM (out++entM m sizes q out M) A=ofM out A)/\ofM (out++entM m sizes q out M) M=entM m sizes q out M:=by
 have hh:=Z7n b hi hM h0 hc hd;have e1:∀A∈done,ofM (out++entM m sizes q out M) A=ofM out A:=by
  intro A hA;rw[Zbmy,ofM_no (l:=entM m sizes q out M),Ybd];intro e he;rw[hh.mask e he];intro h;exact hn (h▸hA)
 have e2:ofM (out++entM m sizes q out M) M=entM m sizes q out M:=by
  rw[Zbmy,ofM_all hh.mask,ofM_no (l:=out),Ybv];intro e he h;exact hn (h▸hi.only e he)
 refine⟨⟨?_,?_,?_⟩,e1,e2⟩
 .intro A hA;rcases Yh.1 hA with hA|hA
  .rw[e1 A hA];exact hi.held A hA
  .simp at hA;subst hA;rw[e2];exact hh
 .intro e he;rcases Yh.1 he with he|he
  .exact Yb8 _ (hi.only e he)
  .rw[hh.mask e he];simp
 .have:=hh.le;have:=hi.len;simp only[Yj,Yx,Ybm];omega
theorem Zmn{qa:List Atom}{M:Int}:M∈Zp qa↔1<=M/\M<2 ^ qa.length/\conn qa M=true:=by
 unfold Zp Zgj;rw[Y3];have hp:=Zg9 qa.length;constructor
 .rintro⟨k,hk,rfl⟩;rw[Y4,List.mem_range'_1]at hk;exact⟨by omega,by omega,hk.2⟩
 .rintro⟨h1,h2,h3⟩;refine⟨M.toNat,?_,by omega⟩;rw[Y4,List.mem_range'_1];have e:((M.toNat:Nat):Int)=M:=by omega
  exact⟨by omega,by rw[e];exact h3⟩
theorem Zuf(qa:List Atom):(Zp qa).Pairwise (·<·):=by
 unfold Zp Zgj;rw[List.pairwise_map];refine List.Pairwise.filter _ ?_;refine(List.pairwise_lt_range' (s:=1) (n:=2 ^ qa.length-1)).imp ?_;intro a b h;omega
theorem Zy9{n:Int}{qa:List Atom}(hv:Zn n qa=true):(Zp qa).length<=15:=by
 have h16:2 ^ qa.length<=16:=Nat.pow_le_pow_right (by omega:0<2) (Zcs hv).2;have:=Zb1r (qa:=qa) (k:=1) (n:=2 ^ qa.length-1);unfold Zp;omega
theorem Zbm0{Ms:List Int}(hu:Ms.Pairwise (·<·)){i:Nat}(hi:i<Ms.length){A:Int}(hA:A∈Ms)(h:A<Ms[i]):A∈Ms.take i:=by
 obtain⟨j,hj,rfl⟩:=List.mem_iff_getElem.1 hA;rw[Yb6]at hu;have hji:j<i:=by
  rcases Yco j i with q|rfl|q
  .exact q
  .omega
  .have:=hu i j hi hj q;omega
 rw[List.mem_take_iff_getElem];exact⟨j,by omega,rfl⟩
theorem Z7o{Ms:List Int}(hu:Ms.Pairwise (·<·)){i:Nat}(hi:i<Ms.length):Ms[i] ∉ Ms.take i:=by
 intro h;rw[List.mem_take_iff_getElem]at h;obtain⟨j,hj,e⟩:=h;rw[Yb6]at hu;have:=hu j i (by omega) hi (by omega);omega
def Zbb(m:Ze)(sizes:List Int)(q:Zc):Nat->List Za
 |0=>[]
 |i+1=>Zbb m sizes q i++entM m sizes q (Zbb m sizes q i) ((Zp q.Atoms).getD i 0)
theorem Zmo{q:Zc}{i:Nat}(hi:i<(Zp q.Atoms).length):MQ q.Atoms (Zp q.Atoms)[i]/\(Zp q.Atoms)[i]≠0/\conn q.Atoms (Zp q.Atoms)[i]=true/\∀A∈Zz q.Atoms (Zp q.Atoms)[i],A∈(Zp q.Atoms).take i/\(Zp q.Atoms)[i]-A∈(Zp q.Atoms).take i:=by
 obtain⟨h1,h2,h3⟩:=Zmn.1 (Yf hi);refine⟨⟨by omega,h2⟩,by omega,h3,?_⟩;intro A hA;obtain⟨a1,a2,a3,a4,a5⟩:=Zud hA;exact⟨Zbm0 (Zuf _) hi (Zmn.2 ⟨a1,by omega,a4⟩) a2,Zbm0 (Zuf _) hi (Zmn.2 ⟨by omega,by omega,a5⟩) (by omega)⟩
theorem Zkq{m:Ze}{q:Zc}{sizes:List Int}(b:Base m q sizes):∀i,i<=(Zp q.Atoms).length->Inv m sizes q ((Zp q.Atoms).take i) (Zbb m sizes q i)
 |0,_=>⟨by simp,by simp[Zbb],by simp[Zbb]⟩
 |i+1,h=>by
  have hi:i<(Zp q.Atoms).length:=by omega
  obtain⟨c1,c2,c3,c4⟩:=Zmo hi;have:=(Zbmz b (Zkq b i (by omega)) c1 c2 c3 c4 (Z7o (Zuf _) hi)).1;rw[Zbb,Ycu hi];have e:(Zp q.Atoms).getD i 0=(Zp q.Atoms)[i]:=by simp[List.getD,hi]
  rw[e];exact this
theorem Zmp{m:Ze}{q:Zc}{sizes:List Int}(b:Base m q sizes){i:Nat}(hi:i<=(Zp q.Atoms).length):(Zbb m sizes q i).length<=75:=by
 have h1:=(Zkq b i hi).len;have h2:=Zy9 b.hv;rw[Yo]at h1;omega
theorem Zb3h{M v c:Int}{x:List Zb}(hM:M≠0)(hv:0<=v/\v<=3):[offK 0 zE M v c x,offK 1 zE M v c x,offK 2 zE M v c x,offK 3 zE M v c x,offK 4 zE M v c x].filter sm=[⟨M,v,c,⟨x⟩⟩]:=by
 have h:v=0\/v=1\/v=2\/v=3:=by omega
 rcases h with rfl|rfl|rfl|rfl<;>simp[offK,offE,sm,zE,hM]
theorem Zb3i:∀(i:Fin 4) (a:Fin 16),1<=a.1->(a.1:Int)<shlI 1 (i.1:Nat)->andI (a.1:Int) (shlI 1 (i.1:Nat))≠a.1:=by decide
theorem Zb3j{qa:List Atom}{i:Nat}(hi:i<4):Zz qa (shlI 1 i)=[]:=by
 cases h:Zz qa (shlI 1 i)with
 |nil=>rfl
 |cons A l =>
  exfalso;obtain⟨h1,h2,h3,_⟩:=Zud (qa:=qa) (M:=shlI 1 i) (A:=A) (by rw[h];simp);have h16:M16 (shlI 1 (i:Nat)):=(f_shl ⟨i,hi⟩ ⟨0,by omega⟩).2;obtain⟨a,rfl⟩:=m16 (x:=A) (by omega);exact Zb3i ⟨i,hi⟩ a (by omega) h2 h3
theorem flat_ne{E:List Za}(h:E≠[]):flat (E.map Za.c)=false:=by
 cases E with
 |nil=>exact absurd rfl h
 |cons e E=>simp[flat,Za.c,Zbh]
theorem Zb3k{qa:List Atom}{n:Int}(hv:Zn n qa=true){M A:Int}(hM:MQ qa M)(h:A∈Zz qa M):Zhm M A=M-A:=by
 obtain⟨h1,h2,h3,_⟩:=Zud h;have h16:=(hM.m16 hv).1;obtain⟨a,rfl⟩:=m16 (x:=A) (by omega);obtain⟨b,rfl⟩:=m16 h16;exact(f_diff a b h3).1
theorem l_copyT(fr:Bool)(out:List Za)(hl:out.length<=1000)(hs:∀e∈out,e.Plan.Steps.length<=1000):∀i,i<=out.length->Zs9 fr out out.length i=some (.own 0,[.arr 126 4 fr (out.map Za.c)]):=by
 refine down _ ?_ ?_
 .refine Zbkp _ _ _ _ _ ?_;rw[if_neg (by omega)]
 .intro i hi ih;have h4:=Zw (i:=i) (by omega);have hw:w ((i:Int)+1)=((i+1:Nat):Int):=by rw[show w ((i:Int)+1)=(i:Int)+1 from h4];simp
  refine Zbkp _ _ _ _ _ ?_;rw[if_pos (by omega),hw];refine⟨by omega,out[i],by rw[Yg];exact Ya hi,_,Zyz _ (hs _ (Yf hi)),?_⟩;rw[Yg]
  have:out.set i (⟨out[i].Mask,out[i].Order,out[i].Cost,(⟨out[i].Plan.Steps⟩:Plan)⟩:Za)=out:=Zuc (Ya hi)
  rw[this];exact ih
theorem Inv.steps{m:Ze}{q:Zc}{sizes done:List Int}{out:List Za}(h:Inv m sizes q done out)(c:∀M∈done,M16 M):∀e∈out,e.Plan.Steps.length<=1000:=by
 intro e he;have hd:=h.only e he;have hh:=(h.held _ hd).len e (Y4.2 ⟨he,by simp⟩);have:=Zeb (c _ hd);omega
theorem conn_16{n:Int}{qa:List Atom}(hv:Zn n qa=true):∀M∈Zp qa,M16 M:=by
 intro M hM;obtain⟨h1,h2,_⟩:=Zmn.1 hM;exact(MQ.m16 hv ⟨by omega,h2⟩).1
theorem Zug{m:Ze}{q:Zc}{sizes:List Int}(b:Base m q sizes){i:Nat}(hi:i<=(Zp q.Atoms).length):∀e∈Zbb m sizes q i,e.Plan.Steps.length<=1000 :=
 (Zkq b i hi).steps λM hM=>conn_16 b.hv M (Yt hM)
theorem i_table{m:Ze}{q:Zc}{sizes:List Int}(b:Base m q sizes):∀i,i<=(Zp q.Atoms).length->∀(cc:List (List Za)) (fr fr1:Bool),cc.length=2 ^ q.Atoms.length->(∀M∈(Zp q.Atoms).take i,cc[M.toNat]?=some (ofM (Zbb m sizes q i) M))->(i=(Zp q.Atoms).length->fr1=false)->
  Zj9 m q fr cc fr1 (Zbb m sizes q i) (Zp q.Atoms) sizes (Zp q.Atoms).length i=some (.own 0,[.arr 126 4 false ((Zbb m sizes q (Zp q.Atoms).length).map Za.c)]):=by
 have hcl:=Zy9 b.hv;refine down _ ?_ ?_
 .intro cc fr fr1 _ _ hf;rw[hf rfl];refine Zbkn _ _ _ _ _ _ _ _ _ _ _ ?_;rw[if_neg (by omega)];exact l_copyT false _ (by have:=Zmp b (Ye (Zp q.Atoms).length);omega) (Zug b (Ye _)) 0 (Yd _)
 .intro i hi ih cc fr fr1 htl hT hf;have h4:=Zw (i:=i) (by omega);have hw:w ((i:Int)+1)=((i+1:Nat):Int):=by rw[show w ((i:Int)+1)=(i:Int)+1 from h4];simp
  obtain⟨c1,c2,c3,c4⟩:=Zmo hi;have hinv:=Zkq b i (by omega);have hstep:=Zbmz b hinv c1 c2 c3 c4 (Z7o (Zuf _) hi);have hheld:=Z7n b hinv c1 c2 c3 c4;have hnext:Zbb m sizes q (i+1)=Zbb m sizes q i++entM m sizes q (Zbb m sizes q i) (Zp q.Atoms)[i]:=by
   rw[Zbb];congr 2;simp[List.getD,hi]
  have hlen:=Zmp b (i:=i) (by omega);have h16:=(c1.m16 b.hv).1;have hpw:=Zg9 q.Atoms.length;have hMt:(Zp q.Atoms)[i].toNat<cc.length:=by have:=c1.1;have:=c1.2;omega
  have key:∀f1 E,E=entM m sizes q (Zbb m sizes q i) (Zp q.Atoms)[i]->Zj9 m q f1 (cc.set (Zp q.Atoms)[i].toNat E) (fr1 && flat (E.map Za.c)) (Zbb m sizes q i++E) (Zp q.Atoms) sizes (Zp q.Atoms).length (w ((i:Int)+1))=some (.own 0,[.arr 126 4 false ((Zbb m sizes q (Zp q.Atoms).length).map Za.c)]):=by
   intro f1 E hE;subst hE;rw[hw,flat_ne hheld.ne,Bool.and_false,<-hnext];refine ih _ _ _ (by rw[Yb5];exact htl) ?_ (λ_=>rfl);intro A hA;rw[Ycu hi]at hA;rcases Yh.1 hA with hA|hA
   .have hne:A≠(Zp q.Atoms)[i]:=λh=>Z7o (Zuf _) hi (h▸hA)
    have hA0:=(Zmn.1 (Yt hA)).1;have:=c1.1;rw[List.getElem?_set_ne (by omega),hT A hA,hnext,hstep.2.1 A hA]
   .rw[List.mem_singleton.1 hA,List.getElem?_set_self hMt,hnext,hstep.2.2]
  have hget:(Zp q.Atoms)[i]?=some (Zp q.Atoms)[i]:=Ya hi;generalize (Zp q.Atoms)[i]=M at *
  have hic:Zcc q.Zf q.Atoms M=true:=by
   unfold Zcc;rw[b.hv,c3,Zg8 b.hv];have h1:=c1.1;have h2:=c1.2;simp[inR,c2,h1];omega
  have e1:(Zco q M).map Prod.fst=Zz q.Atoms M:=by
   unfold Zco;rw[List.map_map];exact List.map_id _
  have e2:(Zco q M).length=(Zz q.Atoms M).length:=by unfold Zco;rw[Yb1]
  have hps:(Zco q M).length<=100:=by rw[e2];have:=Z7g (qa:=q.Atoms) h16;omega
  have hok:∀p∈Zco q M,Zbms m q sizes (Zbb m sizes q i) cc M p.1 p.2:=by
   intro p hp;have o:=Zue b hinv c1 c3 c4 p hp;unfold Zco at hp;rw[Y3]at hp;obtain⟨A,hA,rfl⟩:=hp;have hd:=Zb3k b.hv c1 hA;obtain⟨q1,q2⟩:=Z7m c1 hA;refine⟨o,hd,?_,hT A (c4 A hA).1,hT _ (c4 A hA).2⟩;rw[hd];exact Zb2f q b.hq b.hv A (M-A) q1 q2
  have hgo:∀a0 a1 a2 a3 a4:Za,((Zco q M).foldl (oneJ m sizes M (Zbb m sizes q i)) [a0,a1,a2,a3,a4]).filter sm=entM m sizes q (Zbb m sizes q i) M->
    Zhy m q fr cc fr1 (Zbb m sizes q i) m q sizes M a0 a1 a2 a3 a4 (sm a0) (sm a1) (sm a2) (sm a3) (sm a4) (Zp q.Atoms) (Zz q.Atoms M) sizes M (Zp q.Atoms).length i (Zz q.Atoms M).length 0=some (.own 0,[.arr 126 4 false ((Zbb m sizes q (Zp q.Atoms).length).map Za.c)]):=by
   intro a0 a1 a2 a3 a4 hE;have:=i_splits b h16 c2 cc hMt (Zbb m sizes q i) (by omega) (Zco q M) hps hok fr fr1 (Zp q.Atoms) (Zp q.Atoms).length i _ 0 (Yd _) a0 a1 a2 a3 a4 (λf1 E h=>key f1 E (by rw[Yk,hE]at h;exact h.symm));rw[e1,e2]at this;exact this
  refine Zbkn _ _ _ _ _ _ _ _ _ _ _ ?_;rw[if_pos (by omega)];refine⟨by omega,M,by rw[Yg];exact hget,.inr ⟨Zea M,Zb10 h16,?_⟩⟩
  cases ho:oneB (ofI M)with
  |true =>
   obtain⟨j,hj4,ha,hMj⟩:=Z7h h16 ho;have hent:=Z7j (m:=m) (sizes:=sizes) (q:=q) (out:=Zbb m sizes q i) ha;have hE:=hheld;rw[hent]at hE;have hlen1:=hE.len _ (List.mem_singleton.2 rfl);have hmk:=hE.makes _ (List.mem_singleton.2 rfl);have hod:=hE.ord _ (List.mem_singleton.2 rfl);have hjl:j<q.Atoms.length:=by
    have h2:=c1.2;have e:shlI 1 (j:Nat)=2 ^ j:=by
     have:j=0\/j=1\/j=2\/j=3:=by omega
     rcases this with rfl|rfl|rfl|rfl<;>decide
    rw[hMj,e]at h2;have h3:(2:Int) ^ j<2 ^ q.Atoms.length:=h2;rw[<-Zg9,<-Zg9]at h3;exact(Nat.pow_lt_pow_iff_right (by omega)).1 (by omega:2 ^ j<2 ^ q.Atoms.length)
   have hvar:=Zk3 b.hv _ (Yf hjl);obtain⟨v,vs,hvs⟩:∃v vs,q.Atoms[j].Vars=v::vs:=by
    cases hh:q.Atoms[j].Vars with
    |nil=>rw[hh]at hvar;simp at hvar
    |cons v vs=>exact⟨v,vs,rfl⟩
   have hv3:0<=v/\v<=3:=by
    have:=Zvv b.hv _ (Yf hjl) v (by rw[hvs];simp);have hn:=Zf1 b.hv;simp[inR]at this;omega
   have hse:Zkp m sizes q M (j:Int)=⟨M,v,Zbg m.Scan (szAt sizes M) 0 (szAt sizes M),⟨[⟨1,j,0⟩]⟩⟩:=by
    simp[Zkp,Ya hjl,hvs]
   rw[hse]at hmk;have hcost:=Zbp.cost hmk b.hv (by simp) b.hsv;obtain⟨t,ht,hx⟩:=Zbl8 m b.hm q b.hq sizes b.hs M c2 zE zE zE zE zE [⟨1,j,0⟩] v (by omega) _ hcost;rw[show sm zE=false from rfl]at hx
   have hnx:=hgo _ _ _ _ _ (by
    have hsp:Zco q M=[]:=by unfold Zco;rw[hMj,Zb3j hj4];rfl
    rw[hsp,List.foldl_nil,hent,hse]
    exact Zb3h (c:=Zbg m.Scan (szAt sizes M) 0 (szAt sizes M)) (x:=[⟨1,j,0⟩]) c2 hv3)
   rw[ha,if_pos (by simp)];refine⟨(j:Int),rfl,_,Zb2i _,by omega,q.Atoms[j],by rw[Yg];exact Ya hjl,v,by rw[hvs];rfl,?_⟩;rcases ht with rfl|rfl
   .exact .inl ⟨m,q,sizes,M,_,_,_,_,_,_,_,_,_,_,hx,.inr ⟨_,Z6y q b.hq M hic,hnx⟩⟩
   .exact .inr ⟨m,q,sizes,M,_,_,_,_,_,_,_,_,_,_,_,hx,.inr ⟨_,Z6y q b.hq M hic,hnx⟩⟩
  |false =>
   have hne:=Z7i h16 ho;rw[if_neg (by omega)];have hnx:=hgo zE zE zE zE zE (by rw[Z7k hne];rfl);rw[show sm zE=false from rfl]at hnx;exact .inr ⟨_,Z6y q b.hq M hic,hnx⟩
theorem Zb3l{m:Ze}{q:Zc}{sizes:List Int}(b:Base m q sizes)(ha:Zck m):Zo8 m q sizes=some (.own 0,[.arr 126 4 false ((Zbb m sizes q (Zp q.Atoms).length).map Za.c)]):=by
 have hf:=Zg8 b.hv;have hpw:=Zg9 q.Atoms.length;have h16:2 ^ q.Atoms.length<=16:=Nat.pow_le_pow_right (by omega:0<2) (Zcs b.hv).2;have hp1:1<=2 ^ q.Atoms.length:=Nat.one_le_two_pow;have e1:w (Zx q.Zf q.Atoms+1)=2 ^ q.Atoms.length:=by rw[w_id (by omega) (by omega)];omega
 have hr:room=140737488355328:=rfl;refine Zbz1 ⟨_,Zblf m b.hm,?_⟩;rw[if_pos (by simpa using ha)];refine⟨_,Zblt q b.hq sizes b.hs,?_⟩;rw[if_pos b.hsv];refine⟨_,Zkg q b.hq,?_⟩;rw[e1];have e2:((2:Int) ^ q.Atoms.length).toNat=2 ^ q.Atoms.length:=by omega
 rw[e2];refine⟨by omega,by omega,by rw[hr];omega,by omega,_,Zb1t q b.hq b.hv,?_⟩;refine i_table b 0 (Yd _) _ true true (by simp) (by simp) ?_;intro h;exfalso
 have:(1:Int)∈Zp q.Atoms:=by
  refine Zmn.2 ⟨by omega,?_,?_⟩
  .have:2 ^ 1<=2 ^ q.Atoms.length:=Nat.pow_le_pow_right (by omega) (Zcs b.hv).1
   omega
  .have h1:=Zub b.hv (true,false,false,false);rw[show toI (true,false,false,false)=1 from rfl]at h1;rw[h1];have key:∀a b c d e f:Bool,∀n:Fin 5,Zc9 ⟨a,b,c,d,e,f⟩ n.1 (true,false,false,false)=true:=by decide
   exact key _ _ _ _ _ _ ⟨q.Atoms.length,by have:=(Zcs b.hv).2;omega⟩
 rw[Yca.1 h.symm]at this;cases this
def shOf(q:Zc)(M:Int):List (List Int):=(Zz q.Atoms M).map λA=>Zha q A (M-A)
def Zev(q:Zc)(M:Int):Z8:=⟨M,Zz q.Atoms M,shOf q M⟩
def shapes(q:Zc):List Z8:=(Zp q.Atoms).map (Zev q)
theorem Zb3m{q:Zc}(hv:Zn q.Zf q.Atoms=true){M:Int}(c1:MQ q.Atoms M)(c2:M≠0)(c3:conn q.Atoms M=true):Zcc q.Zf q.Atoms M=true:=by
 unfold Zcc;rw[hv,c3,Zg8 hv];have h1:=c1.1;have h2:=c1.2;simp[inR,c2,h1];omega
section
variable(q:Zc)(hq:LeQ q)(hv:Zn q.Zf q.Atoms=true)
include hq hv
theorem Zbm1{M:Int}(hM:MQ q.Atoms M){A:Int}(hA:A∈Zz q.Atoms M):Zlk q A (w (M-A))=some (.own 0,[.arr 3 1 true ((Zha q A (M-A)).map ic)]):=by
 obtain⟨q1,q2⟩:=Z7m hM hA;have h16:=(q2.m16 hv).1;rw[w_id (by omega) (by omega)];exact Zb2h q hq hv A (M-A) q1 q2
theorem Zb3n(out:List Z8)(c:out.length<=1000){i:Nat}(hi:i<(Zp q.Atoms).length)(r:AV×List Blk)(h:Zjp q (out++[Zev q (Zp q.Atoms)[i]]) (Zp q.Atoms) (w ((i:Int)+1))=some r) :
  ∀k,k<=(Zz q.Atoms (Zp q.Atoms)[i]).length->Zrs q out (Zp q.Atoms) (Zp q.Atoms)[i] (Zz q.Atoms (Zp q.Atoms)[i]) ((shOf q (Zp q.Atoms)[i]).take k) i k=some r:=by
 obtain⟨c1,c2,c3,c4⟩:=Zmo hi;have hsl:=Z7g (qa:=q.Atoms) (c1.m16 hv).1;have hlen:(shOf q (Zp q.Atoms)[i]).length=(Zz q.Atoms (Zp q.Atoms)[i]).length:=by simp[shOf]
 refine down _ ?_ ?_
 .refine Zbiz _ _ _ _ _ _ _ _ _ ?_;rw[if_neg (by omega)];refine⟨by omega,?_⟩;rw[<-hlen,Ybn];exact h
 .intro k hk ih;have h4:=Zw (i:=k) (by omega);have hw:w ((k:Int)+1)=((k+1:Nat):Int):=by rw[show w ((k:Int)+1)=(k:Int)+1 from h4];simp
  refine Zbiz _ _ _ _ _ _ _ _ _ ?_;rw[if_pos (by omega),hw];refine⟨by omega,_,by rw[Yg];exact Ya hk,by omega,_,by rw[Yg];exact Ya hi,_,Zbm1 q hq hv c1 (Yf hk),?_,?_⟩
  .rw[Yo];omega
  .rw[Ycu (by omega)]at ih;simpa[shOf]using ih
theorem Zb3o(out:List Z8)(c:out.length<=1000){i:Nat}(hi:i<(Zp q.Atoms).length)(r:AV×List Blk)(h:Zjp q (out++[Zev q (Zp q.Atoms)[i]]) (Zp q.Atoms) (w ((i:Int)+1))=some r) :
  Zwi q out (Zp q.Atoms) (Zp q.Atoms)[i] (Zz q.Atoms (Zp q.Atoms)[i]) i 0=some r:=by
 obtain⟨c1,c2,c3,c4⟩:=Zmo hi;refine Zbwz _ _ _ _ _ _ _ _ ?_;by_cases h0:(Zz q.Atoms (Zp q.Atoms)[i]).length=0
 .rw[if_neg (by omega)];refine⟨by omega,?_⟩
  have:Zev q (Zp q.Atoms)[i]=⟨(Zp q.Atoms)[i],Zz q.Atoms (Zp q.Atoms)[i],[]⟩:=by
   unfold Zev shOf;rw[Yca.1 h0];rfl
  rw[<-this];exact h
 .rw[if_pos (by omega)];have hk:0<(Zz q.Atoms (Zp q.Atoms)[i]).length:=by omega
  have:=Zb3n q hq hv out c hi r h 1 (by omega);refine⟨by omega,_,Ya hk,by omega,_,by rw[Yg];exact Ya hi,_,Zbm1 q hq hv c1 (Yf hk),?_⟩;rw[show w ((0:Int)+1)=((1:Nat):Int)from by decide];have e:(shOf q (Zp q.Atoms)[i]).take 1=[Zha q (Zz q.Atoms (Zp q.Atoms)[i])[0] ((Zp q.Atoms)[i]-(Zz q.Atoms (Zp q.Atoms)[i])[0])]:=by
   rw[Ycu (by simp[shOf];omega)];simp[shOf]
  rw[e]at this;exact this
theorem l_shapes:∀i,i<=(Zp q.Atoms).length->Zjp q ((shapes q).take i) (Zp q.Atoms) i=some (.own 0,[.arr 220 3 true ((shapes q).map Z8.c)]):=by
 have hcl:=Zy9 hv;have hlen:(shapes q).length=(Zp q.Atoms).length:=by simp[shapes]
 refine down _ ?_ ?_
 .refine Zbiy _ _ _ _ _ ?_;rw[if_neg (by omega),<-hlen,Ybn]
 .intro i hi ih;have h4:=Zw (i:=i) (by omega);have hw:w ((i:Int)+1)=((i+1:Nat):Int):=by rw[show w ((i:Int)+1)=(i:Int)+1 from h4];simp
  obtain⟨c1,c2,c3,c4⟩:=Zmo hi;refine Zbiy _ _ _ _ _ ?_;rw[if_pos (by omega)];refine⟨by omega,_,by rw[Yg];exact Ya hi,_,Zb1y q hq _ (Zb3m hv c1 c2 c3),?_⟩;refine Zb3o q hq hv _ (by rw[Yo];omega) hi _ ?_;rw[hw];rw[Ycu (by omega)]at ih;simpa[shapes]using ih
theorem Z7p:Zll q=some (.own 0,[.arr 220 3 true ((shapes q).map Z8.c)]) :=
 Zbw0 _ _ ⟨_,Zb1v q hq hv,by simpa using l_shapes q hq hv 0 (Yd _)⟩
end
theorem f_one:∀a:Fin 16,1<=a.1->(andI (a.1:Int) (w ((a.1:Int)-1))=0↔oneB (ofI (a.1:Int))=true):=by decide
theorem Zbm2{α β:Type}(f:α->β):∀l:List α,l.zip (l.map f)=l.map λa=>(a,f a)
 |[]=>rfl
 |a::l=>by simp[Zbm2 f l]
theorem s_table{m:Ze}{q:Zc}{sizes:List Int}(b:Base m q sizes):∀i,i<=(Zp q.Atoms).length->∀fr:Bool,∃fr',Zn6 (shapes q) sizes m q fr (Zbb m sizes q i) i=some (.own 2,[.arr 220 3 true ((shapes q).map Z8.c),.arr 3 1 true (sizes.map ic),.arr 126 4 fr' ((Zbb m sizes q (Zp q.Atoms).length).map Za.c)]):=by
 have hcl:=Zy9 b.hv;have hlen:(shapes q).length=(Zp q.Atoms).length:=by simp[shapes]
 refine down _ ?_ ?_
 .intro fr;refine⟨fr,Z6e _ _ _ _ _ _ _ _ ?_⟩;rw[if_neg (by omega)]
 .intro i hi ih fr;have h4:=Zw (i:=i) (by omega);have hw:w ((i:Int)+1)=((i+1:Nat):Int):=by rw[show w ((i:Int)+1)=(i:Int)+1 from h4];simp
  obtain⟨c1,c2,c3,c4⟩:=Zmo hi;have hinv:=Zkq b i (by omega);have hheld:=Z7n b hinv c1 c2 c3 c4;have hnext:Zbb m sizes q (i+1)=Zbb m sizes q i++entM m sizes q (Zbb m sizes q i) (Zp q.Atoms)[i]:=by
   rw[Zbb];congr 2;simp[List.getD,hi]
  have hol:=Zmp b (i:=i) (by omega);have h16:=(c1.m16 b.hv).1;have hget:(shapes q)[i]?=some (Zev q (Zp q.Atoms)[i]):=by
   unfold shapes;rw[Ycn,Ya hi];rfl
  rw[hnext]at ih;generalize (Zp q.Atoms)[i]=M at *
  have hz:=sz_ok b.hsv c1;have h1:(andI M (w (M-1))=0↔oneB (ofI M)=true):=by
   have q1:=c1.1;obtain⟨a,rfl⟩:=m16 h16;exact f_one a (by omega)
  have hle:=hheld.le
  cases ho:oneB (ofI M)with
  |true =>
   obtain⟨j,hj4,ha,hMj⟩:=Z7h h16 ho;have hent:=Z7j (m:=m) (sizes:=sizes) (q:=q) (out:=Zbb m sizes q i) ha;have hjl:j<q.Atoms.length:=by
    have h2:=c1.2;have e:shlI 1 (j:Nat)=2 ^ j:=by
     have:j=0\/j=1\/j=2\/j=3:=by omega
     rcases this with rfl|rfl|rfl|rfl<;>decide
    rw[hMj,e]at h2;have h3:(2:Int) ^ j<2 ^ q.Atoms.length:=h2;rw[<-Zg9,<-Zg9]at h3;exact(Nat.pow_lt_pow_iff_right (by omega)).1 (by omega:2 ^ j<2 ^ q.Atoms.length)
   have hvar:=Zk3 b.hv _ (Yf hjl);obtain⟨v,vs,hvs⟩:∃v vs,q.Atoms[j].Vars=v::vs:=by
    cases hh:q.Atoms[j].Vars with
    |nil=>rw[hh]at hvar;simp at hvar
    |cons v vs=>exact⟨v,vs,rfl⟩
   have hse:Zkp m sizes q M (j:Int)=⟨M,v,Zbg m.Scan (szAt sizes M) 0 (szAt sizes M),⟨[⟨1,j,0⟩]⟩⟩:=by
    simp[Zkp,Ya hjl,hvs]
   rw[hent,hse]at ih;obtain⟨fr',hr⟩:=ih fr;refine⟨fr',Z6e _ _ _ _ _ _ _ _ ?_⟩;rw[if_pos (by omega)];refine⟨by omega,_,by rw[Yg];exact hget,?_⟩;have h1':andI (Zev q M).mask (w ((Zev q M).mask-1))=0:=h1.2 ho;rw[if_pos h1',hw];refine⟨_,Zb12 h16,(j:Int),by rw[show Zea (Zev q M).mask=[(j:Int)]from ha];rfl,by omega,q.Atoms[j],by rw[Yg];exact Ya hjl,v,by rw[hvs];rfl,hz.1,_,hz.2,_,Zg6 _ b.hm.1 _ _ _,_,Zb2j _,by omega,?_⟩
   exact hr
  |false =>
   have hne:=Z7i h16 ho;have ok:=Zue b hinv c1 c3 c4;have hzip:(Zev q M).Zz.zip (Zev q M).shared=Zco q M:=Zbm2 _ _;have hsl:=Z7g (qa:=q.Atoms) h16;obtain⟨f1,hJ⟩:=Zb3b m b.hm b.hg sizes b.hcl q.Atoms fr (Zbb m sizes q i) (by omega) (Zev q M) hz h16 (by show 0<M;have:=c1.1;omega) (by simp[Zev,shOf]) (by show(Zz q.Atoms M).length<=100;omega) (by rw[hzip];exact ok);rw[hzip]at hJ;have hent:=Z7k (m:=m) (sizes:=sizes) (q:=q) (out:=Zbb m sizes q i) hne;rw[hent]at ih hle;obtain⟨fr',hr⟩:=ih (fr && flat (((Zko m sizes M (Zbb m sizes q i) (Zco q M)).filter sm).map Za.c));refine⟨fr',Z6e _ _ _ _ _ _ _ _ ?_⟩;rw[if_pos (by omega)];refine⟨by omega,_,by rw[Yg];exact hget,?_⟩;have h1':¬andI (Zev q M).mask (w ((Zev q M).mask-1))=0:=λh=>by have:=h1.1 h;rw[ho]at this;cases this
   rw[if_neg h1',hw];exact⟨_,_,hJ,by show(Zbb m sizes q i).length+((Zko m sizes M (Zbb m sizes q i) (Zco q M)).filter sm).length<=68719476736;omega,hr⟩
theorem Z7q{m:Ze}{q:Zc}{sizes:List Int}(b:Base m q sizes):∃fr',Zn5 (shapes q) sizes m q=some (.own 2,[.arr 220 3 true ((shapes q).map Z8.c),.arr 3 1 true (sizes.map ic),.arr 126 4 fr' ((Zbb m sizes q (Zp q.Atoms).length).map Za.c)]):=by
 obtain⟨fr',h⟩:=s_table b 0 (Yd _) true;exact⟨fr',Zbxc _ _ _ _ _ h⟩
theorem Zb3p(a b c:Int)(fr:Bool)(l:List Za)(hl:l.length<=1000):∀i,i<=l.length->∀best,Zo9 a b c best fr l l.length i=some (.agg (((l.drop i).foldl Zcn best).c.map .t),[.arr 126 4 fr (l.map Za.c)]):=by
 refine down _ ?_ ?_
 .intro best;refine Zbks _ _ _ _ _ _ _ _ _ ?_;rw[if_neg (by omega)];simp
 .intro i hi ih best;have h4:=Zw (i:=i) (by omega);refine Zbks _ _ _ _ _ _ _ _ _ ?_;rw[if_pos (by omega),Yi hi,Yv];refine⟨by omega,l[i],by rw[Yg];exact Ya hi,?_⟩;rw[show w ((i:Int)+1)=((i+1:Nat):Int)from by rw[show w ((i:Int)+1)=(i:Int)+1 from h4];simp];by_cases e:l[i].Cost<best.Cost
  .rw[if_pos e,show Zcn best l[i]=l[i] by simp[Zcn,e]];exact ih _
  .rw[if_neg e,show Zcn best l[i]=best by simp[Zcn,e]];exact ih _
theorem Zb3q(fr:Bool)(l:List Za)(h0:l≠[])(hl:l.length<=1000):Zxw fr l=some (.agg ((Z5 l).c.map .t),[.arr 126 4 fr (l.map Za.c)]):=by
 cases l with
 |nil=>exact absurd rfl h0
 |cons e l =>
  refine Zbz2 _ _ _ ⟨e,rfl,?_⟩;have:=Zb3p 0 0 0 fr (e::l) hl 0 (Yd _) e;simpa[Z5]using this
theorem l_best(l:List Za)(mask:Int)(hl:l.length<=1000)(cc:ofM l mask≠[])(hs:∀e∈l,e.Plan.Steps.length<=1000):∀i,i<=l.length->∀fr,Zpa 0 0 0 fr (ofM (l.take i) mask) mask l l.length i=some (.tup [.agg [I (Z5 (ofM l mask)).Mask,I (Z5 (ofM l mask)).Order,I (Z5 (ofM l mask)).Cost,.own 0],Bo true],[.arr 162 3 true ((Z5 (ofM l mask)).Plan.Steps.map Zb.c)]):=by
 refine down _ ?_ ?_
 .intro fr;refine Zbkt _ _ _ _ _ _ _ _ _ _ ?_;rw[if_neg (by omega),Ybn];have h1:(ofM l mask).length≠0:=λh=>cc (Yca.1 h)
  have h2:(ofM l mask).length<=l.length:=Ybr _ _;rw[if_neg (by omega)];have hmem:=Z63 cc;exact⟨_,Zb3q fr _ cc (by omega),_,Zyz _ (hs _ (Y4.1 hmem).1),rfl⟩
 .intro i hi ih fr;have h4:=Zw (i:=i) (by omega);have hw:w ((i:Int)+1)=((i+1:Nat):Int):=by rw[show w ((i:Int)+1)=(i:Int)+1 from h4];simp
  rw[Zbl9 l mask hi]at ih;have h2:(ofM (l.take i) mask).length<=(l.take i).length:=Ybr _ _;rw[Yo]at h2;refine Zbkt _ _ _ _ _ _ _ _ _ _ ?_;rw[if_pos (by omega),hw];refine⟨by omega,l[i],by rw[Yg];exact Ya hi,?_⟩;by_cases e:l[i].Mask=mask
  .rw[if_pos e];rw[if_pos e]at ih;exact⟨by omega,ih false⟩
  .rw[if_neg e];rw[if_neg e,Ybd]at ih;exact ih fr
theorem Zb3r(l:List Za)(mask:Int)(hl:l.length<=1000)(cc:ofM l mask≠[])(hs:∀e∈l,e.Plan.Steps.length<=1000):Zta l mask=some (.tup [.agg [I (Z5 (ofM l mask)).Mask,I (Z5 (ofM l mask)).Order,I (Z5 (ofM l mask)).Cost,.own 0],Bo true],[.arr 162 3 true ((Z5 (ofM l mask)).Plan.Steps.map Zb.c)]) :=
 Zbz3 _ _ _ (by simpa[ofM]using l_best l mask hl cc hs 0 (Yd _) true)
theorem Zbm3(l:List Za)(mask:Int)(hl:l.length<=1000)(cc:ofM l mask≠[])(hs:∀e∈l,e.Plan.Steps.length<=1000):Zf6 l mask=some (.tup [.agg [I (Z5 (ofM l mask)).Mask,I (Z5 (ofM l mask)).Order,I (Z5 (ofM l mask)).Cost,.own 0],Bo true],[.arr 162 3 true ((Z5 (ofM l mask)).Plan.Steps.map Zb.c)]):=by
 obtain⟨k1,k2⟩:=Zy3 cc;have hmem:=Z63 cc;have:=hs _ (Y4.1 hmem).1;refine Z6f _ _ _ ⟨_,Zkl l mask hl,?_⟩;rw[if_neg (by omega)];exact⟨k1,_,k2,by omega,rfl⟩
def tab(m:Ze)(q:Zc)(sizes:List Int):List Za:=Zbb m sizes q (Zp q.Atoms).length
def opt(m:Ze)(q:Zc)(sizes:List Int):Za:=Z5 (ofM (tab m q sizes) (Zx q.Zf q.Atoms))
theorem full_MQ{q:Zc}(hv:Zn q.Zf q.Atoms=true):MQ q.Atoms (Zx q.Zf q.Atoms):=by
 have:=Zg8 hv;have:=Zvw hv;exact⟨by omega,by omega⟩
theorem Zuh{m:Ze}{q:Zc}{sizes:List Int}(b:Base m q sizes)(hc:Zcc q.Zf q.Atoms (Zx q.Zf q.Atoms)=true):Held m sizes q.Atoms (Zx q.Zf q.Atoms) (ofM (tab m q sizes) (Zx q.Zf q.Atoms)):=by
 refine(Zkq b _ (Ye _)).held _ ?_;rw[Ybn];have hp:=Zvw b.hv;have hq:=full_MQ b.hv;unfold Zcc at hc;simp only[Yc]at hc;exact Zmn.2 ⟨by omega,hq.2,hc.2⟩
theorem Zb3s{m:Ze}{q:Zc}{sizes:List Int}(b:Base m q sizes)(ha:Zck m)(hc:Zcc q.Zf q.Atoms (Zx q.Zf q.Atoms)=true):Ztb m q sizes=some (.tup [.agg [I (opt m q sizes).Mask,I (opt m q sizes).Order,I (opt m q sizes).Cost,.own 0],Bo true],[.arr 162 3 true ((opt m q sizes).Plan.Steps.map Zb.c)]):=by
 have hl:=Zmp b (Ye (Zp q.Atoms).length);refine Zbz4 _ _ _ _ (.inr ⟨_,_,Zb3l b ha,_,Zkg q b.hq,.inr ⟨_,_,_,_,Zb3r _ _ (by omega) (Zuh b hc).ne (Zug b (Ye _)),rfl⟩⟩)
theorem Zb3t{m:Ze}{q:Zc}{sizes:List Int}(b:Base m q sizes)(ha:Zck m)(hc:Zcc q.Zf q.Atoms (Zx q.Zf q.Atoms)=true):Ztc m q sizes=some (I (opt m q sizes).Cost,[]) :=
 Zbz5 _ _ _ _ (.inr ⟨_,_,_,_,Zb3s b ha hc,rfl⟩)
theorem Zb3u{m:Ze}{q:Zc}{l:List Int}(hl:l.length<=4294967296)(h:Zbc l=true)(b:Base m q (Zbd l))(ha:Zck m)(hc:Zcc q.Zf q.Atoms (Zx q.Zf q.Atoms)=true):Zxx m q l=some (I (opt m q (Zbd l)).Cost,[]):=by
 have hb:=Zblx l hl;rw[h,if_pos rfl]at hb;exact Zbz6 _ _ _ _ (.inl ⟨_,hb,_,Zb3t b ha hc,rfl⟩)
def LeR(r:Region):Prop:=Le r.Box.Low/\Le r.Box.High
theorem x_boxOk(q:Zc)(hq:LeQ q)(bx:Box)(hb:LeX bx):Zsq q bx=some (Bo (Zk2 q.Zf q.Atoms bx.Low bx.High),[]):=by
 have q5:=Zvu q.Zf q.Atoms;refine Zby0 _ _ _ ⟨_,Zbk7 bx hb,?_⟩;unfold Zk2;rcases tf (Zb2 bx.Low bx.High)with e|e
 .rw[e];simp
 .rw[e,if_pos rfl];refine⟨_,Zkg q hq,?_⟩;rw[show w (Zx q.Zf q.Atoms+1)=Zx q.Zf q.Atoms+1 from q5];simp
theorem Zb3v(q:Zc)(hq:LeQ q)(r:Region)(hr:LeR r):Zsr q r=some (Bo (Zib q.Zf q.Atoms r.Plan.Steps r.Box.Low r.Box.High r.Percent),[]):=by
 refine Zby6 _ _ _ ⟨_,Ztx q hq,?_⟩;unfold Zib;rcases tf (Zn q.Zf q.Atoms)with e|e
 .rw[e];simp
 rw[e,if_pos rfl];refine⟨_,x_boxOk q hq r.Box hr,?_⟩;rcases tf (Zk2 q.Zf q.Atoms r.Box.Low r.Box.High)with e2|e2
 .rw[e2];simp
 rw[e2,if_pos rfl];refine⟨_,Zb1c q r.Plan hq,_,Zkg q hq,?_⟩;by_cases e3:Zjj q.Zf q.Atoms r.Plan.Steps=Zx q.Zf q.Atoms
 .rw[if_pos e3];exact⟨_,Zdz _ _ _,by simp[e3]⟩
 .rw[if_neg e3];simp[e3]
theorem Zb3w(q:Zc)(hq:LeQ q)(r:Region)(hr:LeR r):Zwo q r=some (Bo (Zib q.Zf q.Atoms r.Plan.Steps r.Box.Low r.Box.High r.Percent),[]):=by
 have q5:=Zvu q.Zf q.Atoms;refine Zbxk _ _ _ ⟨_,Zbk8 r.Box hr,?_⟩;unfold Zib Zk2;rcases tf (Zb2 r.Box.Low r.Box.High)with e|e
 .rw[e];simp
 rw[e,if_pos rfl];refine⟨_,Zc1 q hq,?_⟩;rw[show w (Zx q.Zf q.Atoms+1)=Zx q.Zf q.Atoms+1 from q5];by_cases e4:(r.Box.Low.length:Int)=Zx q.Zf q.Atoms+1
 .rw[if_pos e4];refine⟨_,Zb1d q r.Plan hq,?_⟩;by_cases e3:Zjj q.Zf q.Atoms r.Plan.Steps=Zx q.Zf q.Atoms
  .rw[if_pos e3];rcases tf (Zn q.Zf q.Atoms)with e1|e1
   .have e5:Zx q.Zf q.Atoms=0:=by unfold Zx;rw[e1];rfl
    rw[if_neg (by omega)];simp[e1]
   .have e5:=Zvw e1;rw[if_pos e5];exact⟨_,Zcu _ _ _,by simp[e1,e3,e4]⟩
  .rw[if_neg e3];simp[e3]
 .rw[if_neg e4];simp[e4]
def Zcx(m:Ze)(q:Zc)(r:Region):Prop:=Zib q.Zf q.Atoms r.Plan.Steps r.Box.Low r.Box.High r.Percent=true/\Zcc q.Zf q.Atoms (Zx q.Zf q.Atoms)=true/\Zck m
theorem Zui{l:List Int}(h:Zbc l=true):l.length<=16:=by
 simp only[Zbc,Yc,decide_eq_true_eq]at h;omega
theorem Zza{a:Int}(h:0<=a/\a<=7):inR (Zbo a) 0 4096=true:=by
 have:a=0\/a=1\/a=2\/a=3\/a=4\/a=5\/a=6\/a=7:=by omega
 rcases this with rfl|rfl|rfl|rfl|rfl|rfl|rfl|rfl<;>decide
theorem Zpx{m:Ze}(hm:LeM m)(ha:Zck m){q:Zc}(hq:LeQ q)(hv:Zn q.Zf q.Atoms=true){l:List Int}(h:Zbc l=true)(hl:(l.length:Int)=Zx q.Zf q.Atoms+1):Base m q (Zbd l):=by
 have hll:(l.length:Int)<=16:=by simp only[Zbc,Yc,decide_eq_true_eq]at h;exact h.2
 have hc:=Zb2t h;refine⟨hm,ha.2.1,hq,hv,by simp[Zbd];omega,hc,?_⟩;unfold Zb5 Zkj;rw[hv]
 have:(Zbd l).all (λx=>inR x 0 4096)=true:=by
  rw[Ym];intro s hs;obtain⟨a,h1,rfl⟩:=hc s hs;exact Zza h1
 rw[this];simp[Zbd,hl]
theorem Zpy{m:Ze}{q:Zc}{r:Region}(h:Zcx m q r):Zn q.Zf q.Atoms=true/\Zbc r.Box.Low=true/\Zbc r.Box.High=true/\(r.Box.Low.length:Int)=Zx q.Zf q.Atoms+1/\Zb2 r.Box.Low r.Box.High=true/\inR r.Percent 100 1000=true/\Zjj q.Zf q.Atoms r.Plan.Steps=Zx q.Zf q.Atoms:=by
 have h1:=h.1;unfold Zib Zk2 at h1;simp only[Yc,decide_eq_true_eq]at h1;have h2:=h1.1.1.2.1;unfold Zb2 at h2;simp only[Yc,decide_eq_true_eq]at h2;exact⟨h1.1.1.1,h2.1.1.2,h2.1.2,h1.1.1.2.2,h1.1.1.2.1,h1.2,h1.1.2⟩
theorem Zbm4{m:Ze}{q:Zc}{r:Region}(hm:LeM m)(hq:LeQ q)(h:Zcx m q r):Base m q (Zbd r.Box.Low):=by
 obtain⟨h1,h2,h3,h4,_⟩:=Zpy h;exact Zpx hm h.2.2 hq h1 h2 h4
def Zhc(m:Ze)(q:Zc)(r:Region):Bool:=decide (w (100*Zcm m q.Zf q.Atoms r.Plan.Steps (Zbd r.Box.High))<=w (r.Percent*(opt m q (Zbd r.Box.Low)).Cost))
theorem Z7r{m:Ze}{q:Zc}{r:Region}(hm:LeM m)(hq:LeQ q)(hr:LeR r)(h:Zcx m q r):Ziu m q r=some (Bo (Zhc m q r),[]):=by
 obtain⟨h1,h2,h3,h4,_⟩:=Zpy h;have l1:=Zui h2;have l2:=Zui h3;exact Zbz7 _ _ _ _ ⟨_,Zb2e m hm q hq r.Plan r.Box.High (by omega) h3,_,Zb3u (by omega) h2 (Zbm4 hm hq h) h.2.2 h.2.1,rfl⟩
theorem Z7s{m:Ze}{q:Zc}{r:Region}(hm:LeM m)(hq:LeQ q)(hr:LeR r)(h:Zcx m q r):Zim m q r=some (Bo (Zhc m q r),[]):=by
 obtain⟨h1,h2,h3,h4,_⟩:=Zpy h;have l1:=Zui h2;have l2:=Zui h3;have b:=Zbm4 hm hq h;have hl:=Zmp b (Ye (Zp q.Atoms).length);have hs:=Zyy r.Box.Low (by omega);rw[h2,if_pos rfl]at hs;obtain⟨fr,ht⟩:=Z7q b;refine Zbxp _ _ _ _ ⟨_,Z7p q hq h1,_,hs,_,_,ht,_,Zc1 q hq,.inr ⟨_,_,_,_,Zbm3 _ _ (by omega) (Zuh b h.2.1).ne (Zug b (Ye _)),_,Zbly m hm q hq r.Plan r.Box.High (by omega) h3,?_⟩⟩;unfold Zhc opt tab;rw[Int.mul_comm]
open Classical in
noncomputable def Zcd(m:Ze)(q:Zc)(r:Region):Bool:=decide (Zcx m q r) && Zhc m q r
theorem Zb3x{m:Ze}{q:Zc}{r:Region}(hm:LeM m)(hq:LeQ q)(hr:LeR r):Zsv m q r=some (Bo (@decide (Zcx m q r) (Classical.propDecidable _)),[]):=by
 refine Zbzj _ _ _ _ ⟨_,Zb3v q hq r hr,?_⟩;rcases tf (Zib q.Zf q.Atoms r.Plan.Steps r.Box.Low r.Box.High r.Percent)with e|e
 .rw[if_neg (by rw[e];simp)]
  have:¬Zcx m q r:=λh=>by rw[h.1]at e;cases e
  simp[this]
 rw[if_pos e];refine⟨_,Zkg q hq,_,Zblm q hq _,?_⟩;rcases tf (Zcc q.Zf q.Atoms (Zx q.Zf q.Atoms))with e2|e2
 .rw[if_neg (by rw[e2];simp)]
  have:¬Zcx m q r:=λh=>by rw[h.2.1]at e2;cases e2
  simp[this]
 rw[if_pos e2];refine⟨_,Zblf m hm,?_⟩;by_cases ha:Zck m
 .have:Zcx m q r:=⟨e,e2,ha⟩
  simp[this,ha]
 .have:¬Zcx m q r:=λh=>ha h.2.2
  simp[this,ha]
theorem Z7t{m:Ze}{q:Zc}{r:Region}(hm:LeM m)(hq:LeQ q)(hr:LeR r):Ziv m q r=some (Bo (Zcd m q r),[]):=by
 refine Zbz8 _ _ _ _ ⟨_,Zb3x hm hq hr,?_⟩;unfold Zcd;by_cases h:Zcx m q r
 .rw[if_pos (by simp[h])];exact⟨_,Z7r hm hq hr h,by simp[h]⟩
 .rw[if_neg (by simp[h])];simp[h]
theorem Zzb{m:Ze}{q:Zc}{r:Region}(hm:LeM m)(hq:LeQ q)(hr:LeR r):Zgw m q r=some (Bo (Zcd m q r),[]):=by
 refine Zbxq _ _ _ _ ⟨_,Zt2 m hm,?_⟩;unfold Zcd;by_cases ha:Zck m
 .rw[if_pos (by simp[ha])];refine⟨_,Zc1 q hq,_,Zkh q hq _,?_⟩;rcases tf (Zcc q.Zf q.Atoms (Zx q.Zf q.Atoms))with e2|e2
  .rw[if_neg (by rw[e2];simp)]
   have:¬Zcx m q r:=λh=>by rw[h.2.1]at e2;cases e2
   simp[this]
  rw[if_pos e2];refine⟨_,Zb3w q hq r hr,?_⟩;rcases tf (Zib q.Zf q.Atoms r.Plan.Steps r.Box.Low r.Box.High r.Percent)with e|e
  .rw[if_neg (by rw[e];simp)]
   have:¬Zcx m q r:=λh=>by rw[h.1]at e;cases e
   simp[this]
  rw[if_pos e];have h:Zcx m q r:=⟨e,e2,ha⟩;exact⟨_,Z7s hm hq hr h,by simp[h]⟩
 .rw[if_neg (by simp[ha])]
  have:¬Zcx m q r:=λh=>ha h.2.2
  simp[this]
theorem Zzc(n:Int)(qa:List Atom):0<=Zx n qa/\Zx n qa<=15:=by
 rcases tf (Zn n qa)with h|h
 .unfold Zx;rw[h];simp
 .have h1:=Zvw h;obtain⟨h2,h3,_⟩:=Zjh h;refine⟨by omega,?_⟩;unfold Zx;rw[if_pos h,h3];rcases h2 with e|e|e|e<;>rw[e]<;>decide
def GBx(R:Rs):Prop:=∃(c:Zg) (b:Box),R=some (.agg (b.c.map .t),[cB c])/\GC c/\b.Low.length<=17/\b.High.length<=17
theorem GBx.of{R R':Rs}(h:GBx R')(k:∀r,R'=some r->R=some r):GBx R:=by
 obtain⟨n,x,e,l⟩:=h;exact⟨n,x,k _ e,l⟩
theorem l_box(q:Zc)(hq:LeQ q)(M:Nat)(hM:Zx q.Zf q.Atoms+1=M):∀i,i<=M->∀c x x1 x2,GC c->x.length<=i->x1.length<=i->x1≠[]->GBx (Zde c q x x1 x2 i):=by
 have f:=Zzc q.Zf q.Atoms;refine down _ ?_ ?_
 .intro c x x1 x2 g hx hx1 hn;obtain⟨c1,b,e1,g1⟩:=Zi2 g 20;rcases tf b with hb|hb
  .subst hb;refine⟨c1,⟨x,x1⟩,Zix _ _ _ _ _ _ _ ⟨_,Zc1 q hq,?_⟩,g1,by show x.length<=_;omega,by show x1.length<=_;omega⟩;rw[if_neg (by omega)];exact⟨c1,false,e1,by rw[if_neg (by simp)];rfl⟩
  .subst hb;obtain⟨c2,k,e2,g2,_⟩:=Zy4 g1 [-1,7,8] (by simp) (by simp);have h0:0<x1.length:=Ycb.2 hn;refine⟨c2,⟨x,x1.set 0 k⟩,Zix _ _ _ _ _ _ _ ⟨_,Zc1 q hq,?_⟩,g2,by show x.length<=_;omega,by show(x1.set 0 k).length<=_;simp;omega⟩;rw[if_neg (by omega)];exact⟨c1,true,e1,by rw[if_pos rfl];exact⟨c2,_,k,e2,x1[0],by simp[h0],rfl⟩⟩
 .intro i hi ih c x x1 x2 g hx hx1 hn;by_cases hp:(andI ((i:Nat):Int) (w (((i:Nat):Int)-1)))=0
  .by_cases h0:0<((i:Nat):Int)
   .obtain⟨c1,n,e1,g1,_⟩:=Zbu g 3;refine(ih c1 (x++[n]) (x1++[n]) x2 g1 (by simp;omega) (by simp;omega) (by simp)).of λr e=>Zix _ _ _ _ _ _ _ ⟨_,Zc1 q hq,?_⟩
    rw[if_pos (by omega),if_pos hp,if_pos h0];refine⟨c1,n,e1,?_⟩;refine⟨by omega,by omega,?_⟩;rw[wN i (by omega)];exact e
   .refine(ih c (x++[0]) (x1++[0]) x2 g (by simp;omega) (by simp;omega) (by simp)).of λr e=>Zix _ _ _ _ _ _ _ ⟨_,Zc1 q hq,?_⟩
    rw[if_pos (by omega),if_pos hp,if_neg h0];refine⟨by omega,by omega,?_⟩;rw[wN i (by omega)];exact e
  .by_cases h0:0<((i:Nat):Int)
   .rcases tf (Zcc q.Zf q.Atoms ((i:Nat):Int))with hc|hc
    .refine(ih c (x++[0]) (x1++[0]) x2 g (by simp;omega) (by simp;omega) (by simp)).of λr e=>Zix _ _ _ _ _ _ _ ⟨_,Zc1 q hq,?_⟩
     rw[if_pos (by omega),if_neg hp,if_pos h0];refine⟨_,Zkh q hq _,?_⟩;rw[hc,if_neg (by simp)];refine⟨by omega,by omega,?_⟩;rw[wN i (by omega)];exact e
    .obtain⟨c1,n,e1,g1,_⟩:=Zbu g 3;by_cases h3:x2<3
     .obtain⟨c2,b,e2,g2⟩:=Zi2 g1 4;rcases tf b with hb|hb
      .subst hb;obtain⟨c3,k,e3,g3,_⟩:=Zbu g2 3;refine(ih c3 (x++[n]) (x1++[(w ((w (n+1))+k))]) (w (x2+1)) g3 (by simp;omega) (by simp;omega) (by simp)).of λr e=>Zix _ _ _ _ _ _ _ ⟨_,Zc1 q hq,?_⟩
       rw[if_pos (by omega),if_neg hp,if_pos h0];refine⟨_,Zkh q hq _,?_⟩;rw[hc,if_pos rfl];refine⟨c1,n,e1,?_⟩;rw[if_pos h3];refine⟨c2,false,e2,?_⟩;rw[if_neg (by simp)];refine⟨c3,k,e3,?_⟩;refine⟨by omega,by omega,?_⟩;rw[wN i (by omega)];exact e
      .subst hb;refine(ih c2 (x++[n]) (x1++[n]) x2 g2 (by simp;omega) (by simp;omega) (by simp)).of λr e=>Zix _ _ _ _ _ _ _ ⟨_,Zc1 q hq,?_⟩
       rw[if_pos (by omega),if_neg hp,if_pos h0];refine⟨_,Zkh q hq _,?_⟩;rw[hc,if_pos rfl];refine⟨c1,n,e1,?_⟩;rw[if_pos h3];refine⟨c2,true,e2,?_⟩;rw[if_pos rfl];refine⟨by omega,by omega,?_⟩;rw[wN i (by omega)];exact e
     .refine(ih c1 (x++[n]) (x1++[n]) x2 g1 (by simp;omega) (by simp;omega) (by simp)).of λr e=>Zix _ _ _ _ _ _ _ ⟨_,Zc1 q hq,?_⟩
      rw[if_pos (by omega),if_neg hp,if_pos h0];refine⟨_,Zkh q hq _,?_⟩;rw[hc,if_pos rfl];refine⟨c1,n,e1,?_⟩;rw[if_neg h3];refine⟨by omega,by omega,?_⟩;rw[wN i (by omega)];exact e
   .refine(ih c (x++[0]) (x1++[0]) x2 g (by simp;omega) (by simp;omega) (by simp)).of λr e=>Zix _ _ _ _ _ _ _ ⟨_,Zc1 q hq,?_⟩
    rw[if_pos (by omega),if_neg hp,if_neg h0];refine⟨by omega,by omega,?_⟩;rw[wN i (by omega)];exact e
theorem x_l24Box{c:Zg}(g:GC c)(q:Zc)(hq:LeQ q):GBx (Zif c q):=by
 have f:=Zzc q.Zf q.Atoms;have hM:Zx q.Zf q.Atoms+1=((Zx q.Zf q.Atoms+1).toNat:Int):=by omega
 refine(?_:GBx (Zv8 c q 0 ((0:Nat):Int))).of λr e=>Zbwf _ _ _ e
 have ih:∀c x x1 x2,GC c->x.length<=1->x1.length<=1->x1≠[]->GBx (Zde c q x x1 x2 ((1:Nat):Int)):=l_box q hq _ hM 1 (by omega);refine(ih c [0] [0] 0 g (by simp) (by simp) (by simp)).of λr e=>Zbwe _ _ _ _ _ ⟨_,Zc1 q hq,?_⟩
 rw[if_pos (by omega),if_pos (by decide),if_neg (by decide)];exact e
def GL(R:Rs):Prop:=∃(c:Zg) (l:List Int),R=some (L 1 (l.map ic),[cB c])/\GC c/\l.length<=100
theorem GL.of{R R':Rs}(h:GL R')(k:∀r,R'=some r->R=some r):GL R:=by
 obtain⟨n,x,e,l⟩:=h;exact⟨n,x,k _ e,l⟩
theorem j_Loc(c:Zg)(g:GC c)(b:Box)(l:List Int)(hl:l.length<=100)(i:Int)(z:Bool):GL (Zrd c b l i z):=by
 by_cases h:0<(l.length:Int)
 .obtain⟨c1,y,e1,g1⟩:=Zi2 g 8;rcases tf y with hb|hb
  .subst hb;refine⟨c1,l,Z59 _ _ _ _ _ _ ?_,g1,hl⟩;rw[if_pos h];exact⟨c1,false,e1,by rw[if_neg (by simp)]⟩
  .subst hb;obtain⟨c2,n,e2,g2,h1,h2⟩:=Zbu g1 l.length;obtain⟨c3,k,e3,g3,_⟩:=Zbu g2 9;obtain⟨y,hy,_⟩:=Zt7 h1 (h2 h);refine⟨c3,l.set n.toNat k,Z59 _ _ _ _ _ _ ?_,g3,by simp;omega⟩;rw[if_pos h];exact⟨c1,true,e1,by rw[if_pos rfl];exact⟨c2,n,e2,c3,k,e3,h1,y,hy,rfl⟩⟩
 .refine⟨c,l,Z59 _ _ _ _ _ _ ?_,g,hl⟩;rw[if_neg h]
theorem l_Loc(b:Box)(hb:b.Low.length<=100):∀i,i<=b.Low.length->∀c l,GC c->l.length<=i->GL (Zrc c b l i):=by
 refine down _ ?_ ?_
 .intro c l g hl;refine(j_Loc c g b l (by omega) (b.Low.length:Int) false).of λr e=>Z58 _ _ _ _ _ ?_
  rw[if_neg (by omega)];exact e
 .intro i hi ih c l g hl;by_cases h:(i:Int)<b.High.length
  .have hh:i<b.High.length:=by omega
   obtain⟨c1,n,e1,g1,_⟩:=Zbu g (if 1<(w ((w (b.High[i]-b.Low[i]))+1))then(w ((w (b.High[i]-b.Low[i]))+1))else 1);refine(ih c1 (l++[(w (b.Low[i]+n))]) g1 (by simp;omega)).of λr e=>Z58 _ _ _ _ _ ?_
   rw[if_pos (by omega),if_pos h,wN i (by omega)];exact⟨by omega,b.Low[i],by simp[hi],b.High[i],by simp[hh],c1,n,e1,by omega,e⟩
  .refine(j_Loc c g b l (by omega) (i:Int) false).of λr e=>Z58 _ _ _ _ _ ?_
   rw[if_pos (by omega),if_neg h];exact e
theorem Zbm5{c:Zg}(g:GC c)(b:Box)(hb:b.Low.length<=17):GL (Zf4 c b) :=
 (l_Loc b (by omega) 0 (by omega) c [] g (by simp)).of λr e=>Zbwg _ _ _ e
def dimD(lo hi:List Int)(k:Nat):Int:=hi.getD k 0-lo.getD k 0+1
def locK(lo hi:List Int):Nat->Int->List Int->List Int
 |0,_,out=>out
 |k+1,idx,out=>locK lo hi k (idx / dimD lo hi k) (out.set k (lo.getD k 0+idx % dimD lo hi k))
def locB(b:Box)(idx:Int):List Int:=locK b.Low b.High b.Low.length idx b.Low
theorem Zuj{x:Int}(h1:-1000000000000000<=x)(h2:x<=1000000000000000):w x=x:=w_id (by omega) (by omega)
def locsB(b:Box):List (List Int):=(List.range (boxVol b.Low b.High).toNat).map λi:Nat=>locB b i
def Zuk(m:Ze)(q:Zc)(r:Region)(l:List Int):Bool:=!decide (w (r.Percent*(opt m q (Zbd l)).Cost)<w (100*Zcm m q.Zf q.Atoms r.Plan.Steps (Zbd l)))
open Classical in
noncomputable def holds(m:Ze)(q:Zc)(r:Region):Bool:=decide (Zcx m q r) && (decide (boxVol r.Box.Low r.Box.High<=400) && (locsB r.Box).all (Zuk m q r))
end Go.Proofs.YtcfaekfjkeobhaaGreat
