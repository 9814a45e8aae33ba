/-
  Parts of the proofs for this seat: IC IF IG IH IJ WC IL.
-/
import Derived.Test.YtcfaekfjkeobhaaGreatP19
set_option linter.unusedSectionVars false
set_option linter.unusedSimpArgs false
set_option linter.unusedVariables false
set_option maxRecDepth 100000
set_option maxHeartbeats 4000000
namespace Go.Proofs.YtcfaekfjkeobhaaGreat
open Go.AM
structure Zbih (m:Zd) (q:Zc) (sizes:List Int) (out:List Za) (table:List (List Za)) (M A:Int) (sh:List Int):Prop where
 ok:Zig m sizes q.Atoms out M A sh
 diff:Zgy M A=M-A
 sh:Zlj q A (Zgy M A)=some (.own 0,[.arr 3 1 true (sh.map ic)])
 tA:table[A.toNat]?=some (ofM out A)
 tB:table[(M-A).toNat]?=some (ofM out (M-A))
theorem i_splits{m:Zd}{q:Zc}{sizes:List Int}(b:Base m q sizes){M:Int}(cd:M16 M)(hM:M≠0)(cc:List (List Za))(ht:M.toNat<cc.length)(out:List Za)(cl:out.length<=1000)(ps:List (Int×List Int))(cn:ps.length<=100)
  (ok:∀p∈ps,Zbih m q sizes out cc M p.1 p.2) (fr fr1:Bool) (x:List Int) (x2 x3:Int) (r:AV×List Blk) :
  ∀i,i<=ps.length->∀a0 a1 a2 a3 a4:Za,(∀f1 E,((ps.drop i).foldl (oneJ m sizes M out) [a0,a1,a2,a3,a4]).filter sm=E->
   Zjk m q f1 (cc.set M.toNat E) (fr1 && flat (E.map Za.c)) (out++E) x sizes x2 (w (x3+1))=some r)->
  Zg8 m q fr cc fr1 out m q sizes M a0 a1 a2 a3 a4 (sm a0) (sm a1) (sm a2) (sm a3) (sm a4) x (ps.map Prod.fst) sizes M x2 x3 ps.length i=some r:=by
 refine down _ ?_ ?_
 .intro a0 a1 a2 a3 a4 h;refine Zbf5 _ _ _ _ _ _ _ _ _ _ _ _ _ _ _ _ _ _ _ _ _ _ _ _ _ _ _ _ _ ?_;rw[if_neg (by omega)];obtain⟨fr',he⟩:=Zbvy m q sizes M a0 a1 a2 a3 a4;have hl:(there a0 a1 a2 a3 a4).length<=5:=Ybr _ _;exact⟨fr',there a0 a1 a2 a3 a4,he,by omega,_,Yb ht,by omega,h _ _ (by rw[Yba];rfl)⟩
 .intro i hi ih a0 a1 a2 a3 a4 h;have h4:=Zw (i:=i) (by omega);have hw:w ((i:Int)+1)=((i+1:Nat):Int):=by rw[show w ((i:Int)+1)=(i:Int)+1 from h4];simp
  rw[Yj hi,Yr]at h;obtain⟨o,hd,hsh,tA,tB⟩:=ok _ (Yh hi);have hget:(ps.map Prod.fst)[i]?=some ps[i].1:=by rw[Yce,Yb hi];rfl
  generalize ps[i]=p at *
  obtain⟨A,sh⟩:=p;simp only at o hd hsh tA tB hget;have hp:=o.pair;have hE:=o.left;have hF:=o.right;have pA:=Zd6 hp.a16;have pB:=Zd6 hp.b16;have lE:=hE.len _ hE.best;have lF:=hF.len _ hF.best;have leE:=hE.le;have leF:=hF.le;obtain⟨b0,b1,b2,b3,b4,t,hJ,htt,hx⟩:=x_offJ m b.hm q b.hq b.hv sizes b.hs b.hsv cd hM hp (a:=Z3 (ofM out A)) (b:=Z3 (ofM out (M-A))) (k:=3) (v:=0) (o:=-1) (by omega) (by omega) (hE.mask _ hE.best) (hF.mask _ hF.best) (hE.makes _ hE.best) (hF.makes _ hF.best) hash_p ⟨by omega,by omega⟩ a0 a1 a2 a3 a4;have hone:oneJ m sizes M out [a0,a1,a2,a3,a4] (A,sh)=sh.foldl (Zfg m sizes A (M-A) (ofM out A) (ofM out (M-A))) ((ofM out A).foldl (Ze1 m sizes (Z3 (ofM out (M-A)))) [b0,b1,b2,b3,b4]):=by
   unfold oneJ Zhh;rw[<-hJ]
  rw[hone]at h;have hnext:Zjl m q fr cc fr1 out m q sizes M b0 b1 b2 b3 b4 (sm b0) (sm b1) (sm b2) (sm b3) (sm b4) (Z3 (ofM out (M-A))).Plan x (ps.map Prod.fst) sizes M A (ofM out A) (ofM out (M-A)) x2 x3 ps.length i (ofM out A) (ofM out A).length 0=some r:=by
   refine i_nested b cd hM hp hE hF sh hsh fr cc fr1 out x _ x2 x3 _ _ r 0 (Ye _) b0 b1 b2 b3 b4 ?_;intro c0 c1 c2 c3 c4 hc;refine i_merges b cd hM hp hE hF sh o.len o.vars fr cc fr1 out x _ x2 x3 _ _ r 0 (Ye _) c0 c1 c2 c3 c4 ?_;intro d0 d1 d2 d3 d4 hdd;rw[hw];rw[Yk]at hc hdd;rw[hc,hdd]at h;exact ih d0 d1 d2 d3 d4 h
  refine Zbf5 _ _ _ _ _ _ _ _ _ _ _ _ _ _ _ _ _ _ _ _ _ _ _ _ _ _ _ _ _ ?_;rw[if_pos (by omega)];refine⟨by omega,A,by rw[Yd];exact hget,hp.a16.1,_,tA,by rw[hd];exact hp.b16.1,_,by rw[hd];exact tB,_,Zwj _ hF.ne (by omega),_,Zwj _ hE.ne (by omega),_,Zok _ _ _ _ (by omega) (by omega),?_⟩;rcases htt with rfl|rfl
  .exact .inl ⟨m,q,sizes,M,b0,b1,b2,b3,b4,_,_,_,_,_,hx,hnext⟩
  .exact .inr ⟨m,q,sizes,M,b0,b1,b2,b3,b4,_,_,_,_,_,_,hx,hnext⟩
def Zcn(q:Zc)(M:Int):List (Int×List Int):=(Zv q.Atoms M).map λA=>(A,Zep q A (M-A))
def Zjw(m:Zd)(sizes:List Int)(q:Zc)(M a:Int):Za:=⟨M,((q.Atoms[a.toNat]?).map λx=>x.Vars.headD 0).getD 0,Zbb m.Scan (szAt sizes M) 0 (szAt sizes M),⟨[⟨1,a,0⟩]⟩⟩
def entM(m:Zd)(sizes:List Int)(q:Zc)(out:List Za)(M:Int):List Za:=match Zdt M with
 |[a]=>[Zjw m sizes q M a]
 |_=>(Zjv m sizes M out (Zcn q M)).filter sm
theorem Zbii:∀a:Fin 16,(oneB (ofI (a.1:Int))=true->(Zdt (a.1:Int)=[((0:Nat):Int)]/\(a.1:Int)=shlI 1 (0:Nat))\/(Zdt (a.1:Int)=[((1:Nat):Int)]/\(a.1:Int)=shlI 1 (1:Nat))\/(Zdt (a.1:Int)=[((2:Nat):Int)]/\(a.1:Int)=shlI 1 (2:Nat))\/(Zdt (a.1:Int)=[((3:Nat):Int)]/\(a.1:Int)=shlI 1 (3:Nat)))/\(oneB (ofI (a.1:Int))=false->(Zdt (a.1:Int)).length≠1):=by decide
theorem Z36{M:Int}(h:M16 M)(ho:oneB (ofI M)=true):∃i:Nat,i<4/\Zdt M=[(i:Int)]/\M=shlI 1 i:=by
 obtain⟨a,rfl⟩:=m16 h;rcases(Zbii a).1 ho with h|h|h|h
 .exact⟨0,by omega,h⟩
 .exact⟨1,by omega,h⟩
 .exact⟨2,by omega,h⟩
 .exact⟨3,by omega,h⟩
theorem Z37{M:Int}(h:M16 M)(ho:oneB (ofI M)=false):(Zdt M).length≠1:=by
 obtain⟨a,rfl⟩:=m16 h;exact(Zbii a).2 ho
theorem Z38{m:Zd}{sizes:List Int}{q:Zc}{out:List Za}{M a:Int}(h:Zdt M=[a]):entM m sizes q out M=[Zjw m sizes q M a]:=by unfold entM;rw[h]
theorem Z39{m:Zd}{sizes:List Int}{q:Zc}{out:List Za}{M:Int}(h:(Zdt M).length≠1):entM m sizes q out M=(Zjv m sizes M out (Zcn q M)).filter sm:=by
 unfold entM;split
 .rename_i a e;rw[e]at h;simp at h
 .rfl
theorem Z4a{m:Zd}{sizes:List Int}{a b:Za}{k v o:Int}(ho:-1<=o/\o<=3)(hM:orI a.Mask b.Mask≠0){mine:List Za}(h5:mine.length=5):(offJ m sizes a b k v o mine).filter sm≠[]:=by
 refine List.ne_nil_of_mem (a:=offE ((mine[(o+1).toNat]?).getD zE) (orI a.Mask b.Mask) o (jc m sizes a b k) (Zbm a.Plan.Steps b.Plan.Steps k v)) (Y2.2 ⟨?_,sm_off hM⟩);unfold offJ;exact List.mem_set (by omega) _
theorem Zbij{m:Zd}{sizes:List Int}{b:Za}:∀{E c:List Za},(∀e∈E,(-1<=e.Order/\e.Order<=3)/\orI e.Mask b.Mask≠0)->c.length=5->c.filter sm≠[]->(E.foldl (Ze1 m sizes b) c).filter sm≠[]
 |[],_,_,_,h=>h
 |e::E,c,he,h5,h=>by
  rw[Yr];obtain⟨e1,e2⟩:=he e (by simp);exact Zbij (λx hx=>he x (by simp[hx])) (by rw[show(Ze1 m sizes b c e).length=c.length from Zf8];exact h5) (Z4a e1 e2 h5)
theorem Zbik{m:Zd}{sizes:List Int}{A B:Int}{E F:List Za}:∀{sh:List Int} {c:List Za},(∀v∈sh,(-1<=v/\v<=3)/\orI (inp m sizes A E v).Mask (inp m sizes B F v).Mask≠0)->c.length=5->c.filter sm≠[]->(sh.foldl (Zfg m sizes A B E F) c).filter sm≠[]
 |[],_,_,_,h=>h
 |v::sh,c,he,h5,h=>by
  rw[Yr];obtain⟨e1,e2⟩:=he v (by simp);exact Zbik (λx hx=>he x (by simp[hx])) (by rw[show(Zfg m sizes A B E F c v).length=c.length from Zf8];exact h5) (Z4a e1 e2 h5)
theorem one_some{m:Zd}{sizes:List Int}{qa:List Atom}{M:Int}{l:List Za}{p:Int×List Int}(hM:M≠0)(hg:Zbr m.Sort_)(c:Ze0 sizes)(o:Zig m sizes qa l M p.1 p.2){mine:List Za}(h5:mine.length=5):(oneJ m sizes M l mine p).filter sm≠[]:=by
 have hp:=o.pair;unfold oneJ Zhh;refine Zbik (λv hv=>⟨(o.vars v hv).1,?_⟩) (by rw[Zwp,Zf8];exact h5) (Zbij (λe he=>⟨o.left.ord e he,?_⟩) (by rw[Zf8];exact h5) (Z4a (by omega) ?_ h5))
 .rw[(Zju o.left hg c hp.a16 (o.vars v hv).2.1).1,(Zju o.right hg c hp.b16 (o.vars v hv).2.2).1,hp.or];exact hM
 .rw[o.left.mask e he,o.right.mask _ o.right.best,hp.or];exact hM
 .rw[o.left.mask _ o.left.best,o.right.mask _ o.right.best,hp.or];exact hM
theorem Zbil{m:Zd}{sizes:List Int}{qa:List Atom}{M:Int}{l:List Za}(hM:M≠0)(hg:Zbr m.Sort_)(cc:Ze0 sizes):∀{ps:List (Int×List Int)} {c:List Za},(∀p∈ps,Zig m sizes qa l M p.1 p.2)->c.length=5->(ps≠[]\/c.filter sm≠[])->(ps.foldl (oneJ m sizes M l) c).filter sm≠[]
 |[],_,_,_,h=>by rcases h with h|h;exact absurd rfl h;exact h
 |p::ps,c,hp,h5,_=>by
  rw[Yr];exact Zbil hM hg cc (λx hx=>hp x (by simp[hx])) (by rw[show(oneJ m sizes M l c p).length=c.length from Zbic];exact h5) (.inr (one_some hM hg cc (hp p (by simp)) h5))
structure Inv (m:Zd) (sizes:List Int) (q:Zc) (done:List Int) (out:List Za):Prop where
 held:∀M∈done,Held m sizes q.Atoms M (ofM out M)
 only:∀e∈out,e.Mask∈done
 len:out.length<=5*done.length
theorem Zbim{q:Zc}(hv:Zk q.Ze q.Atoms=true){A B:Int}:∀v∈Zep q A B,(-1<=v/\v<=3)/\vin q.Atoms A v=true/\vin q.Atoms B v=true:=by
 intro v hvm;unfold Zep at hvm;rw[Y2]at hvm;obtain⟨h1,h2⟩:=hvm;rw[Zis]at h2;have key:∀m,v∈Zey q m->(0<=v/\v<=3)/\vin q.Atoms m v=true:=by
  intro m hm;unfold Zey varL at hm;rw[Yx]at hm;obtain⟨u,hu,rfl⟩:=hm;rw[Y2,Ybi]at hu;have hn:=Zfq hv;refine⟨by omega,?_⟩;unfold vin;rw[Yc];exact⟨by simp[inR];omega,by rw[Yd];exact hu.2⟩
 obtain⟨k1,k2⟩:=key A h1;obtain⟨k3,k4⟩:=key B h2;exact⟨by omega,k2,k4⟩
theorem Zbwn{q:Zc}(hv:Zk q.Ze q.Atoms=true)(A B:Int):(Zep q A B).length<=1000:=by
 have:=Zsl q hv A;unfold Zep;have:=Ybr (has (Zey q B)) (Zey q A);omega
theorem sz_ok{q:Zc}{sizes:List Int}(c:Zb6 q.Ze q.Atoms sizes=true){M:Int}(h:MQ q.Atoms M):SzOk sizes M:=by
 unfold Zb6 at c;simp only[Yc,decide_eq_true_eq]at c;have hf:=Zgm c.1.1;have h1:=h.1;have h2:=h.2;have hl:M.toNat<sizes.length:=by omega
 refine⟨h1,?_⟩;unfold szAt;rw[Yb hl];rfl
theorem Z4b{qa:List Atom}{M A:Int}(hM:MQ qa M)(h:A∈Zv qa M):MQ qa A/\MQ qa (M-A):=by
 obtain⟨h1,h2,_⟩:=Zon h;have:=hM.2;exact⟨⟨by omega,by omega⟩,⟨by omega,by omega⟩⟩
theorem Zst{m:Zd}{q:Zc}{sizes:List Int}(b:Base m q sizes){done:List Int}{out:List Za}(hi:Inv m sizes q done out){M:Int}(hM:MQ q.Atoms M)(hc:conn q.Atoms M=true)(hd:∀A∈Zv q.Atoms M,A∈done/\M-A∈done):∀p∈Zcn q M,Zig m sizes q.Atoms out M p.1 p.2:=by
 intro p hp;unfold Zcn at hp;rw[Yx]at hp;obtain⟨A,hA,rfl⟩:=hp;obtain⟨d1,d2⟩:=hd A hA;obtain⟨q1,q2⟩:=Z4b hM hA;exact⟨Zbig b.hv hM hc hA,hi.held A d1,hi.held _ d2,sz_ok b.hsv q1,sz_ok b.hsv q2,Zbwn b.hv _ _,Zbim b.hv⟩
theorem Z4c{m:Zd}{q:Zc}{sizes:List Int}(b:Base m q sizes){done:List Int}{out:List Za}(hi:Inv m sizes q done out){M:Int}(hM:MQ q.Atoms M)(h0:M≠0)(hc:conn q.Atoms M=true)(hd:∀A∈Zv q.Atoms M,A∈done/\M-A∈done):Held m sizes q.Atoms M (entM m sizes q out M):=by
 have h16:=(hM.m16 b.hv).1
 cases ho:oneB (ofI M)with
 |true =>
  obtain⟨i,hi4,ha,rfl⟩:=Z36 h16 ho;rw[Z38 ha];have hl:i<q.Atoms.length:=by
   have h2:=hM.2;have hl4:=Zcq b.hv;have e:shlI 1 (i:Nat)=2 ^ i:=by
    have:i=0\/i=1\/i=2\/i=3:=by omega
    rcases this with rfl|rfl|rfl|rfl<;>decide
   rw[e]at h2;have h3:(2:Int) ^ i<2 ^ q.Atoms.length:=h2;rw[<-Zgn,<-Zgn]at h3;have h4:2 ^ i<2 ^ q.Atoms.length:=by omega
   exact(Nat.pow_lt_pow_iff_right (by omega)).1 h4
  have hmk:=Zbvx (m:=m) (sizes:=sizes) hl;have hu:=Zf6 m.Scan (szAt sizes (shlI 1 i)) 0 (szAt sizes (shlI 1 i));rw[w_id (by omega) (by omega)]at hmk;have hvar:=Zkc b.hv _ (Yh hl);have he:Zjw m sizes q (shlI 1 i) (i:Int)=⟨shlI 1 i,q.Atoms[i].Vars.headD 0,Zbb m.Scan (szAt sizes (shlI 1 i)) 0 (szAt sizes (shlI 1 i)),⟨[⟨1,i,0⟩]⟩⟩:=by
   simp[Zjw,Yb hl]
  have hpop:popc (shlI 1 (i:Nat))=1:=by
   have:i=0\/i=1\/i=2\/i=3:=by omega
   rcases this with rfl|rfl|rfl|rfl<;>decide
  have hord:0<=q.Atoms[i].Vars.headD 0/\q.Atoms[i].Vars.headD 0<=3:=by
   cases hvs:q.Atoms[i].Vars with
   |nil=>rw[hvs]at hvar;simp at hvar
   |cons v vs =>
    have:=Zt0 b.hv _ (Yh hl) v (by rw[hvs];simp);have hn:=Zfq b.hv;simp[inR]at this;simp only[List.headD_cons];omega
  rw[he];refine⟨by simp,by simp,?_,?_,?_,?_⟩
  .intro e hm;rw[List.mem_singleton.1 hm]
  .intro e hm;rw[List.mem_singleton.1 hm];exact⟨by show -1<=q.Atoms[i].Vars.headD 0;omega,hord.2⟩
  .intro e hm;rw[List.mem_singleton.1 hm];exact hmk
  .intro e hm;rw[List.mem_singleton.1 hm];simp[hpop]
 |false =>
  rw[Z39 (Z37 h16 ho)];have ok:=Zst b hi hM hc hd;have hne:=split_ne b.hv hM h0 hc ho;refine Zbwf (Z35 b.hg b.hcl ok (Zbid m sizes q.Atoms M)) (Zbil h0 b.hg b.hcl ok (by simp) (.inl ?_));unfold Zcn;intro hh;exact hne (List.map_eq_nil_iff.1 hh)
theorem Zbin(a b:List Za)(M:Int):ofM (a++b) M=ofM a M++ofM b M:=by simp[ofM]
theorem ofM_all{l:List Za}{M:Int}(h:∀e∈l,e.Mask=M):ofM l M=l:=by
 unfold ofM;rw[List.filter_eq_self];intro e he;simp[h e he]
theorem ofM_no{l:List Za}{M:Int}(h:∀e∈l,e.Mask≠M):ofM l M=[]:=by
 unfold ofM;rw[Ycu];intro e he;simp[h e he]
theorem Zbio{m:Zd}{q:Zc}{sizes:List Int}(b:Base m q sizes){done:List Int}{out:List Za}(hi:Inv m sizes q done out){M:Int}(hM:MQ q.Atoms M)(h0:M≠0)(hc:conn q.Atoms M=true)(hd:∀A∈Zv q.Atoms M,A∈done/\M-A∈done)(hn:M ∉ done) :
  Inv m sizes q (done++[M]) (out++entM m sizes q out M)/\(∀A∈done,ofM (out++entM m sizes q out M) A=ofM out A)/\ofM (out++entM m sizes q out M) M=entM m sizes q out M:=by
 have hh:=Z4c b hi hM h0 hc hd;have e1:∀A∈done,ofM (out++entM m sizes q out M) A=ofM out A:=by
  intro A hA;rw[Zbin,ofM_no (l:=entM m sizes q out M),Ybv];intro e he;rw[hh.mask e he];intro h;exact hn (h▸hA)
 have e2:ofM (out++entM m sizes q out M) M=entM m sizes q out M:=by
  rw[Zbin,ofM_all hh.mask,ofM_no (l:=out),Yb0];intro e he h;exact hn (h▸hi.only e he)
 refine⟨⟨?_,?_,?_⟩,e1,e2⟩
 .intro A hA;rcases Yg.1 hA with hA|hA
  .rw[e1 A hA];exact hi.held A hA
  .simp at hA;subst hA;rw[e2];exact hh
 .intro e he;rcases Yg.1 he with he|he
  .exact Yb2 _ (hi.only e he)
  .rw[hh.mask e he];simp
 .have:=hh.le;have:=hi.len;simp only[Ym,Yt,Ybd];omega
theorem Zls{qa:List Atom}{M:Int}:M∈Zn qa↔1<=M/\M<2 ^ qa.length/\conn qa M=true:=by
 unfold Zn Zf5;rw[Yx];have hp:=Zgn qa.length;constructor
 .rintro⟨k,hk,rfl⟩;rw[Y2,List.mem_range'_1]at hk;exact⟨by omega,by omega,hk.2⟩
 .rintro⟨h1,h2,h3⟩;refine⟨M.toNat,?_,by omega⟩;rw[Y2,List.mem_range'_1];have e:((M.toNat:Nat):Int)=M:=by omega
  exact⟨by omega,by rw[e];exact h3⟩
theorem Zsu(qa:List Atom):(Zn qa).Pairwise (·<·):=by
 unfold Zn Zf5;rw[List.pairwise_map];refine List.Pairwise.filter _ ?_;refine(List.pairwise_lt_range' (s:=1) (n:=2 ^ qa.length-1)).imp ?_;intro a b h;omega
theorem Zwr{n:Int}{qa:List Atom}(hv:Zk n qa=true):(Zn qa).length<=15:=by
 have h16:2 ^ qa.length<=16:=Nat.pow_le_pow_right (by omega:0<2) (Zcq hv).2;have:=Zbu4 (qa:=qa) (k:=1) (n:=2 ^ qa.length-1);unfold Zn;omega
theorem Zbip{Ms:List Int}(hu:Ms.Pairwise (·<·)){i:Nat}(hi:i<Ms.length){A:Int}(hA:A∈Ms)(h:A<Ms[i]):A∈Ms.take i:=by
 obtain⟨j,hj,rfl⟩:=List.mem_iff_getElem.1 hA;rw[Yb9]at hu;have hji:j<i:=by
  rcases Ycf j i with q|rfl|q
  .exact q
  .omega
  .have:=hu i j hi hj q;omega
 rw[List.mem_take_iff_getElem];exact⟨j,by omega,rfl⟩
theorem Z4d{Ms:List Int}(hu:Ms.Pairwise (·<·)){i:Nat}(hi:i<Ms.length):Ms[i] ∉ Ms.take i:=by
 intro h;rw[List.mem_take_iff_getElem]at h;obtain⟨j,hj,e⟩:=h;rw[Yb9]at hu;have:=hu j i (by omega) hi (by omega);omega
def Z8(m:Zd)(sizes:List Int)(q:Zc):Nat->List Za
 |0=>[]
 |i+1=>Z8 m sizes q i++entM m sizes q (Z8 m sizes q i) ((Zn q.Atoms).getD i 0)
theorem Zlt{q:Zc}{i:Nat}(hi:i<(Zn q.Atoms).length):MQ q.Atoms (Zn q.Atoms)[i]/\(Zn q.Atoms)[i]≠0/\conn q.Atoms (Zn q.Atoms)[i]=true/\∀A∈Zv q.Atoms (Zn q.Atoms)[i],A∈(Zn q.Atoms).take i/\(Zn q.Atoms)[i]-A∈(Zn q.Atoms).take i:=by
 obtain⟨h1,h2,h3⟩:=Zls.1 (Yh hi);refine⟨⟨by omega,h2⟩,by omega,h3,?_⟩;intro A hA;obtain⟨a1,a2,a3,a4,a5⟩:=Zon hA;exact⟨Zbip (Zsu _) hi (Zls.2 ⟨a1,by omega,a4⟩) a2,Zbip (Zsu _) hi (Zls.2 ⟨by omega,by omega,a5⟩) (by omega)⟩
theorem Zjx{m:Zd}{q:Zc}{sizes:List Int}(b:Base m q sizes):∀i,i<=(Zn q.Atoms).length->Inv m sizes q ((Zn q.Atoms).take i) (Z8 m sizes q i)
 |0,_=>⟨by simp,by simp[Z8],by simp[Z8]⟩
 |i+1,h=>by
  have hi:i<(Zn q.Atoms).length:=by omega
  obtain⟨c1,c2,c3,c4⟩:=Zlt hi;have:=(Zbio b (Zjx b i (by omega)) c1 c2 c3 c4 (Z4d (Zsu _) hi)).1;rw[Z8,Ycl hi];have e:(Zn q.Atoms).getD i 0=(Zn q.Atoms)[i]:=by simp[List.getD,hi]
  rw[e];exact this
theorem Zlu{m:Zd}{q:Zc}{sizes:List Int}(b:Base m q sizes){i:Nat}(hi:i<=(Zn q.Atoms).length):(Z8 m sizes q i).length<=75:=by
 have h1:=(Zjx b i hi).len;have h2:=Zwr b.hv;rw[Ybg]at h1;omega
theorem Zbwo{M v c:Int}{x:List Zb}(hM:M≠0)(hv:0<=v/\v<=3):[offK 0 zE M v c x,offK 1 zE M v c x,offK 2 zE M v c x,offK 3 zE M v c x,offK 4 zE M v c x].filter sm=[⟨M,v,c,⟨x⟩⟩]:=by
 have h:v=0\/v=1\/v=2\/v=3:=by omega
 rcases h with rfl|rfl|rfl|rfl<;>simp[offK,offE,sm,zE,hM]
theorem Zbwp:∀(i:Fin 4) (a:Fin 16),1<=a.1->(a.1:Int)<shlI 1 (i.1:Nat)->andI (a.1:Int) (shlI 1 (i.1:Nat))≠a.1:=by decide
theorem Zbwq{qa:List Atom}{i:Nat}(hi:i<4):Zv qa (shlI 1 i)=[]:=by
 cases h:Zv qa (shlI 1 i)with
 |nil=>rfl
 |cons A l =>
  exfalso;obtain⟨h1,h2,h3,_⟩:=Zon (qa:=qa) (M:=shlI 1 i) (A:=A) (by rw[h];simp);have h16:M16 (shlI 1 (i:Nat)):=(f_shl ⟨i,hi⟩ ⟨0,by omega⟩).2;obtain⟨a,rfl⟩:=m16 (x:=A) (by omega);exact Zbwp ⟨i,hi⟩ a (by omega) h2 h3
theorem flat_ne{E:List Za}(h:E≠[]):flat (E.map Za.c)=false:=by
 cases E with
 |nil=>exact absurd rfl h
 |cons e E=>simp[flat,Za.c,Zbc]
theorem Zbwr{qa:List Atom}{n:Int}(hv:Zk n qa=true){M A:Int}(hM:MQ qa M)(h:A∈Zv qa M):Zgy M A=M-A:=by
 obtain⟨h1,h2,h3,_⟩:=Zon h;have h16:=(hM.m16 hv).1;obtain⟨a,rfl⟩:=m16 (x:=A) (by omega);obtain⟨b,rfl⟩:=m16 h16;exact(f_diff a b h3).1
theorem l_copyT(fr:Bool)(out:List Za)(hl:out.length<=1000)(hs:∀e∈out,e.Plan.Steps.length<=1000):∀i,i<=out.length->Zrk fr out out.length i=some (.own 0,[.arr 126 4 fr (out.map Za.c)]):=by
 refine down _ ?_ ?_
 .refine Zbf6 _ _ _ _ _ ?_;rw[if_neg (by omega)]
 .intro i hi ih;have h4:=Zw (i:=i) (by omega);have hw:w ((i:Int)+1)=((i+1:Nat):Int):=by rw[show w ((i:Int)+1)=(i:Int)+1 from h4];simp
  refine Zbf6 _ _ _ _ _ ?_;rw[if_pos (by omega),hw];refine⟨by omega,out[i],by rw[Yd];exact Yb hi,_,Zwg _ (hs _ (Yh hi)),?_⟩;rw[Yd]
  have:out.set i (⟨out[i].Mask,out[i].Order,out[i].Cost,(⟨out[i].Plan.Steps⟩:Plan)⟩:Za)=out:=Zss (Yb hi)
  rw[this];exact ih
theorem Inv.steps{m:Zd}{q:Zc}{sizes done:List Int}{out:List Za}(h:Inv m sizes q done out)(c:∀M∈done,M16 M):∀e∈out,e.Plan.Steps.length<=1000:=by
 intro e he;have hd:=h.only e he;have hh:=(h.held _ hd).len e (Y2.2 ⟨he,by simp⟩);have:=Zd6 (c _ hd);omega
theorem conn_16{n:Int}{qa:List Atom}(hv:Zk n qa=true):∀M∈Zn qa,M16 M:=by
 intro M hM;obtain⟨h1,h2,_⟩:=Zls.1 hM;exact(MQ.m16 hv ⟨by omega,h2⟩).1
theorem Zsv{m:Zd}{q:Zc}{sizes:List Int}(b:Base m q sizes){i:Nat}(hi:i<=(Zn q.Atoms).length):∀e∈Z8 m sizes q i,e.Plan.Steps.length<=1000 :=
 (Zjx b i hi).steps λM hM=>conn_16 b.hv M (Yv hM)
theorem i_table{m:Zd}{q:Zc}{sizes:List Int}(b:Base m q sizes):∀i,i<=(Zn q.Atoms).length->∀(cc:List (List Za)) (fr fr1:Bool),cc.length=2 ^ q.Atoms.length->(∀M∈(Zn q.Atoms).take i,cc[M.toNat]?=some (ofM (Z8 m sizes q i) M))->(i=(Zn q.Atoms).length->fr1=false)->
  Zjk m q fr cc fr1 (Z8 m sizes q i) (Zn q.Atoms) sizes (Zn q.Atoms).length i=some (.own 0,[.arr 126 4 false ((Z8 m sizes q (Zn q.Atoms).length).map Za.c)]):=by
 have hcl:=Zwr b.hv;refine down _ ?_ ?_
 .intro cc fr fr1 _ _ hf;rw[hf rfl];refine Zbf4 _ _ _ _ _ _ _ _ _ _ _ ?_;rw[if_neg (by omega)];exact l_copyT false _ (by have:=Zlu b (Yf (Zn q.Atoms).length);omega) (Zsv b (Yf _)) 0 (Ye _)
 .intro i hi ih cc fr fr1 htl hT hf;have h4:=Zw (i:=i) (by omega);have hw:w ((i:Int)+1)=((i+1:Nat):Int):=by rw[show w ((i:Int)+1)=(i:Int)+1 from h4];simp
  obtain⟨c1,c2,c3,c4⟩:=Zlt hi;have hinv:=Zjx b i (by omega);have hstep:=Zbio b hinv c1 c2 c3 c4 (Z4d (Zsu _) hi);have hheld:=Z4c b hinv c1 c2 c3 c4;have hnext:Z8 m sizes q (i+1)=Z8 m sizes q i++entM m sizes q (Z8 m sizes q i) (Zn q.Atoms)[i]:=by
   rw[Z8];congr 2;simp[List.getD,hi]
  have hlen:=Zlu b (i:=i) (by omega);have h16:=(c1.m16 b.hv).1;have hpw:=Zgn q.Atoms.length;have hMt:(Zn q.Atoms)[i].toNat<cc.length:=by have:=c1.1;have:=c1.2;omega
  have key:∀f1 E,E=entM m sizes q (Z8 m sizes q i) (Zn q.Atoms)[i]->Zjk m q f1 (cc.set (Zn q.Atoms)[i].toNat E) (fr1 && flat (E.map Za.c)) (Z8 m sizes q i++E) (Zn q.Atoms) sizes (Zn q.Atoms).length (w ((i:Int)+1))=some (.own 0,[.arr 126 4 false ((Z8 m sizes q (Zn q.Atoms).length).map Za.c)]):=by
   intro f1 E hE;subst hE;rw[hw,flat_ne hheld.ne,Bool.and_false,<-hnext];refine ih _ _ _ (by rw[Ybz];exact htl) ?_ (λ_=>rfl);intro A hA;rw[Ycl hi]at hA;rcases Yg.1 hA with hA|hA
   .have hne:A≠(Zn q.Atoms)[i]:=λh=>Z4d (Zsu _) hi (h▸hA)
    have hA0:=(Zls.1 (Yv hA)).1;have:=c1.1;rw[List.getElem?_set_ne (by omega),hT A hA,hnext,hstep.2.1 A hA]
   .rw[List.mem_singleton.1 hA,List.getElem?_set_self hMt,hnext,hstep.2.2]
  have hget:(Zn q.Atoms)[i]?=some (Zn q.Atoms)[i]:=Yb hi;generalize (Zn q.Atoms)[i]=M at *
  have hic:Zb2 q.Ze q.Atoms M=true:=by
   unfold Zb2;rw[b.hv,c3,Zgm b.hv];have h1:=c1.1;have h2:=c1.2;simp[inR,c2,h1];omega
  have e1:(Zcn q M).map Prod.fst=Zv q.Atoms M:=by
   unfold Zcn;rw[List.map_map];exact List.map_id _
  have e2:(Zcn q M).length=(Zv q.Atoms M).length:=by unfold Zcn;rw[Ybw]
  have hps:(Zcn q M).length<=100:=by rw[e2];have:=Zwq (qa:=q.Atoms) h16;omega
  have hok:∀p∈Zcn q M,Zbih m q sizes (Z8 m sizes q i) cc M p.1 p.2:=by
   intro p hp;have o:=Zst b hinv c1 c3 c4 p hp;unfold Zcn at hp;rw[Yx]at hp;obtain⟨A,hA,rfl⟩:=hp;have hd:=Zbwr b.hv c1 hA;obtain⟨q1,q2⟩:=Z4b c1 hA;refine⟨o,hd,?_,hT A (c4 A hA).1,hT _ (c4 A hA).2⟩;rw[hd];exact Zbvp q b.hq b.hv A (M-A) q1 q2
  have hgo:∀a0 a1 a2 a3 a4:Za,((Zcn q M).foldl (oneJ m sizes M (Z8 m sizes q i)) [a0,a1,a2,a3,a4]).filter sm=entM m sizes q (Z8 m sizes q i) M->
    Zg8 m q fr cc fr1 (Z8 m sizes q i) m q sizes M a0 a1 a2 a3 a4 (sm a0) (sm a1) (sm a2) (sm a3) (sm a4) (Zn q.Atoms) (Zv q.Atoms M) sizes M (Zn q.Atoms).length i (Zv q.Atoms M).length 0=some (.own 0,[.arr 126 4 false ((Z8 m sizes q (Zn q.Atoms).length).map Za.c)]):=by
   intro a0 a1 a2 a3 a4 hE;have:=i_splits b h16 c2 cc hMt (Z8 m sizes q i) (by omega) (Zcn q M) hps hok fr fr1 (Zn q.Atoms) (Zn q.Atoms).length i _ 0 (Ye _) a0 a1 a2 a3 a4 (λf1 E h=>key f1 E (by rw[Yk,hE]at h;exact h.symm));rw[e1,e2]at this;exact this
  refine Zbf4 _ _ _ _ _ _ _ _ _ _ _ ?_;rw[if_pos (by omega)];refine⟨by omega,M,by rw[Yd];exact hget,.inr ⟨Zdt M,Zbvc h16,?_⟩⟩
  cases ho:oneB (ofI M)with
  |true =>
   obtain⟨j,hj4,ha,hMj⟩:=Z36 h16 ho;have hent:=Z38 (m:=m) (sizes:=sizes) (q:=q) (out:=Z8 m sizes q i) ha;have hE:=hheld;rw[hent]at hE;have hlen1:=hE.len _ (List.mem_singleton.2 rfl);have hmk:=hE.makes _ (List.mem_singleton.2 rfl);have hod:=hE.ord _ (List.mem_singleton.2 rfl);have hjl:j<q.Atoms.length:=by
    have h2:=c1.2;have e:shlI 1 (j:Nat)=2 ^ j:=by
     have:j=0\/j=1\/j=2\/j=3:=by omega
     rcases this with rfl|rfl|rfl|rfl<;>decide
    rw[hMj,e]at h2;have h3:(2:Int) ^ j<2 ^ q.Atoms.length:=h2;rw[<-Zgn,<-Zgn]at h3;exact(Nat.pow_lt_pow_iff_right (by omega)).1 (by omega:2 ^ j<2 ^ q.Atoms.length)
   have hvar:=Zkc b.hv _ (Yh hjl);obtain⟨v,vs,hvs⟩:∃v vs,q.Atoms[j].Vars=v::vs:=by
    cases hh:q.Atoms[j].Vars with
    |nil=>rw[hh]at hvar;simp at hvar
    |cons v vs=>exact⟨v,vs,rfl⟩
   have hv3:0<=v/\v<=3:=by
    have:=Zt0 b.hv _ (Yh hjl) v (by rw[hvs];simp);have hn:=Zfq b.hv;simp[inR]at this;omega
   have hse:Zjw m sizes q M (j:Int)=⟨M,v,Zbb m.Scan (szAt sizes M) 0 (szAt sizes M),⟨[⟨1,j,0⟩]⟩⟩:=by
    simp[Zjw,Yb hjl,hvs]
   rw[hse]at hmk;have hcost:=Zbn.cost hmk b.hv (by simp) b.hsv;obtain⟨t,ht,hx⟩:=Zbhv m b.hm q b.hq sizes b.hs M c2 zE zE zE zE zE [⟨1,j,0⟩] v (by omega) _ hcost;rw[show sm zE=false from rfl]at hx
   have hnx:=hgo _ _ _ _ _ (by
    have hsp:Zcn q M=[]:=by unfold Zcn;rw[hMj,Zbwq hj4];rfl
    rw[hsp,List.foldl_nil,hent,hse]
    exact Zbwo (c:=Zbb m.Scan (szAt sizes M) 0 (szAt sizes M)) (x:=[⟨1,j,0⟩]) c2 hv3)
   rw[ha,if_pos (by simp)];refine⟨(j:Int),rfl,_,Zbvr _,by omega,q.Atoms[j],by rw[Yd];exact Yb hjl,v,by rw[hvs];rfl,?_⟩;rcases ht with rfl|rfl
   .exact .inl ⟨m,q,sizes,M,_,_,_,_,_,_,_,_,_,_,hx,.inr ⟨_,Z3l q b.hq M hic,hnx⟩⟩
   .exact .inr ⟨m,q,sizes,M,_,_,_,_,_,_,_,_,_,_,_,hx,.inr ⟨_,Z3l q b.hq M hic,hnx⟩⟩
  |false =>
   have hne:=Z37 h16 ho;rw[if_neg (by omega)];have hnx:=hgo zE zE zE zE zE (by rw[Z39 hne];rfl);rw[show sm zE=false from rfl]at hnx;exact .inr ⟨_,Z3l q b.hq M hic,hnx⟩
theorem Zbws{m:Zd}{q:Zc}{sizes:List Int}(b:Base m q sizes)(ha:Zcl m):Zn1 m q sizes=some (.own 0,[.arr 126 4 false ((Z8 m sizes q (Zn q.Atoms).length).map Za.c)]):=by
 have hf:=Zgm b.hv;have hpw:=Zgn q.Atoms.length;have h16:2 ^ q.Atoms.length<=16:=Nat.pow_le_pow_right (by omega:0<2) (Zcq b.hv).2;have hp1:1<=2 ^ q.Atoms.length:=Nat.one_le_two_pow;have e1:w (Zu q.Ze q.Atoms+1)=2 ^ q.Atoms.length:=by rw[w_id (by omega) (by omega)];omega
 have hr:room=140737488355328:=rfl;refine Zbtl ⟨_,Zbg1 m b.hm,?_⟩;rw[if_pos (by simpa using ha)];refine⟨_,Zbhf q b.hq sizes b.hs,?_⟩;rw[if_pos b.hsv];refine⟨_,Zjp q b.hq,?_⟩;rw[e1];have e2:((2:Int) ^ q.Atoms.length).toNat=2 ^ q.Atoms.length:=by omega
 rw[e2];refine⟨by omega,by omega,by rw[hr];omega,by omega,_,Zbu6 q b.hq b.hv,?_⟩;refine i_table b 0 (Ye _) _ true true (by simp) (by simp) ?_;intro h;exfalso
 have:(1:Int)∈Zn q.Atoms:=by
  refine Zls.2 ⟨by omega,?_,?_⟩
  .have:2 ^ 1<=2 ^ q.Atoms.length:=Nat.pow_le_pow_right (by omega) (Zcq b.hv).1
   omega
  .have h1:=Zsr b.hv (true,false,false,false);rw[show toI (true,false,false,false)=1 from rfl]at h1;rw[h1];have key:∀a b c d e f:Bool,∀n:Fin 5,Zc6 ⟨a,b,c,d,e,f⟩ n.1 (true,false,false,false)=true:=by decide
   exact key _ _ _ _ _ _ ⟨q.Atoms.length,by have:=(Zcq b.hv).2;omega⟩
 rw[Ycj.1 h.symm]at this;cases this
def shOf(q:Zc)(M:Int):List (List Int):=(Zv q.Atoms M).map λA=>Zep q A (M-A)
def Zeq(q:Zc)(M:Int):Z2:=⟨M,Zv q.Atoms M,shOf q M⟩
def shapes(q:Zc):List Z2:=(Zn q.Atoms).map (Zeq q)
theorem Zbwt{q:Zc}(hv:Zk q.Ze q.Atoms=true){M:Int}(c1:MQ q.Atoms M)(c2:M≠0)(c3:conn q.Atoms M=true):Zb2 q.Ze q.Atoms M=true:=by
 unfold Zb2;rw[hv,c3,Zgm hv];have h1:=c1.1;have h2:=c1.2;simp[inR,c2,h1];omega
section
variable(q:Zc)(hq:LeQ q)(hv:Zk q.Ze q.Atoms=true)
include hq hv
theorem Zbiq{M:Int}(hM:MQ q.Atoms M){A:Int}(hA:A∈Zv q.Atoms M):Zhu q A (w (M-A))=some (.own 0,[.arr 3 1 true ((Zep q A (M-A)).map ic)]):=by
 obtain⟨q1,q2⟩:=Z4b hM hA;have h16:=(q2.m16 hv).1;rw[w_id (by omega) (by omega)];exact Zbho q hq hv A (M-A) q1 q2
theorem Zbwu(out:List Z2)(c:out.length<=1000){i:Nat}(hi:i<(Zn q.Atoms).length)(r:AV×List Blk)(h:Zi1 q (out++[Zeq q (Zn q.Atoms)[i]]) (Zn q.Atoms) (w ((i:Int)+1))=some r) :
  ∀k,k<=(Zv q.Atoms (Zn q.Atoms)[i]).length->Zqk q out (Zn q.Atoms) (Zn q.Atoms)[i] (Zv q.Atoms (Zn q.Atoms)[i]) ((shOf q (Zn q.Atoms)[i]).take k) i k=some r:=by
 obtain⟨c1,c2,c3,c4⟩:=Zlt hi;have hsl:=Zwq (qa:=q.Atoms) (c1.m16 hv).1;have hlen:(shOf q (Zn q.Atoms)[i]).length=(Zv q.Atoms (Zn q.Atoms)[i]).length:=by simp[shOf]
 refine down _ ?_ ?_
 .refine Zbeq _ _ _ _ _ _ _ _ _ ?_;rw[if_neg (by omega)];refine⟨by omega,?_⟩;rw[<-hlen,Yb1];exact h
 .intro k hk ih;have h4:=Zw (i:=k) (by omega);have hw:w ((k:Int)+1)=((k+1:Nat):Int):=by rw[show w ((k:Int)+1)=(k:Int)+1 from h4];simp
  refine Zbeq _ _ _ _ _ _ _ _ _ ?_;rw[if_pos (by omega),hw];refine⟨by omega,_,by rw[Yd];exact Yb hk,by omega,_,by rw[Yd];exact Yb hi,_,Zbiq q hq hv c1 (Yh hk),?_,?_⟩
  .rw[Ybg];omega
  .rw[Ycl (by omega)]at ih;simpa[shOf]using ih
theorem Zbwv(out:List Z2)(c:out.length<=1000){i:Nat}(hi:i<(Zn q.Atoms).length)(r:AV×List Blk)(h:Zi1 q (out++[Zeq q (Zn q.Atoms)[i]]) (Zn q.Atoms) (w ((i:Int)+1))=some r) :
  Zuq q out (Zn q.Atoms) (Zn q.Atoms)[i] (Zv q.Atoms (Zn q.Atoms)[i]) i 0=some r:=by
 obtain⟨c1,c2,c3,c4⟩:=Zlt hi;refine Zbrm _ _ _ _ _ _ _ _ ?_;by_cases h0:(Zv q.Atoms (Zn q.Atoms)[i]).length=0
 .rw[if_neg (by omega)];refine⟨by omega,?_⟩
  have:Zeq q (Zn q.Atoms)[i]=⟨(Zn q.Atoms)[i],Zv q.Atoms (Zn q.Atoms)[i],[]⟩:=by
   unfold Zeq shOf;rw[Ycj.1 h0];rfl
  rw[<-this];exact h
 .rw[if_pos (by omega)];have hk:0<(Zv q.Atoms (Zn q.Atoms)[i]).length:=by omega
  have:=Zbwu q hq hv out c hi r h 1 (by omega);refine⟨by omega,_,Yb hk,by omega,_,by rw[Yd];exact Yb hi,_,Zbiq q hq hv c1 (Yh hk),?_⟩;rw[show w ((0:Int)+1)=((1:Nat):Int)from by decide];have e:(shOf q (Zn q.Atoms)[i]).take 1=[Zep q (Zv q.Atoms (Zn q.Atoms)[i])[0] ((Zn q.Atoms)[i]-(Zv q.Atoms (Zn q.Atoms)[i])[0])]:=by
   rw[Ycl (by simp[shOf];omega)];simp[shOf]
  rw[e]at this;exact this
theorem l_shapes:∀i,i<=(Zn q.Atoms).length->Zi1 q ((shapes q).take i) (Zn q.Atoms) i=some (.own 0,[.arr 220 3 true ((shapes q).map Z2.c)]):=by
 have hcl:=Zwr hv;have hlen:(shapes q).length=(Zn q.Atoms).length:=by simp[shapes]
 refine down _ ?_ ?_
 .refine Zbep _ _ _ _ _ ?_;rw[if_neg (by omega),<-hlen,Yb1]
 .intro i hi ih;have h4:=Zw (i:=i) (by omega);have hw:w ((i:Int)+1)=((i+1:Nat):Int):=by rw[show w ((i:Int)+1)=(i:Int)+1 from h4];simp
  obtain⟨c1,c2,c3,c4⟩:=Zlt hi;refine Zbep _ _ _ _ _ ?_;rw[if_pos (by omega)];refine⟨by omega,_,by rw[Yd];exact Yb hi,_,Z3m q hq _ (Zbwt hv c1 c2 c3),?_⟩;refine Zbwv q hq hv _ (by rw[Ybg];omega) hi _ ?_;rw[hw];rw[Ycl (by omega)]at ih;simpa[shapes]using ih
theorem Z4e:Zhz q=some (.own 0,[.arr 220 3 true ((shapes q).map Z2.c)]) :=
 Zbrn _ _ ⟨_,Zbu8 q hq hv,by simpa using l_shapes q hq hv 0 (Ye _)⟩
end
theorem f_one:∀a:Fin 16,1<=a.1->(andI (a.1:Int) (w ((a.1:Int)-1))=0↔oneB (ofI (a.1:Int))=true):=by decide
theorem Zbir{α β:Type}(f:α->β):∀l:List α,l.zip (l.map f)=l.map λa=>(a,f a)
 |[]=>rfl
 |a::l=>by simp[Zbir f l]
theorem s_table{m:Zd}{q:Zc}{sizes:List Int}(b:Base m q sizes):∀i,i<=(Zn q.Atoms).length->∀fr:Bool,∃fr',Zne (shapes q) sizes m q fr (Z8 m sizes q i) i=some (.own 2,[.arr 220 3 true ((shapes q).map Z2.c),.arr 3 1 true (sizes.map ic),.arr 126 4 fr' ((Z8 m sizes q (Zn q.Atoms).length).map Za.c)]):=by
 have hcl:=Zwr b.hv;have hlen:(shapes q).length=(Zn q.Atoms).length:=by simp[shapes]
 refine down _ ?_ ?_
 .intro fr;refine⟨fr,Z25 _ _ _ _ _ _ _ _ ?_⟩;rw[if_neg (by omega)]
 .intro i hi ih fr;have h4:=Zw (i:=i) (by omega);have hw:w ((i:Int)+1)=((i+1:Nat):Int):=by rw[show w ((i:Int)+1)=(i:Int)+1 from h4];simp
  obtain⟨c1,c2,c3,c4⟩:=Zlt hi;have hinv:=Zjx b i (by omega);have hheld:=Z4c b hinv c1 c2 c3 c4;have hnext:Z8 m sizes q (i+1)=Z8 m sizes q i++entM m sizes q (Z8 m sizes q i) (Zn q.Atoms)[i]:=by
   rw[Z8];congr 2;simp[List.getD,hi]
  have hol:=Zlu b (i:=i) (by omega);have h16:=(c1.m16 b.hv).1;have hget:(shapes q)[i]?=some (Zeq q (Zn q.Atoms)[i]):=by
   unfold shapes;rw[Yce,Yb hi];rfl
  rw[hnext]at ih;generalize (Zn q.Atoms)[i]=M at *
  have hz:=sz_ok b.hsv c1;have h1:(andI M (w (M-1))=0↔oneB (ofI M)=true):=by
   have q1:=c1.1;obtain⟨a,rfl⟩:=m16 h16;exact f_one a (by omega)
  have hle:=hheld.le
  cases ho:oneB (ofI M)with
  |true =>
   obtain⟨j,hj4,ha,hMj⟩:=Z36 h16 ho;have hent:=Z38 (m:=m) (sizes:=sizes) (q:=q) (out:=Z8 m sizes q i) ha;have hjl:j<q.Atoms.length:=by
    have h2:=c1.2;have e:shlI 1 (j:Nat)=2 ^ j:=by
     have:j=0\/j=1\/j=2\/j=3:=by omega
     rcases this with rfl|rfl|rfl|rfl<;>decide
    rw[hMj,e]at h2;have h3:(2:Int) ^ j<2 ^ q.Atoms.length:=h2;rw[<-Zgn,<-Zgn]at h3;exact(Nat.pow_lt_pow_iff_right (by omega)).1 (by omega:2 ^ j<2 ^ q.Atoms.length)
   have hvar:=Zkc b.hv _ (Yh hjl);obtain⟨v,vs,hvs⟩:∃v vs,q.Atoms[j].Vars=v::vs:=by
    cases hh:q.Atoms[j].Vars with
    |nil=>rw[hh]at hvar;simp at hvar
    |cons v vs=>exact⟨v,vs,rfl⟩
   have hse:Zjw m sizes q M (j:Int)=⟨M,v,Zbb m.Scan (szAt sizes M) 0 (szAt sizes M),⟨[⟨1,j,0⟩]⟩⟩:=by
    simp[Zjw,Yb hjl,hvs]
   rw[hent,hse]at ih;obtain⟨fr',hr⟩:=ih fr;refine⟨fr',Z25 _ _ _ _ _ _ _ _ ?_⟩;rw[if_pos (by omega)];refine⟨by omega,_,by rw[Yd];exact hget,?_⟩;have h1':andI (Zeq q M).mask (w ((Zeq q M).mask-1))=0:=h1.2 ho;rw[if_pos h1',hw];refine⟨_,Z3n h16,(j:Int),by rw[show Zdt (Zeq q M).mask=[(j:Int)]from ha];rfl,by omega,q.Atoms[j],by rw[Yd];exact Yb hjl,v,by rw[hvs];rfl,hz.1,_,hz.2,_,Zgk _ b.hm.1 _ _ _,_,Z3s _,by omega,?_⟩
   exact hr
  |false =>
   have hne:=Z37 h16 ho;have ok:=Zst b hinv c1 c3 c4;have hzip:(Zeq q M).Zv.zip (Zeq q M).shared=Zcn q M:=Zbir _ _;have hsl:=Zwq (qa:=q.Atoms) h16;obtain⟨f1,hJ⟩:=Zbwj m b.hm b.hg sizes b.hcl q.Atoms fr (Z8 m sizes q i) (by omega) (Zeq q M) hz h16 (by show 0<M;have:=c1.1;omega) (by simp[Zeq,shOf]) (by show(Zv q.Atoms M).length<=100;omega) (by rw[hzip];exact ok);rw[hzip]at hJ;have hent:=Z39 (m:=m) (sizes:=sizes) (q:=q) (out:=Z8 m sizes q i) hne;rw[hent]at ih hle;obtain⟨fr',hr⟩:=ih (fr && flat (((Zjv m sizes M (Z8 m sizes q i) (Zcn q M)).filter sm).map Za.c));refine⟨fr',Z25 _ _ _ _ _ _ _ _ ?_⟩;rw[if_pos (by omega)];refine⟨by omega,_,by rw[Yd];exact hget,?_⟩;have h1':¬andI (Zeq q M).mask (w ((Zeq q M).mask-1))=0:=λh=>by have:=h1.1 h;rw[ho]at this;cases this
   rw[if_neg h1',hw];exact⟨_,_,hJ,by show(Z8 m sizes q i).length+((Zjv m sizes M (Z8 m sizes q i) (Zcn q M)).filter sm).length<=68719476736;omega,hr⟩
theorem Z4f{m:Zd}{q:Zc}{sizes:List Int}(b:Base m q sizes):∃fr',Zi3 (shapes q) sizes m q=some (.own 2,[.arr 220 3 true ((shapes q).map Z2.c),.arr 3 1 true (sizes.map ic),.arr 126 4 fr' ((Z8 m sizes q (Zn q.Atoms).length).map Za.c)]):=by
 obtain⟨fr',h⟩:=s_table b 0 (Ye _) true;exact⟨fr',Zbrv _ _ _ _ _ h⟩
theorem Zbww(a b c:Int)(fr:Bool)(l:List Za)(hl:l.length<=1000):∀i,i<=l.length->∀best,Zn2 a b c best fr l l.length i=some (.agg (((l.drop i).foldl Zcm best).c.map .t),[.arr 126 4 fr (l.map Za.c)]):=by
 refine down _ ?_ ?_
 .intro best;refine Zbf9 _ _ _ _ _ _ _ _ _ ?_;rw[if_neg (by omega)];simp
 .intro i hi ih best;have h4:=Zw (i:=i) (by omega);refine Zbf9 _ _ _ _ _ _ _ _ _ ?_;rw[if_pos (by omega),Yj hi,Yr];refine⟨by omega,l[i],by rw[Yd];exact Yb hi,?_⟩;rw[show w ((i:Int)+1)=((i+1:Nat):Int)from by rw[show w ((i:Int)+1)=(i:Int)+1 from h4];simp];by_cases e:l[i].Cost<best.Cost
  .rw[if_pos e,show Zcm best l[i]=l[i] by simp[Zcm,e]];exact ih _
  .rw[if_neg e,show Zcm best l[i]=best by simp[Zcm,e]];exact ih _
theorem Zbwx(fr:Bool)(l:List Za)(h0:l≠[])(hl:l.length<=1000):Zvl fr l=some (.agg ((Z3 l).c.map .t),[.arr 126 4 fr (l.map Za.c)]):=by
 cases l with
 |nil=>exact absurd rfl h0
 |cons e l =>
  refine Zbtm _ _ _ ⟨e,rfl,?_⟩;have:=Zbww 0 0 0 fr (e::l) hl 0 (Ye _) e;simpa[Z3]using this
theorem l_best(l:List Za)(mask:Int)(hl:l.length<=1000)(cc:ofM l mask≠[])(hs:∀e∈l,e.Plan.Steps.length<=1000):∀i,i<=l.length->∀fr,Zn3 0 0 0 fr (ofM (l.take i) mask) mask l l.length i=some (.tup [.agg [I (Z3 (ofM l mask)).Mask,I (Z3 (ofM l mask)).Order,I (Z3 (ofM l mask)).Cost,.own 0],Bo true],[.arr 162 3 true ((Z3 (ofM l mask)).Plan.Steps.map Zb.c)]):=by
 refine down _ ?_ ?_
 .intro fr;refine Zbga _ _ _ _ _ _ _ _ _ _ ?_;rw[if_neg (by omega),Yb1];have h1:(ofM l mask).length≠0:=λh=>cc (Ycj.1 h)
  have h2:(ofM l mask).length<=l.length:=Ybr _ _;rw[if_neg (by omega)];have hmem:=Z3u cc;exact⟨_,Zbwx fr _ cc (by omega),_,Zwg _ (hs _ (Y2.1 hmem).1),rfl⟩
 .intro i hi ih fr;have h4:=Zw (i:=i) (by omega);have hw:w ((i:Int)+1)=((i+1:Nat):Int):=by rw[show w ((i:Int)+1)=(i:Int)+1 from h4];simp
  rw[Zbhw l mask hi]at ih;have h2:(ofM (l.take i) mask).length<=(l.take i).length:=Ybr _ _;rw[Ybg]at h2;refine Zbga _ _ _ _ _ _ _ _ _ _ ?_;rw[if_pos (by omega),hw];refine⟨by omega,l[i],by rw[Yd];exact Yb hi,?_⟩;by_cases e:l[i].Mask=mask
  .rw[if_pos e];rw[if_pos e]at ih;exact⟨by omega,ih false⟩
  .rw[if_neg e];rw[if_neg e,Ybv]at ih;exact ih fr
theorem Zbwy(l:List Za)(mask:Int)(hl:l.length<=1000)(cc:ofM l mask≠[])(hs:∀e∈l,e.Plan.Steps.length<=1000):Zrl l mask=some (.tup [.agg [I (Z3 (ofM l mask)).Mask,I (Z3 (ofM l mask)).Order,I (Z3 (ofM l mask)).Cost,.own 0],Bo true],[.arr 162 3 true ((Z3 (ofM l mask)).Plan.Steps.map Zb.c)]) :=
 Zbtn _ _ _ (by simpa[ofM]using l_best l mask hl cc hs 0 (Ye _) true)
theorem Zbis(l:List Za)(mask:Int)(hl:l.length<=1000)(cc:ofM l mask≠[])(hs:∀e∈l,e.Plan.Steps.length<=1000):Zel l mask=some (.tup [.agg [I (Z3 (ofM l mask)).Mask,I (Z3 (ofM l mask)).Order,I (Z3 (ofM l mask)).Cost,.own 0],Bo true],[.arr 162 3 true ((Z3 (ofM l mask)).Plan.Steps.map Zb.c)]):=by
 obtain⟨k1,k2⟩:=Zwk cc;have hmem:=Z3u cc;have:=hs _ (Y2.1 hmem).1;refine Z27 _ _ _ ⟨_,Zjs l mask hl,?_⟩;rw[if_neg (by omega)];exact⟨k1,_,k2,by omega,rfl⟩
def tab(m:Zd)(q:Zc)(sizes:List Int):List Za:=Z8 m sizes q (Zn q.Atoms).length
def opt(m:Zd)(q:Zc)(sizes:List Int):Za:=Z3 (ofM (tab m q sizes) (Zu q.Ze q.Atoms))
theorem Zbit{q:Zc}(hv:Zk q.Ze q.Atoms=true):MQ q.Atoms (Zu q.Ze q.Atoms):=by
 have:=Zgm hv;have:=Zt1 hv;exact⟨by omega,by omega⟩
theorem Zsw{m:Zd}{q:Zc}{sizes:List Int}(b:Base m q sizes)(hc:Zb2 q.Ze q.Atoms (Zu q.Ze q.Atoms)=true):Held m sizes q.Atoms (Zu q.Ze q.Atoms) (ofM (tab m q sizes) (Zu q.Ze q.Atoms)):=by
 refine(Zjx b _ (Yf _)).held _ ?_;rw[Yb1];have hp:=Zt1 b.hv;have hq:=Zbit b.hv;unfold Zb2 at hc;simp only[Yc]at hc;exact Zls.2 ⟨by omega,hq.2,hc.2⟩
theorem Zbwz{m:Zd}{q:Zc}{sizes:List Int}(b:Base m q sizes)(ha:Zcl m)(hc:Zb2 q.Ze q.Atoms (Zu q.Ze q.Atoms)=true):Zrm m q sizes=some (.tup [.agg [I (opt m q sizes).Mask,I (opt m q sizes).Order,I (opt m q sizes).Cost,.own 0],Bo true],[.arr 162 3 true ((opt m q sizes).Plan.Steps.map Zb.c)]):=by
 have hl:=Zlu b (Yf (Zn q.Atoms).length);refine Zbto _ _ _ _ (.inr ⟨_,_,Zbws b ha,_,Zjp q b.hq,.inr ⟨_,_,_,_,Zbwy _ _ (by omega) (Zsw b hc).ne (Zsv b (Yf _)),rfl⟩⟩)
theorem Zbw0{m:Zd}{q:Zc}{sizes:List Int}(b:Base m q sizes)(ha:Zcl m)(hc:Zb2 q.Ze q.Atoms (Zu q.Ze q.Atoms)=true):Zrn m q sizes=some (I (opt m q sizes).Cost,[]) :=
 Zbtp _ _ _ _ (.inr ⟨_,_,_,_,Zbwz b ha hc,rfl⟩)
theorem Zbiu{m:Zd}{q:Zc}{l:List Int}(hl:l.length<=4294967296)(h:Z9 l=true)(b:Base m q (Zbh l))(ha:Zcl m)(hc:Zb2 q.Ze q.Atoms (Zu q.Ze q.Atoms)=true):Zro m q l=some (I (opt m q (Zbh l)).Cost,[]):=by
 have hb:=Zbhj l hl;rw[h,if_pos rfl]at hb;exact Zbtq _ _ _ _ (.inl ⟨_,hb,_,Zbw0 b ha hc,rfl⟩)
def LeR(r:Region):Prop:=Le r.Box.Low/\Le r.Box.High
theorem x_boxOk(q:Zc)(hq:LeQ q)(bx:Box)(hb:LeX bx):Zq4 q bx=some (Bo (Zkb q.Ze q.Atoms bx.Low bx.High),[]):=by
 have q5:=Ztz q.Ze q.Atoms;refine Zbsk _ _ _ ⟨_,Zv5 bx hb,?_⟩;unfold Zkb;rcases tf (Z6 bx.Low bx.High)with e|e
 .rw[e];simp
 .rw[e,if_pos rfl];refine⟨_,Zjp q hq,?_⟩;rw[show w (Zu q.Ze q.Atoms+1)=Zu q.Ze q.Atoms+1 from q5];simp
theorem Zbiv(q:Zc)(hq:LeQ q)(r:Region)(hr:LeR r):Znj q r=some (Bo (Zgz q.Ze q.Atoms r.Plan.Steps r.Box.Low r.Box.High r.Percent),[]):=by
 refine Zbsp _ _ _ ⟨_,Zsd q hq,?_⟩;unfold Zgz;rcases tf (Zk q.Ze q.Atoms)with e|e
 .rw[e];simp
 rw[e,if_pos rfl];refine⟨_,x_boxOk q hq r.Box hr,?_⟩;rcases tf (Zkb q.Ze q.Atoms r.Box.Low r.Box.High)with e2|e2
 .rw[e2];simp
 rw[e2,if_pos rfl];refine⟨_,Zbup q r.Plan hq,_,Zjp q hq,?_⟩;by_cases e3:Ziu q.Ze q.Atoms r.Plan.Steps=Zu q.Ze q.Atoms
 .rw[if_pos e3];exact⟨_,Zfb _ _ _,by simp[e3]⟩
 .rw[if_neg e3];simp[e3]
theorem Z4g(q:Zc)(hq:LeQ q)(r:Region)(hr:LeR r):Zi5 q r=some (Bo (Zgz q.Ze q.Atoms r.Plan.Steps r.Box.Low r.Box.High r.Percent),[]):=by
 have q5:=Ztz q.Ze q.Atoms;refine Zbr0 _ _ _ ⟨_,Zv6 r.Box hr,?_⟩;unfold Zgz Zkb;rcases tf (Z6 r.Box.Low r.Box.High)with e|e
 .rw[e];simp
 rw[e,if_pos rfl];refine⟨_,Zcs q hq,?_⟩;rw[show w (Zu q.Ze q.Atoms+1)=Zu q.Ze q.Atoms+1 from q5];by_cases e4:(r.Box.Low.length:Int)=Zu q.Ze q.Atoms+1
 .rw[if_pos e4];refine⟨_,Zbuq q r.Plan hq,?_⟩;by_cases e3:Ziu q.Ze q.Atoms r.Plan.Steps=Zu q.Ze q.Atoms
  .rw[if_pos e3];rcases tf (Zk q.Ze q.Atoms)with e1|e1
   .have e5:Zu q.Ze q.Atoms=0:=by unfold Zu;rw[e1];rfl
    rw[if_neg (by omega)];simp[e1]
   .have e5:=Zt1 e1;rw[if_pos e5];exact⟨_,Zfz _ _ _,by simp[e1,e3,e4]⟩
  .rw[if_neg e3];simp[e3]
 .rw[if_neg e4];simp[e4]
def Zbt(m:Zd)(q:Zc)(r:Region):Prop:=Zgz q.Ze q.Atoms r.Plan.Steps r.Box.Low r.Box.High r.Percent=true/\Zb2 q.Ze q.Atoms (Zu q.Ze q.Atoms)=true/\Zcl m
theorem Zoo{l:List Int}(h:Z9 l=true):l.length<=16:=by
 simp only[Z9,Yc,decide_eq_true_eq]at h;omega
theorem Zws{a:Int}(h:0<=a/\a<=7):inR (Zbl a) 0 4096=true:=by
 have:a=0\/a=1\/a=2\/a=3\/a=4\/a=5\/a=6\/a=7:=by omega
 rcases this with rfl|rfl|rfl|rfl|rfl|rfl|rfl|rfl<;>decide
theorem Zop{m:Zd}(hm:LeM m)(ha:Zcl m){q:Zc}(hq:LeQ q)(hv:Zk q.Ze q.Atoms=true){l:List Int}(h:Z9 l=true)(hl:(l.length:Int)=Zu q.Ze q.Atoms+1):Base m q (Zbh l):=by
 have hll:(l.length:Int)<=16:=by simp only[Z9,Yc,decide_eq_true_eq]at h;exact h.2
 have hc:=Zbv1 h;refine⟨hm,ha.2.1,hq,hv,by simp[Zbh];omega,hc,?_⟩;unfold Zb6 Zjr;rw[hv]
 have:(Zbh l).all (λx=>inR x 0 4096)=true:=by
  rw[Yl];intro s hs;obtain⟨a,h1,rfl⟩:=hc s hs;exact Zws h1
 rw[this];simp[Zbh,hl]
theorem Zgp{m:Zd}{q:Zc}{r:Region}(h:Zbt m q r):Zk q.Ze q.Atoms=true/\Z9 r.Box.Low=true/\Z9 r.Box.High=true/\(r.Box.Low.length:Int)=Zu q.Ze q.Atoms+1/\Z6 r.Box.Low r.Box.High=true/\inR r.Percent 100 1000=true/\Ziu q.Ze q.Atoms r.Plan.Steps=Zu q.Ze q.Atoms:=by
 have h1:=h.1;unfold Zgz Zkb at h1;simp only[Yc,decide_eq_true_eq]at h1;have h2:=h1.1.1.2.1;unfold Z6 at h2;simp only[Yc,decide_eq_true_eq]at h2;exact⟨h1.1.1.1,h2.1.1.2,h2.1.2,h1.1.1.2.2,h1.1.1.2.1,h1.2,h1.1.2⟩
theorem Zbiw{m:Zd}{q:Zc}{r:Region}(hm:LeM m)(hq:LeQ q)(h:Zbt m q r):Base m q (Zbh r.Box.Low):=by
 obtain⟨h1,h2,h3,h4,_⟩:=Zgp h;exact Zop hm h.2.2 hq h1 h2 h4
def Zhi(m:Zd)(q:Zc)(r:Region):Bool:=decide (w (100*Zcc m q.Ze q.Atoms r.Plan.Steps (Zbh r.Box.High))<=w (r.Percent*(opt m q (Zbh r.Box.Low)).Cost))
theorem Z4h{m:Zd}{q:Zc}{r:Region}(hm:LeM m)(hq:LeQ q)(hr:LeR r)(h:Zbt m q r):Zib m q r=some (Bo (Zhi m q r),[]):=by
 obtain⟨h1,h2,h3,h4,_⟩:=Zgp h;have l1:=Zoo h2;have l2:=Zoo h3;exact Zbtr _ _ _ _ ⟨_,Zbhk m hm q hq r.Plan r.Box.High (by omega) h3,_,Zbiu (by omega) h2 (Zbiw hm hq h) h.2.2 h.2.1,rfl⟩
theorem Z4i{m:Zd}{q:Zc}{r:Region}(hm:LeM m)(hq:LeQ q)(hr:LeR r)(h:Zbt m q r):Zi6 m q r=some (Bo (Zhi m q r),[]):=by
 obtain⟨h1,h2,h3,h4,_⟩:=Zgp h;have l1:=Zoo h2;have l2:=Zoo h3;have b:=Zbiw hm hq h;have hl:=Zlu b (Yf (Zn q.Atoms).length);have hs:=Zwf r.Box.Low (by omega);rw[h2,if_pos rfl]at hs;obtain⟨fr,ht⟩:=Z4f b;refine Zbr5 _ _ _ _ ⟨_,Z4e q hq h1,_,hs,_,_,ht,_,Zcs q hq,.inr ⟨_,_,_,_,Zbis _ _ (by omega) (Zsw b h.2.1).ne (Zsv b (Yf _)),_,Zbhl m hm q hq r.Plan r.Box.High (by omega) h3,?_⟩⟩;unfold Zhi opt tab;rw[Int.mul_comm]
open Classical in
noncomputable def Zf9(m:Zd)(q:Zc)(r:Region):Bool:=decide (Zbt m q r) && Zhi m q r
theorem Z4j{m:Zd}{q:Zc}{r:Region}(hm:LeM m)(hq:LeQ q)(hr:LeR r):Zle m q r=some (Bo (@decide (Zbt m q r) (Classical.propDecidable _)),[]):=by
 refine Zbs3 _ _ _ _ ⟨_,Zbiv q hq r hr,?_⟩;rcases tf (Zgz q.Ze q.Atoms r.Plan.Steps r.Box.Low r.Box.High r.Percent)with e|e
 .rw[if_neg (by rw[e];simp)]
  have:¬Zbt m q r:=λh=>by rw[h.1]at e;cases e
  simp[this]
 rw[if_pos e];refine⟨_,Zjp q hq,_,Zbg8 q hq _,?_⟩;rcases tf (Zb2 q.Ze q.Atoms (Zu q.Ze q.Atoms))with e2|e2
 .rw[if_neg (by rw[e2];simp)]
  have:¬Zbt m q r:=λh=>by rw[h.2.1]at e2;cases e2
  simp[this]
 rw[if_pos e2];refine⟨_,Zbg1 m hm,?_⟩;by_cases ha:Zcl m
 .have:Zbt m q r:=⟨e,e2,ha⟩
  simp[this,ha]
 .have:¬Zbt m q r:=λh=>ha h.2.2
  simp[this,ha]
theorem Z4k{m:Zd}{q:Zc}{r:Region}(hm:LeM m)(hq:LeQ q)(hr:LeR r):Zlm m q r=some (Bo (Zf9 m q r),[]):=by
 refine Zbts _ _ _ _ ⟨_,Z4j hm hq hr,?_⟩;unfold Zf9;by_cases h:Zbt m q r
 .rw[if_pos (by simp[h])];exact⟨_,Z4h hm hq hr h,by simp[h]⟩
 .rw[if_neg (by simp[h])];simp[h]
theorem Zbix{m:Zd}{q:Zc}{r:Region}(hm:LeM m)(hq:LeQ q)(hr:LeR r):Zqv m q r=some (Bo (Zf9 m q r),[]):=by
 refine Zbr6 _ _ _ _ ⟨_,Zsj m hm,?_⟩;unfold Zf9;by_cases ha:Zcl m
 .rw[if_pos (by simp[ha])];refine⟨_,Zcs q hq,_,Zhe q hq _,?_⟩;rcases tf (Zb2 q.Ze q.Atoms (Zu q.Ze q.Atoms))with e2|e2
  .rw[if_neg (by rw[e2];simp)]
   have:¬Zbt m q r:=λh=>by rw[h.2.1]at e2;cases e2
   simp[this]
  rw[if_pos e2];refine⟨_,Z4g q hq r hr,?_⟩;rcases tf (Zgz q.Ze q.Atoms r.Plan.Steps r.Box.Low r.Box.High r.Percent)with e|e
  .rw[if_neg (by rw[e];simp)]
   have:¬Zbt m q r:=λh=>by rw[h.1]at e;cases e
   simp[this]
  rw[if_pos e];have h:Zbt m q r:=⟨e,e2,ha⟩;exact⟨_,Z4i hm hq hr h,by simp[h]⟩
 .rw[if_neg (by simp[ha])]
  have:¬Zbt m q r:=λh=>ha h.2.2
  simp[this]
theorem Zoq(n:Int)(qa:List Atom):0<=Zu n qa/\Zu n qa<=15:=by
 rcases tf (Zk n qa)with h|h
 .unfold Zu;rw[h];simp
 .have h1:=Zt1 h;obtain⟨h2,h3,_⟩:=Zit h;refine⟨by omega,?_⟩;unfold Zu;rw[if_pos h,h3];rcases h2 with e|e|e|e<;>rw[e]<;>decide
def GBx(R:Rs):Prop:=∃(c:Zh) (b:Box),R=some (.agg (b.c.map .t),[cB c])/\GC c/\b.Low.length<=17/\b.High.length<=17
theorem GBx.of{R R':Rs}(h:GBx R')(k:∀r,R'=some r->R=some r):GBx R:=by
 obtain⟨n,x,e,l⟩:=h;exact⟨n,x,k _ e,l⟩
theorem l_box(q:Zc)(hq:LeQ q)(M:Nat)(hM:Zu q.Ze q.Atoms+1=M):∀i,i<=M->∀c x x1 x2,GC c->x.length<=i->x1.length<=i->x1≠[]->GBx (Zda c q x x1 x2 i):=by
 have f:=Zoq q.Ze q.Atoms;refine down _ ?_ ?_
 .intro c x x1 x2 g hx hx1 hn;obtain⟨c1,b,e1,g1⟩:=Zif g 20;rcases tf b with hb|hb
  .subst hb;refine⟨c1,⟨x,x1⟩,Zic _ _ _ _ _ _ _ ⟨_,Zcs q hq,?_⟩,g1,by show x.length<=_;omega,by show x1.length<=_;omega⟩;rw[if_neg (by omega)];exact⟨c1,false,e1,by rw[if_neg (by simp)];rfl⟩
  .subst hb;obtain⟨c2,k,e2,g2,_⟩:=Zom g1 [-1,7,8] (by simp) (by simp);have h0:0<x1.length:=Yb4.2 hn;refine⟨c2,⟨x,x1.set 0 k⟩,Zic _ _ _ _ _ _ _ ⟨_,Zcs q hq,?_⟩,g2,by show x.length<=_;omega,by show(x1.set 0 k).length<=_;simp;omega⟩;rw[if_neg (by omega)];exact⟨c1,true,e1,by rw[if_pos rfl];exact⟨c2,_,k,e2,x1[0],by simp[h0],rfl⟩⟩
 .intro i hi ih c x x1 x2 g hx hx1 hn;by_cases hp:(andI ((i:Nat):Int) (w (((i:Nat):Int)-1)))=0
  .by_cases h0:0<((i:Nat):Int)
   .obtain⟨c1,n,e1,g1,_⟩:=Zb8 g 3;refine(ih c1 (x++[n]) (x1++[n]) x2 g1 (by simp;omega) (by simp;omega) (by simp)).of λr e=>Zic _ _ _ _ _ _ _ ⟨_,Zcs q hq,?_⟩
    rw[if_pos (by omega),if_pos hp,if_pos h0];refine⟨c1,n,e1,?_⟩;refine⟨by omega,by omega,?_⟩;rw[wN i (by omega)];exact e
   .refine(ih c (x++[0]) (x1++[0]) x2 g (by simp;omega) (by simp;omega) (by simp)).of λr e=>Zic _ _ _ _ _ _ _ ⟨_,Zcs q hq,?_⟩
    rw[if_pos (by omega),if_pos hp,if_neg h0];refine⟨by omega,by omega,?_⟩;rw[wN i (by omega)];exact e
  .by_cases h0:0<((i:Nat):Int)
   .rcases tf (Zb2 q.Ze q.Atoms ((i:Nat):Int))with hc|hc
    .refine(ih c (x++[0]) (x1++[0]) x2 g (by simp;omega) (by simp;omega) (by simp)).of λr e=>Zic _ _ _ _ _ _ _ ⟨_,Zcs q hq,?_⟩
     rw[if_pos (by omega),if_neg hp,if_pos h0];refine⟨_,Zhe q hq _,?_⟩;rw[hc,if_neg (by simp)];refine⟨by omega,by omega,?_⟩;rw[wN i (by omega)];exact e
    .obtain⟨c1,n,e1,g1,_⟩:=Zb8 g 3;by_cases h3:x2<3
     .obtain⟨c2,b,e2,g2⟩:=Zif g1 4;rcases tf b with hb|hb
      .subst hb;obtain⟨c3,k,e3,g3,_⟩:=Zb8 g2 3;refine(ih c3 (x++[n]) (x1++[(w ((w (n+1))+k))]) (w (x2+1)) g3 (by simp;omega) (by simp;omega) (by simp)).of λr e=>Zic _ _ _ _ _ _ _ ⟨_,Zcs q hq,?_⟩
       rw[if_pos (by omega),if_neg hp,if_pos h0];refine⟨_,Zhe q hq _,?_⟩;rw[hc,if_pos rfl];refine⟨c1,n,e1,?_⟩;rw[if_pos h3];refine⟨c2,false,e2,?_⟩;rw[if_neg (by simp)];refine⟨c3,k,e3,?_⟩;refine⟨by omega,by omega,?_⟩;rw[wN i (by omega)];exact e
      .subst hb;refine(ih c2 (x++[n]) (x1++[n]) x2 g2 (by simp;omega) (by simp;omega) (by simp)).of λr e=>Zic _ _ _ _ _ _ _ ⟨_,Zcs q hq,?_⟩
       rw[if_pos (by omega),if_neg hp,if_pos h0];refine⟨_,Zhe q hq _,?_⟩;rw[hc,if_pos rfl];refine⟨c1,n,e1,?_⟩;rw[if_pos h3];refine⟨c2,true,e2,?_⟩;rw[if_pos rfl];refine⟨by omega,by omega,?_⟩;rw[wN i (by omega)];exact e
     .refine(ih c1 (x++[n]) (x1++[n]) x2 g1 (by simp;omega) (by simp;omega) (by simp)).of λr e=>Zic _ _ _ _ _ _ _ ⟨_,Zcs q hq,?_⟩
      rw[if_pos (by omega),if_neg hp,if_pos h0];refine⟨_,Zhe q hq _,?_⟩;rw[hc,if_pos rfl];refine⟨c1,n,e1,?_⟩;rw[if_neg h3];refine⟨by omega,by omega,?_⟩;rw[wN i (by omega)];exact e
   .refine(ih c (x++[0]) (x1++[0]) x2 g (by simp;omega) (by simp;omega) (by simp)).of λr e=>Zic _ _ _ _ _ _ _ ⟨_,Zcs q hq,?_⟩
    rw[if_pos (by omega),if_neg hp,if_neg h0];refine⟨by omega,by omega,?_⟩;rw[wN i (by omega)];exact e
theorem x_l24Box{c:Zh}(g:GC c)(q:Zc)(hq:LeQ q):GBx (Zp5 c q):=by
 have f:=Zoq q.Ze q.Atoms;have hM:Zu q.Ze q.Atoms+1=((Zu q.Ze q.Atoms+1).toNat:Int):=by omega
 refine(?_:GBx (Zuc c q 0 ((0:Nat):Int))).of λr e=>Zbqw _ _ _ e
 have ih:∀c x x1 x2,GC c->x.length<=1->x1.length<=1->x1≠[]->GBx (Zda c q x x1 x2 ((1:Nat):Int)):=l_box q hq _ hM 1 (by omega);refine(ih c [0] [0] 0 g (by simp) (by simp) (by simp)).of λr e=>Zbqv _ _ _ _ _ ⟨_,Zcs q hq,?_⟩
 rw[if_pos (by omega),if_pos (by decide),if_neg (by decide)];exact e
def GL(R:Rs):Prop:=∃(c:Zh) (l:List Int),R=some (L 1 (l.map ic),[cB c])/\GC c/\l.length<=100
theorem GL.of{R R':Rs}(h:GL R')(k:∀r,R'=some r->R=some r):GL R:=by
 obtain⟨n,x,e,l⟩:=h;exact⟨n,x,k _ e,l⟩
theorem j_Loc(c:Zh)(g:GC c)(b:Box)(l:List Int)(hl:l.length<=100)(i:Int)(z:Bool):GL (Zp8 c b l i z):=by
 by_cases h:0<(l.length:Int)
 .obtain⟨c1,y,e1,g1⟩:=Zif g 8;rcases tf y with hb|hb
  .subst hb;refine⟨c1,l,Z2z _ _ _ _ _ _ ?_,g1,hl⟩;rw[if_pos h];exact⟨c1,false,e1,by rw[if_neg (by simp)]⟩
  .subst hb;obtain⟨c2,n,e2,g2,h1,h2⟩:=Zb8 g1 l.length;obtain⟨c3,k,e3,g3,_⟩:=Zb8 g2 9;obtain⟨y,hy,_⟩:=Zlr h1 (h2 h);refine⟨c3,l.set n.toNat k,Z2z _ _ _ _ _ _ ?_,g3,by simp;omega⟩;rw[if_pos h];exact⟨c1,true,e1,by rw[if_pos rfl];exact⟨c2,n,e2,c3,k,e3,h1,y,hy,rfl⟩⟩
 .refine⟨c,l,Z2z _ _ _ _ _ _ ?_,g,hl⟩;rw[if_neg h]
theorem l_Loc(b:Box)(hb:b.Low.length<=100):∀i,i<=b.Low.length->∀c l,GC c->l.length<=i->GL (Zp7 c b l i):=by
 refine down _ ?_ ?_
 .intro c l g hl;refine(j_Loc c g b l (by omega) (b.Low.length:Int) false).of λr e=>Z2y _ _ _ _ _ ?_
  rw[if_neg (by omega)];exact e
 .intro i hi ih c l g hl;by_cases h:(i:Int)<b.High.length
  .have hh:i<b.High.length:=by omega
   obtain⟨c1,n,e1,g1,_⟩:=Zb8 g (if 1<(w ((w (b.High[i]-b.Low[i]))+1))then(w ((w (b.High[i]-b.Low[i]))+1))else 1);refine(ih c1 (l++[(w (b.Low[i]+n))]) g1 (by simp;omega)).of λr e=>Z2y _ _ _ _ _ ?_
   rw[if_pos (by omega),if_pos h,wN i (by omega)];exact⟨by omega,b.Low[i],by simp[hi],b.High[i],by simp[hh],c1,n,e1,by omega,e⟩
  .refine(j_Loc c g b l (by omega) (i:Int) false).of λr e=>Z2y _ _ _ _ _ ?_
   rw[if_pos (by omega),if_neg h];exact e
theorem x_l30Loc{c:Zh}(g:GC c)(b:Box)(hb:b.Low.length<=17):GL (Zp6 c b) :=
 (l_Loc b (by omega) 0 (by omega) c [] g (by simp)).of λr e=>Zbqx _ _ _ e
theorem Zbw1(q:Zc)(hq:LeQ q)(m:Int)(hc:Zb2 q.Ze q.Atoms m=false):Zhs q m=some (.own 0,[.arr Z1 1 true (([]:List Int).map ic)]) :=
 Zbd6 _ _ _ ⟨_,Zhe q hq _,by rw[hc,if_neg (by simp)]⟩
theorem Zbiy(q:Zc)(hq:LeQ q)(p:Plan):∃o,Zmx q p=some (I o,[]):=by
 have e:=Z3h q p hq
 cases h:Zb4 q.Ze q.Atoms p.Steps with
 |none =>
  rw[h]at e
  exact⟨-1,Zbeb _ _ _ ⟨[],false,e,by rw[if_neg (by simp)]⟩⟩
 |some info =>
  rw[h]at e;obtain⟨_,h1,h2,h3⟩:=Zho h;have h0:info.length-1<info.length:=by omega
  refine⟨info[info.length-1].Order,Zbeb _ _ _ ⟨info,true,e,?_⟩⟩;rw[if_pos rfl,w_id (by omega) (by omega)];refine⟨by omega,info[info.length-1],?_,rfl⟩;rw[show((info.length:Int)-1).toNat=info.length-1 by omega];simp[h0]
def GP(n:Nat)(R:Rs):Prop:=∃(c:Zh) (p:Plan),R=some (.agg (p.c.map .t),[cB c])/\GC c/\p.Steps.length<=n
theorem Zbw2{q:Zc}(hv:Zk q.Ze q.Atoms=true){a b:Int}(h:shr q.Atoms a b=true):Zep q a b≠[]:=by
 intro hc;have h1:(Zep q a b).length=0:=by rw[hc];rfl
 have:=(Z7q hv a b).1 h1;rw[h]at this;cases this
theorem Zbiz(q:Zc)(hq:LeQ q):∀m:Nat,m<=15->∀c,GC c->GP (if m=0 then 1 else 4*m-3) (Zge c q m):=by
 intro m
 induction m using Nat.strongRecOn with
 |_ m ih =>
 intro hm c g;by_cases he:Zb2 q.Ze q.Atoms m=true/\Zv q.Atoms m≠[]
 .obtain⟨hc,hne⟩:=he;have hc0:=hc;unfold Zb2 at hc0;simp only[Yc,decide_eq_true_eq]at hc0;obtain⟨⟨⟨hv,hin⟩,h0⟩,hcn⟩:=hc0;have hin:=Zwl.1 hin;have hMQ:MQ q.Atoms m:=⟨by omega,by have:=(Zbit hv).2;omega⟩;have hl16:=Zwq (qa:=q.Atoms) (M:=(m:Int)) ⟨by omega,by omega⟩;have hp:0<(Zv q.Atoms m).length:=Yb4.2 hne;obtain⟨c1,n,e1,g1,h1,h2⟩:=Zb8 g (Zv q.Atoms m).length;obtain⟨y,hy,hmem⟩:=Zlr h1 (h2 (by omega));obtain⟨y1,y2,_,_,_⟩:=Zon hmem;have pr:=Zbig hv hMQ hcn hmem;obtain⟨a,ha⟩:∃a:Nat,y=a:=⟨y.toNat,by omega⟩;subst ha;have hw:w ((m:Int)-(a:Int))=((m-a:Nat):Int):=by rw[w_id (by omega) (by omega)];omega
  obtain⟨c2,p1,e2,g2,l1⟩:=ih a (by omega) (by omega) c1 g1;obtain⟨c3,p2,e3,g3,l2⟩:=ih (m-a) (by omega) (by omega) c2 g2;rw[if_neg (by omega)]at l1 l2;rw[if_neg (by omega)];obtain⟨c4,k,e4,g4,k0,k1⟩:=Zb8 g3 3;have hs:=Z3m q hq m hc;by_cases k0':k=0
  .exact⟨c4,⟨Zbm p1.Steps p2.Steps 3 0⟩,Zjn _ _ _ _ ⟨_,hs,by rw[if_neg (by omega)];exact⟨c1,n,e1,h1,(a:Int),hy,c2,p1,e2,by rw[hw];exact⟨c3,p2,e3,c4,k,e4,by rw[if_pos k0'];exact⟨_,Zez p1 p2 3 0 (by omega) (by omega),rfl⟩⟩⟩⟩,g4,by simp[Zbm,Zb0];omega⟩
  by_cases k1':k=1
  .exact⟨c4,⟨Zbm p1.Steps p2.Steps 5 0⟩,Zjn _ _ _ _ ⟨_,hs,by rw[if_neg (by omega)];exact⟨c1,n,e1,h1,(a:Int),hy,c2,p1,e2,by rw[hw];exact⟨c3,p2,e3,c4,k,e4,by rw[if_neg k0',if_pos k1'];exact⟨_,Zez p1 p2 5 0 (by omega) (by omega),rfl⟩⟩⟩⟩,g4,by simp[Zbm,Zb0];omega⟩
  have hsh:=Zbho q hq hv (a:Int) ((m-a:Nat):Int) ⟨by omega,by omega⟩ ⟨by omega,by omega⟩;have hsn:=Zbw2 hv (a:=(a:Int)) (b:=((m-a:Nat):Int)) (by rw[show((m-a:Nat):Int)=(m:Int)-a by omega];exact pr.shr);obtain⟨c5,n2,e5,g5,h3,h4⟩:=Zb8 g4 (Zep q (a:Int) ((m-a:Nat):Int)).length;have hp2:0<(Zep q (a:Int) ((m-a:Nat):Int)).length:=Yb4.2 hsn;obtain⟨v,hv',_⟩:=Zlr h3 (h4 (by omega));obtain⟨o1,eo1⟩:=Zbiy q hq p1;obtain⟨o2,eo2⟩:=Zbiy q hq p2;by_cases q1:o1=v
  .by_cases q2:o2=v
   .exact⟨c5,⟨Zbm p1.Steps p2.Steps 4 v⟩,Zjn _ _ _ _ ⟨_,hs,by rw[if_neg (by omega)];exact⟨c1,n,e1,h1,(a:Int),hy,c2,p1,e2,by rw[hw];exact⟨c3,p2,e3,c4,k,e4,by rw[if_neg k0',if_neg k1'];exact⟨_,hsh,c5,n2,e5,h3,v,hv',o1,eo1,by rw[if_pos q1];exact⟨o2,eo2,by rw[if_pos q2];exact⟨_,Zez p1 p2 4 v (by first|omega|(simp[Zb0];omega)) (by first|omega|(simp[Zb0];omega)),rfl⟩⟩⟩⟩⟩⟩,g5,by simp[Zbm,Zb0];omega⟩
   .exact⟨c5,⟨Zbm p1.Steps (Zb0 p2.Steps v) 4 v⟩,Zjn _ _ _ _ ⟨_,hs,by rw[if_neg (by omega)];exact⟨c1,n,e1,h1,(a:Int),hy,c2,p1,e2,by rw[hw];exact⟨c3,p2,e3,c4,k,e4,by rw[if_neg k0',if_neg k1'];exact⟨_,hsh,c5,n2,e5,h3,v,hv',o1,eo1,by rw[if_pos q1];exact⟨o2,eo2,by rw[if_neg q2];exact⟨_,Zol p2 v (by omega),_,Zez p1 (⟨Zb0 p2.Steps v⟩:Plan) 4 v (by first|omega|(simp[Zb0];omega)) (by first|omega|(simp[Zb0];omega)),rfl⟩⟩⟩⟩⟩⟩,g5,by simp[Zbm,Zb0];omega⟩
  .by_cases q2:o2=v
   .exact⟨c5,⟨Zbm (Zb0 p1.Steps v) p2.Steps 4 v⟩,Zjn _ _ _ _ ⟨_,hs,by rw[if_neg (by omega)];exact⟨c1,n,e1,h1,(a:Int),hy,c2,p1,e2,by rw[hw];exact⟨c3,p2,e3,c4,k,e4,by rw[if_neg k0',if_neg k1'];exact⟨_,hsh,c5,n2,e5,h3,v,hv',o1,eo1,by rw[if_neg q1];exact⟨_,Zol p1 v (by omega),o2,eo2,by rw[if_pos q2];exact⟨_,Zez (⟨Zb0 p1.Steps v⟩:Plan) p2 4 v (by first|omega|(simp[Zb0];omega)) (by first|omega|(simp[Zb0];omega)),rfl⟩⟩⟩⟩⟩⟩,g5,by simp[Zbm,Zb0];omega⟩
   .exact⟨c5,⟨Zbm (Zb0 p1.Steps v) (Zb0 p2.Steps v) 4 v⟩,Zjn _ _ _ _ ⟨_,hs,by rw[if_neg (by omega)];exact⟨c1,n,e1,h1,(a:Int),hy,c2,p1,e2,by rw[hw];exact⟨c3,p2,e3,c4,k,e4,by rw[if_neg k0',if_neg k1'];exact⟨_,hsh,c5,n2,e5,h3,v,hv',o1,eo1,by rw[if_neg q1];exact⟨_,Zol p1 v (by omega),o2,eo2,by rw[if_neg q2];exact⟨_,Zol p2 v (by omega),_,Zez (⟨Zb0 p1.Steps v⟩:Plan) (⟨Zb0 p2.Steps v⟩:Plan) 4 v (by first|omega|(simp[Zb0];omega)) (by first|omega|(simp[Zb0];omega)),rfl⟩⟩⟩⟩⟩⟩,g5,by simp[Zbm,Zb0];omega⟩
 .have hs0:Zhs q m=some (.own 0,[.arr Z1 1 true (([]:List Int).map ic)]):=by
   rcases tf (Zb2 q.Ze q.Atoms m)with hc|hc
   .exact Zbw1 q hq m hc
   .have h2:Zv q.Atoms m=[]:=Classical.byContradiction λhn=>he ⟨hc,hn⟩
    rw[Z3m q hq m hc,h2]
  have hl:1<=(if m=0 then 1 else 4*m-3):=by split<;>omega
  cases ha:Zdt m with
  |nil =>
   refine⟨c,⟨[⟨1,0,0⟩]⟩,Zjn _ _ _ _ ⟨_,hs0,?_⟩,g,hl⟩;rw[if_pos (by simp)]
   exact⟨_,Z3n ⟨by omega,by omega⟩,by rw[ha,if_pos (by simp)];exact⟨_,Z3s 0,rfl⟩⟩
  |cons x l =>
   refine⟨c,⟨[⟨1,x,0⟩]⟩,Zjn _ _ _ _ ⟨_,hs0,?_⟩,g,hl⟩;rw[if_pos (by simp)];exact⟨_,Z3n ⟨by omega,by omega⟩,by rw[ha,if_neg (by simp;omega)];exact⟨x,rfl,_,Z3s x,rfl⟩⟩
def dimD(lo hi:List Int)(k:Nat):Int:=hi.getD k 0-lo.getD k 0+1
def locK(lo hi:List Int):Nat->Int->List Int->List Int
 |0,_,out=>out
 |k+1,idx,out=>locK lo hi k (idx / dimD lo hi k) (out.set k (lo.getD k 0+idx % dimD lo hi k))
def volK(lo hi:List Int):Nat->Int
 |0=>1
 |k+1=>volK lo hi k*dimD lo hi k
def locB(b:Box)(idx:Int):List Int:=locK b.Low b.High b.Low.length idx b.Low
theorem Zsx{lo hi:List Int}(h:Z6 lo hi=true){k:Nat}(hk:k<lo.length):1<=dimD lo hi k/\dimD lo hi k<=8/\lo.getD k 0=lo[k]/\0<=lo.getD k 0/\lo.getD k 0+dimD lo hi k<=8:=by
 obtain⟨b1,b2,b3,b4⟩:=Zeu h;have h2:k<hi.length:=by omega
 have:=b4 k hk h2;have e1:lo.getD k 0=lo[k]:=by simp[List.getD,hk]
 have e2:hi.getD k 0=hi[k]:=by simp[List.getD,h2]
 unfold dimD;rw[e1,e2];refine⟨?_,?_,rfl,?_,?_⟩<;>omega
theorem Zbi0{lo hi:List Int}(h:Z6 lo hi=true):∀k,k<=lo.length->volK lo hi k*vol (lo.drop k) (hi.drop k)=vol lo hi
 |0,_=>by simp[volK]
 |k+1,hk=>by
  obtain⟨b1,b2,b3,b4⟩:=Zeu h;have ih:=Zbi0 h k (by omega);have h2:k<hi.length:=by omega
  rw[Zyd (by omega) h2]at ih;rw[volK,<-ih,Int.mul_assoc];unfold dimD;rw[show lo.getD k 0=lo[k] by simp[List.getD,show k<lo.length by omega],show hi.getD k 0=hi[k] by simp[List.getD,h2]]
theorem Zbi1{lo hi:List Int}(h:Z6 lo hi=true):volK lo hi lo.length=vol lo hi:=by
 obtain⟨b1,_⟩:=Zeu h;have:=Zbi0 h lo.length (Yf _);rw[Yba,<-b1,Yba,Zyc,Int.mul_one]at this;rw[<-this,b1]
theorem Z4l{lo hi:List Int}(h:Z6 lo hi=true):∀k,k<=lo.length->1<=volK lo hi k/\volK lo hi k<=8 ^ k
 |0,_=>by simp[volK]
 |k+1,hk=>by
  obtain⟨i1,i2⟩:=Z4l h k (by omega);obtain⟨d1,d2,_⟩:=Zsx h (k:=k) (by omega);rw[volK];constructor
  .have:=Int.mul_le_mul i1 d1 (by omega) (by omega);omega
  .have:=Int.mul_le_mul i2 d2 (by omega) (Int.pow_nonneg (by omega));rw[Int.pow_succ];exact this
theorem Zbi2{lo hi:List Int}:∀(k:Nat) (idx:Int) (out:List Int),(locK lo hi k idx out).length=out.length
 |0,_,_=>rfl
 |k+1,idx,out=>by rw[locK,Zbi2 k];simp
theorem Zbi3{lo hi:List Int}(h:Z6 lo hi=true):∀k,k<=lo.length->∀(idx:Int) (out:List Int),0<=idx->(∀x∈out,0<=x/\x<=7)->∀x∈locK lo hi k idx out,0<=x/\x<=7
 |0,_,idx,out,_,ho=>ho
 |k+1,hk,idx,out,h0,ho=>by
  obtain⟨d1,d2,_,d3,d4⟩:=Zsx h (k:=k) (by omega);rw[locK];refine Zbi3 h k (by omega) _ _ (Int.ediv_nonneg h0 (by omega)) ?_;intro x hx;rcases Yb7 hx with hx|hx
  .exact ho x hx
  .have m1:=Int.emod_nonneg idx (show dimD lo hi k≠0 by omega);have m2:=Int.emod_lt_of_pos idx (show 0<dimD lo hi k by omega);omega
theorem loc_B{b:Box}(h:Z6 b.Low b.High=true){idx:Int}(h0:0<=idx):Z9 (locB b idx)=true/\(locB b idx).length=b.Low.length:=by
 obtain⟨b1,b2,b3,b4⟩:=Zeu h;have hlen:(locB b idx).length=b.Low.length:=Zbi2 _ _ _;refine⟨?_,hlen⟩
 have hin:=Zbi3 h b.Low.length (Yf _) idx b.Low h0 (λx hx=>by
  obtain⟨i,hi,rfl⟩:=List.mem_iff_getElem.1 hx;have:=b4 i hi (by omega)
  omega)
 unfold Z9 Zca;rw[Yc,Yl];refine⟨λx hx=>?_,by simp;omega⟩;have:=hin x hx;simp[inR];omega
theorem Zdm{x:Int}(h1:-1000000000000000<=x)(h2:x<=1000000000000000):w x=x:=w_id (by omega) (by omega)
theorem Zbi4(b:Box)(h:Z6 b.Low b.High=true):∀k,k<=b.Low.length->∀(idx:Int) (out:List Int),0<=idx->idx<281474976710656->out.length=b.Low.length->(∀j,j<k->out[j]?=b.Low[j]?)->Zrr b out idx ((k:Int)-1)=some (.tup [.own 0,Bo true],[.arr 3 1 true ((locK b.Low b.High k idx out).map ic)])
 |0,_,idx,out,_,_,_,_=>by
  refine Zbgd _ _ _ _ _ ?_
  rw[if_neg (by omega)];rfl
 |k+1,hk,idx,out,h0,h1,hl,ho=>by
  obtain⟨b1,b2,b3,b4⟩:=Zeu h;have hlt:k<b.Low.length:=by omega
  have hlt2:k<b.High.length:=by omega
  obtain⟨d1,d2,e1,d3,d4⟩:=Zsx h hlt;have hd:dimD b.Low b.High k=b.High[k]-b.Low[k]+1:=by
   unfold dimD;rw[e1,show b.High.getD k 0=b.High[k] by simp[List.getD,hlt2]]
  have hk1:(((k+1:Nat):Int)-1)=(k:Int):=by omega
  have m1:=Int.emod_nonneg idx (show dimD b.Low b.High k≠0 by omega);have m2:=Int.emod_lt_of_pos idx (show 0<dimD b.Low b.High k by omega);have q1:=Int.ediv_nonneg h0 (show 0<=dimD b.Low b.High k by omega);have q2:idx / dimD b.Low b.High k<=idx:=Int.ediv_le_self _ h0;have g3:=b4 k hlt hlt2;have w1:w (w (b.High[k]-b.Low[k])+1)=dimD b.Low b.High k:=by rw[Zdm (x:=b.High[k]-b.Low[k]) (by omega) (by omega),Zdm (by omega) (by omega),hd]
  refine Zbgd _ _ _ _ _ ?_;rw[hk1,if_pos (by omega)];refine⟨b.High[k],by rw[Yd];exact Yb hlt2,b.Low[k],by rw[Yd];exact Yb hlt,b.Low[k],by rw[Yd,ho k (by omega)];exact Yb hlt,by rw[w1];omega,?_⟩;rw[w1,Yd,Int.tmod_eq_emod_of_nonneg h0,Int.tdiv_eq_ediv_of_nonneg h0,Zdm (x:=b.Low[k]+idx % dimD b.Low b.High k) (by omega) (by omega),Zdm (x:=idx / dimD b.Low b.High k) (by omega) (by omega),Zdm (x:=(k:Int)-1) (by omega) (by omega),<-e1];have ih:=Zbi4 b h k (by omega) (idx / dimD b.Low b.High k) (out.set k (b.Low.getD k 0+idx % dimD b.Low b.High k)) q1 (by omega) (by simp[hl]) (λj hj=>by rw[List.getElem?_set_ne (by omega)];exact ho j (by omega));rw[locK];exact ih
theorem Zbi5(b:Box)(h:Z6 b.Low b.High=true):∀k,k<=b.Low.length->∀(idx:Int) (out:List Int),0<=idx->idx<volK b.Low b.High k->out.length=b.Low.length->Zrw b out idx ((k:Int)-1)=some (.tup [.own 0,Bo true],[.arr 3 1 true ((locK b.Low b.High k idx out).map ic)])
 |0,_,idx,out,h0,h1,_=>by
  refine Zbgj _ _ _ _ _ ?_;rw[volK]at h1
  rw[if_neg (by omega),if_neg (by omega)];rfl
 |k+1,hk,idx,out,h0,h1,hl=>by
  obtain⟨b1,b2,b3,b4⟩:=Zeu h;have hlt:k<b.Low.length:=by omega
  have hlt2:k<b.High.length:=by omega
  obtain⟨d1,d2,e1,d3,d4⟩:=Zsx h hlt;have hd:dimD b.Low b.High k=b.High[k]-b.Low[k]+1:=by
   unfold dimD;rw[e1,show b.High.getD k 0=b.High[k] by simp[List.getD,hlt2]]
  have hk1:(((k+1:Nat):Int)-1)=(k:Int):=by omega
  have m1:=Int.emod_nonneg idx (show dimD b.Low b.High k≠0 by omega);have m2:=Int.emod_lt_of_pos idx (show 0<dimD b.Low b.High k by omega);have q1:=Int.ediv_nonneg h0 (show 0<=dimD b.Low b.High k by omega);have q2:idx / dimD b.Low b.High k<=idx:=Int.ediv_le_self _ h0;have hv:=Z4l h (k+1) hk;have hp:=pow8 (show k+1<=16 by omega);have g3:=b4 k hlt hlt2;have w1:w (w (b.High[k]-b.Low[k])+1)=dimD b.Low b.High k:=by rw[Zdm (x:=b.High[k]-b.Low[k]) (by omega) (by omega),Zdm (by omega) (by omega),hd]
  refine Zbgj _ _ _ _ _ ?_;rw[hk1,if_pos (by omega)];refine⟨b.High[k],by rw[Yd];exact Yb hlt2,b.Low[k],by rw[Yd];exact Yb hlt,by rw[w1];omega,out[k],by rw[Yd];exact Yb (by omega),?_⟩;rw[w1,Yd,Int.tmod_eq_emod_of_nonneg h0,Int.tdiv_eq_ediv_of_nonneg h0,Zdm (x:=b.Low[k]+idx % dimD b.Low b.High k) (by omega) (by omega),Zdm (x:=idx / dimD b.Low b.High k) (by omega) (by omega),Zdm (x:=(k:Int)-1) (by omega) (by omega),<-e1];rw[volK]at h1;have ih:=Zbi5 b h k (by omega) (idx / dimD b.Low b.High k) (out.set k (b.Low.getD k 0+idx % dimD b.Low b.High k)) q1 (Int.ediv_lt_of_lt_mul (by omega) h1) (by simp[hl]);rw[locK];exact ih
theorem Zwt{lo hi:List Int}(h:Z6 lo hi=true):1<=vol lo hi/\vol lo hi<=281474976710656:=by
 obtain⟨b1,b2,b3,b4⟩:=Zeu h;have h1:=Z4l h lo.length (Yf _);have h2:=pow8 b3;rw[Zbi1 h]at h1;exact⟨h1.1,by omega⟩
theorem x_volume(b:Box)(e:Z6 b.Low b.High=true):Zn4 b=some (I (vol b.Low b.High),[]):=by
 have q2:=Zbgs b e 0 (Ye _) 1 (by omega) (by decide);exact Zbgc _ _ (by simpa using q2)
theorem Zbw3(b:Box)(hb:LeX b)(e:Z6 b.Low b.High=true){idx:Int}(h0:0<=idx)(h1:idx<vol b.Low b.High):Zrq b idx=some (.tup [.own 0,Bo true],[.arr 3 1 true ((locB b idx).map ic)]):=by
 obtain⟨b1,b2,b3,b4⟩:=Zeu e;obtain⟨v1,v2⟩:=Zwt e;refine Zbtu _ _ _ ⟨_,Zv5 b hb,?_⟩;rw[e,if_pos rfl];refine⟨_,x_volume b e,_,Zfb _ _ _,?_⟩;rw[Zdm (by omega) (by omega),if_pos (by simp[inR];omega)];refine⟨_,Zbfl _ _ ⟨by omega,rfl⟩,?_⟩;rw[Zdm (by omega) (by omega)];exact Zbi4 b e b.Low.length (Yf _) idx b.Low h0 (by omega) rfl (λ_ _=>rfl)
theorem Zbw4(b:Box)(hb:LeX b)(e:Z6 b.Low b.High=true){idx:Int}(h0:0<=idx)(h1:idx<vol b.Low b.High):Zvo b idx=some (.tup [.own 0,Bo true],[.arr 3 1 true ((locB b idx).map ic)]):=by
 obtain⟨b1,b2,b3,b4⟩:=Zeu e;obtain⟨v1,v2⟩:=Zwt e;refine Zbtw _ _ _ ⟨_,Zv6 b hb,?_⟩;rw[e,if_pos rfl,if_neg (by omega)];refine⟨by omega,?_⟩;rw[Zdm (by omega) (by omega)];exact Zbi5 b e b.Low.length (Yf _) idx b.Low h0 (by rw[Zbi1 e];exact h1) rfl
def Zcy(b:Box):List (List Int):=(List.range (Zbu b.Low b.High).toNat).map λi:Nat=>locB b i
theorem l_locs(b:Box)(hb:LeX b)(h4:Zbu b.Low b.High<=400)(hn:0<=Zbu b.Low b.High):∀i,i<=(Zbu b.Low b.High).toNat->Zn5 b ((Zcy b).take i) (Zbu b.Low b.High) i=some (.own 0,[.arr 35 1 true ((Zcy b).map isc)]):=by
 have hlen:(Zcy b).length=(Zbu b.Low b.High).toNat:=by simp[Zcy]
 refine down _ ?_ ?_
 .refine Zbge _ _ _ _ _ ?_;rw[if_neg (by omega),<-hlen,Yb1]
 .intro i hi ih;have h5:=Zw (i:=i) (by omega);have e:Z6 b.Low b.High=true:=by
   rcases tf (Z6 b.Low b.High)with e|e
   .unfold Zbu at hi;rw[e]at hi;simp at hi
   .exact e
  have hv:Zbu b.Low b.High<=vol b.Low b.High:=by
   unfold Zbu capV;rw[if_pos e];split<;>omega
  refine Zbge _ _ _ _ _ ?_;rw[if_pos (by omega)];refine .inr ⟨_,Zbw3 b hb e (by omega) (by omega),by rw[Ybg];omega,?_⟩;rw[show w ((i:Int)+1)=((i+1:Nat):Int)from by rw[show w ((i:Int)+1)=(i:Int)+1 from h5];simp];rw[Ycl (by omega)]at ih;simpa[Zcy]using ih
theorem Z4m(b:Box):0<=Zbu b.Low b.High:=by
 unfold Zbu;split
 .rename_i e;have:=Zwt e;unfold capV;split<;>omega
 .omega
theorem Zbw5(b:Box)(hb:LeX b):Zrs b=if Zbu b.Low b.High<=400 then some (.own 0,[.arr 35 1 true ((Zcy b).map isc)])else some (.t .nil,[]):=by
 by_cases h4:Zbu b.Low b.High<=400
 .rw[if_pos h4];refine Zbgf _ _ ⟨_,Zbgt b hb,?_⟩;rw[if_neg (by omega)];simpa using l_locs b hb h4 (Z4m b) 0 (Ye _)
 .rw[if_neg h4];refine Zbgf _ _ ⟨_,Zbgt b hb,?_⟩;rw[if_pos (by omega)]
def Zlv(m:Zd)(q:Zc)(r:Region)(l:List Int):Bool:=!decide (w (r.Percent*(opt m q (Zbh l)).Cost)<w (100*Zcc m q.Ze q.Atoms r.Plan.Steps (Zbh l)))
theorem Zbi6{m:Zd}{q:Zc}{r:Region}(hm:LeM m)(hq:LeQ q)(h:Zbt m q r){l:List Int}(h1:Z9 l=true)(h2:l.length=r.Box.Low.length):Base m q (Zbh l):=by
 obtain⟨g1,g2,g3,g4,_⟩:=Zgp h;exact Zop hm h.2.2 hq g1 h1 (by rw[h2];exact g4)
theorem Zbw6{m:Zd}{q:Zc}{r:Region}(hm:LeM m)(hq:LeQ q)(h:Zbt m q r)(ls:List (List Int))(hl:ls.length<=1000)(c:∀l∈ls,Z9 l=true/\l.length=r.Box.Low.length):∀i,i<=ls.length->Zrt m q r ls ls.length i=some (Bo ((ls.drop i).all (Zlv m q r)),[]):=by
 refine down _ ?_ ?_
 .refine Zbgg _ _ _ _ _ _ _ ?_;rw[if_neg (by omega)];simp
 .intro i hi ih;have h5:=Zw (i:=i) (by omega);obtain⟨g1,g2⟩:=c _ (Yh hi);have l1:=Zoo g1;refine Zbgg _ _ _ _ _ _ _ ?_;rw[if_pos (by omega),Yj hi,Ybc];refine⟨by omega,ls[i],by rw[Yd];exact Yb hi,_,Zbhk m hm q hq r.Plan _ (by omega) g1,_,Zbiu (by omega) g1 (Zbi6 hm hq h g1 g2) h.2.2 h.2.1,?_⟩;rw[show w ((i:Int)+1)=((i+1:Nat):Int)from by rw[show w ((i:Int)+1)=(i:Int)+1 from h5];simp];unfold Zlv at ih|-;by_cases e:w (r.Percent*(opt m q (Zbh ls[i])).Cost)<w (100*Zcc m q.Ze q.Atoms r.Plan.Steps (Zbh ls[i]))
  .rw[if_pos e];simp[e]
  .rw[if_neg e,ih];simp[e]
theorem Zbw7{m:Zd}{q:Zc}{r:Region}(hm:LeM m)(hq:LeQ q)(hr:LeR r)(h:Zbt m q r)(h4:Zbu r.Box.Low r.Box.High<=400):∀i,i<=(Zcy r.Box).length->Zn6 m q r (shapes q) (Zbu r.Box.Low r.Box.High) (Zu q.Ze q.Atoms) i=some (Bo (((Zcy r.Box).drop i).all (Zlv m q r)),[]):=by
 obtain⟨g1,g2,g3,g4,g5,_⟩:=Zgp h;have hp:=Z4m r.Box;have hlen:(Zcy r.Box).length=(Zbu r.Box.Low r.Box.High).toNat:=by simp[Zcy]
 have hv:Zbu r.Box.Low r.Box.High<=vol r.Box.Low r.Box.High:=by
  unfold Zbu capV;rw[if_pos g5];split<;>omega
 refine down _ ?_ ?_
 .refine Zbgk _ _ _ _ _ _ _ _ ?_;rw[if_neg (by omega)];simp
 .intro i hi ih;have h5:=Zw (i:=i) (by omega);have hli:(Zcy r.Box)[i]=locB r.Box i:=by simp[Zcy]
  obtain⟨k1,k2⟩:=loc_B g5 (show(0:Int)<=(i:Int) by omega);have l1:=Zoo k1;have b:=Zbi6 hm hq h k1 k2;have hl:=Zlu b (Yf (Zn q.Atoms).length);have hs:=Zwf (locB r.Box i) (by omega);rw[k1,if_pos rfl]at hs;obtain⟨fr,ht⟩:=Z4f b;refine Zbgk _ _ _ _ _ _ _ _ ?_;rw[if_pos (by omega),Yj hi,Ybc,hli];refine⟨_,_,Zbw4 r.Box hr g5 (by omega) (by omega),_,hs,_,_,ht,.inr ⟨_,_,_,_,Zbis _ _ (by omega) (Zsw b h.2.1).ne (Zsv b (Yf _)),_,Zbhl m hm q hq r.Plan _ (by omega) k1,?_⟩⟩;rw[show w ((i:Int)+1)=((i+1:Nat):Int)from by rw[show w ((i:Int)+1)=(i:Int)+1 from h5];simp];unfold Zlv opt tab at ih|-;rw[Int.mul_comm (Zcc m q.Ze q.Atoms r.Plan.Steps (Zbh (locB r.Box i))) 100];split
  .rename_i e;simp[e]
  .rename_i e;rw[ih];simp[e]
open Classical in
noncomputable def holds(m:Zd)(q:Zc)(r:Region):Bool:=decide (Zbt m q r) && (decide (Zbu r.Box.Low r.Box.High<=400) && (Zcy r.Box).all (Zlv m q r))
theorem locs_pos{m:Zd}{q:Zc}{r:Region}(h:Zbt m q r):(Zcy r.Box).length≠0:=by
 obtain⟨g1,g2,g3,g4,g5,_⟩:=Zgp h;have h1:=Zwt g5
 have:1<=Zbu r.Box.Low r.Box.High:=by
  unfold Zbu capV;rw[if_pos g5];split<;>omega
 simp[Zcy];omega
theorem Zbw8{m:Zd}{q:Zc}{r:Region}(hm:LeM m)(hq:LeQ q)(hr:LeR r):Zvn m q r=some (Bo (holds m q r),[]):=by
 have hx:=Zbw5 r.Box hr;have hp:=Z4m r.Box;have hlen:(Zcy r.Box).length=(Zbu r.Box.Low r.Box.High).toNat:=by simp[Zcy]
 unfold holds;by_cases h4:Zbu r.Box.Low r.Box.High<=400
 .rw[if_pos h4]at hx;refine Zbgh _ _ _ _ (.inr ⟨_,hx,_,Z4j hm hq hr,?_⟩);by_cases h:Zbt m q r
  .obtain⟨g1,g2,g3,g4,g5,_⟩:=Zgp h;rw[if_pos (by simp[h]),if_neg (by have:=locs_pos h;omega)]
   have:=Zbw6 hm hq h (Zcy r.Box) (by omega) (λl hl=>by
    unfold Zcy at hl;rw[Yx]at hl;obtain⟨i,_,rfl⟩:=hl
    exact loc_B g5 (by omega)) 0 (Ye _)
   rw[Yk]at this;refine Ya this ?_;simp[h,h4]
  .rw[if_neg (by simp[h])];simp[h]
 .rw[if_neg h4]at hx;refine Zbgh _ _ _ _ (.inl ⟨hx,_,Z4j hm hq hr,?_⟩);by_cases h:Zbt m q r
  .rw[if_pos (by simp[h])];simp[h4]
  .rw[if_neg (by simp[h])];simp[h]
theorem Zbw9{m:Zd}{q:Zc}{r:Region}(hm:LeM m)(hq:LeQ q)(hr:LeR r):Zvp m q r=some (Bo (holds m q r),[]):=by
 refine Zbtx _ _ _ _ ⟨_,Zbgu r.Box hr,_,Zsj m hm,?_⟩;unfold holds;by_cases ha:Zcl m
 .rw[if_pos (by simp[ha])];refine⟨_,Zcs q hq,_,Zhe q hq _,?_⟩;rcases tf (Zb2 q.Ze q.Atoms (Zu q.Ze q.Atoms))with e2|e2
  .rw[if_neg (by rw[e2];simp)]
   have:¬Zbt m q r:=λh=>by rw[h.2.1]at e2;cases e2
   simp[this]
  rw[if_pos e2];refine⟨_,Z4g q hq r hr,?_⟩;rcases tf (Zgz q.Ze q.Atoms r.Plan.Steps r.Box.Low r.Box.High r.Percent)with e|e
  .rw[if_neg (by rw[e];simp)]
   have:¬Zbt m q r:=λh=>by rw[h.1]at e;cases e
   simp[this]
  rw[if_pos e];have h:Zbt m q r:=⟨e,e2,ha⟩;by_cases h4:Zbu r.Box.Low r.Box.High<=400
  .rw[if_neg (by omega)];have:=Zbw7 hm hq hr h h4 0 (Ye _);rw[Yk]at this;exact⟨_,Z4e q hq (Zgp h).1,by refine Ya this ?_;simp[h,h4]⟩
  .rw[if_pos (by omega)];simp[h4]
 .rw[if_neg (by simp[ha])]
  have:¬Zbt m q r:=λh=>ha h.2.2
  simp[this]
end Go.Proofs.YtcfaekfjkeobhaaGreat
