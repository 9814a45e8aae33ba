/-
  Parts of the proofs for this seat: IF IG IH.
-/
import Derived.Test.YthdihnbeifcppaaGreatP32
set_option linter.all false
set_option maxRecDepth 100000
set_option maxHeartbeats 4000000
namespace Go.Proofs.YthdihnbeifcppaaGreat
open Go.AM
def Vf(q:Zj)(M:Int):List (Int×V6):=(ZK q.Atoms M).map λA=>(A,Kr q A (M-A))
def ZaE(m:Za)(sizes:V6)(q:Zj)(M a:Int):Zb:=⟨M,((q.Atoms[a.toNat]?).map λx=>x.Vars.headD 0).getD 0,XB m.Scan (ZE sizes M) 0 (ZE sizes M),⟨[⟨1,a,0⟩]⟩⟩
def Vo(m:Za)(sizes:V6)(q:Zj)(out:List Zb)(M:Int):List Zb:=match VQ M with
 |[a]=>[ZaE m sizes q M a]
 |_=>(ZeA m sizes M out (Vf q M)).filter sm
def Z41:∀a:Fin 16,(QL (ofI (a.1:Int))=true->(VQ (a.1:Int)=[((0:Nat):Int)]/\(a.1:Int)=shlI 1 (0:Nat))\/(VQ (a.1:Int)=[((1:Nat):Int)]/\(a.1:Int)=shlI 1 (1:Nat))\/(VQ (a.1:Int)=[((2:Nat):Int)]/\(a.1:Int)=shlI 1 (2:Nat))\/(VQ (a.1:Int)=[((3:Nat):Int)]/\(a.1:Int)=shlI 1 (3:Nat)))/\(QL (ofI (a.1:Int))=false->(VQ (a.1:Int)).length≠1):=by decide
def Zvb{M:Int}(h:M16 M)(ho:QL (ofI M)=true):∃i:Nat,i<4/\VQ M=[(i:Int)]/\M=shlI 1 i:=by
 obtain⟨a,rfl⟩:=m16 h;rcases(Z41 a).1 ho with h|h|h|h
 .exact⟨0,by omega,h⟩
 .exact⟨1,by omega,h⟩
 .exact⟨2,by omega,h⟩
 .exact⟨3,by omega,h⟩
def Zvc{M:Int}(h:M16 M)(ho:QL (ofI M)=false):(VQ M).length≠1:=by
 obtain⟨a,rfl⟩:=m16 h;exact(Z41 a).2 ho
def Zvd{m:Za}{sizes:V6}{q:Zj}{out:List Zb}{M a:Int}(h:VQ M=[a]):Vo m sizes q out M=[ZaE m sizes q M a]:=by unfold Vo;rw[h]
def Zve{m:Za}{sizes:V6}{q:Zj}{out:List Zb}{M:Int}(h:(VQ M).length≠1):Vo m sizes q out M=(ZeA m sizes M out (Vf q M)).filter sm:=by
 unfold Vo;split
 .rename_i a e;rw[e]at h;simp at h
 .rfl
def Zvf{m:Za}{sizes:V6}{a b:Zb}{k v o:Int}(ho:-1<=o/\o<=3)(hM:orI a.Mask b.Mask≠0){mine:List Zb}(h5:mine.length=5):(VR m sizes a b k v o mine).filter sm≠[]:=by
 refine List.ne_nil_of_mem (a:=XN ((mine[(o+1).toNat]?).getD zE) (orI a.Mask b.Mask) o (jc m sizes a b k) (WD a.Zg.Steps b.Zg.Steps k v)) (Ybc.2 ⟨?_,sm_off hM⟩);unfold VR;exact List.mem_set (by omega) _
def Z42{m:Za}{sizes:V6}{b:Zb}:∀{E c:List Zb},(∀e∈E,(-1<=e.Order/\e.Order<=3)/\orI e.Mask b.Mask≠0)->c.length=5->c.filter sm≠[]->(E.foldl (Kt m sizes b) c).filter sm≠[]
 |[],_,_,_,h=>h
 |e::E,c,he,h5,h=>by
  rw[Y8];obtain⟨e1,e2⟩:=he e (by simp);exact Z42 (λx hx=>he x (by simp[hx])) (by rw[show(Kt m sizes b c e).length=c.length from QO];exact h5) (Zvf e1 e2 h5)
def Z43{m:Za}{sizes:V6}{A B:Int}{E F:List Zb}:∀{sh:V6} {c:List Zb},(∀v∈sh,(-1<=v/\v<=3)/\orI (inp m sizes A E v).Mask (inp m sizes B F v).Mask≠0)->c.length=5->c.filter sm≠[]->(sh.foldl (KW m sizes A B E F) c).filter sm≠[]
 |[],_,_,_,h=>h
 |v::sh,c,he,h5,h=>by
  rw[Y8];obtain⟨e1,e2⟩:=he v (by simp);exact Z43 (λx hx=>he x (by simp[hx])) (by rw[show(KW m sizes A B E F c v).length=c.length from QO];exact h5) (Zvf e1 e2 h5)
def ZIE{m:Za}{sizes:V6}{qa:List Ze}{M:Int}{l:List Zb}{p:Int×V6}(hM:M≠0)(hg:XZ m.Sort_)(c:U7 sizes)(o:Zcn m sizes qa l M p.1 p.2){mine:List Zb}(h5:mine.length=5):(QP m sizes M l mine p).filter sm≠[]:=by
 have hp:=o.pair;unfold QP Zcm;refine Z43 (λv hv=>⟨(o.vars v hv).1,?_⟩) (by rw[Zmn,QO];exact h5) (Z42 (λe he=>⟨o.left.ord e he,?_⟩) (by rw[QO];exact h5) (Zvf (by omega) ?_ h5))
 .rw[(ZaD o.left hg c hp.a16 (o.vars v hv).2.1).1,(ZaD o.right hg c hp.b16 (o.vars v hv).2.2).1,hp.or];exact hM
 .rw[o.left.mask e he,o.right.mask _ o.right.best,hp.or];exact hM
 .rw[o.left.mask _ o.left.best,o.right.mask _ o.right.best,hp.or];exact hM
def Z44{m:Za}{sizes:V6}{qa:List Ze}{M:Int}{l:List Zb}(hM:M≠0)(hg:XZ m.Sort_)(cc:U7 sizes):∀{ps:List (Int×V6)} {c:List Zb},(∀p∈ps,Zcn m sizes qa l M p.1 p.2)->c.length=5->(ps≠[]\/c.filter sm≠[])->(ps.foldl (QP m sizes M l) c).filter sm≠[]
 |[],_,_,_,h=>by rcases h with h|h;exact absurd rfl h;exact h
 |p::ps,c,hp,h5,_=>by
  rw[Y8];exact Z44 hM hg cc (λx hx=>hp x (by simp[hx])) (by rw[show(QP m sizes M l c p).length=c.length from Z4v];exact h5) (.inr (ZIE hM hg cc (hp p (by simp)) h5))
structure Inv (m:Za) (sizes:V6) (q:Zj) (done:V6) (out:List Zb):Prop where
 held:∀M∈done,Wq m sizes q.Atoms M (ofM out M)
 only:∀e∈out,e.Mask∈done
 len:out.length<=5*done.length
def ZIF{q:Zj}(hv:Z6 q.Zm q.Atoms=true){A B:Int}:∀v∈Kr q A B,(-1<=v/\v<=3)/\vin q.Atoms A v=true/\vin q.Atoms B v=true:=by
 intro v hvm;unfold Kr at hvm;rw[Ybc]at hvm;obtain⟨h1,h2⟩:=hvm;rw[Zab]at h2;have key:∀m,v∈U6 q m->(0<=v/\v<=3)/\vin q.Atoms m v=true:=by
  intro m hm;unfold U6 Xx at hm;rw[Yr]at hm;obtain⟨u,hu,rfl⟩:=hm;rw[Ybc,Yb7]at hu;have hn:=Q2 hv;refine⟨by omega,?_⟩;unfold vin;rw[Yg];exact⟨by simp[inR];omega,by rw[Yk];exact hu.2⟩
 obtain⟨k1,k2⟩:=key A h1;obtain⟨k3,k4⟩:=key B h2;exact⟨by omega,k2,k4⟩
def ZIG{q:Zj}(hv:Z6 q.Zm q.Atoms=true)(A B:Int):(Kr q A B).length<=1000:=by
 have:=Zii q hv A;unfold Kr;have:=Ybs (has (U6 q B)) (U6 q A);omega
def Xj{q:Zj}{sizes:V6}(c:WC q.Zm q.Atoms sizes=true){M:Int}(h:MQ q.Atoms M):Kv sizes M:=by
 unfold WC at c;simp only[Yg,decide_eq_true_eq]at c;have hf:=Kp c.1.1;have h1:=h.1;have h2:=h.2;have hl:M.toNat<sizes.length:=by omega
 refine⟨h1,?_⟩;unfold ZE;rw[Yf hl];rfl
def Zvg{qa:List Ze}{M A:Int}(hM:MQ qa M)(h:A∈ZK qa M):MQ qa A/\MQ qa (M-A):=by
 obtain⟨h1,h2,_⟩:=Zio h;have:=hM.2;exact⟨⟨by omega,by omega⟩,⟨by omega,by omega⟩⟩
def Zvh{m:Za}{q:Zj}{sizes:V6}(b:Ve m q sizes){done:V6}{out:List Zb}(hi:Inv m sizes q done out){M:Int}(hM:MQ q.Atoms M)(hc:Wp q.Atoms M=true)(hd:∀A∈ZK q.Atoms M,A∈done/\M-A∈done):∀p∈Vf q M,Zcn m sizes q.Atoms out M p.1 p.2:=by
 intro p hp;unfold Vf at hp;rw[Yr]at hp;obtain⟨A,hA,rfl⟩:=hp;obtain⟨d1,d2⟩:=hd A hA;obtain⟨q1,q2⟩:=Zvg hM hA;exact⟨ZI9 b.hv hM hc hA,hi.held A d1,hi.held _ d2,Xj b.hsv q1,Xj b.hsv q2,ZIG b.hv _ _,ZIF b.hv⟩
def Zvi{m:Za}{q:Zj}{sizes:V6}(b:Ve m q sizes){done:V6}{out:List Zb}(hi:Inv m sizes q done out){M:Int}(hM:MQ q.Atoms M)(h0:M≠0)(hc:Wp q.Atoms M=true)(hd:∀A∈ZK q.Atoms M,A∈done/\M-A∈done):Wq m sizes q.Atoms M (Vo m sizes q out M):=by
 have h16:=(hM.m16 b.hv).1
 cases ho:QL (ofI M)with
 |true =>
  obtain⟨i,hi4,ha,rfl⟩:=Zvb h16 ho;rw[Zvd ha];have hl:i<q.Atoms.length:=by
   have h2:=hM.2;have hl4:=WH b.hv;have e:shlI 1 (i:Nat)=2 ^ i:=by
    have:i=0\/i=1\/i=2\/i=3:=by omega
    rcases this with rfl|rfl|rfl|rfl<;>decide
   rw[e]at h2;have h3:(2:Int) ^ i<2 ^ q.Atoms.length:=h2;rw[<-Kq,<-Kq]at h3;have h4:2 ^ i<2 ^ q.Atoms.length:=by omega
   exact(Nat.pow_lt_pow_iff_right (by omega)).1 h4
  have hmk:=ZIn (m:=m) (sizes:=sizes) hl;have hu:=Ze9 m.Scan (ZE sizes (shlI 1 i)) 0 (ZE sizes (shlI 1 i));rw[WF (by omega) (by omega)]at hmk;have hvar:=ZcL b.hv _ (Yc hl);have he:ZaE m sizes q (shlI 1 i) (i:Int)=⟨shlI 1 i,q.Atoms[i].Vars.headD 0,XB m.Scan (ZE sizes (shlI 1 i)) 0 (ZE sizes (shlI 1 i)),⟨[⟨1,i,0⟩]⟩⟩:=by
   simp[ZaE,Yf hl]
  have hpop:Xz (shlI 1 (i:Nat))=1:=by
   have:i=0\/i=1\/i=2\/i=3:=by omega
   rcases this with rfl|rfl|rfl|rfl<;>decide
  have hord:0<=q.Atoms[i].Vars.headD 0/\q.Atoms[i].Vars.headD 0<=3:=by
   cases hvs:q.Atoms[i].Vars with
   |nil=>rw[hvs]at hvar;simp at hvar
   |cons v vs =>
    have:=ZjB b.hv _ (Yc hl) v (by rw[hvs];simp);have hn:=Q2 b.hv;simp[inR]at this;simp only[List.headD_cons];omega
  rw[he];refine⟨by simp,by simp,?_,?_,?_,?_⟩
  .intro e hm;rw[List.mem_singleton.1 hm]
  .intro e hm;rw[List.mem_singleton.1 hm];exact⟨by show -1<=q.Atoms[i].Vars.headD 0;omega,hord.2⟩
  .intro e hm;rw[List.mem_singleton.1 hm];exact hmk
  .intro e hm;rw[List.mem_singleton.1 hm];simp[hpop]
 |false =>
  rw[Zve (Zvc h16 ho)];have ok:=Zvh b hi hM hc hd;have hne:=ZIA b.hv hM h0 hc ho;refine ZIz (ZuY b.hg b.hcl ok (Z4w m sizes q.Atoms M)) (Z44 h0 b.hg b.hcl ok (by simp) (.inl ?_));unfold Vf;intro hh;exact hne (List.map_eq_nil_iff.1 hh)
def Z45(a b:List Zb)(M:Int):ofM (a++b) M=ofM a M++ofM b M:=by simp[ofM]
def ZIH{l:List Zb}{M:Int}(h:∀e∈l,e.Mask=M):ofM l M=l:=by
 unfold ofM;rw[List.filter_eq_self];intro e he;simp[h e he]
def Z46{l:List Zb}{M:Int}(h:∀e∈l,e.Mask≠M):ofM l M=[]:=by
 unfold ofM;rw[Ycp];intro e he;simp[h e he]
def Z47{m:Za}{q:Zj}{sizes:V6}(b:Ve m q sizes){done:V6}{out:List Zb}(hi:Inv m sizes q done out){M:Int}(hM:MQ q.Atoms M)(h0:M≠0)(hc:Wp q.Atoms M=true)(hd:∀A∈ZK q.Atoms M,A∈done/\M-A∈done)(hn:M ∉ done) :
  Inv m sizes q (done++[M]) (out++Vo m sizes q out M)/\(∀A∈done,ofM (out++Vo m sizes q out M) A=ofM out A)/\ofM (out++Vo m sizes q out M) M=Vo m sizes q out M:=by
 have hh:=Zvi b hi hM h0 hc hd;have e1:∀A∈done,ofM (out++Vo m sizes q out M) A=ofM out A:=by
  intro A hA;rw[Z45,Z46 (l:=Vo m sizes q out M),Ybb];intro e he;rw[hh.mask e he];intro h;exact hn (h▸hA)
 have e2:ofM (out++Vo m sizes q out M) M=Vo m sizes q out M:=by
  rw[Z45,ZIH hh.mask,Z46 (l:=out),Y7];intro e he h;exact hn (h▸hi.only e he)
 refine⟨⟨?_,?_,?_⟩,e1,e2⟩
 .intro A hA;rcases Yl.1 hA with hA|hA
  .rw[e1 A hA];exact hi.held A hA
  .simp at hA;subst hA;rw[e2];exact hh
 .intro e he;rcases Yl.1 he with he|he
  .exact Yct _ (hi.only e he)
  .rw[hh.mask e he];simp
 .have:=hh.le;have:=hi.len;simp only[Yn,Ym,Ybr];omega
def Zco{qa:List Ze}{M:Int}:M∈Z7 qa↔1<=M/\M<2 ^ qa.length/\Wp qa M=true:=by
 unfold Z7 QJ;rw[Yr];have hp:=Kq qa.length;constructor
 .rintro⟨k,hk,rfl⟩;rw[Ybc,List.mem_range'_1]at hk;exact⟨by omega,by omega,hk.2⟩
 .rintro⟨h1,h2,h3⟩;refine⟨M.toNat,?_,by omega⟩;rw[Ybc,List.mem_range'_1];have e:((M.toNat:Nat):Int)=M:=by omega
  exact⟨by omega,by rw[e];exact h3⟩
def Zip(qa:List Ze):(Z7 qa).Pairwise (·<·):=by
 unfold Z7 QJ;rw[List.pairwise_map];apply List.Pairwise.filter;refine(List.pairwise_lt_range' (s:=1) (n:=2 ^ qa.length-1)).imp ?_;intro a b h;omega
def Zmo{n:Int}{qa:List Ze}(hv:Z6 n qa=true):(Z7 qa).length<=15:=by
 have h16:2 ^ qa.length<=16:=Nat.pow_le_pow_right (by omega:0<2) (WH hv).2;have:=ZH5 (qa:=qa) (k:=1) (n:=2 ^ qa.length-1);unfold Z7;omega
def Z48{Ms:V6}(hu:Ms.Pairwise (·<·)){i:Nat}(hi:i<Ms.length){A:Int}(hA:A∈Ms)(h:A<Ms[i]):A∈Ms.take i:=by
 obtain⟨j,hj,rfl⟩:=List.mem_iff_getElem.1 hA;rw[Ycs]at hu;have hji:j<i:=by
  rcases Yc2 j i with q|rfl|q
  .exact q
  .omega
  .have:=hu i j hi hj q;omega
 rw[List.mem_take_iff_getElem];exact⟨j,by omega,rfl⟩
def Zvj{Ms:V6}(hu:Ms.Pairwise (·<·)){i:Nat}(hi:i<Ms.length):Ms[i] ∉ Ms.take i:=by
 intro h;rw[List.mem_take_iff_getElem]at h;obtain⟨j,hj,e⟩:=h;rw[Ycs]at hu;have:=hu j i (by omega) hi (by omega);omega
def Xt(m:Za)(sizes:V6)(q:Zj):Nat->List Zb
 |0=>[]
 |i+1=>Xt m sizes q i++Vo m sizes q (Xt m sizes q i) ((Z7 q.Atoms).getD i 0)
def ZeB{q:Zj}{i:Nat}(hi:i<(Z7 q.Atoms).length):MQ q.Atoms (Z7 q.Atoms)[i]/\(Z7 q.Atoms)[i]≠0/\Wp q.Atoms (Z7 q.Atoms)[i]=true/\∀A∈ZK q.Atoms (Z7 q.Atoms)[i],A∈(Z7 q.Atoms).take i/\(Z7 q.Atoms)[i]-A∈(Z7 q.Atoms).take i:=by
 obtain⟨h1,h2,h3⟩:=Zco.1 (Yc hi);refine⟨⟨by omega,h2⟩,by omega,h3,?_⟩;intro A hA;obtain⟨a1,a2,a3,a4,a5⟩:=Zio hA;exact⟨Z48 (Zip _) hi (Zco.2 ⟨a1,by omega,a4⟩) a2,Z48 (Zip _) hi (Zco.2 ⟨by omega,by omega,a5⟩) (by omega)⟩
def ZeC{m:Za}{q:Zj}{sizes:V6}(b:Ve m q sizes):∀i,i<=(Z7 q.Atoms).length->Inv m sizes q ((Z7 q.Atoms).take i) (Xt m sizes q i)
 |0,_=>⟨by simp,by simp[Xt],by simp[Xt]⟩
 |i+1,h=>by
  have hi:i<(Z7 q.Atoms).length:=by omega
  obtain⟨c1,c2,c3,c4⟩:=ZeB hi;have:=(Z47 b (ZeC b i (by omega)) c1 c2 c3 c4 (Zvj (Zip _) hi)).1;rw[Xt,Y4 hi];have e:(Z7 q.Atoms).getD i 0=(Z7 q.Atoms)[i]:=by simp[List.getD,hi]
  rw[e];exact this
def Ziq{m:Za}{q:Zj}{sizes:V6}(b:Ve m q sizes){i:Nat}(hi:i<=(Z7 q.Atoms).length):(Xt m sizes q i).length<=75:=by
 have h1:=(ZeC b i hi).len;have h2:=Zmo b.hv;rw[Yt]at h1;omega
def ZII{M v c:Int}{x:List Zh}(hM:M≠0)(hv:0<=v/\v<=3):[X0 0 zE M v c x,X0 1 zE M v c x,X0 2 zE M v c x,X0 3 zE M v c x,X0 4 zE M v c x].filter sm=[⟨M,v,c,⟨x⟩⟩]:=by
 have h:v=0\/v=1\/v=2\/v=3:=by omega
 rcases h with rfl|rfl|rfl|rfl<;>simp[X0,XN,sm,zE,hM]
def ZIJ:∀(i:Fin 4) (a:Fin 16),1<=a.1->(a.1:Int)<shlI 1 (i.1:Nat)->andI (a.1:Int) (shlI 1 (i.1:Nat))≠a.1:=by decide
def ZIK{qa:List Ze}{i:Nat}(hi:i<4):ZK qa (shlI 1 i)=[]:=by
 cases h:ZK qa (shlI 1 i)with
 |nil=>rfl
 |cons A l =>
  exfalso;obtain⟨h1,h2,h3,_⟩:=Zio (qa:=qa) (M:=shlI 1 i) (A:=A) (by rw[h];simp);have h16:M16 (shlI 1 (i:Nat)):=(Z30 ⟨i,hi⟩ ⟨0,by omega⟩).2;obtain⟨a,rfl⟩:=m16 (x:=A) (by omega);exact ZIJ ⟨i,hi⟩ a (by omega) h2 h3
def ZIL{E:List Zb}(h:E≠[]):flat (E.map Zb.c)=false:=by
 cases E with
 |nil=>exact absurd rfl h
 |cons e E=>simp[flat,Zb.c,Xe]
def ZIM{qa:List Ze}{n:Int}(hv:Z6 n qa=true){M A:Int}(hM:MQ qa M)(h:A∈ZK qa M):KA M A=M-A:=by
 obtain⟨h1,h2,h3,_⟩:=Zio h;have h16:=(hM.m16 hv).1;obtain⟨a,rfl⟩:=m16 (x:=A) (by omega);obtain⟨b,rfl⟩:=m16 h16;exact(Z3C a b h3).1
def ZIN(fr:Bool)(out:List Zb)(hl:out.length<=1000)(hs:∀e∈out,e.Zg.Steps.length<=1000):∀i,i<=out.length->Zgw fr out out.length i=some (.own 0,[.arr 287 4 fr (out.map Zb.c)]):=by
 refine down _ ?_ ?_
 .apply KM.2.1;rw[Ynx]
 .intro i hi ih;have h4:=ZL (i:=i) (by omega);have hw:w ((i:Int)+1)=((i+1:Nat):Int):=by rw[show w ((i:Int)+1)=(i:Int)+1 from h4];simp
  apply KM.2.1;rw[Ypx,hw];refine⟨by omega,out[i],by rw[Yk];exact Yf hi,_,Zmh _ (hs _ (Yc hi)),?_⟩;rw[Yk]
  have:out.set i (⟨out[i].Mask,out[i].Order,out[i].Cost,(⟨out[i].Zg.Steps⟩:Zg)⟩:Zb)=out:=Zin (Yf hi)
  rw[this];exact ih
def Inv.steps{m:Za}{q:Zj}{sizes done:V6}{out:List Zb}(h:Inv m sizes q done out)(c:∀M∈done,M16 M):∀e∈out,e.Zg.Steps.length<=1000:=by
 intro e he;have hd:=h.only e he;have hh:=(h.held _ hd).len e (Ybc.2 ⟨he,by simp⟩);have:=Um (c _ hd);omega
def ZIO{n:Int}{qa:List Ze}(hv:Z6 n qa=true):∀M∈Z7 qa,M16 M:=by
 intro M hM;obtain⟨h1,h2,_⟩:=Zco.1 hM;exact(MQ.m16 hv ⟨by omega,h2⟩).1
def Zvk{m:Za}{q:Zj}{sizes:V6}(b:Ve m q sizes){i:Nat}(hi:i<=(Z7 q.Atoms).length):∀e∈Xt m sizes q i,e.Zg.Steps.length<=1000 :=
 (ZeC b i hi).steps λM hM=>ZIO b.hv M (Ybe hM)
def ZIP{m:Za}{q:Zj}{sizes:V6}(b:Ve m q sizes):∀i,i<=(Z7 q.Atoms).length->∀(cc:List (List Zb)) (fr fr1:Bool),cc.length=2 ^ q.Atoms.length->(∀M∈(Z7 q.Atoms).take i,cc[M.toNat]?=some (ofM (Xt m sizes q i) M))->(i=(Z7 q.Atoms).length->fr1=false)->
  Zap m q fr cc fr1 (Xt m sizes q i) (Z7 q.Atoms) sizes (Z7 q.Atoms).length i=some (.own 0,[.arr 287 4 false ((Xt m sizes q (Z7 q.Atoms).length).map Zb.c)]):=by
 have hcl:=Zmo b.hv;refine down _ ?_ ?_
 .intro cc fr fr1 _ _ hf;rw[hf rfl];apply KM.1.1;rw[Ynx];exact ZIN false _ (by have:=Ziq b (Yh (Z7 q.Atoms).length);omega) (Zvk b (Yh _)) 0 (Yd _)
 .intro i hi ih cc fr fr1 htl hT hf;have h4:=ZL (i:=i) (by omega);have hw:w ((i:Int)+1)=((i+1:Nat):Int):=by rw[show w ((i:Int)+1)=(i:Int)+1 from h4];simp
  obtain⟨c1,c2,c3,c4⟩:=ZeB hi;have hinv:=ZeC b i (by omega);have hstep:=Z47 b hinv c1 c2 c3 c4 (Zvj (Zip _) hi);have hheld:=Zvi b hinv c1 c2 c3 c4;have hnext:Xt m sizes q (i+1)=Xt m sizes q i++Vo m sizes q (Xt m sizes q i) (Z7 q.Atoms)[i]:=by
   rw[Xt];congr 2;simp[List.getD,hi]
  have hlen:=Ziq b (i:=i) (by omega);have h16:=(c1.m16 b.hv).1;have hpw:=Kq q.Atoms.length;have hMt:(Z7 q.Atoms)[i].toNat<cc.length:=by have:=c1.1;have:=c1.2;omega
  have key:∀f1 E,E=Vo m sizes q (Xt m sizes q i) (Z7 q.Atoms)[i]->Zap m q f1 (cc.set (Z7 q.Atoms)[i].toNat E) (fr1 && flat (E.map Zb.c)) (Xt m sizes q i++E) (Z7 q.Atoms) sizes (Z7 q.Atoms).length (w ((i:Int)+1))=some (.own 0,[.arr 287 4 false ((Xt m sizes q (Z7 q.Atoms).length).map Zb.c)]):=by
   intro f1 E hE;subst hE;rw[hw,ZIL hheld.ne,Bool.and_false,<-hnext];refine ih _ _ _ (by rw[Ycf];exact htl) ?_ (λ_=>rfl);intro A hA;rw[Y4 hi]at hA;rcases Yl.1 hA with hA|hA
   .have hne:A≠(Z7 q.Atoms)[i]:=λh=>Zvj (Zip _) hi (h▸hA)
    have hA0:=(Zco.1 (Ybe hA)).1;have:=c1.1;rw[List.getElem?_set_ne (by omega),hT A hA,hnext,hstep.2.1 A hA]
   .rw[List.mem_singleton.1 hA,List.getElem?_set_self hMt,hnext,hstep.2.2]
  have hget:(Z7 q.Atoms)[i]?=some (Z7 q.Atoms)[i]:=Yf hi;generalize (Z7 q.Atoms)[i]=M at *
  have hic:WV q.Zm q.Atoms M=true:=by
   unfold WV;rw[b.hv,c3,Kp b.hv];have h1:=c1.1;have h2:=c1.2;simp[inR,c2,h1];omega
  have e1:(Vf q M).map Prod.fst=ZK q.Atoms M:=by
   unfold Vf;rw[List.map_map];exact List.map_id _
  have e2:(Vf q M).length=(ZK q.Atoms M).length:=by unfold Vf;rw[Y9]
  have hps:(Vf q M).length<=100:=by rw[e2];have:=Zva (qa:=q.Atoms) h16;omega
  have hok:∀p∈Vf q M,Z40 m q sizes (Xt m sizes q i) cc M p.1 p.2:=by
   intro p hp;have o:=Zvh b hinv c1 c3 c4 p hp;unfold Vf at hp;rw[Yr]at hp;obtain⟨A,hA,rfl⟩:=hp;have hd:=ZIM b.hv c1 hA;obtain⟨q1,q2⟩:=Zvg c1 hA;refine⟨o,hd,?_,hT A (c4 A hA).1,hT _ (c4 A hA).2⟩;rw[hd];exact ZHV q b.hq b.hv A (M-A) q1 q2
  have hgo:∀a0 a1 a2 a3 a4:Zb,((Vf q M).foldl (QP m sizes M (Xt m sizes q i)) [a0,a1,a2,a3,a4]).filter sm=Vo m sizes q (Xt m sizes q i) M->
    ZbE m q fr cc fr1 (Xt m sizes q i) m q sizes M a0 a1 a2 a3 a4 (sm a0) (sm a1) (sm a2) (sm a3) (sm a4) (Z7 q.Atoms) (ZK q.Atoms M) sizes M (Z7 q.Atoms).length i (ZK q.Atoms M).length 0=some (.own 0,[.arr 287 4 false ((Xt m sizes q (Z7 q.Atoms).length).map Zb.c)]):=by
   intro a0 a1 a2 a3 a4 hE;have:=ZID b h16 c2 cc hMt (Xt m sizes q i) (by omega) (Vf q M) hps hok fr fr1 (Z7 q.Atoms) (Z7 q.Atoms).length i _ 0 (Yd _) a0 a1 a2 a3 a4 (λf1 E h=>key f1 E (by rw[Ys,hE]at h;exact h.symm));rw[e1,e2]at this;exact this
  apply KM.1.1;rw[Ypx];refine⟨by omega,M,by rw[Yk];exact hget,.inr ⟨VQ M,ZHE h16,?_⟩⟩
  cases ho:QL (ofI M)with
  |true =>
   obtain⟨j,hj4,ha,hMj⟩:=Zvb h16 ho;have hent:=Zvd (m:=m) (sizes:=sizes) (q:=q) (out:=Xt m sizes q i) ha;have hE:=hheld;rw[hent]at hE;have hlen1:=hE.len _ (List.mem_singleton.2 rfl);have hmk:=hE.makes _ (List.mem_singleton.2 rfl);have hod:=hE.ord _ (List.mem_singleton.2 rfl);have hjl:j<q.Atoms.length:=by
    have h2:=c1.2;have e:shlI 1 (j:Nat)=2 ^ j:=by
     have:j=0\/j=1\/j=2\/j=3:=by omega
     rcases this with rfl|rfl|rfl|rfl<;>decide
    rw[hMj,e]at h2;have h3:(2:Int) ^ j<2 ^ q.Atoms.length:=h2;rw[<-Kq,<-Kq]at h3;exact(Nat.pow_lt_pow_iff_right (by omega)).1 (by omega:2 ^ j<2 ^ q.Atoms.length)
   have hvar:=ZcL b.hv _ (Yc hjl);obtain⟨v,vs,hvs⟩:∃v vs,q.Atoms[j].Vars=v::vs:=by
    cases hh:q.Atoms[j].Vars with
    |nil=>rw[hh]at hvar;simp at hvar
    |cons v vs=>exact⟨v,vs,rfl⟩
   have hv3:0<=v/\v<=3:=by
    have:=ZjB b.hv _ (Yc hjl) v (by rw[hvs];simp);have hn:=Q2 b.hv;simp[inR]at this;omega
   have hse:ZaE m sizes q M (j:Int)=⟨M,v,XB m.Scan (ZE sizes M) 0 (ZE sizes M),⟨[⟨1,j,0⟩]⟩⟩:=by
    simp[ZaE,Yf hjl,hvs]
   rw[hse]at hmk;have hcost:=X5.cost hmk b.hv (by simp) b.hsv;obtain⟨t,ht,hx⟩:=Z4h m b.hm q b.hq sizes b.hs M c2 zE zE zE zE zE [⟨1,j,0⟩] v (by omega) _ hcost;rw[show sm zE=false from rfl]at hx
   have hnx:=hgo _ _ _ _ _ (by
    have hsp:Vf q M=[]:=by unfold Vf;rw[hMj,ZIK hj4];rfl
    rw[hsp,List.foldl_nil,hent,hse]
    exact ZII (c:=XB m.Scan (ZE sizes M) 0 (ZE sizes M)) (x:=[⟨1,j,0⟩]) c2 hv3)
   rw[ha,Ya (by simp)];refine⟨(j:Int),rfl,_,ZIe _,by omega,q.Atoms[j],by rw[Yk];exact Yf hjl,v,by rw[hvs];rfl,?_⟩;rcases ht with rfl|rfl
   .exact .inl ⟨m,q,sizes,M,_,_,_,_,_,_,_,_,_,_,hx,.inr ⟨_,ZuG q b.hq M hic,hnx⟩⟩
   .exact .inr ⟨m,q,sizes,M,_,_,_,_,_,_,_,_,_,_,_,hx,.inr ⟨_,ZuG q b.hq M hic,hnx⟩⟩
  |false =>
   have hne:=Zvc h16 ho;rw[Ynx];have hnx:=hgo zE zE zE zE zE (by rw[Zve hne];rfl);rw[show sm zE=false from rfl]at hnx;exact .inr ⟨_,ZuG q b.hq M hic,hnx⟩
def ZIQ{m:Za}{q:Zj}{sizes:V6}(b:Ve m q sizes)(ha:V9 m):Zdm m q sizes=some (.own 0,[.arr 287 4 false ((Xt m sizes q (Z7 q.Atoms).length).map Zb.c)]):=by
 have hf:=Kp b.hv;have hpw:=Kq q.Atoms.length;have h16:2 ^ q.Atoms.length<=16:=Nat.pow_le_pow_right (by omega:0<2) (WH b.hv).2;have hp1:1<=2 ^ q.Atoms.length:=Nat.one_le_two_pow;have e1:w (ZW q.Zm q.Atoms+1)=2 ^ q.Atoms.length:=by rw[WF (by omega) (by omega)];omega
 have hr:room=140737488355328:=rfl;refine ZFu ⟨_,Zu3 m b.hm,?_⟩;rw[Ya (by simpa using ha)];refine⟨_,Z3I q b.hq sizes b.hs,?_⟩;rw[Ya b.hsv];refine⟨_,Za4 q b.hq,?_⟩;rw[e1];have e2:((2:Int) ^ q.Atoms.length).toNat=2 ^ q.Atoms.length:=by omega
 rw[e2];refine⟨by omega,by omega,by rw[hr];omega,by omega,_,ZH7 q b.hq b.hv,?_⟩;refine ZIP b 0 (Yd _) _ true true (by simp) (by simp) ?_;intro h;exfalso
 have:(1:Int)∈Z7 q.Atoms:=by
  refine Zco.2 ⟨by omega,?_,?_⟩
  .have:2 ^ 1<=2 ^ q.Atoms.length:=Nat.pow_le_pow_right (by omega) (WH b.hv).1
   omega
  .have h1:=Zik b.hv (true,false,false,false);rw[show toI (true,false,false,false)=1 from rfl]at h1;rw[h1];have key:∀a b c d e f:Bool,∀n:Fin 5,Vc ⟨a,b,c,d,e,f⟩ n.1 (true,false,false,false)=true:=by decide
   exact key _ _ _ _ _ _ ⟨q.Atoms.length,by have:=(WH b.hv).2;omega⟩
 rw[Ycn.1 h.symm]at this;cases this
def KX(q:Zj)(M:Int):V4:=(ZK q.Atoms M).map λA=>Kr q A (M-A)
def Un(q:Zj)(M:Int):Xk:=⟨M,ZK q.Atoms M,KX q M⟩
def shapes(q:Zj):List Xk:=(Z7 q.Atoms).map (Un q)
def ZIR{q:Zj}(hv:Z6 q.Zm q.Atoms=true){M:Int}(c1:MQ q.Atoms M)(c2:M≠0)(c3:Wp q.Atoms M=true):WV q.Zm q.Atoms M=true:=by
 unfold WV;rw[hv,c3,Kp hv];have h1:=c1.1;have h2:=c1.2;simp[inR,c2,h1];omega
section
variable(q:Zj)(hq:LeQ q)(hv:Z6 q.Zm q.Atoms=true)
include hq hv
theorem Z49{M:Int}(hM:MQ q.Atoms M){A:Int}(hA:A∈ZK q.Atoms M):ZbU q A (w (M-A))=some (.own 0,[.arr 3 1 true ((Kr q A (M-A)).map ic)]):=by
 obtain⟨q1,q2⟩:=Zvg hM hA;have h16:=(q2.m16 hv).1;rw[WF (by omega) (by omega)];exact ZHY q hq hv A (M-A) q1 q2
theorem ZIS(out:List Xk)(c:out.length<=1000){i:Nat}(hi:i<(Z7 q.Atoms).length)(r:V3)(h:Zaz q (out++[Un q (Z7 q.Atoms)[i]]) (Z7 q.Atoms) (w ((i:Int)+1))=some r) :
  ∀k,k<=(ZK q.Atoms (Z7 q.Atoms)[i]).length->Zh1 q out (Z7 q.Atoms) (Z7 q.Atoms)[i] (ZK q.Atoms (Z7 q.Atoms)[i]) ((KX q (Z7 q.Atoms)[i]).take k) i k=some r:=by
 obtain⟨c1,c2,c3,c4⟩:=ZeB hi;have hsl:=Zva (qa:=q.Atoms) (c1.m16 hv).1;have hlen:(KX q (Z7 q.Atoms)[i]).length=(ZK q.Atoms (Z7 q.Atoms)[i]).length:=by simp[KX]
 refine down _ ?_ ?_
 .apply Wj.1.1.2.1;rw[Ynx];refine⟨by omega,?_⟩;rw[<-hlen,Yp];exact h
 .intro k hk ih;have h4:=ZL (i:=k) (by omega);have hw:w ((k:Int)+1)=((k+1:Nat):Int):=by rw[show w ((k:Int)+1)=(k:Int)+1 from h4];simp
  apply Wj.1.1.2.1;rw[Ypx,hw];refine⟨by omega,_,by rw[Yk];exact Yf hk,by omega,_,by rw[Yk];exact Yf hi,_,Z49 q hq hv c1 (Yc hk),?_,?_⟩
  .rw[Yt];omega
  .rw[Y4 (by omega)]at ih;simpa[KX]using ih
theorem ZIT(out:List Xk)(c:out.length<=1000){i:Nat}(hi:i<(Z7 q.Atoms).length)(r:V3)(h:Zaz q (out++[Un q (Z7 q.Atoms)[i]]) (Z7 q.Atoms) (w ((i:Int)+1))=some r) :
  Zlt q out (Z7 q.Atoms) (Z7 q.Atoms)[i] (ZK q.Atoms (Z7 q.Atoms)[i]) i 0=some r:=by
 obtain⟨c1,c2,c3,c4⟩:=ZeB hi;apply Wj.1.1.1.2;by_cases h0:(ZK q.Atoms (Z7 q.Atoms)[i]).length=0
 .rw[Ynx];refine⟨by omega,?_⟩
  have:Un q (Z7 q.Atoms)[i]=⟨(Z7 q.Atoms)[i],ZK q.Atoms (Z7 q.Atoms)[i],[]⟩:=by
   unfold Un KX;rw[Ycn.1 h0];rfl
  rw[<-this];exact h
 .rw[Ypx];have hk:0<(ZK q.Atoms (Z7 q.Atoms)[i]).length:=by omega
  have:=ZIS q hq hv out c hi r h 1 (by omega);refine⟨by omega,_,Yf hk,by omega,_,by rw[Yk];exact Yf hi,_,Z49 q hq hv c1 (Yc hk),?_⟩;rw[show w ((0:Int)+1)=((1:Nat):Int)from by decide];have e:(KX q (Z7 q.Atoms)[i]).take 1=[Kr q (ZK q.Atoms (Z7 q.Atoms)[i])[0] ((Z7 q.Atoms)[i]-(ZK q.Atoms (Z7 q.Atoms)[i])[0])]:=by
   rw[Y4 (by simp[KX];omega)];simp[KX]
  rw[e]at this;exact this
theorem ZIU:∀i,i<=(Z7 q.Atoms).length->Zaz q ((shapes q).take i) (Z7 q.Atoms) i=some (.own 0,[.arr 335 3 true ((shapes q).map Xk.c)]):=by
 have hcl:=Zmo hv;have hlen:(shapes q).length=(Z7 q.Atoms).length:=by simp[shapes]
 refine down _ ?_ ?_
 .apply Wj.1.1.1.1;rw[Ynx,<-hlen,Yp]
 .intro i hi ih;have h4:=ZL (i:=i) (by omega);have hw:w ((i:Int)+1)=((i+1:Nat):Int):=by rw[show w ((i:Int)+1)=(i:Int)+1 from h4];simp
  obtain⟨c1,c2,c3,c4⟩:=ZeB hi;apply Wj.1.1.1.1;rw[Ypx];refine⟨by omega,_,by rw[Yk];exact Yf hi,_,ZHC q hq _ (ZIR hv c1 c2 c3),?_⟩;refine ZIT q hq hv _ (by rw[Yt];omega) hi _ ?_;rw[hw];rw[Y4 (by omega)]at ih;simpa[shapes]using ih
theorem ZIV:Zh0 q=some (.own 0,[.arr 335 3 true ((shapes q).map Xk.c)]) :=
 Wj.1.1.2.2 _ _ ⟨_,ZH9 q hq hv,by simpa using ZIU q hq hv 0 (Yd _)⟩
end
def f_one:∀a:Fin 16,1<=a.1->(andI (a.1:Int) (w ((a.1:Int)-1))=0↔QL (ofI (a.1:Int))=true):=by decide
def Z4A{α β:Type}(f:α->β):∀l:List α,l.zip (l.map f)=l.map λa=>(a,f a)
 |[]=>rfl
 |a::l=>by simp[Z4A f l]
def ZIW{m:Za}{q:Zj}{sizes:V6}(b:Ve m q sizes):∀i,i<=(Z7 q.Atoms).length->∀fr:Bool,∃fr',Zed (shapes q) sizes m q fr (Xt m sizes q i) i=some (.own 2,[.arr 335 3 true ((shapes q).map Xk.c),.arr 3 1 true (sizes.map ic),.arr 287 4 fr' ((Xt m sizes q (Z7 q.Atoms).length).map Zb.c)]):=by
 have hcl:=Zmo b.hv;have hlen:(shapes q).length=(Z7 q.Atoms).length:=by simp[shapes]
 refine down _ ?_ ?_
 .intro fr;refine⟨fr,WN.2.1.2.1 _ _ _ _ _ _ _ _ ?_⟩;rw[Ynx]
 .intro i hi ih fr;have h4:=ZL (i:=i) (by omega);have hw:w ((i:Int)+1)=((i+1:Nat):Int):=by rw[show w ((i:Int)+1)=(i:Int)+1 from h4];simp
  obtain⟨c1,c2,c3,c4⟩:=ZeB hi;have hinv:=ZeC b i (by omega);have hheld:=Zvi b hinv c1 c2 c3 c4;have hnext:Xt m sizes q (i+1)=Xt m sizes q i++Vo m sizes q (Xt m sizes q i) (Z7 q.Atoms)[i]:=by
   rw[Xt];congr 2;simp[List.getD,hi]
  have hol:=Ziq b (i:=i) (by omega);have h16:=(c1.m16 b.hv).1;have hget:(shapes q)[i]?=some (Un q (Z7 q.Atoms)[i]):=by
   unfold shapes;rw[Yci,Yf hi];rfl
  rw[hnext]at ih;generalize (Z7 q.Atoms)[i]=M at *
  have hz:=Xj b.hsv c1;have h1:(andI M (w (M-1))=0↔QL (ofI M)=true):=by
   have q1:=c1.1;obtain⟨a,rfl⟩:=m16 h16;exact f_one a (by omega)
  have hle:=hheld.le
  cases ho:QL (ofI M)with
  |true =>
   obtain⟨j,hj4,ha,hMj⟩:=Zvb h16 ho;have hent:=Zvd (m:=m) (sizes:=sizes) (q:=q) (out:=Xt m sizes q i) ha;have hjl:j<q.Atoms.length:=by
    have h2:=c1.2;have e:shlI 1 (j:Nat)=2 ^ j:=by
     have:j=0\/j=1\/j=2\/j=3:=by omega
     rcases this with rfl|rfl|rfl|rfl<;>decide
    rw[hMj,e]at h2;have h3:(2:Int) ^ j<2 ^ q.Atoms.length:=h2;rw[<-Kq,<-Kq]at h3;exact(Nat.pow_lt_pow_iff_right (by omega)).1 (by omega:2 ^ j<2 ^ q.Atoms.length)
   have hvar:=ZcL b.hv _ (Yc hjl);obtain⟨v,vs,hvs⟩:∃v vs,q.Atoms[j].Vars=v::vs:=by
    cases hh:q.Atoms[j].Vars with
    |nil=>rw[hh]at hvar;simp at hvar
    |cons v vs=>exact⟨v,vs,rfl⟩
   have hse:ZaE m sizes q M (j:Int)=⟨M,v,XB m.Scan (ZE sizes M) 0 (ZE sizes M),⟨[⟨1,j,0⟩]⟩⟩:=by
    simp[ZaE,Yf hjl,hvs]
   rw[hent,hse]at ih;obtain⟨fr',hr⟩:=ih fr;refine⟨fr',WN.2.1.2.1 _ _ _ _ _ _ _ _ ?_⟩;rw[Ypx];refine⟨by omega,_,by rw[Yk];exact hget,?_⟩;have h1':andI (Un q M).mask (w ((Un q M).mask-1))=0:=h1.2 ho;rw[Ya h1',hw];refine⟨_,ZHG h16,(j:Int),by rw[show VQ (Un q M).mask=[(j:Int)]from ha];rfl,by omega,q.Atoms[j],by rw[Yk];exact Yf hjl,v,by rw[hvs];rfl,hz.1,_,hz.2,_,Kl _ b.hm.1 _ _ _,_,ZIf _,by omega,?_⟩
   exact hr
  |false =>
   have hne:=Zvc h16 ho;have ok:=Zvh b hinv c1 c3 c4;have hzip:(Un q M).ZK.zip (Un q M).shared=Vf q M:=Z4A _ _;have hsl:=Zva (qa:=q.Atoms) h16;obtain⟨f1,hJ⟩:=ZI5 m b.hm b.hg sizes b.hcl q.Atoms fr (Xt m sizes q i) (by omega) (Un q M) hz h16 (by show 0<M;have:=c1.1;omega) (by simp[Un,KX]) (by show(ZK q.Atoms M).length<=100;omega) (by rw[hzip];exact ok);rw[hzip]at hJ;have hent:=Zve (m:=m) (sizes:=sizes) (q:=q) (out:=Xt m sizes q i) hne;rw[hent]at ih hle;obtain⟨fr',hr⟩:=ih (fr && flat (((ZeA m sizes M (Xt m sizes q i) (Vf q M)).filter sm).map Zb.c));refine⟨fr',WN.2.1.2.1 _ _ _ _ _ _ _ _ ?_⟩;rw[Ypx];refine⟨by omega,_,by rw[Yk];exact hget,?_⟩;have h1':¬andI (Un q M).mask (w ((Un q M).mask-1))=0:=λh=>by have:=h1.1 h;rw[ho]at this;cases this
   rw[Yb h1',hw];exact⟨_,_,hJ,by show(Xt m sizes q i).length+((ZeA m sizes M (Xt m sizes q i) (Vf q M)).filter sm).length<=68719476736;omega,hr⟩
def ZIX{m:Za}{q:Zj}{sizes:V6}(b:Ve m q sizes):∃fr',ZhC (shapes q) sizes m q=some (.own 2,[.arr 335 3 true ((shapes q).map Xk.c),.arr 3 1 true (sizes.map ic),.arr 287 4 fr' ((Xt m sizes q (Z7 q.Atoms).length).map Zb.c)]):=by
 obtain⟨fr',h⟩:=ZIW b 0 (Yd _) true;exact⟨fr',WN.2.1.2.2 _ _ _ _ _ h⟩
