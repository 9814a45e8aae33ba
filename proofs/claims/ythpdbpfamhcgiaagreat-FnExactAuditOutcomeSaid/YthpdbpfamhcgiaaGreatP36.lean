/-
  Parts of the proofs for this seat: IF IG IH.
-/
import Derived.Test.YthpdbpfamhcgiaaGreatP35
set_option linter.all false
set_option maxRecDepth 100000
set_option maxHeartbeats 4000000
namespace Go.Proofs.YthpdbpfamhcgiaaGreat
open Go.AM
def VP(q:Zf)(M:Int):List (Int×V6):=(Xf q.Zb M).map λA=>(A,Jo q A (M-A))
def Zcl(m:Zn)(sizes:V6)(q:Zf)(M a:Int):Zd:=⟨M,((q.Zb[a.toNat]?).map λx=>x.Za.headD 0).getD 0,XQ m.Z1 (ZU sizes M) 0 (ZU sizes M),⟨[⟨1,a,0⟩]⟩⟩
def Ui(m:Zn)(sizes:V6)(q:Zf)(out:List Zd)(M:Int):List Zd:=match UD M with
 |[a]=>[Zcl m sizes q M a]
 |_=>(Zh1 m sizes M out (VP q M)).filter sm
theorem ZBO:∀a:Fin 16,(Kw (ofI (a.1:Int))=true->(UD (a.1:Int)=[((0:Nat):Int)]/\(a.1:Int)=shlI 1 (0:Nat))\/(UD (a.1:Int)=[((1:Nat):Int)]/\(a.1:Int)=shlI 1 (1:Nat))\/(UD (a.1:Int)=[((2:Nat):Int)]/\(a.1:Int)=shlI 1 (2:Nat))\/(UD (a.1:Int)=[((3:Nat):Int)]/\(a.1:Int)=shlI 1 (3:Nat)))/\(Kw (ofI (a.1:Int))=false->(UD (a.1:Int)).length≠1):=by decide
def Z1k{M:Int}(h:M16 M)(ho:Kw (ofI M)=true):∃i:Nat,i<4/\UD M=[(i:Int)]/\M=shlI 1 i:=by
 obtain⟨a,rfl⟩:=m16 h;rcases(ZBO a).1 ho with h|h|h|h
 .exact⟨0,by omega,h⟩
 .exact⟨1,by omega,h⟩
 .exact⟨2,by omega,h⟩
 .exact⟨3,by omega,h⟩
def Z1l{M:Int}(h:M16 M)(ho:Kw (ofI M)=false):(UD M).length≠1:=by
 grind [m16,ZBO]
def Z1m{m:Zn}{sizes:V6}{q:Zf}{out:List Zd}{M a:Int}(h:UD M=[a]):Ui m sizes q out M=[Zcl m sizes q M a]:=by unfold Ui;rw[h]
def Z1n{m:Zn}{sizes:V6}{q:Zf}{out:List Zd}{M:Int}(h:(UD M).length≠1):Ui m sizes q out M=(Zh1 m sizes M out (VP q M)).filter sm:=by
 unfold Ui
 grind
def Z1o{m:Zn}{sizes:V6}{a b:Zd}{k v o:Int}(ho:-1<=o/\o<=3)(hM:orI a.Mask b.Mask≠0){mine:List Zd}(h5:mine.length=5):(UE m sizes a b k v o mine).filter sm≠[]:=by
 refine List.ne_nil_of_mem (a:=W0 ((mine[(o+1).toNat]?).getD zE) (orI a.Mask b.Mask) o (jc m sizes a b k) (Vp a.Zg.Steps b.Zg.Steps k v)) (Ybb.2 ⟨?_,sm_off hM⟩);unfold UE
 grind [List.mem_set]
def ZBP{m:Zn}{sizes:V6}{b:Zd}:∀{E c:List Zd},(∀e∈E,(-1<=e.Zl/\e.Zl<=3)/\orI e.Mask b.Mask≠0)->c.length=5->c.filter sm≠[]->(E.foldl (Jq m sizes b) c).filter sm≠[]
 |[],_,_,_,h=>h
 |e::E,c,he,h5,h=>by
  rw[Y7];obtain⟨e1,e2⟩:=he e (by simp);exact ZBP (λx hx=>he x (by simp[hx])) (by rw[show(Jq m sizes b c e).length=c.length from K1];exact h5) (Z1o e1 e2 h5)
def ZBQ{m:Zn}{sizes:V6}{A B:Int}{E F:List Zd}:∀{sh:V6} {c:List Zd},(∀v∈sh,(-1<=v/\v<=3)/\orI (inp m sizes A E v).Mask (inp m sizes B F v).Mask≠0)->c.length=5->c.filter sm≠[]->(sh.foldl (JS m sizes A B E F) c).filter sm≠[]
 |[],_,_,_,h=>h
 |v::sh,c,he,h5,h=>by
  rw[Y7];obtain⟨e1,e2⟩:=he v (by simp);exact ZBQ (λx hx=>he x (by simp[hx])) (by rw[show(JS m sizes A B E F c v).length=c.length from K1];exact h5) (Z1o e1 e2 h5)
def ZPH{m:Zn}{sizes:V6}{qa:List Ze}{M:Int}{l:List Zd}{p:Int×V6}(hM:M≠0)(hg:WC m.Zz)(c:Q3 sizes)(o:Zet m sizes qa l M p.1 p.2){mine:List Zd}(h5:mine.length=5):(K2 m sizes M l mine p).filter sm≠[]:=by
 have hp:=o.pair;unfold K2 Zes;refine ZBQ (λv hv=>⟨(o.vars v hv).1,?_⟩) (by rw[Zqi,K1];exact h5) (ZBP (λe he=>⟨o.left.ord e he,?_⟩) (by rw[K1];exact h5) (Z1o (by omega) ?_ h5))
 .rw[(Zck o.left hg c hp.a16 (o.vars v hv).2.1).1,(Zck o.right hg c hp.b16 (o.vars v hv).2.2).1,hp.or];exact hM
 .rw[o.left.mask e he,o.right.mask _ o.right.best,hp.or];exact hM
 .rw[o.left.mask _ o.left.best,o.right.mask _ o.right.best,hp.or];exact hM
def ZBR{m:Zn}{sizes:V6}{qa:List Ze}{M:Int}{l:List Zd}(hM:M≠0)(hg:WC m.Zz)(cc:Q3 sizes):∀{ps:List (Int×V6)} {c:List Zd},(∀p∈ps,Zet m sizes qa l M p.1 p.2)->c.length=5->(ps≠[]\/c.filter sm≠[])->(ps.foldl (K2 m sizes M l) c).filter sm≠[]
 |[],_,_,_,h=>by rcases h with h|h;exact absurd rfl h;exact h
 |p::ps,c,hp,h5,_=>by
  rw[Y7];exact ZBR hM hg cc (λx hx=>hp x (by simp[hx])) (by rw[show(K2 m sizes M l c p).length=c.length from ZBI];exact h5) (.inr (ZPH hM hg cc (hp p (by simp)) h5))
structure Inv (m:Zn) (sizes:V6) (q:Zf) (done:V6) (out:List Zd):Prop where
 held:∀M∈done,WR m sizes q.Zb M (ofM out M)
 only:∀e∈out,e.Mask∈done
 len:out.length<=5*done.length
def ZPI{q:Zf}(hv:Z9 q.Zk q.Zb=true){A B:Int}:∀v∈Jo q A B,(-1<=v/\v<=3)/\vin q.Zb A v=true/\vin q.Zb B v=true:=by
 intro v hvm;unfold Jo at hvm;rw[Ybb]at hvm;obtain⟨h1,h2⟩:=hvm;rw[Vj]at h2;have key:∀m,v∈XG q m->(0<=v/\v<=3)/\vin q.Zb m v=true:=by
  intro m hm;unfold XG Xo at hm;rw[Yt]at hm;obtain⟨u,hu,rfl⟩:=hm;rw[Ybb,Ybg]at hu;have hn:=U2 hv;refine⟨by omega,?_⟩;unfold vin;rw[Yg];exact⟨by simp[inR];omega,by rw[Yh];exact hu.2⟩
 grind
def ZPJ{q:Zf}(hv:Z9 q.Zk q.Zb=true)(A B:Int):(Jo q A B).length<=1000:=by
 have:=Zce q hv A;unfold Jo
 grind
def X8{q:Zf}{sizes:V6}(c:VM q.Zk q.Zb sizes=true){M:Int}(h:MQ q.Zb M):Js sizes M:=by
 unfold VM at c;simp only[Yg,decide_eq_true_eq]at c;have hf:=QT c.1.1;have h1:=h.1;have h2:=h.2;have hl:M.toNat<sizes.length:=by omega
 refine⟨h1,?_⟩;unfold ZU
 simp_all
def Z1p{qa:List Ze}{M A:Int}(hM:MQ qa M)(h:A∈Xf qa M):MQ qa A/\MQ qa (M-A):=by
 obtain⟨h1,h2,_⟩:=ZlM h;omega
def Z1q{m:Zn}{q:Zf}{sizes:V6}(b:VO m q sizes){done:V6}{out:List Zd}(hi:Inv m sizes q done out){M:Int}(hM:MQ q.Zb M)(hc:Va q.Zb M=true)(hd:∀A∈Xf q.Zb M,A∈done/\M-A∈done):∀p∈VP q M,Zet m sizes q.Zb out M p.1 p.2:=by
 intro p hp;unfold VP at hp;rw[Yt]at hp;obtain⟨A,hA,rfl⟩:=hp;obtain⟨d1,d2⟩:=hd A hA;obtain⟨q1,q2⟩:=Z1p hM hA;exact⟨ZP6 b.hv hM hc hA,hi.held A d1,hi.held _ d2,X8 b.hsv q1,X8 b.hsv q2,ZPJ b.hv _ _,ZPI b.hv⟩
def Z1r{m:Zn}{q:Zf}{sizes:V6}(b:VO m q sizes){done:V6}{out:List Zd}(hi:Inv m sizes q done out){M:Int}(hM:MQ q.Zb M)(h0:M≠0)(hc:Va q.Zb M=true)(hd:∀A∈Xf q.Zb M,A∈done/\M-A∈done):WR m sizes q.Zb M (Ui m sizes q out M):=by
 have h16:=(hM.m16 b.hv).1
 cases ho:Kw (ofI M)with
 |true =>
  obtain⟨i,hi4,ha,rfl⟩:=Z1k h16 ho;rw[Z1m ha];have hl:i<q.Zb.length:=by
   have h2:=hM.2;have hl4:=Wg b.hv;have e:shlI 1 (i:Nat)=2 ^ i:=by
    have:i=0\/i=1\/i=2\/i=3:=by omega
    rcases this with rfl|rfl|rfl|rfl<;>decide
   rw[e]at h2;have h3:(2:Int) ^ i<2 ^ q.Zb.length:=h2;rw[<-Jn,<-Jn]at h3;have h4:2 ^ i<2 ^ q.Zb.length:=by omega
   simp_all [Nat.pow_lt_pow_iff_right]
  have hmk:=ZPq (m:=m) (sizes:=sizes) hl;have hu:=Zh0 m.Z1 (ZU sizes (shlI 1 i)) 0 (ZU sizes (shlI 1 i));rw[Q2 (by omega) (by omega)]at hmk;have hvar:=Zah b.hv _ (Ye hl);have he:Zcl m sizes q (shlI 1 i) (i:Int)=⟨shlI 1 i,q.Zb[i].Za.headD 0,XQ m.Z1 (ZU sizes (shlI 1 i)) 0 (ZU sizes (shlI 1 i)),⟨[⟨1,i,0⟩]⟩⟩:=by
   simp[Zcl,Yf hl]
  have hpop:XR (shlI 1 (i:Nat))=1:=by
   have:i=0\/i=1\/i=2\/i=3:=by omega
   rcases this with rfl|rfl|rfl|rfl<;>decide
  have hord:0<=q.Zb[i].Za.headD 0/\q.Zb[i].Za.headD 0<=3:=by
   cases hvs:q.Zb[i].Za with
   |nil=>rw[hvs]at hvar;simp at hvar
   |cons v vs =>
    have:=Zc3 b.hv _ (Ye hl) v (by rw[hvs];simp);have hn:=U2 b.hv;simp[inR]at this
    grind
  rw[he];refine⟨by simp,by simp,?_,?_,?_,?_⟩
  .simp
  .grind
  .simp_all
  .simp_all
 |false =>
  rw[Z1n (Z1l h16 ho)];have ok:=Z1q b hi hM hc hd;have hne:=ZP7 b.hv hM h0 hc ho;refine ZP2 (Z1i b.hg b.hcl ok (ZBJ m sizes q.Zb M)) (ZBR h0 b.hg b.hcl ok (by simp) (.inl ?_));unfold VP
  simp_all
def ZBS(a b:List Zd)(M:Int):ofM (a++b) M=ofM a M++ofM b M:=by simp[ofM]
def ZPK{l:List Zd}{M:Int}(h:∀e∈l,e.Mask=M):ofM l M=l:=by
 unfold ofM
 simp_all
def ZBT{l:List Zd}{M:Int}(h:∀e∈l,e.Mask≠M):ofM l M=[]:=by
 unfold ofM
 simp_all
def ZBU{m:Zn}{q:Zf}{sizes:V6}(b:VO m q sizes){done:V6}{out:List Zd}(hi:Inv m sizes q done out){M:Int}(hM:MQ q.Zb M)(h0:M≠0)(hc:Va q.Zb M=true)(hd:∀A∈Xf q.Zb M,A∈done/\M-A∈done)(hn:M ∉ done) :
  Inv m sizes q (done++[M]) (out++Ui m sizes q out M)/\(∀A∈done,ofM (out++Ui m sizes q out M) A=ofM out A)/\ofM (out++Ui m sizes q out M) M=Ui m sizes q out M:=by
 have hh:=Z1r b hi hM h0 hc hd;have e1:∀A∈done,ofM (out++Ui m sizes q out M) A=ofM out A:=by
  intro A hA;rw[ZBS,ZBT (l:=Ui m sizes q out M),Y9];intro e he;rw[hh.mask e he]
  grind
 have e2:ofM (out++Ui m sizes q out M) M=Ui m sizes q out M:=by
  rw[ZBS,ZPK hh.mask,ZBT (l:=out),Ybi];intro e he h;exact hn (h▸hi.only e he)
 refine⟨⟨?_,?_,?_⟩,e1,e2⟩
 .intro A hA;rcases Yu.1 hA with hA|hA
  .rw[e1 A hA];exact hi.held A hA
  .simp_all
 .intro e he;rcases Yu.1 he with he|he
  .exact Ycm _ (hi.only e he)
  .rw[hh.mask e he];simp
 .have:=hh.le;have:=hi.len
  grind
theorem JT{qa:List Ze}{M:Int}:M∈ZJ qa↔1<=M/\M<2 ^ qa.length/\Va qa M=true:=by
 unfold ZJ Kv;rw[Yt];have hp:=Jn qa.length;constructor
 .grind
 .rintro⟨h1,h2,h3⟩;refine⟨M.toNat,?_,by omega⟩
  grind
theorem Zqj(qa:List Ze):(ZJ qa).Pairwise (·<·):=by
 unfold ZJ Kv;simp[List.pairwise_map,List.Pairwise.filter,List.pairwise_lt_range']
def ZlN{n:Int}{qa:List Ze}(hv:Z9 n qa=true):(ZJ qa).length<=15:=by
 have h16:2 ^ qa.length<=16:=Nat.pow_le_pow_right (by omega:0<2) (Wg hv).2;have:=ZO1 (qa:=qa) (k:=1) (n:=2 ^ qa.length-1);unfold ZJ;omega
theorem ZPL{Ms:V6}(hu:Ms.Pairwise (·<·)){i:Nat}(hi:i<Ms.length){A:Int}(hA:A∈Ms)(h:A<Ms[i]):A∈Ms.take i:=by
 grind [List.mem_iff_getElem,List.pairwise_iff_getElem,Nat.lt_trichotomy,List.mem_take_iff_getElem]
theorem Z1s{Ms:V6}(hu:Ms.Pairwise (·<·)){i:Nat}(hi:i<Ms.length):Ms[i] ∉ Ms.take i:=by
 grind [List.mem_take_iff_getElem,List.pairwise_iff_getElem]
def XH(m:Zn)(sizes:V6)(q:Zf):Nat->List Zd
 |0=>[]
 |i+1=>XH m sizes q i++Ui m sizes q (XH m sizes q i) ((ZJ q.Zb).getD i 0)
def Zh2{q:Zf}{i:Nat}(hi:i<(ZJ q.Zb).length):MQ q.Zb (ZJ q.Zb)[i]/\(ZJ q.Zb)[i]≠0/\Va q.Zb (ZJ q.Zb)[i]=true/\∀A∈Xf q.Zb (ZJ q.Zb)[i],A∈(ZJ q.Zb).take i/\(ZJ q.Zb)[i]-A∈(ZJ q.Zb).take i:=by
 obtain⟨h1,h2,h3⟩:=JT.1 (Ye hi);refine⟨⟨by omega,h2⟩,by omega,h3,?_⟩;intro A hA;obtain⟨a1,a2,a3,a4,a5⟩:=ZlM hA
 grind [ZPL,Zqj,JT]
def Zh3{m:Zn}{q:Zf}{sizes:V6}(b:VO m q sizes):∀i,i<=(ZJ q.Zb).length->Inv m sizes q ((ZJ q.Zb).take i) (XH m sizes q i)
 |0,_=>⟨by simp,by simp[XH],by simp[XH]⟩
 |i+1,h=>by
  have hi:i<(ZJ q.Zb).length:=by omega
  obtain⟨c1,c2,c3,c4⟩:=Zh2 hi;have:=(ZBU b (Zh3 b i (by omega)) c1 c2 c3 c4 (Z1s (Zqj _) hi)).1;rw[XH,Yp hi]
  simp_all
def ZlO{m:Zn}{q:Zf}{sizes:V6}(b:VO m q sizes){i:Nat}(hi:i<=(ZJ q.Zb).length):(XH m sizes q i).length<=75:=by
 have h1:=(Zh3 b i hi).len;have h2:=ZlN b.hv
 grind
def ZPM{M v c:Int}{x:List Zj}(hM:M≠0)(hv:0<=v/\v<=3):[XS 0 zE M v c x,XS 1 zE M v c x,XS 2 zE M v c x,XS 3 zE M v c x,XS 4 zE M v c x].filter sm=[⟨M,v,c,⟨x⟩⟩]:=by
 have h:v=0\/v=1\/v=2\/v=3:=by omega
 rcases h with rfl|rfl|rfl|rfl<;>simp[XS,W0,sm,zE,hM]
def ZPN:∀(i:Fin 4) (a:Fin 16),1<=a.1->(a.1:Int)<shlI 1 (i.1:Nat)->andI (a.1:Int) (shlI 1 (i.1:Nat))≠a.1:=by decide
def ZPO{qa:List Ze}{i:Nat}(hi:i<4):Xf qa (shlI 1 i)=[]:=by
 cases h:Xf qa (shlI 1 i)with
 |nil=>rfl
 |cons A l =>
  exfalso;obtain⟨h1,h2,h3,_⟩:=ZlM (qa:=qa) (M:=shlI 1 i) (A:=A) (by rw[h];simp);have h16:M16 (shlI 1 (i:Nat)):=(ZAE ⟨i,hi⟩ ⟨0,by omega⟩).2;obtain⟨a,rfl⟩:=m16 (x:=A) (by omega);exact ZPN ⟨i,hi⟩ a (by omega) h2 h3
def ZPP{E:List Zd}(h:E≠[]):flat (E.map Zd.c)=false:=by
 cases E with
 |nil=>exact absurd rfl h
 |cons e E=>simp[flat,Zd.c,XN]
def ZPQ{qa:List Ze}{n:Int}(hv:Z9 n qa=true){M A:Int}(hM:MQ qa M)(h:A∈Xf qa M):J4 M A=M-A:=by
 obtain⟨h1,h2,h3,_⟩:=ZlM h;have h16:=(hM.m16 hv).1;obtain⟨a,rfl⟩:=m16 (x:=A) (by omega)
 grind [m16,ZAP]
def ZPR(fr:Bool)(out:List Zd)(hl:out.length<=1000)(hs:∀e∈out,e.Zg.Steps.length<=1000):∀i,i<=out.length->ZjI fr out out.length i=some (.own 0,[.arr 328 4 fr (out.map Zd.c)]):=by
 refine down _ ?_ ?_
 .simp[JJ.2.1]
 .intro i hi ih;have h4:=Xd (i:=i) (by omega);have hw:w ((i:Int)+1)=((i+1:Nat):Int):=by rw[show w ((i:Int)+1)=(i:Int)+1 from h4];simp
  apply JJ.2.1
  simp_all [Yh,Yf,Zqc,Ye,ZlL]
def Inv.steps{m:Zn}{q:Zf}{sizes done:V6}{out:List Zd}(h:Inv m sizes q done out)(c:∀M∈done,M16 M):∀e∈out,e.Zg.Steps.length<=1000:=by
 intro e he;have hd:=h.only e he;have hh:=(h.held _ hd).len e (Ybb.2 ⟨he,by simp⟩)
 grind [Qb]
def ZPS{n:Int}{qa:List Ze}(hv:Z9 n qa=true):∀M∈ZJ qa,M16 M:=by
 intro M hM;obtain⟨h1,h2,_⟩:=JT.1 hM;exact(MQ.m16 hv ⟨by omega,h2⟩).1
def Z1t{m:Zn}{q:Zf}{sizes:V6}(b:VO m q sizes){i:Nat}(hi:i<=(ZJ q.Zb).length):∀e∈XH m sizes q i,e.Zg.Steps.length<=1000 :=
 (Zh3 b i hi).steps λM hM=>ZPS b.hv M (Ybl hM)
def ZPT{m:Zn}{q:Zf}{sizes:V6}(b:VO m q sizes):∀i,i<=(ZJ q.Zb).length->∀(cc:List (List Zd)) (fr fr1:Bool),cc.length=2 ^ q.Zb.length->(∀M∈(ZJ q.Zb).take i,cc[M.toNat]?=some (ofM (XH m sizes q i) M))->(i=(ZJ q.Zb).length->fr1=false)->
  Zb5 m q fr cc fr1 (XH m sizes q i) (ZJ q.Zb) sizes (ZJ q.Zb).length i=some (.own 0,[.arr 328 4 false ((XH m sizes q (ZJ q.Zb).length).map Zd.c)]):=by
 have hcl:=ZlN b.hv;refine down _ ?_ ?_
 .intro cc fr fr1 _ _ hf;rw[hf rfl];apply JJ.1.1;rw[Ynx];exact ZPR false _ (by have:=ZlO b (Yj (ZJ q.Zb).length);omega) (Z1t b (Yj _)) 0 (Yc _)
 .intro i hi ih cc fr fr1 htl hT hf;have h4:=Xd (i:=i) (by omega);have hw:w ((i:Int)+1)=((i+1:Nat):Int):=by rw[show w ((i:Int)+1)=(i:Int)+1 from h4];simp
  obtain⟨c1,c2,c3,c4⟩:=Zh2 hi;have hinv:=Zh3 b i (by omega);have hstep:=ZBU b hinv c1 c2 c3 c4 (Z1s (Zqj _) hi);have hheld:=Z1r b hinv c1 c2 c3 c4;have hnext:XH m sizes q (i+1)=XH m sizes q i++Ui m sizes q (XH m sizes q i) (ZJ q.Zb)[i]:=by
   rw[XH]
   simp_all
  have hlen:=ZlO b (i:=i) (by omega);have h16:=(c1.m16 b.hv).1;have hpw:=Jn q.Zb.length;have hMt:(ZJ q.Zb)[i].toNat<cc.length:=by have:=c1.1;have:=c1.2;omega
  have key:∀f1 E,E=Ui m sizes q (XH m sizes q i) (ZJ q.Zb)[i]->Zb5 m q f1 (cc.set (ZJ q.Zb)[i].toNat E) (fr1 && flat (E.map Zd.c)) (XH m sizes q i++E) (ZJ q.Zb) sizes (ZJ q.Zb).length (w ((i:Int)+1))=some (.own 0,[.arr 328 4 false ((XH m sizes q (ZJ q.Zb).length).map Zd.c)]):=by
   intro f1 E hE;subst hE;rw[hw,ZPP hheld.ne,Bool.and_false,<-hnext]
   grind [List.length_set,List.take_succ_eq_append_getElem,Z1s,Zqj,JT]
  have hget:(ZJ q.Zb)[i]?=some (ZJ q.Zb)[i]:=Yf hi;generalize (ZJ q.Zb)[i]=M at *
  have hic:Wp q.Zk q.Zb M=true:=by
   unfold Wp;rw[b.hv,c3,QT b.hv];have h1:=c1.1;have h2:=c1.2;simp[inR,c2,h1];omega
  have e1:(VP q M).map Prod.fst=Xf q.Zb M:=by
   unfold VP;rw[List.map_map];exact List.map_id _
  have e2:(VP q M).length=(Xf q.Zb M).length:=by unfold VP;rw[Y1]
  have hps:(VP q M).length<=100:=by rw[e2];have:=Z1f (qa:=q.Zb) h16;omega
  have hok:∀p∈VP q M,ZBN m q sizes (XH m sizes q i) cc M p.1 p.2:=by
   intro p hp;have o:=Z1q b hinv c1 c3 c4 p hp;unfold VP at hp;rw[Yt]at hp;obtain⟨A,hA,rfl⟩:=hp;have hd:=ZPQ b.hv c1 hA;obtain⟨q1,q2⟩:=Z1p c1 hA;refine⟨o,hd,?_,hT A (c4 A hA).1,hT _ (c4 A hA).2⟩;rw[hd];exact ZOF q b.hq b.hv A (M-A) q1 q2
  have hgo:∀a0 a1 a2 a3 a4:Zd,((VP q M).foldl (K2 m sizes M (XH m sizes q i)) [a0,a1,a2,a3,a4]).filter sm=Ui m sizes q (XH m sizes q i) M->
    Zdz m q fr cc fr1 (XH m sizes q i) m q sizes M a0 a1 a2 a3 a4 (sm a0) (sm a1) (sm a2) (sm a3) (sm a4) (ZJ q.Zb) (Xf q.Zb M) sizes M (ZJ q.Zb).length i (Xf q.Zb M).length 0=some (.own 0,[.arr 328 4 false ((XH m sizes q (ZJ q.Zb).length).map Zd.c)]):=by
   intro a0 a1 a2 a3 a4 hE;have:=ZPG b h16 c2 cc hMt (XH m sizes q i) (by omega) (VP q M) hps hok fr fr1 (ZJ q.Zb) (ZJ q.Zb).length i _ 0 (Yc _) a0 a1 a2 a3 a4 (λf1 E h=>key f1 E (by rw[Ym,hE]at h;exact h.symm))
   simp_all
  apply JJ.1.1;rw[Ypx];refine⟨by omega,M,by rw[Yh];exact hget,.inr ⟨UD M,ZO9 h16,?_⟩⟩
  cases ho:Kw (ofI M)with
  |true =>
   obtain⟨j,hj4,ha,hMj⟩:=Z1k h16 ho;have hent:=Z1m (m:=m) (sizes:=sizes) (q:=q) (out:=XH m sizes q i) ha;have hE:=hheld;rw[hent]at hE;have hlen1:=hE.len _ (List.mem_singleton.2 rfl);have hmk:=hE.makes _ (List.mem_singleton.2 rfl);have hod:=hE.ord _ (List.mem_singleton.2 rfl);have hjl:j<q.Zb.length:=by
    have h2:=c1.2;have e:shlI 1 (j:Nat)=2 ^ j:=by
     have:j=0\/j=1\/j=2\/j=3:=by omega
     rcases this with rfl|rfl|rfl|rfl<;>decide
    rw[hMj,e]at h2;have h3:(2:Int) ^ j<2 ^ q.Zb.length:=h2;rw[<-Jn,<-Jn]at h3;exact(Nat.pow_lt_pow_iff_right (by omega)).1 (by omega:2 ^ j<2 ^ q.Zb.length)
   have hvar:=Zah b.hv _ (Ye hjl);obtain⟨v,vs,hvs⟩:∃v vs,q.Zb[j].Za=v::vs:=by
    cases hh:q.Zb[j].Za with
    |nil=>rw[hh]at hvar;simp at hvar
    |cons v vs=>exact⟨v,vs,rfl⟩
   have hv3:0<=v/\v<=3:=by
    have:=Zc3 b.hv _ (Ye hjl) v (by rw[hvs];simp);have hn:=U2 b.hv;simp[inR]at this;omega
   have hse:Zcl m sizes q M (j:Int)=⟨M,v,XQ m.Z1 (ZU sizes M) 0 (ZU sizes M),⟨[⟨1,j,0⟩]⟩⟩:=by
    simp[Zcl,Yf hjl,hvs]
   rw[hse]at hmk;have hcost:=XY.cost hmk b.hv (by simp) b.hsv;obtain⟨t,ht,hx⟩:=ZB4 m b.hm q b.hq sizes b.hs M c2 zE zE zE zE zE [⟨1,j,0⟩] v (by omega) _ hcost;rw[show sm zE=false from rfl]at hx
   have hnx:=hgo _ _ _ _ _ (by
    have hsp:VP q M=[]:=by unfold VP;rw[hMj,ZPO hj4];rfl
    rw[hsp,List.foldl_nil,hent,hse]
    exact ZPM (c:=XQ m.Z1 (ZU sizes M) 0 (ZU sizes M)) (x:=[⟨1,j,0⟩]) c2 hv3)
   rw[ha,Ya (by simp)];refine⟨(j:Int),rfl,_,ZPh _,by omega,q.Zb[j],by rw[Yh];exact Yf hjl,v,by rw[hvs];rfl,?_⟩;rcases ht with rfl|rfl
   .exact .inl ⟨m,q,sizes,M,_,_,_,_,_,_,_,_,_,_,hx,.inr ⟨_,Z0F q b.hq M hic,hnx⟩⟩
   .exact .inr ⟨m,q,sizes,M,_,_,_,_,_,_,_,_,_,_,_,hx,.inr ⟨_,Z0F q b.hq M hic,hnx⟩⟩
  |false =>
   have hne:=Z1l h16 ho;rw[Ynx];have hnx:=hgo zE zE zE zE zE (by rw[Z1n hne];rfl);rw[show sm zE=false from rfl]at hnx;exact .inr ⟨_,Z0F q b.hq M hic,hnx⟩
def ZPU{m:Zn}{q:Zf}{sizes:V6}(b:VO m q sizes)(ha:Vf m):ZfB m q sizes=some (.own 0,[.arr 328 4 false ((XH m sizes q (ZJ q.Zb).length).map Zd.c)]):=by
 have hf:=QT b.hv;have hpw:=Jn q.Zb.length;have h16:2 ^ q.Zb.length<=16:=Nat.pow_le_pow_right (by omega:0<2) (Wg b.hv).2;have hp1:1<=2 ^ q.Zb.length:=Nat.one_le_two_pow;have e1:w (ZX q.Zk q.Zb+1)=2 ^ q.Zb.length:=by rw[Q2 (by omega) (by omega)];omega
 have hr:room=140737488355328:=rfl;refine ZL4 ⟨_,Zpu m b.hm,?_⟩;rw[Ya (by simpa using ha)];refine⟨_,ZBo q b.hq sizes b.hs,?_⟩;rw[Ya b.hsv];refine⟨_,Je q b.hq,?_⟩;rw[e1];have e2:((2:Int) ^ q.Zb.length).toNat=2 ^ q.Zb.length:=by omega
 rw[e2];refine⟨by omega,by omega,by rw[hr];omega,by omega,_,ZAO q b.hq b.hv,?_⟩;refine ZPT b 0 (Yc _) _ true true (by simp) (by simp) ?_;intro h;exfalso
 have:(1:Int)∈ZJ q.Zb:=by
  refine JT.2 ⟨by omega,?_,?_⟩
  .have:2 ^ 1<=2 ^ q.Zb.length:=Nat.pow_le_pow_right (by omega) (Wg b.hv).1
   omega
  .have h1:=Zqb b.hv (true,false,false,false);rw[show toI (true,false,false,false)=1 from rfl]at h1;rw[h1];have key:∀a b c d e f:Bool,∀n:Fin 5,VL ⟨a,b,c,d,e,f⟩ n.1 (true,false,false,false)=true:=by decide
   exact key _ _ _ _ _ _ ⟨q.Zb.length,by have:=(Wg b.hv).2;omega⟩
 grind
def JU(q:Zf)(M:Int):V4:=(Xf q.Zb M).map λA=>Jo q A (M-A)
def Qd(q:Zf)(M:Int):X5:=⟨M,Xf q.Zb M,JU q M⟩
def shapes(q:Zf):List X5:=(ZJ q.Zb).map (Qd q)
def ZPV{q:Zf}(hv:Z9 q.Zk q.Zb=true){M:Int}(c1:MQ q.Zb M)(c2:M≠0)(c3:Va q.Zb M=true):Wp q.Zk q.Zb M=true:=by
 unfold Wp;rw[hv,c3,QT hv];have h1:=c1.1;have h2:=c1.2;simp[inR,c2,h1];omega
section
variable(q:Zf)(hq:LeQ q)(hv:Z9 q.Zk q.Zb=true)
include hq hv
theorem ZBV{M:Int}(hM:MQ q.Zb M){A:Int}(hA:A∈Xf q.Zb M):ZdV q A (w (M-A))=some (.own 0,[.arr 3 1 true ((Jo q A (M-A)).map ic)]):=by
 obtain⟨q1,q2⟩:=Z1p hM hA;have h16:=(q2.m16 hv).1
 grind [Q2,ZOI]
theorem ZPW(out:List X5)(c:out.length<=1000){i:Nat}(hi:i<(ZJ q.Zb).length)(r:V3)(h:Za8 q (out++[Qd q (ZJ q.Zb)[i]]) (ZJ q.Zb) (w ((i:Int)+1))=some r) :
  ∀k,k<=(Xf q.Zb (ZJ q.Zb)[i]).length->ZgI q out (ZJ q.Zb) (ZJ q.Zb)[i] (Xf q.Zb (ZJ q.Zb)[i]) ((JU q (ZJ q.Zb)[i]).take k) i k=some r:=by
 obtain⟨c1,c2,c3,c4⟩:=Zh2 hi;have hsl:=Z1f (qa:=q.Zb) (c1.m16 hv).1;have hlen:(JU q (ZJ q.Zb)[i]).length=(Xf q.Zb (ZJ q.Zb)[i]).length:=by simp[JU]
 refine down _ ?_ ?_
 .apply Ue.1.1.1;rw[Ynx];refine⟨by omega,?_⟩;rw[<-hlen,Y2];exact h
 .intro k hk ih;have h4:=Xd (i:=k) (by omega);have hw:w ((k:Int)+1)=((k+1:Nat):Int):=by rw[show w ((k:Int)+1)=(k:Int)+1 from h4];simp
  apply Ue.1.1.1;rw[Ypx,hw];refine⟨by omega,_,by rw[Yh];exact Yf hk,by omega,_,by rw[Yh];exact Yf hi,_,ZBV q hq hv c1 (Ye hk),?_,?_⟩
  .grind
  .rw[Yp (by omega)]at ih;simpa[JU]using ih
theorem ZPX(out:List X5)(c:out.length<=1000){i:Nat}(hi:i<(ZJ q.Zb).length)(r:V3)(h:Za8 q (out++[Qd q (ZJ q.Zb)[i]]) (ZJ q.Zb) (w ((i:Int)+1))=some r) :
  Zpc q out (ZJ q.Zb) (ZJ q.Zb)[i] (Xf q.Zb (ZJ q.Zb)[i]) i 0=some r:=by
 obtain⟨c1,c2,c3,c4⟩:=Zh2 hi;apply Wn.2.2.2.2.2;by_cases h0:(Xf q.Zb (ZJ q.Zb)[i]).length=0
 .rw[Ynx];refine⟨by omega,?_⟩
  have:Qd q (ZJ q.Zb)[i]=⟨(ZJ q.Zb)[i],Xf q.Zb (ZJ q.Zb)[i],[]⟩:=by
   unfold Qd JU
   simp_all
  rw[<-this];exact h
 .rw[Ypx];have hk:0<(Xf q.Zb (ZJ q.Zb)[i]).length:=by omega
  have:=ZPW q hq hv out c hi r h 1 (by omega);refine⟨by omega,_,Yf hk,by omega,_,by rw[Yh];exact Yf hi,_,ZBV q hq hv c1 (Ye hk),?_⟩;rw[show w ((0:Int)+1)=((1:Nat):Int)from by decide];have e:(JU q (ZJ q.Zb)[i]).take 1=[Jo q (Xf q.Zb (ZJ q.Zb)[i])[0] ((ZJ q.Zb)[i]-(Xf q.Zb (ZJ q.Zb)[i])[0])]:=by
   rw[Yp (by simp[JU];omega)];simp[JU]
  simp_all
theorem ZPY:∀i,i<=(ZJ q.Zb).length->Za8 q ((shapes q).take i) (ZJ q.Zb) i=some (.own 0,[.arr 442 3 true ((shapes q).map X5.c)]):=by
 have hcl:=ZlN hv;have hlen:(shapes q).length=(ZJ q.Zb).length:=by simp[shapes]
 refine down _ ?_ ?_
 .grind [Wn.2.2.2.2.1,List.take_length]
 .intro i hi ih;have h4:=Xd (i:=i) (by omega);have hw:w ((i:Int)+1)=((i+1:Nat):Int):=by rw[show w ((i:Int)+1)=(i:Int)+1 from h4];simp
  obtain⟨c1,c2,c3,c4⟩:=Zh2 hi;apply Wn.2.2.2.2.1;rw[Ypx];refine⟨by omega,_,by rw[Yh];exact Yf hi,_,ZO7 q hq _ (ZPV hv c1 c2 c3),?_⟩;refine ZPX q hq hv _ (by rw[Ybo];omega) hi _ ?_;rw[hw];rw[Yp (by omega)]at ih;simpa[shapes]using ih
theorem ZPZ:Zln q=some (.own 0,[.arr 442 3 true ((shapes q).map X5.c)]) :=
 Ue.1.1.2.1 _ _ ⟨_,ZO4 q hq hv,by simpa using ZPY q hq hv 0 (Yc _)⟩
end
theorem f_one:∀a:Fin 16,1<=a.1->(andI (a.1:Int) (w ((a.1:Int)-1))=0↔Kw (ofI (a.1:Int))=true):=by decide
def ZBW{α β:Type}(f:α->β):∀l:List α,l.zip (l.map f)=l.map λa=>(a,f a)
 |[]=>rfl
 |a::l=>by simp[ZBW f l]
def ZQa{m:Zn}{q:Zf}{sizes:V6}(b:VO m q sizes):∀i,i<=(ZJ q.Zb).length->∀fr:Bool,∃fr',ZgP (shapes q) sizes m q fr (XH m sizes q i) i=some (.own 2,[.arr 442 3 true ((shapes q).map X5.c),.arr 3 1 true (sizes.map ic),.arr 328 4 fr' ((XH m sizes q (ZJ q.Zb).length).map Zd.c)]):=by
 have hcl:=ZlN b.hv;have hlen:(shapes q).length=(ZJ q.Zb).length:=by simp[shapes]
 refine down _ ?_ ?_
 .simp_all [WB.1.2.2.1]
 .intro i hi ih fr;have h4:=Xd (i:=i) (by omega);have hw:w ((i:Int)+1)=((i+1:Nat):Int):=by rw[show w ((i:Int)+1)=(i:Int)+1 from h4];simp
  obtain⟨c1,c2,c3,c4⟩:=Zh2 hi;have hinv:=Zh3 b i (by omega);have hheld:=Z1r b hinv c1 c2 c3 c4;have hnext:XH m sizes q (i+1)=XH m sizes q i++Ui m sizes q (XH m sizes q i) (ZJ q.Zb)[i]:=by
   rw[XH]
   simp_all
  have hol:=ZlO b (i:=i) (by omega);have h16:=(c1.m16 b.hv).1;have hget:(shapes q)[i]?=some (Qd q (ZJ q.Zb)[i]):=by
   unfold shapes
   simp_all
  rw[hnext]at ih;generalize (ZJ q.Zb)[i]=M at *
  have hz:=X8 b.hsv c1;have h1:(andI M (w (M-1))=0↔Kw (ofI M)=true):=by
   grind [m16,f_one]
  have hle:=hheld.le
  cases ho:Kw (ofI M)with
  |true =>
   obtain⟨j,hj4,ha,hMj⟩:=Z1k h16 ho;have hent:=Z1m (m:=m) (sizes:=sizes) (q:=q) (out:=XH m sizes q i) ha;have hjl:j<q.Zb.length:=by
    have h2:=c1.2;have e:shlI 1 (j:Nat)=2 ^ j:=by
     have:j=0\/j=1\/j=2\/j=3:=by omega
     rcases this with rfl|rfl|rfl|rfl<;>decide
    rw[hMj,e]at h2;have h3:(2:Int) ^ j<2 ^ q.Zb.length:=h2;rw[<-Jn,<-Jn]at h3;exact(Nat.pow_lt_pow_iff_right (by omega)).1 (by omega:2 ^ j<2 ^ q.Zb.length)
   have hvar:=Zah b.hv _ (Ye hjl);obtain⟨v,vs,hvs⟩:∃v vs,q.Zb[j].Za=v::vs:=by
    cases hh:q.Zb[j].Za with
    |nil=>rw[hh]at hvar;simp at hvar
    |cons v vs=>exact⟨v,vs,rfl⟩
   have hse:Zcl m sizes q M (j:Int)=⟨M,v,XQ m.Z1 (ZU sizes M) 0 (ZU sizes M),⟨[⟨1,j,0⟩]⟩⟩:=by
    simp[Zcl,Yf hjl,hvs]
   rw[hent,hse]at ih;obtain⟨fr',hr⟩:=ih fr;refine⟨fr',WB.1.2.2.1 _ _ _ _ _ _ _ _ ?_⟩;rw[Ypx];refine⟨by omega,_,by rw[Yh];exact hget,?_⟩;have h1':andI (Qd q M).mask (w ((Qd q M).mask-1))=0:=h1.2 ho;rw[Ya h1',hw];refine⟨_,ZOB h16,(j:Int),by rw[show UD (Qd q M).mask=[(j:Int)]from ha];rfl,by omega,q.Zb[j],by rw[Yh];exact Yf hjl,v,by rw[hvs];rfl,hz.1,_,hz.2,_,Kr _ b.hm.1 _ _ _,_,ZPi _,by omega,?_⟩
   exact hr
  |false =>
   have hne:=Z1l h16 ho;have ok:=Z1q b hinv c1 c3 c4;have hzip:(Qd q M).Xf.zip (Qd q M).shared=VP q M:=ZBW _ _;have hsl:=Z1f (qa:=q.Zb) h16;obtain⟨f1,hJ⟩:=ZPC m b.hm b.hg sizes b.hcl q.Zb fr (XH m sizes q i) (by omega) (Qd q M) hz h16 (by show 0<M;have:=c1.1;omega) (by simp[Qd,JU]) (by show(Xf q.Zb M).length<=100;omega) (by rw[hzip];exact ok);rw[hzip]at hJ;have hent:=Z1n (m:=m) (sizes:=sizes) (q:=q) (out:=XH m sizes q i) hne;rw[hent]at ih hle;obtain⟨fr',hr⟩:=ih (fr && flat (((Zh1 m sizes M (XH m sizes q i) (VP q M)).filter sm).map Zd.c));refine⟨fr',WB.1.2.2.1 _ _ _ _ _ _ _ _ ?_⟩;rw[Ypx];refine⟨by omega,_,by rw[Yh];exact hget,?_⟩;have h1':¬andI (Qd q M).mask (w ((Qd q M).mask-1))=0:=λh=>by have:=h1.1 h;rw[ho]at this;cases this
   rw[Yb h1',hw];exact⟨_,_,hJ,by show(XH m sizes q i).length+((Zh1 m sizes M (XH m sizes q i) (VP q M)).filter sm).length<=68719476736;omega,hr⟩
def ZQb{m:Zn}{q:Zf}{sizes:V6}(b:VO m q sizes):∃fr',Zpi (shapes q) sizes m q=some (.own 2,[.arr 442 3 true ((shapes q).map X5.c),.arr 3 1 true (sizes.map ic),.arr 328 4 fr' ((XH m sizes q (ZJ q.Zb).length).map Zd.c)]):=by
 obtain⟨fr',h⟩:=ZQa b 0 (Yc _) true;exact⟨fr',WB.1.2.2.2 _ _ _ _ _ h⟩
