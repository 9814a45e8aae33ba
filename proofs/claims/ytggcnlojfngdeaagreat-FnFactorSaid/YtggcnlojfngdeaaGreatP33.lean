/-
  Parts of the proofs for this seat: IA IC IF IG IH IJ IL V7 V8 BQ VA.
-/
import Derived.Test.YtggcnlojfngdeaaGreatP30
import Derived.Test.YtggcnlojfngdeaaGreatP32
set_option linter.all false
set_option maxRecDepth 100000
set_option maxHeartbeats 4000000
namespace Go.Proofs.YtggcnlojfngdeaaGreat
open Go.AM
structure Qb (m:Zf) (q:Zc) (sizes:WL):Prop where
 hm:Be m
 hg:XG m.Sort_
 hq:AS q
 hv:Z3 q.Zg q.Atoms=true
 hs:Le sizes
 hcl:U0 sizes
 hsv:WK q.Zg q.Atoms sizes=true
def Ik(q:Zc)(M:Int):List (Int×WL):=(ZQ q.Atoms M).map λA=>(A,Vd q A (M-A))
def Tm(m:Zf)(sizes:WL)(q:Zc)(M a:Int):Ze:=⟨M,((q.Atoms[a.toNat]?).map λx=>x.Vars.headD 0).getD 0,Xo m.Scan (Z5 sizes M) 0 (Z5 sizes M),⟨[⟨1,a,0⟩]⟩⟩
def Qd(m:Zf)(sizes:WL)(q:Zc)(out:List Ze)(M:Int):List Ze:=match UT M with
 |[a]=>[Tm m sizes q M a]
 |_=>(Tl m sizes M out (Ik q M)).filter sm
theorem ZAP:∀a:Fin 16,(KL (AP (a.1:Int))=true->(UT (a.1:Int)=[((0:Nat):Int)]/\(a.1:Int)=Ac 1 (0:Nat))\/(UT (a.1:Int)=[((1:Nat):Int)]/\(a.1:Int)=Ac 1 (1:Nat))\/(UT (a.1:Int)=[((2:Nat):Int)]/\(a.1:Int)=Ac 1 (2:Nat))\/(UT (a.1:Int)=[((3:Nat):Int)]/\(a.1:Int)=Ac 1 (3:Nat)))/\(KL (AP (a.1:Int))=false->(UT (a.1:Int)).length≠1):=by decide
def ZAQ{M:Int}(h:AX M)(ho:KL (AP M)=true):∃i:Nat,i<4/\UT M=[(i:Int)]/\M=Ac 1 i:=by
 obtain⟨a,rfl⟩:=m16 h;rcases(ZAP a).1 ho with h|h|h|h
 .exact⟨0,Z,h⟩
 .exact⟨1,Z,h⟩
 .exact⟨2,Z,h⟩
 .exact⟨3,Z,h⟩
def ZAR{M:Int}(h:AX M)(ho:KL (AP M)=false):(UT M).length≠1:=by
 grind [m16,ZAP]
def ZAS{m:Zf}{sizes:WL}{q:Zc}{out:List Ze}{M a:Int}(h:UT M=[a]):Qd m sizes q out M=[Tm m sizes q M a]:=by unfold Qd;rw[h]
def ZAT{m:Zf}{sizes:WL}{q:Zc}{out:List Ze}{M:Int}(h:(UT M).length≠1):Qd m sizes q out M=(Tl m sizes M out (Ik q M)).filter sm:=by
 unfold Qd
 grind
def Z02{m:Zf}{sizes:WL}{a b:Ze}{k v o:Int}(ho:-1<=o/\o<=3)(hM:Au a.Mask b.Mask≠0){mine:List Ze}(h5:mine.length=5):(QJ m sizes a b k v o mine).filter sm≠[]:=by
 refine List.ne_nil_of_mem (a:=WV ((mine[(o+1).toNat]?).getD zE) (Au a.Mask b.Mask) o (jc m sizes a b k) (Q9 a.Zj.Steps b.Zj.Steps k v)) (CB.2 ⟨?_,M5 hM⟩);unfold QJ
 grind [List.mem_set]
def ZAU{m:Zf}{sizes:WL}{b:Ze}:∀{E c:List Ze},(∀e∈E,(-1<=e.Order/\e.Order<=3)/\Au e.Mask b.Mask≠0)->c.length=5->c.filter sm≠[]->(E.foldl (Ih m sizes b) c).filter sm≠[]
 |[],_,_,_,h=>h
 |e::E,c,he,h5,h=>by
  rw[Y6];obtain⟨e1,e2⟩:=he e Om;exact ZAU (λx hx=>he x (by simp[hx])) (by rw[show(Ih m sizes b c e).length=c.length from Kt];exact h5) (Z02 e1 e2 h5)
def ZAV{m:Zf}{sizes:WL}{A B:Int}{E F:List Ze}:∀{sh:WL} {c:List Ze},(∀v∈sh,(-1<=v/\v<=3)/\Au (inp m sizes A E v).Mask (inp m sizes B F v).Mask≠0)->c.length=5->c.filter sm≠[]->(sh.foldl (Ot m sizes A B E F) c).filter sm≠[]
 |[],_,_,_,h=>h
 |v::sh,c,he,h5,h=>by
  rw[Y6];obtain⟨e1,e2⟩:=he v Om;exact ZAV (λx hx=>he x (by simp[hx])) (by rw[show(Ot m sizes A B E F c v).length=c.length from Kt];exact h5) (Z02 e1 e2 h5)
def ZNd{m:Zf}{sizes:WL}{qa:List Zd}{M:Int}{l:List Ze}{p:Int×WL}(hM:M≠0)(hg:XG m.Sort_)(c:U0 sizes)(o:Tk m sizes qa l M p.1 p.2){mine:List Ze}(h5:mine.length=5):(Ij m sizes M l mine p).filter sm≠[]:=by
 have hp:=o.pair;unfold Ij Ti;refine ZAV (λv hv=>⟨(o.vars v hv).1,?_⟩) (by rw[Zqd,Kt];exact h5) (ZAU (λe he=>⟨o.left.ord e he,?_⟩) (by rw[Kt];exact h5) (Z02 Z ?_ h5))
 .rw[(Tj o.left hg c hp.a16 (o.vars v hv).2.1).1,(Tj o.right hg c hp.b16 (o.vars v hv).2.2).1,hp.or];exact hM
 .rw[o.left.mask e he,o.right.mask _ o.right.best,hp.or];exact hM
 .rw[o.left.mask _ o.left.best,o.right.mask _ o.right.best,hp.or];exact hM
def ZAW{m:Zf}{sizes:WL}{qa:List Zd}{M:Int}{l:List Ze}(hM:M≠0)(hg:XG m.Sort_)(cc:U0 sizes):∀{ps:List (Int×WL)} {c:List Ze},(∀p∈ps,Tk m sizes qa l M p.1 p.2)->c.length=5->(ps≠[]\/c.filter sm≠[])->(ps.foldl (Ij m sizes M l) c).filter sm≠[]
 |[],_,_,_,h=>by rcases h with h|h;exact absurd rfl h;exact h
 |p::ps,c,hp,h5,_=>by
  rw[Y6];exact ZAW hM hg cc (λx hx=>hp x (by simp[hx])) (by rw[show(Ij m sizes M l c p).length=c.length from ZAJ];exact h5) (.inr (ZNd hM hg cc (hp p Om) h5))
structure Inv (m:Zf) (sizes:WL) (q:Zc) (done:WL) (out:List Ze):Prop where
 held:∀M∈done,Vr m sizes q.Atoms M (ofM out M)
 only:∀e∈out,e.Mask∈done
 len:out.length<=5*done.length
def ZNe{q:Zc}(hv:Z3 q.Zg q.Atoms=true){A B:Int}:∀v∈Vd q A B,(-1<=v/\v<=3)/\Bg q.Atoms A v=true/\Bg q.Atoms B v=true:=by
 intro v hvm;unfold Vd at hvm;rw[CB]at hvm;obtain⟨h1,h2⟩:=hvm;rw[Q1]at h2;have key:∀m,v∈XH q m->(0<=v/\v<=3)/\Bg q.Atoms m v=true:=by
  intro m hm;unfold XH XC at hm;rw[Yp]at hm;obtain⟨u,hu,rfl⟩:=hm;rw[CB,CF]at hu;have hn:=K0 hv;refine⟨Z,?_⟩;unfold Bg;rw[Yd];exact⟨by simp[Ak];omega,by rw[Yj];exact hu.2⟩
 grind
def ZNf{q:Zc}(hv:Z3 q.Zg q.Atoms=true)(A B:Int):(Vd q A B).length<=1000:=by
 have:=MY q hv A;unfold Vd
 grind
def Z03{q:Zc}{sizes:WL}(c:WK q.Zg q.Atoms sizes=true){M:Int}(h:MQ q.Atoms M):KN sizes M:=by
 unfold WK at c;simp only[Yd,decide_eq_true_eq]at c;have hf:=Jt c.1.1;have h1:=h.1;have h2:=h.2;have hl:M.toNat<sizes.length:=by omega
 refine⟨h1,?_⟩;unfold Z5
 simp_all
def ZAX{qa:List Zd}{M A:Int}(hM:MQ qa M)(h:A∈ZQ qa M):MQ qa A/\MQ qa (M-A):=by
 obtain⟨h1,h2,_⟩:=Z0y h;omega
def ZAY{m:Zf}{q:Zc}{sizes:WL}(b:Qb m q sizes){done:WL}{out:List Ze}(hi:Inv m sizes q done out){M:Int}(hM:MQ q.Atoms M)(hc:Wt q.Atoms M=true)(hd:∀A∈ZQ q.Atoms M,A∈done/\M-A∈done):∀p∈Ik q M,Tk m sizes q.Atoms out M p.1 p.2:=by
 intro p hp;unfold Ik at hp;rw[Yp]at hp;obtain⟨A,hA,rfl⟩:=hp;obtain⟨d1,d2⟩:=hd A hA;obtain⟨q1,q2⟩:=ZAX hM hA;exact⟨ZMW b.hv hM hc hA,hi.held A d1,hi.held _ d2,Z03 b.hsv q1,Z03 b.hsv q2,ZNf b.hv _ _,ZNe b.hv⟩
def ZAZ{m:Zf}{q:Zc}{sizes:WL}(b:Qb m q sizes){done:WL}{out:List Ze}(hi:Inv m sizes q done out){M:Int}(hM:MQ q.Atoms M)(h0:M≠0)(hc:Wt q.Atoms M=true)(hd:∀A∈ZQ q.Atoms M,A∈done/\M-A∈done):Vr m sizes q.Atoms M (Qd m sizes q out M):=by
 have h16:=(hM.m16 b.hv).1
 cases ho:KL (AP M)with
 |true =>
  obtain⟨i,hi4,ha,rfl⟩:=ZAQ h16 ho;rw[ZAS ha];have hl:i<q.Atoms.length:=by
   have h2:=hM.2;have hl4:=WZ b.hv;have e:Ac 1 (i:Nat)=2 ^ i:=by
    have:i=0\/i=1\/i=2\/i=3:=by omega
    rcases this with rfl|rfl|rfl|rfl<;>decide
   rw[e]at h2;have h3:(2:Int) ^ i<2 ^ q.Atoms.length:=h2;rw[<-HT,<-HT]at h3;have h4:2 ^ i<2 ^ q.Atoms.length:=by omega
   simp_all [Nat.pow_lt_pow_iff_right]
  have hmk:=ZJO (m:=m) (sizes:=sizes) hl;have hu:=M7 m.Scan (Z5 sizes (Ac 1 i)) 0 (Z5 sizes (Ac 1 i));rw[ZO Z Z]at hmk;have hvar:=Ps b.hv _ (Ye hl);have he:Tm m sizes q (Ac 1 i) (i:Int)=⟨Ac 1 i,q.Atoms[i].Vars.headD 0,Xo m.Scan (Z5 sizes (Ac 1 i)) 0 (Z5 sizes (Ac 1 i)),⟨[⟨1,i,0⟩]⟩⟩:=by
   simp[Tm,Yf hl]
  have hpop:Xe (Ac 1 (i:Nat))=1:=by
   have:i=0\/i=1\/i=2\/i=3:=by omega
   rcases this with rfl|rfl|rfl|rfl<;>decide
  have hord:0<=q.Atoms[i].Vars.headD 0/\q.Atoms[i].Vars.headD 0<=3:=by
   cases hvs:q.Atoms[i].Vars with
   |nil=>rw[hvs]at hvar;simp at hvar
   |cons v vs =>
    have:=Zrf b.hv _ (Ye hl) v (by rw[hvs];simp);have hn:=K0 b.hv;simp[Ak]at this
    grind
  rw[he];refine⟨Om,Om,?_,?_,?_,?_⟩
  .simp
  .grind
  .simp_all
  .simp_all
 |false =>
  rw[ZAT (ZAR h16 ho)];have ok:=ZAY b hi hM hc hd;have hne:=ZMX b.hv hM h0 hc ho;refine ZMS (Z01 b.hg b.hcl ok (ZAK m sizes q.Atoms M)) (ZAW h0 b.hg b.hcl ok Om (.inl ?_));unfold Ik
  simp_all
def ZBa(a b:List Ze)(M:Int):ofM (a++b) M=ofM a M++ofM b M:=by simp[ofM]
def ZNg{l:List Ze}{M:Int}(h:∀e∈l,e.Mask=M):ofM l M=l:=by
 unfold ofM
 simp_all
def ZBb{l:List Ze}{M:Int}(h:∀e∈l,e.Mask≠M):ofM l M=[]:=by
 unfold ofM
 simp_all
def ZNh{m:Zf}{q:Zc}{sizes:WL}(b:Qb m q sizes){done:WL}{out:List Ze}(hi:Inv m sizes q done out){M:Int}(hM:MQ q.Atoms M)(h0:M≠0)(hc:Wt q.Atoms M=true)(hd:∀A∈ZQ q.Atoms M,A∈done/\M-A∈done)(hn:M ∉ done) :
  Inv m sizes q (done++[M]) (out++Qd m sizes q out M)/\(∀A∈done,ofM (out++Qd m sizes q out M) A=ofM out A)/\ofM (out++Qd m sizes q out M) M=Qd m sizes q out M:=by
 have hh:=ZAZ b hi hM h0 hc hd;have e1:∀A∈done,ofM (out++Qd m sizes q out M) A=ofM out A:=by
  intro A hA;rw[ZBa,ZBb (l:=Qd m sizes q out M),E3];intro e he;rw[hh.mask e he]
  grind
 have e2:ofM (out++Qd m sizes q out M) M=Qd m sizes q out M:=by
  rw[ZBa,ZNg hh.mask,ZBb (l:=out),DW];intro e he h;exact hn (h▸hi.only e he)
 refine⟨⟨?_,?_,?_⟩,e1,e2⟩
 .intro A hA;rcases Yi.1 hA with hA|hA
  .rw[e1 A hA];exact hi.held A hA
  .simp_all
 .intro e he;rcases Yi.1 he with he|he
  .exact E4 _ (hi.only e he)
  .rw[hh.mask e he];simp
 .have:=hh.le;have:=hi.len
  grind
theorem Zqe{qa:List Zd}{M:Int}:M∈ZI qa↔1<=M/\M<2 ^ qa.length/\Wt qa M=true:=by
 unfold ZI Ju;rw[Yp];have hp:=HT qa.length;constructor
 .grind
 .rintro⟨h1,h2,h3⟩;refine⟨M.toNat,?_,Z⟩
  grind
theorem ZBc(qa:List Zd):(ZI qa).Pairwise (·<·):=by
 unfold ZI Ju;simp[List.pairwise_map,List.Pairwise.filter,List.pairwise_lt_range']
def Z04{n:Int}{qa:List Zd}(hv:Z3 n qa=true):(ZI qa).length<=15:=by
 have h16:2 ^ qa.length<=16:=Nat.pow_le_pow_right (Z:0<2) (WZ hv).2;have:=ZJz (qa:=qa) (k:=1) (n:=2 ^ qa.length-1);unfold ZI;omega
theorem ZNi{Ms:WL}(hu:Ms.Pairwise (·<·)){i:Nat}(hi:i<Ms.length){A:Int}(hA:A∈Ms)(h:A<Ms[i]):A∈Ms.take i:=by
 grind [List.mem_iff_getElem,List.pairwise_iff_getElem,Nat.lt_trichotomy,List.mem_take_iff_getElem]
def ZNj{Ms:WL}(hu:Ms.Pairwise (·<·)){i:Nat}(hi:i<Ms.length):Ms[i] ∉ Ms.take i:=by
 grind [List.mem_take_iff_getElem,List.pairwise_iff_getElem]
def WY(m:Zf)(sizes:WL)(q:Zc):Nat->List Ze
 |0=>[]
 |i+1=>WY m sizes q i++Qd m sizes q (WY m sizes q i) ((ZI q.Atoms).getD i 0)
def pP{q:Zc}{i:Nat}(hi:i<(ZI q.Atoms).length):MQ q.Atoms (ZI q.Atoms)[i]/\(ZI q.Atoms)[i]≠0/\Wt q.Atoms (ZI q.Atoms)[i]=true/\∀A∈ZQ q.Atoms (ZI q.Atoms)[i],A∈(ZI q.Atoms).take i/\(ZI q.Atoms)[i]-A∈(ZI q.Atoms).take i:=by
 obtain⟨h1,h2,h3⟩:=Zqe.1 (Ye hi);refine⟨⟨Z,h2⟩,Z,h3,?_⟩;intro A hA;obtain⟨a1,a2,a3,a4,a5⟩:=Z0y hA
 grind [ZNi,ZBc,Zqe]
def pQ{m:Zf}{q:Zc}{sizes:WL}(b:Qb m q sizes):∀i,i<=(ZI q.Atoms).length->Inv m sizes q ((ZI q.Atoms).take i) (WY m sizes q i)
 |0,_=>⟨Om,by simp[WY],by simp[WY]⟩
 |i+1,h=>by
  have hi:i<(ZI q.Atoms).length:=by omega
  obtain⟨c1,c2,c3,c4⟩:=pP hi;have:=(ZNh b (pQ b i Z) c1 c2 c3 c4 (ZNj (ZBc _) hi)).1;rw[WY,Y5 hi]
  simp_all
def Z05{m:Zf}{q:Zc}{sizes:WL}(b:Qb m q sizes){i:Nat}(hi:i<=(ZI q.Atoms).length):(WY m sizes q i).length<=75:=by
 have h1:=(pQ b i hi).len;have h2:=Z04 b.hv
 grind
def Inv.steps{m:Zf}{q:Zc}{sizes done:WL}{out:List Ze}(h:Inv m sizes q done out)(c:∀M∈done,AX M):∀e∈out,e.Zj.Steps.length<=1000:=by
 intro e he;have hd:=h.only e he;have hh:=(h.held _ hd).len e (CB.2 ⟨he,Om⟩)
 grind [J8]
def ZNk{n:Int}{qa:List Zd}(hv:Z3 n qa=true):∀M∈ZI qa,AX M:=by
 intro M hM;obtain⟨h1,h2,_⟩:=Zqe.1 hM;exact(MQ.m16 hv ⟨Z,h2⟩).1
def ZBd{m:Zf}{q:Zc}{sizes:WL}(b:Qb m q sizes){i:Nat}(hi:i<=(ZI q.Atoms).length):∀e∈WY m sizes q i,e.Zj.Steps.length<=1000 :=
 (pQ b i hi).steps λM hM=>ZNk b.hv M (Dk hM)
def J9(q:Zc)(M:Int):XV:=(ZQ q.Atoms M).map λA=>Vd q A (M-A)
def Qe(q:Zc)(M:Int):ZU:=⟨M,ZQ q.Atoms M,J9 q M⟩
def shapes(q:Zc):List ZU:=(ZI q.Atoms).map (Qe q)
def ZNl{q:Zc}(hv:Z3 q.Zg q.Atoms=true){M:Int}(c1:MQ q.Atoms M)(c2:M≠0)(c3:Wt q.Atoms M=true):Wm q.Zg q.Atoms M=true:=by
 unfold Wm;rw[hv,c3,Jt hv];have h1:=c1.1;have h2:=c1.2;simp[Ak,c2,h1];omega
section
variable(q:Zc)(hq:AS q)(hv:Z3 q.Zg q.Atoms=true)
include hq hv
theorem ZBe{M:Int}(hM:MQ q.Atoms M){A:Int}(hA:A∈ZQ q.Atoms M):K7 q A (w (M-A))=some (.own 0,[.arr 3 1 true ((Vd q A (M-A)).map ic)]):=by
 obtain⟨q1,q2⟩:=ZAX hM hA;have h16:=(q2.m16 hv).1
 grind [ZO,Zzs]
theorem ZNm(out:List ZU)(c:out.length<=1000){i:Nat}(hi:i<(ZI q.Atoms).length)(r:XS)(h:Hv q (out++[Qe q (ZI q.Atoms)[i]]) (ZI q.Atoms) (w ((i:Int)+1))=some r) :
  ∀k,k<=(ZQ q.Atoms (ZI q.Atoms)[i]).length->fY q out (ZI q.Atoms) (ZI q.Atoms)[i] (ZQ q.Atoms (ZI q.Atoms)[i]) ((J9 q (ZI q.Atoms)[i]).take k) i k=some r:=by
 obtain⟨c1,c2,c3,c4⟩:=pP hi;have hsl:=ZAN (qa:=q.Atoms) (c1.m16 hv).1;have hlen:(J9 q (ZI q.Atoms)[i]).length=(ZQ q.Atoms (ZI q.Atoms)[i]).length:=by simp[J9]
 refine down _ ?_ ?_
 .apply WU.1.2.1.2;rw[Ap];refine⟨Z,?_⟩;rw[<-hlen,Yr];exact h
 .intro k hk ih;have h4:=ZK (i:=k) Z;have hw:w ((k:Int)+1)=((k+1:Nat):Int):=by rw[show w ((k:Int)+1)=(k:Int)+1 from h4];simp
  apply WU.1.2.1.2;rw[Ao,hw];refine⟨Z,_,by rw[Yj];exact Yf hk,Z,_,by rw[Yj];exact Yf hi,_,ZBe q hq hv c1 (Ye hk),?_,?_⟩
  .grind
  .rw[Y5 Z]at ih;simpa[J9]using ih
theorem ZNn(out:List ZU)(c:out.length<=1000){i:Nat}(hi:i<(ZI q.Atoms).length)(r:XS)(h:Hv q (out++[Qe q (ZI q.Atoms)[i]]) (ZI q.Atoms) (w ((i:Int)+1))=some r) :
  zR q out (ZI q.Atoms) (ZI q.Atoms)[i] (ZQ q.Atoms (ZI q.Atoms)[i]) i 0=some r:=by
 obtain⟨c1,c2,c3,c4⟩:=pP hi;apply WU.1.2.1.1;by_cases h0:(ZQ q.Atoms (ZI q.Atoms)[i]).length=0
 .rw[Ap];refine⟨Z,?_⟩
  have:Qe q (ZI q.Atoms)[i]=⟨(ZI q.Atoms)[i],ZQ q.Atoms (ZI q.Atoms)[i],[]⟩:=by
   unfold Qe J9
   simp_all
  rw[<-this];exact h
 .rw[Ao];have hk:0<(ZQ q.Atoms (ZI q.Atoms)[i]).length:=by omega
  have:=ZNm q hq hv out c hi r h 1 Z;refine⟨Z,_,Yf hk,Z,_,by rw[Yj];exact Yf hi,_,ZBe q hq hv c1 (Ye hk),?_⟩;rw[show w ((0:Int)+1)=((1:Nat):Int)from by decide];have e:(J9 q (ZI q.Atoms)[i]).take 1=[Vd q (ZQ q.Atoms (ZI q.Atoms)[i])[0] ((ZI q.Atoms)[i]-(ZQ q.Atoms (ZI q.Atoms)[i])[0])]:=by
   rw[Y5 (by simp[J9];omega)];simp[J9]
  simp_all
theorem ZNo:∀i,i<=(ZI q.Atoms).length->Hv q ((shapes q).take i) (ZI q.Atoms) i=some (.own 0,[.arr 158 3 true ((shapes q).map ZU.c)]):=by
 have hcl:=Z04 hv;have hlen:(shapes q).length=(ZI q.Atoms).length:=by simp[shapes]
 refine down _ ?_ ?_
 .grind [WU.1.1.2.2,List.take_length]
 .intro i hi ih;have h4:=ZK (i:=i) Z;have hw:w ((i:Int)+1)=((i+1:Nat):Int):=by rw[show w ((i:Int)+1)=(i:Int)+1 from h4];simp
  obtain⟨c1,c2,c3,c4⟩:=pP hi;apply WU.1.1.2.2;rw[Ao];refine⟨Z,_,by rw[Yj];exact Yf hi,_,ZJ4 q hq _ (ZNl hv c1 c2 c3),?_⟩;refine ZNn q hq hv _ (by rw[Yw];omega) hi _ ?_;rw[hw];rw[Y5 Z]at ih;simpa[shapes]using ih
theorem ZBf:L2 q=some (.own 0,[.arr 158 3 true ((shapes q).map ZU.c)]) :=
 WU.1.2.2.1 _ _ ⟨_,ZJ1 q hq hv,by simpa using ZNo q hq hv 0 (Yc _)⟩
end
theorem pR:∀a:Fin 16,1<=a.1->(Aj (a.1:Int) (w ((a.1:Int)-1))=0↔KL (AP (a.1:Int))=true):=by decide
def ZBg{α β:Type}(f:α->β):∀l:List α,l.zip (l.map f)=l.map λa=>(a,f a)
 |[]=>rfl
 |a::l=>by simp[ZBg f l]
def ZNp{m:Zf}{q:Zc}{sizes:WL}(b:Qb m q sizes):∀i,i<=(ZI q.Atoms).length->∀fr:Bool,∃fr',RY (shapes q) sizes m q fr (WY m sizes q i) i=some (.own 2,[.arr 158 3 true ((shapes q).map ZU.c),.arr 3 1 true (sizes.map ic),.arr 117 4 fr' ((WY m sizes q (ZI q.Atoms).length).map Ze.c)]):=by
 have hcl:=Z04 b.hv;have hlen:(shapes q).length=(ZI q.Atoms).length:=by simp[shapes]
 refine down _ ?_ ?_
 .simp_all [WJ.1.2.2.2]
 .intro i hi ih fr;have h4:=ZK (i:=i) Z;have hw:w ((i:Int)+1)=((i+1:Nat):Int):=by rw[show w ((i:Int)+1)=(i:Int)+1 from h4];simp
  obtain⟨c1,c2,c3,c4⟩:=pP hi;have hinv:=pQ b i Z;have pS:=ZAZ b hinv c1 c2 c3 c4;have hnext:WY m sizes q (i+1)=WY m sizes q i++Qd m sizes q (WY m sizes q i) (ZI q.Atoms)[i]:=by
   rw[WY]
   simp_all
  have hol:=Z05 b (i:=i) Z;have h16:=(c1.m16 b.hv).1;have hget:(shapes q)[i]?=some (Qe q (ZI q.Atoms)[i]):=by
   unfold shapes
   simp_all
  rw[hnext]at ih;generalize (ZI q.Atoms)[i]=M at *
  have hz:=Z03 b.hsv c1;have h1:(Aj M (w (M-1))=0↔KL (AP M)=true):=by
   grind [m16,pR]
  have hle:=pS.le
  cases ho:KL (AP M)with
  |true =>
   obtain⟨j,hj4,ha,hMj⟩:=ZAQ h16 ho;have hent:=ZAS (m:=m) (sizes:=sizes) (q:=q) (out:=WY m sizes q i) ha;have hjl:j<q.Atoms.length:=by
    have h2:=c1.2;have e:Ac 1 (j:Nat)=2 ^ j:=by
     have:j=0\/j=1\/j=2\/j=3:=by omega
     rcases this with rfl|rfl|rfl|rfl<;>decide
    rw[hMj,e]at h2;have h3:(2:Int) ^ j<2 ^ q.Atoms.length:=h2;rw[<-HT,<-HT]at h3;exact(Nat.pow_lt_pow_iff_right Z).1 (Z:2 ^ j<2 ^ q.Atoms.length)
   have hvar:=Ps b.hv _ (Ye hjl);obtain⟨v,vs,hvs⟩:∃v vs,q.Atoms[j].Vars=v::vs:=by
    cases hh:q.Atoms[j].Vars with
    |nil=>rw[hh]at hvar;simp at hvar
    |cons v vs=>exact⟨v,vs,rfl⟩
   have hse:Tm m sizes q M (j:Int)=⟨M,v,Xo m.Scan (Z5 sizes M) 0 (Z5 sizes M),⟨[⟨1,j,0⟩]⟩⟩:=by
    simp[Tm,Yf hjl,hvs]
   rw[hent,hse]at ih;obtain⟨fr',hr⟩:=ih fr;refine⟨fr',WJ.1.2.2.2 _ _ _ _ _ _ _ _ ?_⟩;rw[Ao];refine⟨Z,_,by rw[Yj];exact hget,?_⟩;have h1':Aj (Qe q M).mask (w ((Qe q M).mask-1))=0:=h1.2 ho;rw[Ya h1',hw];refine⟨_,Z8t h16,(j:Int),by rw[show UT (Qe q M).mask=[(j:Int)]from ha];rfl,Z,q.Atoms[j],by rw[Yj];exact Yf hjl,v,by rw[hvs];rfl,hz.1,_,hz.2,_,KD _ b.hm.1 _ _ _,_,ZJG _,Z,?_⟩
   exact hr
  |false =>
   have hne:=ZAR h16 ho;have ok:=ZAY b hinv c1 c3 c4;have pT:(Qe q M).ZQ.zip (Qe q M).shared=Ik q M:=ZBg _ _;have hsl:=ZAN (qa:=q.Atoms) h16;obtain⟨f1,hJ⟩:=ZNc m b.hm b.hg sizes b.hcl q.Atoms fr (WY m sizes q i) Z (Qe q M) hz h16 (by show 0<M;have:=c1.1;omega) (by simp[Qe,J9]) (by show(ZQ q.Atoms M).length<=100;omega) (by rw[pT];exact ok);rw[pT]at hJ;have hent:=ZAT (m:=m) (sizes:=sizes) (q:=q) (out:=WY m sizes q i) hne;rw[hent]at ih hle;obtain⟨fr',hr⟩:=ih (fr && flat (((Tl m sizes M (WY m sizes q i) (Ik q M)).filter sm).map Ze.c));refine⟨fr',WJ.1.2.2.2 _ _ _ _ _ _ _ _ ?_⟩;rw[Ao];refine⟨Z,_,by rw[Yj];exact hget,?_⟩;have h1':¬Aj (Qe q M).mask (w ((Qe q M).mask-1))=0:=λh=>by have:=h1.1 h;rw[ho]at this;cases this
   rw[Yb h1',hw];exact⟨_,_,hJ,by show(WY m sizes q i).length+((Tl m sizes M (WY m sizes q i) (Ik q M)).filter sm).length<=68719476736;omega,hr⟩
def ZBh{m:Zf}{q:Zc}{sizes:WL}(b:Qb m q sizes):∃fr',F1 (shapes q) sizes m q=some (.own 2,[.arr 158 3 true ((shapes q).map ZU.c),.arr 3 1 true (sizes.map ic),.arr 117 4 fr' ((WY m sizes q (ZI q.Atoms).length).map Ze.c)]):=by
 obtain⟨fr',h⟩:=ZNp b 0 (Yc _) true;exact⟨fr',WJ.2.1.1 _ _ _ _ _ h⟩
def ZBi(l:List Ze)(mask:Int)(hl:l.length<=1000)(cc:ofM l mask≠[])(hs:∀e∈l,e.Zj.Steps.length<=1000):Qm l mask=some (.tup [.agg [I (W4 (ofM l mask)).Mask,I (W4 (ofM l mask)).Order,I (W4 (ofM l mask)).Cost,.own 0],Bo true],[.arr 210 3 true ((W4 (ofM l mask)).Zj.Steps.map Zn.c)]):=by
 obtain⟨k1,k2⟩:=Zpw cc;have hmem:=Z89 cc;have:=hs _ (CB.1 hmem).1;refine WJ.2.1.2.1 _ _ _ ⟨_,SH l mask hl,?_⟩
 grind
def tab(m:Zf)(q:Zc)(sizes:WL):List Ze:=WY m sizes q (ZI q.Atoms).length
def opt(m:Zf)(q:Zc)(sizes:WL):Ze:=W4 (ofM (tab m q sizes) (Z7 q.Zg q.Atoms))
def Zqf{q:Zc}(hv:Z3 q.Zg q.Atoms=true):MQ q.Atoms (Z7 q.Zg q.Atoms):=by
 have:=Jt hv;have:=vP hv;omega
def pU{m:Zf}{q:Zc}{sizes:WL}(b:Qb m q sizes)(hc:Wm q.Zg q.Atoms (Z7 q.Zg q.Atoms)=true):Vr m sizes q.Atoms (Z7 q.Zg q.Atoms) (ofM (tab m q sizes) (Z7 q.Zg q.Atoms)):=by
 refine(pQ b _ (Yk _)).held _ ?_;rw[Yr];have hp:=vP b.hv;have hq:=Zqf b.hv;unfold Wm at hc;simp only[Yd]at hc
 grind [Zqe]
def pW{l:WL}(h:Xs l=true):l.length<=16:=by
 simp only[Xs,Yd,decide_eq_true_eq]at h;omega
def Zqg{a:Int}(h:0<=a/\a<=7):Ak (Xi a) 0 4096=true:=by
 have:a=0\/a=1\/a=2\/a=3\/a=4\/a=5\/a=6\/a=7:=by omega
 rcases this with rfl|rfl|rfl|rfl|rfl|rfl|rfl|rfl<;>decide
def Z06{m:Zf}(hm:Be m)(ha:WD m){q:Zc}(hq:AS q)(hv:Z3 q.Zg q.Atoms=true){l:WL}(h:Xs l=true)(hl:(l.length:Int)=Z7 q.Zg q.Atoms+1):Qb m q (Xa l):=by
 have hll:(l.length:Int)<=16:=by simp only[Xs,Yd,decide_eq_true_eq]at h;exact h.2
 have hc:=ZJU h;refine⟨hm,ha.2.1,hq,hv,by simp[Xa];omega,hc,?_⟩;unfold WK HU;rw[hv]
 have:(Xa l).all (λx=>Ak x 0 4096)=true:=by
  rw[Yn];intro s hs;obtain⟨a,h1,rfl⟩:=hc s hs;exact Zqg h1
 rw[this];simp[Xa,hl]
def Xh(lo hi:WL)(k:Nat):Int:=hi.getD k 0-lo.getD k 0+1
def U7(lo hi:WL):Nat->Int->WL->WL
 |0,_,out=>out
 |k+1,idx,out=>U7 lo hi k (idx / Xh lo hi k) (out.set k (lo.getD k 0+idx % Xh lo hi k))
def Vf(lo hi:WL):Nat->Int
 |0=>1
 |k+1=>Vf lo hi k*Xh lo hi k
def Xk(b:Box)(idx:Int):WL:=U7 b.Low b.High b.Low.length idx b.Low
def Gu{lo hi:WL}(h:Xj lo hi=true){k:Nat}(hk:k<lo.length):1<=Xh lo hi k/\Xh lo hi k<=8/\lo.getD k 0=lo[k]/\0<=lo.getD k 0/\lo.getD k 0+Xh lo hi k<=8:=by
 obtain⟨b1,b2,b3,b4⟩:=WR h;have h2:k<hi.length:=by omega
 have:=b4 k hk h2;have e1:lo.getD k 0=lo[k]:=by simp[List.getD,hk]
 have e2:hi.getD k 0=hi[k]:=by simp[List.getD,h2]
 unfold Xh;rw[e1,e2];refine⟨?_,?_,rfl,?_,?_⟩<;>omega
def ZBj{lo hi:WL}(h:Xj lo hi=true):∀k,k<=lo.length->Vf lo hi k*vol (lo.drop k) (hi.drop k)=vol lo hi
 |0,_=>by simp[Vf]
 |k+1,hk=>by
  obtain⟨b1,b2,b3,b4⟩:=WR h;have ih:=ZBj h k Z;have h2:k<hi.length:=by omega
  rw[Zrl Z h2]at ih;rw[Vf,<-ih,Int.mul_assoc];unfold Xh;rw[show lo.getD k 0=lo[k] by simp[List.getD,show k<lo.length by omega],show hi.getD k 0=hi[k] by simp[List.getD,h2]]
def Zqh{lo hi:WL}(h:Xj lo hi=true):Vf lo hi lo.length=vol lo hi:=by
 obtain⟨b1,_⟩:=WR h;have:=ZBj h lo.length (Yk _);rw[Ym,<-b1,Ym,Zrk,Int.mul_one]at this;rw[<-this,b1]
def Zqi{lo hi:WL}(h:Xj lo hi=true):∀k,k<=lo.length->1<=Vf lo hi k/\Vf lo hi k<=8 ^ k
 |0,_=>by simp[Vf]
 |k+1,hk=>by
  obtain⟨i1,i2⟩:=Zqi h k Z;obtain⟨d1,d2,_⟩:=Gu h (k:=k) Z;rw[Vf];constructor
  .have:=Int.mul_le_mul i1 d1 Z Z;omega
  .have:=Int.mul_le_mul i2 d2 Z (Int.pow_nonneg Z);rw[Int.pow_succ];exact this
def Z07{lo hi:WL}:∀(k:Nat) (idx:Int) (out:WL),(U7 lo hi k idx out).length=out.length
 |0,_,_=>rfl
 |k+1,idx,out=>by rw[U7,Z07 k];simp
def ZBk{lo hi:WL}(h:Xj lo hi=true):∀k,k<=lo.length->∀(idx:Int) (out:WL),0<=idx->(∀x∈out,0<=x/\x<=7)->∀x∈U7 lo hi k idx out,0<=x/\x<=7
 |0,_,idx,out,_,ho=>ho
 |k+1,hk,idx,out,h0,ho=>by
  obtain⟨d1,d2,_,d3,d4⟩:=Gu h (k:=k) Z;rw[U7];refine ZBk h k Z _ _ (Int.ediv_nonneg h0 Z) ?_;intro x hx;rcases DV hx with hx|hx
  .exact ho x hx
  .have m1:=Int.emod_nonneg idx (show Xh lo hi k≠0 by omega);have m2:=Int.emod_lt_of_pos idx (show 0<Xh lo hi k by omega);omega
def Tn{b:Box}(h:Xj b.Low b.High=true){idx:Int}(h0:0<=idx):Xs (Xk b idx)=true/\(Xk b idx).length=b.Low.length:=by
 obtain⟨b1,b2,b3,b4⟩:=WR h;have hlen:(Xk b idx).length=b.Low.length:=Z07 _ _ _;refine⟨?_,hlen⟩
 have hin:=ZBk h b.Low.length (Yk _) idx b.Low h0 (λx hx=>by
  obtain⟨i,hi,rfl⟩:=List.mem_iff_getElem.1 hx;have:=b4 i hi Z
  omega)
 unfold Xs QV;rw[Yd,Yn];refine⟨λx hx=>?_,by simp;omega⟩;have:=hin x hx;simp[Ak];omega
def VS{x:Int}(h1:-1000000000000000<=x)(h2:x<=1000000000000000):w x=x:=ZO Z Z
def ZBl(b:Box)(h:Xj b.Low b.High=true):∀k,k<=b.Low.length->∀(idx:Int) (out:WL),0<=idx->idx<Vf b.Low b.High k->out.length=b.Low.length->fZ b out idx ((k:Int)-1)=some (.tup [.own 0,Bo true],[.arr 3 1 true ((U7 b.Low b.High k idx out).map ic)])
 |0,_,idx,out,h0,h1,_=>by
  apply WU.1.2.2.2;rw[Vf]at h1
  rw[Ap,Ap];rfl
 |k+1,hk,idx,out,h0,h1,hl=>by
  obtain⟨b1,b2,b3,b4⟩:=WR h;have hlt:k<b.Low.length:=by omega
  have hlt2:k<b.High.length:=by omega
  obtain⟨d1,d2,e1,d3,d4⟩:=Gu h hlt;have hd:Xh b.Low b.High k=b.High[k]-b.Low[k]+1:=by
   unfold Xh;rw[e1,show b.High.getD k 0=b.High[k] by simp[List.getD,hlt2]]
  have hk1:(((k+1:Nat):Int)-1)=(k:Int):=by omega
  have m1:=Int.emod_nonneg idx (show Xh b.Low b.High k≠0 by omega);have m2:=Int.emod_lt_of_pos idx (show 0<Xh b.Low b.High k by omega);have q1:=Int.ediv_nonneg h0 (show 0<=Xh b.Low b.High k by omega);have q2:idx / Xh b.Low b.High k<=idx:=Int.ediv_le_self _ h0;have hv:=Zqi h (k+1) hk;have hp:=vQ (show k+1<=16 by omega);have g3:=b4 k hlt hlt2;have w1:w (w (b.High[k]-b.Low[k])+1)=Xh b.Low b.High k:=by rw[VS (x:=b.High[k]-b.Low[k]) Z Z,VS Z Z,hd]
  apply WU.1.2.2.2;rw[hk1,Ao];refine⟨b.High[k],by rw[Yj];exact Yf hlt2,b.Low[k],by rw[Yj];exact Yf hlt,by rw[w1];omega,out[k],by rw[Yj];exact Yf Z,?_⟩;rw[w1,Yj,Int.tmod_eq_emod_of_nonneg h0,Int.tdiv_eq_ediv_of_nonneg h0,VS (x:=b.Low[k]+idx % Xh b.Low b.High k) Z Z,VS (x:=idx / Xh b.Low b.High k) Z Z,VS (x:=(k:Int)-1) Z Z,<-e1];rw[Vf]at h1;have ih:=ZBl b h k Z (idx / Xh b.Low b.High k) (out.set k (b.Low.getD k 0+idx % Xh b.Low b.High k)) q1 (Int.ediv_lt_of_lt_mul Z h1) (by simp[hl]);rw[U7];exact ih
def ZBm{lo hi:WL}(h:Xj lo hi=true):1<=vol lo hi/\vol lo hi<=281474976710656:=by
 obtain⟨b1,b2,b3,b4⟩:=WR h;have h1:=Zqi h lo.length (Yk _);have h2:=vQ b3;rw[Zqh h]at h1;exact⟨h1.1,Z⟩
def Zqj(b:Box)(hb:E0 b)(e:Xj b.Low b.High=true){idx:Int}(h0:0<=idx)(h1:idx<vol b.Low b.High):Kc b idx=some (.tup [.own 0,Bo true],[.arr 3 1 true ((Xk b idx).map ic)]):=by
 obtain⟨b1,b2,b3,b4⟩:=WR e;obtain⟨v1,v2⟩:=ZBm e;refine WU.2.1.1 _ _ _ ⟨_,Zzj b hb,?_⟩;rw[e,Ya rfl,Ap];refine⟨Z,?_⟩;rw[VS Z Z];exact ZBl b e b.Low.length (Yk _) idx b.Low h0 (by rw[Zqh e];exact h1) rfl
def pX(b:Box):XV:=(List.range (Xd b.Low b.High).toNat).map λi:Nat=>Xk b i
def ZNq(b:Z6)(hl:EY b)(k:Nat)(hk:k<b.Contours.length)(r:XS):∀i,i<=b.Contours[k].length->
  (if W9 b.Plans.length (b.Contours[k].take i) (b.Contours[k].drop i)=true then Mb b (w ((k:Int)+1))=some r else some (Bo false,[])=some r)->
  Mc b k i=some r:=by
 obtain⟨l1,l2,l3,l4,l5,l6⟩:=hl;have l7:=l6 _ (Ye hk);have hw:w ((b.Plans.length:Int)-1)=(b.Plans.length:Int)-1:=ZF Z Z;refine down _ ?_ ?_
 .intro h;apply Xu.2.1.1.2;simp[W9]at h;simp[hk,h]
 .intro i hi ih h;apply Xu.2.1.1.2;have h4:=ZK (i:=i) Z;have c1:=Qn (b.Contours[k].take i) b.Contours[k][i] (by simp;omega);have e7:i<=b.Contours[k].length:=by omega
  rw[vK _ hi]at h;simp at ih;rcases tf (Ak b.Contours[k][i] 0 ((b.Plans.length:Int)-1))with e1|e1
  .simp_all
  .rcases tf (has (b.Contours[k].take i) b.Contours[k][i])with e2|e2
   .simp_all
   .simp_all
def ZNr(b:Z6)(hr:Ak b.Ratio 2 8=true)(hl:EY b)(hc:b.Contours.length=b.Budgets.length):∀k,k<=b.Budgets.length->(∀p,VJ b.Budgets k=some p->Ak p 1 500000000000=true)->
  Mb b k=some (Bo (Vw b.Ratio (VJ b.Budgets k) (b.Budgets.drop k) && (b.Contours.drop k).all (UO b.Plans.length)),[]):=by
 have hl':=hl;obtain⟨l1,l2,l3,l4,l5,l6⟩:=hl;refine down _ ?_ ?_
 .intro _;apply Xu.2.1.1.1;rw[Ap,<-hc,Ym,hc,Ym];simp[Vw]
 .intro k hk ih hp;have hk2:k<b.Contours.length:=by omega
  have h4:=ZK (i:=k) Z;rw[Z26 _ _ hk,JO _ hk2];rcases tf (Ak b.Budgets[k] 1 500000000000)with e1|e1
  .apply Xu.2.1.1.1;simp[hk,e1]
  have pk:VJ b.Budgets (k+1)=some b.Budgets[k]:=by simp[VJ,Yf hk]
  rw[pk]at ih;have ih:=ih (λp h=>by cases h;exact e1)
  have tail:∀pr:Bool,pr=true->(∀x,b.Contours[k]?=some x->(if(x.length:Int)=0 then some (Bo false,[])=some (Bo (Ak b.Budgets[k] 1 500000000000 && pr && Vw b.Ratio (some b.Budgets[k]) (b.Budgets.drop (k+1)) && (UO b.Plans.length b.Contours[k] && (b.Contours.drop (k+1)).all (UO b.Plans.length))),([]:WM))
    else Mc b k 0=some (Bo (Ak b.Budgets[k] 1 500000000000 && pr && Vw b.Ratio (some b.Budgets[k]) (b.Budgets.drop (k+1)) && (UO b.Plans.length b.Contours[k] && (b.Contours.drop (k+1)).all (UO b.Plans.length))),[]))):=by
   intro pr hpr x hx;rw[Yf hk2]at hx;cases hx;rw[hpr,e1];by_cases e3:b.Contours[k].length=0
   .rw[Ao];simp[UO,e3]
   .rw[Ap];refine ZNq b hl' k hk2 _ 0 (Yc _) ?_;rw[List.take_zero,Yq,show w ((k:Int)+1)=(k:Int)+1 from h4];rcases tf (W9 b.Plans.length [] b.Contours[k])with e4|e4
    .simp[e4,UO]
    .rw[Ya e4];simp only[Ys,Yt]at ih;rw[ih];have e5:0<b.Contours[k].length:=by omega
     simp[UO,e4,e5]
  apply Xu.2.1.1.1;rw[Ao];refine⟨Z,b.Budgets[k],by rw[Yj];exact Yf hk,true,by rw[ZH,e1],?_⟩;rw[Ya rfl]
  cases k with
  |zero =>
   rw[Ap];refine⟨b.Contours[0],Om,?_⟩;have:=tail true rfl b.Contours[0] Om;simp only[VJ,Lo]
   exact this
  |succ j =>
   have hj:j<b.Budgets.length:=by omega
   have j6:VJ b.Budgets (j+1)=some b.Budgets[j]:=by simp[VJ,Yf hj]
   have hb:=hp _ j6;rw[j6];simp only[Lo];simp[Ak]at hb hr;have m1:b.Budgets[j]*b.Ratio<=500000000000*8:=Int.mul_le_mul hb.2 hr.2 Z Z;have m2:0<=b.Budgets[j]*b.Ratio:=Int.mul_nonneg Z Z;have w1:w (b.Budgets[j]*b.Ratio)=b.Budgets[j]*b.Ratio:=ZF Z Z;have w2:w (((j+1:Nat):Int)-1)=j:=by rw[show((j+1:Nat):Int)-1=j by omega];exact ZF Z Z
   rw[Ao,w2];refine⟨Z,b.Budgets[j],by rw[Yj];exact Yf hj,?_⟩;rw[w1];by_cases e2:b.Budgets[j+1]=b.Budgets[j]*b.Ratio
   .simp_all
   .simp_all
def ZNs(q:Zc)(b:Z6)(hq:AS q)(hl:EY b)(c:Bool)(hc:Mb b 0=some (Bo c,[])):∀k,k<=b.Plans.length->
  Sc q b k=some (Bo (((b.Plans.drop k).all λp=>G6 q.Zg q.Atoms p && decide (Z7 q.Zg q.Atoms≠0)) && c),[]):=by
 obtain⟨l1,l2,l3,l4,l5,l6⟩:=hl;refine down _ ?_ ?_
 .simp_all [Xu.1.2.2.2.2]
 .intro k hk ih;apply Xu.1.2.2.2.2;have h4:=ZK (i:=k) Z;have q1:=ZIU q b.Plans[k] hq;have q2:=Ue q hq;rw[JO _ hk];simp at ih;by_cases e:JS q.Zg q.Atoms b.Plans[k].Steps=Z7 q.Zg q.Atoms
  .by_cases e2:Z7 q.Zg q.Atoms=0
   .simp_all
   .simp[hk,h4,q1,q2,e,e2,ih,G6]
  .simp[hk,h4,q1,q2,e,G6]
def ZNt:∀c:WL,UO 0 c=false
 |[]=>by simp[UO]
 |v::c=>by
  have:Ak v 0 (-1)=false:=by simp[Ak];omega
  simp[UO,W9,this]
@[simp] def ZNu(q:Zc)(b:Z6)(hq:AS q)(hl:EY b):ZoF q b=some (Bo (QW q.Zg q.Atoms b),[]):=by
 apply Xu.2.1.2.1;have q2:=Ue q hq;have q3:=Zpm b.Box ⟨hl.1,hl.2.1⟩;have q4:=vN q.Zg q.Atoms;unfold QW a9;rcases tf (Ak b.Version 1 999)with e2|e2
 .simp[e2]
 rcases tf (Ak b.Ratio 2 8)with e3|e3
 .simp[e2,e3]
 rcases tf (Ak b.Slack 0 100)with e4|e4
 .simp[e2,e3,e4]
 by_cases e6:(b.Box.Low.length:Int)=Z7 q.Zg q.Atoms+1
 rotate_left
 .simp_all
 rcases tf (Ak (Xd b.Box.Low b.Box.High) 1 400)with e5|e5
 .simp_all
 simp only[q2,q3,e2,e3,e4,e5,ZH,Y7,CW,AV.t.injEq,T.bool.injEq,T.int.injEq,true_and,and_true,exists_eq_left',if_true];rw[show w (Z7 q.Zg q.Atoms+1)=Z7 q.Zg q.Atoms+1 from q4,Ya e6,decide_eq_true e6];by_cases e7:b.Budgets.length=0
 .simp_all
 rw[Ap];by_cases e8:b.Contours.length=b.Budgets.length
 rotate_left
 .grind
 rw[Ao,decide_eq_true e8];have r2:=ZNr b e3 hl e8 0 (Yc _) (λp h=>by simp[VJ]at h);have r0:=ZNs q b hq hl _ r2 0 (Yc _);simp only[Yq,VJ]at r0;have r0:Sc q b 0=_:=r0;rw[r0];have e9:decide (0<b.Budgets.length)=true:=decide_eq_true Z;rw[e9];rcases tf (Z3 q.Zg q.Atoms)with e1|e1
 .have e5':Z7 q.Zg q.Atoms=0:=by unfold Z7;rw[e1];rfl
  rw[e1,e5'];simp only[ne_eq,not_true_eq_false,decide_false,Bool.and_false,Gy]
  cases hp:b.Plans with
  |cons p ps=>simp
  |nil =>
   cases hcs:b.Contours with
   |nil=>rw[hcs]at e8;simp at e8;omega
   |cons c cs=>simp[ZNt]
 .have e5':=vP e1
  grind
def ZBn{n:Int}:∀{xs c:WL},W9 n c xs=true->∀v∈xs,0<=v/\v<=n-1
 |[],_,_,v,hv=>by cases hv
 |x::xs,c,h,v,hv=>by
  simp only[W9,Yd]at h
  cases hv with
  |head=>have:=h.1.1;simp[Ak]at this;omega
  |tail _ hv=>exact ZBn h.2 v hv
def ZBo{r:Int}:∀{xs:WL} {p:Option Int},Vw r p xs=true->∀x∈xs,Ak x 1 500000000000=true
 |[],_,_,v,hv=>by cases hv
 |x::xs,p,h,v,hv=>by
  simp only[Vw,Yd]at h
  cases hv with
  |head=>exact h.1.1
  |tail _ hv=>exact ZBo h.2 v hv
def pY(m:Zf)(q:Zc)(b:Z6):Prop:=QW q.Zg q.Atoms b=true/\Wm q.Zg q.Atoms (Z7 q.Zg q.Atoms)=true/\WD m
structure BqF (q:Zc) (b:Z6):Prop where
 hv:Z3 q.Zg q.Atoms=true
 box:Xj b.Box.Low b.Box.High=true
 v1:1<=Xd b.Box.Low b.Box.High
 v2:Xd b.Box.Low b.Box.High<=400
 len:(b.Box.Low.length:Int)=Z7 q.Zg q.Atoms+1
 sl:Ak b.Slack 0 100=true
 pl:∀p∈b.Plans,JS q.Zg q.Atoms p.Steps=Z7 q.Zg q.Atoms
 co:∀c∈b.Contours,c≠[]/\∀p∈c,0<=p/\p.toNat<b.Plans.length
 cl:b.Contours.length=b.Budgets.length
 b0:0<b.Budgets.length
 bu:∀x∈b.Budgets,Ak x 1 500000000000=true
def JA{q:Zc}{b:Z6}(h:QW q.Zg q.Atoms b=true):BqF q b:=by
 unfold QW a9 at h;simp only[Yd,decide_eq_true_eq]at h;obtain⟨⟨⟨⟨⟨h1,⟨⟨⟨h2,h3⟩,h4⟩,h5⟩,h6⟩,h7⟩,h8⟩,h9⟩,h10,h11⟩:=h;have hx:Xj b.Box.Low b.Box.High=true:=by
  rcases tf (Xj b.Box.Low b.Box.High)with e|e
  .unfold Xd at h5;rw[e]at h5;simp[Ak]at h5
  .exact e
 simp only[Ak,Yd,decide_eq_true_eq]at h5;refine⟨h1,hx,h5.1,h5.2,h6,h4,λp hp=>?_,λc hc=>?_,h11,h10,ZBo h8⟩
 .have:=Yn.1 h7 p hp;simpa[G6]using this
 .have:=Yn.1 h9 c hc;unfold UO at this;simp only[Yd,decide_eq_true_eq]at this;refine⟨λe=>by rw[e]at this;simp at this,λp hp=>?_⟩;have:=ZBn this.1 p hp;omega
def ZBp{m:Zf}{q:Zc}{b:Z6}(hm:Be m)(hq:AS q)(h:pY m q b){l:WL}(h1:Xs l=true)(h2:l.length=b.Box.Low.length):Qb m q (Xa l) :=
 Z06 hm h.2.2 hq (JA h.1).hv h1 (by rw[h2];exact(JA h.1).len)
def ZBq(bs:WL)(c:Int):Int:=Ua (λx=>decide (c<=x)) bs 0
def Gv(b:Z6)(p:Int):Zj:=(b.Plans[p.toNat]?).getD ⟨[]⟩
def pc(m:Zf)(q:Zc)(b:Z6)(l:WL)(p:Int):Int:=W1 m q.Zg q.Atoms (Gv b p).Steps (Xa l)
def Bw(b:Z6)(k:Nat):Int:=Us ((b.Budgets[k]?).getD 0) b.Slack
def pZ(b:Z6)(k:Nat):WL:=(b.Contours[k]?).getD []
def AbG(m:Zf)(q:Zc)(b:Z6)(l:WL)(k:Nat):Bool:=(pZ b k).any λp=>decide (pc m q b l p<=Bw b k)
def cov(m:Zf)(q:Zc)(b:Z6)(l:WL):Bool:=decide (0<=ZBq b.Budgets (opt m q (Xa l)).Cost) && AbG m q b l (ZBq b.Budgets (opt m q (Xa l)).Cost).toNat
def ZNv{b:Z6}{p:Int}(h:p.toNat<b.Plans.length):b.Plans[p.toNat]?=some (Gv b p):=by
 unfold Gv;rw[Yf h];rfl
section
variable{m:Zf}{q:Zc}{b:Z6}(hm:Be m)(hq:AS q)(hb:EY b)(hf:BqF q b)
include hm hq
include hb hf
end
def ZNw{m:Zf}{q:Zc}{l:WL}(h:Xs l=true)(bb:Qb m q (Xa l))(hm:Be m)(ha:WD m)(hc:Wm q.Zg q.Atoms (Z7 q.Zg q.Atoms)=true):jO m q l=some (I (opt m q (Xa l)).Cost,[]):=by
 have l1:=pW h;have hs:=Zzr l Z;rw[h,Ya rfl]at hs;have hl:=Z05 bb (Yk (ZI q.Atoms).length);obtain⟨fr,ht⟩:=ZBh bb;have hsv:=Z8z q bb.hq (Xa l) (by simp[Xa];omega)
 have hT:=Uv.1.2.2.2 (Xa l) m q _ ⟨_,Zzo m hm,by
  rw[Ya (by simp[ha])]
  exact⟨_,hsv,by rw[bb.hsv,Ya rfl];exact⟨_,ZBf q bb.hq bb.hv,_,_,ht,rfl⟩⟩⟩
 have hB:=Uv.2.1.1 (Xa l) m q _ (.inl ⟨_,_,_,hT,_,Ue q bb.hq,.inr ⟨_,_,_,_,ZBi _ _ Z (pU bb hc).ne (ZBd bb (Yk _)),rfl⟩⟩);have hC:=Uv.2.1.2.1 (Xa l) m q _ (.inr ⟨_,_,_,_,_,hB,rfl⟩);exact Uv.2.1.2.2 _ _ _ _ ⟨_,hs,_,_,hC,rfl⟩
def Wg(lo hi l:WL):Nat->Int
 |0=>0
 |k+1=>Wg lo hi l k*Xh lo hi k+(l.getD k 0-lo.getD k 0)
def Ku(b:Box)(l:WL):Int:=Wg b.Low b.High l b.Low.length
def Dx(b:Box)(l:WL):Prop:=l.length=b.Low.length/\∀i,i<b.Low.length->b.Low.getD i 0<=l.getD i 0/\l.getD i 0<=b.High.getD i 0
def LeL(l l':WL):Prop:=∀i,l.getD i 0<=l'.getD i 0
def BK{l:WL}{i:Nat}(h:i<l.length):l.getD i 0=l[i]:=by simp[List.getD,h]
def Tp(l:WL)(k i:Nat)(v:Int)(hk:k<l.length):(l.set k v).getD i 0=if i=k then v else l.getD i 0:=by
 by_cases e:i=k
 .subst e;simp[List.getD,hk]
 .rw[Yb e];simp[List.getD,List.getElem?_set,Ne.symm e]
def ZNx{l l':WL}(h:l.length=l'.length)(he:∀i,i<l.length->l.getD i 0=l'.getD i 0):l=l' :=
 ON h λi h1 h2=>by have:=he i h1;rwa [BK h1,BK h2]at this
def Z08{b:Box}(h:Xj b.Low b.High=true){l:WL}(hl:Dx b l):∀k,k<=b.Low.length->0<=Wg b.Low b.High l k/\Wg b.Low b.High l k<Vf b.Low b.High k
 |0,_=>by simp[Wg,Vf]
 |k+1,hk=>by
  obtain⟨i1,i2⟩:=Z08 h hl k Z;obtain⟨d1,d2,_⟩:=Gu h (k:=k) Z;have:=hl.2 k Z;have m1:(Wg b.Low b.High l k+1)*Xh b.Low b.High k<=Vf b.Low b.High k*Xh b.Low b.High k:=Int.mul_le_mul_of_nonneg_right Z Z;have m0:0<=Wg b.Low b.High l k*Xh b.Low b.High k:=Int.mul_nonneg i1 Z;rw[Int.add_mul,Int.one_mul]at m1;rw[Wg,Vf];have e:Xh b.Low b.High k=b.High.getD k 0-b.Low.getD k 0+1:=rfl;omega
def ZBr{b:Box}(h:Xj b.Low b.High=true){l:WL}(hl:Dx b l):0<=Ku b l/\Ku b l<vol b.Low b.High:=by
 have:=Z08 h hl _ (Yk _)
 rwa [Zqh h]at this
def Ou{x d c:Int}(hd:0<d)(h0:0<=c)(h1:c<d):(x*d+c) / d=x/\(x*d+c) % d=c:=by
 constructor
 .rw[Int.add_comm,Int.add_mul_ediv_right _ _ Z,Int.ediv_eq_zero_of_lt h0 h1];omega
 .rw[Int.add_comm,Int.add_mul_emod_self_right,Int.emod_eq_of_lt h0 h1]
def ZBs{b:Box}(h:Xj b.Low b.High=true){l:WL}(hl:Dx b l):∀k,k<=b.Low.length->∀out:WL,out.length=b.Low.length->∀i,i<b.Low.length->(U7 b.Low b.High k (Wg b.Low b.High l k) out).getD i 0=if i<k then l.getD i 0 else out.getD i 0
 |0,_,out,_,i,_=>by simp[U7]
 |k+1,hk,out,ho,i,hi=>by
  obtain⟨d1,d2,_⟩:=Gu h (k:=k) Z;have hd:Xh b.Low b.High k=b.High.getD k 0-b.Low.getD k 0+1:=rfl;have:=hl.2 k Z;obtain⟨e1,e2⟩:=Ou (x:=Wg b.Low b.High l k) (d:=Xh b.Low b.High k) (c:=l.getD k 0-b.Low.getD k 0) Z Z Z;rw[Wg,U7,e1,e2,ZBs h hl k Z _ (by simp[ho]) i hi,Tp _ _ _ _ Z];by_cases c1:i<k
  .rw[Ya c1,Ao]
  .rw[Yb c1];by_cases c2:i=k
   .subst c2;rw[Ya rfl,Ao];omega
   .rw[Yb c2,Ap]
def Ov{b:Box}(h:Xj b.Low b.High=true){l:WL}(hl:Dx b l):Xk b (Ku b l)=l:=by
 have hn:(Xk b (Ku b l)).length=b.Low.length:=Z07 _ _ _;refine ZNx (by rw[hn,hl.1]) λi hi=>?_
 rw[hn]at hi;have:=ZBs h hl _ (Yk _) b.Low rfl i hi;rw[Ya hi]at this;exact this
def ZBt{lo hi:WL}:∀k idx (out:WL) i,k<=i->k<=out.length->(U7 lo hi k idx out).getD i 0=out.getD i 0
 |0,_,_,_,_,_=>rfl
 |k+1,idx,out,i,h,hk=>by
  rw[U7,ZBt k _ _ i Z (by simp;omega),Tp _ _ _ _ Z,Ap]
def ZBu{b:Box}(h:Xj b.Low b.High=true):∀k,k<=b.Low.length->∀(idx:Int) (out:WL),out.length=b.Low.length->0<=idx->idx<Vf b.Low b.High k->Wg b.Low b.High (U7 b.Low b.High k idx out) k=idx
 |0,_,idx,out,_,h0,h1=>by simp[Vf]at h1;rw[Wg];omega
 |k+1,hk,idx,out,ho,h0,h1=>by
  obtain⟨d1,d2,_⟩:=Gu h (k:=k) Z;rw[Vf]at h1;have ih:=ZBu h k Z (idx / Xh b.Low b.High k) (out.set k (b.Low.getD k 0+idx % Xh b.Low b.High k)) (by simp[ho]) (Int.ediv_nonneg h0 Z) (Int.ediv_lt_of_lt_mul Z h1);rw[Wg,U7,ih,ZBt k _ _ k (Yk _) (by simp;omega),Tp _ _ _ _ Z,Ya rfl];have:=Int.mul_ediv_add_emod idx (Xh b.Low b.High k);rw[Int.mul_comm]at this;omega
def Ow{b:Box}(h:Xj b.Low b.High=true){i:Int}(h0:0<=i)(h1:i<vol b.Low b.High):Ku b (Xk b i)=i :=
 ZBu h _ (Yk _) i b.Low rfl h0 (by rw[Zqh h];exact h1)
def ZBv{b:Box}(h:Xj b.Low b.High=true):∀k,k<=b.Low.length->∀(idx:Int) (out:WL),0<=idx->Dx b out->Dx b (U7 b.Low b.High k idx out)
 |0,_,idx,out,_,ho=>ho
 |k+1,hk,idx,out,h0,ho=>by
  obtain⟨d1,d2,_⟩:=Gu h (k:=k) Z;have hd:Xh b.Low b.High k=b.High.getD k 0-b.Low.getD k 0+1:=rfl;refine ZBv h k Z _ _ (Int.ediv_nonneg h0 Z) ⟨by simp[ho.1],λi hi=>?_⟩;have m1:=Int.emod_nonneg idx (show Xh b.Low b.High k≠0 by omega);have m2:=Int.emod_lt_of_pos idx (show 0<Xh b.Low b.High k by omega);have:=ho.2 i hi;rw[Tp _ _ _ _ (by have:=ho.1;omega)];split
  .rename_i e;subst e;omega
  .exact this
def Ox{b:Box}(h:Xj b.Low b.High=true):Dx b b.Low:=by
 obtain⟨b1,b2,b3,b4⟩:=WR h;refine⟨rfl,λi hi=>?_⟩;have:=b4 i hi Z;rw[BK hi,BK (show i<b.High.length by omega)];omega
def Z09{b:Box}(h:Xj b.Low b.High=true){i:Int}(h0:0<=i):Dx b (Xk b i):=ZBv h _ (Yk _) i _ h0 (Ox h)
def ZBw{lo hi l:WL}{k:Nat}(hk:k<l.length)(hd:∀i,i<lo.length->1<=Xh lo hi i):∀m,m<=lo.length->(m<=k->Wg lo hi (l.set k (l.getD k 0+1)) m=Wg lo hi l m)/\(k<m->Wg lo hi l m<Wg lo hi (l.set k (l.getD k 0+1)) m)
 |0,_=>⟨λ_=>rfl,λh=>by omega⟩
 |m+1,hm=>by
  obtain⟨i1,i2⟩:=ZBw hk hd m Z;have d:=hd m Z;rw[Wg,Wg,Tp _ _ _ _ hk];constructor
  .intro h;rw[i1 Z,Ap]
  .intro h;by_cases e:m=k
   .subst e;rw[i1 (Yk _),Ya rfl];omega
   .rw[Yb e];have:=Int.mul_le_mul_of_nonneg_right (show Wg lo hi l m+1<=Wg lo hi (l.set k (l.getD k 0+1)) m by have:=i2 Z;omega) (show 0<=Xh lo hi m by omega);rw[Int.add_mul,Int.one_mul]at this;omega
def ZNy{b:Box}(h:Xj b.Low b.High=true){l:WL}(hl:Dx b l){k:Nat}(hk:k<b.Low.length):Ku b l<Ku b (l.set k (l.getD k 0+1)) :=
 (ZBw (by have:=hl.1;omega) (λi hi=>(Gu h hi).1) _ (Yk _)).2 hk
def ZBx{xs ys:WL}:dom xs ys=true↔xs.length=ys.length/\∀i,i<xs.length->ys.getD i 0<=xs.getD i 0:=by
 unfold dom;rw[Yd,decide_eq_true_iff];refine and_congr_right λhl=>?_
 induction xs generalizing ys with
 |nil=>cases ys<;>simp[Qj]
 |cons x xs ih=>cases ys with
  |nil=>simp at hl
  |cons y ys =>
   simp only[Yy,Nat.add_right_cancel_iff]at hl;rw[Qj,Yd,decide_eq_true_iff,ih hl];constructor
   .intro⟨h1,h2⟩ i hi
    cases i with
    |zero=>simpa using h1
    |succ i=>simpa using h2 i (by simpa using hi)
   .intro h;exact⟨by simpa using h 0 Om,λi hi=>by simpa using h (i+1) (by simpa using hi)⟩
def Zqk{b:Box}(h:Xj b.Low b.High=true){l:WL}:JP b.Low b.High l=true↔Dx b l:=by
 obtain⟨b1,b2,b3,b4⟩:=WR h;unfold JP Dx;rw[h,Yl,Yd,ZBx,ZBx];constructor
 .rintro⟨⟨h1,h2⟩,h3,h4⟩;exact⟨h1,λi hi=>⟨h2 i Z,h4 i Z⟩⟩
 .rintro⟨h1,h2⟩;exact⟨⟨h1,λi hi=>(h2 i Z).1⟩,Z,λi hi=>(h2 i Z).2⟩
