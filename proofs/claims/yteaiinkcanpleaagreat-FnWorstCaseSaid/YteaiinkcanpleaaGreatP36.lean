/-
  Parts of the proofs for this seat: IA IC IF IG IH IJ IL V7 V8 BQ.
-/
import Derived.Test.YteaiinkcanpleaaGreatP35
set_option linter.all false
set_option maxRecDepth 100000
set_option maxHeartbeats 4000000
namespace Go.Proofs.YteaiinkcanpleaaGreat
open Go.AM
structure Vm (m:Zf) (q:Zc) (sizes:WL):Prop where
 hm:Ba m
 hg:Wi m.Sort_
 hq:AI q
 hv:Zx q.Zh q.Atoms=true
 hs:Le sizes
 hcl:Um sizes
 hsv:WT q.Zh q.Atoms sizes=true
def ZQd{m:Zf}{q:Zc}{sizes:WL}(b:Vm m q sizes){A B M:Int}(cc:AU M)(hM:M≠0)(hp:Je q.Atoms A B M){E F:List Zd}(hE:WB m sizes q.Atoms A E)(hF:WB m sizes q.Atoms B F)
  (sh:WL) (cd:sh.length<=1000) (hv:∀v∈sh,(-1<=v/\v<=3)/\Bj q.Atoms A v=true/\Bj q.Atoms B v=true)
  (fr:Bool) (c:List (List Zd)) (fr1:Bool) (out:List Zd) (x x1:WL) (x3 x4 x5 x6:Int) (r:XS) :
  ∀i,i<=sh.length->∀a0 a1 a2 a3 a4:Zd,(∀b0 b1 b2 b3 b4,(sh.drop i).foldl (JT m sizes A B E F) [a0,a1,a2,a3,a4]=[b0,b1,b2,b3,b4]->
   Mk m q fr c fr1 out m q sizes M b0 b1 b2 b3 b4 (sm b0) (sm b1) (sm b2) (sm b3) (sm b4) x x1 sizes M x3 x4 x5 (w (x6+1))=some r)->
  Sn m q fr c fr1 out m q sizes M a0 a1 a2 a3 a4 (sm a0) (sm a1) (sm a2) (sm a3) (sm a4) x x1 sh sizes M E F x3 x4 x5 x6 sh.length i=some r:=by
 have pA:=Un hp.a16;have pB:=Un hp.b16;refine down _ ?_ ?_
 .simp_all [JA.2.2.2]
 .intro i hi ih a0 a1 a2 a3 a4 h;have h4:=Z7 (i:=i) Z;have hw:w ((i:Int)+1)=((i+1:Nat):Int):=by rw[show w ((i:Int)+1)=(i:Int)+1 from h4];simp
  rw[Yi hi,Yv]at h;obtain⟨v1,v2,v3⟩:=hv sh[i] (Yf hi);obtain⟨k1,k2,k3,k4,k5⟩:=Iq hE b.hg b.hcl hp.a16 v2;obtain⟨j1,j2,j3,j4,j5⟩:=Iq hF b.hg b.hcl hp.b16 v3;obtain⟨b0,b1,b2,b3,b4,t,hJ,ht,hx⟩:=Z2s m b.hm q b.hq b.hv sizes b.hs b.hsv cc hM hp (a:=inp m sizes A E sh[i]) (b:=inp m sizes B F sh[i]) (k:=4) (v:=sh[i]) v1 Z k1 j1 k3 j3 (ZDi v2 v3 rfl rfl) ⟨k5,j5⟩ a0 a1 a2 a3 a4;rw[show JT m sizes A B E F [a0,a1,a2,a3,a4] sh[i]=[b0,b1,b2,b3,b4]from hJ]at h;have ih:=ih b0 b1 b2 b3 b4 h;apply JA.2.2.2;rw[An];refine⟨Z,sh[i],by rw[Yh];exact Yd hi,?_⟩;rw[hw];rcases Z2i m b.hm b.hg q b.hq b.hv sizes b.hs b.hcl b.hsv hp.a16 hE v2 with ha|ha
  .refine .inl ⟨_,ha,?_⟩;rcases Z2i m b.hm b.hg q b.hq b.hv sizes b.hs b.hcl b.hsv hp.b16 hF v3 with hb|hb
   .refine .inl ⟨_,hb,_,Tm _ _ _ _ Z Z,?_⟩
    grind
   .refine .inr ⟨_,hb,_,Tm _ ⟨(inp m sizes B F sh[i]).Ze.Steps⟩ _ _ Z (by show(inp m sizes B F sh[i]).Ze.Steps.length<=1000;omega),?_⟩
    grind
  .refine .inr ⟨_,ha,?_⟩;rcases Z2i m b.hm b.hg q b.hq b.hv sizes b.hs b.hcl b.hsv hp.b16 hF v3 with hb|hb
   .refine .inl ⟨_,hb,_,Tm ⟨(inp m sizes A E sh[i]).Ze.Steps⟩ _ _ _ (by show(inp m sizes A E sh[i]).Ze.Steps.length<=1000;omega) Z,?_⟩
    grind
   .refine .inr ⟨_,hb,_,Tm ⟨(inp m sizes A E sh[i]).Ze.Steps⟩ ⟨(inp m sizes B F sh[i]).Ze.Steps⟩ _ _ (by show(inp m sizes A E sh[i]).Ze.Steps.length<=1000;omega) (by show(inp m sizes B F sh[i]).Ze.Steps.length<=1000;omega),?_⟩
    grind
def ZQe{m:Zf}{q:Zc}{sizes:WL}(b:Vm m q sizes){A B M:Int}(cc:AU M)(hM:M≠0)(hp:Je q.Atoms A B M){E F:List Zd}(hE:WB m sizes q.Atoms A E)(hF:WB m sizes q.Atoms B F)
  (sh:WL) (cd:Mi q A (Z4 M A)=some (.own 0,[.arr 3 1 true (sh.map ic)]))
  (fr:Bool) (c:List (List Zd)) (fr1:Bool) (out:List Zd) (x x1:WL) (x3 x4 x5 x6:Int) (r:XS) :
  ∀i,i<=E.length->∀a0 a1 a2 a3 a4:Zd,(∀b0 b1 b2 b3 b4,(E.drop i).foldl (Jd m sizes (Xe F)) [a0,a1,a2,a3,a4]=[b0,b1,b2,b3,b4]->
   Sn m q fr c fr1 out m q sizes M b0 b1 b2 b3 b4 (sm b0) (sm b1) (sm b2) (sm b3) (sm b4) x x1 sh sizes M E F x3 x4 x5 x6 sh.length 0=some r)->
  Sl m q fr c fr1 out m q sizes M a0 a1 a2 a3 a4 (sm a0) (sm a1) (sm a2) (sm a3) (sm a4) (Xe F).Ze x x1 sizes M A E F x3 x4 x5 x6 E E.length i=some r:=by
 have pA:=Un hp.a16;have pB:=Un hp.b16;have lF:=hF.len _ hF.best;have hle:=hE.le;refine down _ ?_ ?_
 .simp_all [JA.2.2.1]
 .intro i hi ih a0 a1 a2 a3 a4 h;have h4:=Z7 (i:=i) Z;have hw:w ((i:Int)+1)=((i+1:Nat):Int):=by rw[show w ((i:Int)+1)=(i:Int)+1 from h4];simp
  rw[Yi hi,Yv]at h;have hmem:=Yf hi;have lE:=hE.len _ hmem;obtain⟨b0,b1,b2,b3,b4,t,hJ,ht,hx⟩:=Z2s m b.hm q b.hq b.hv sizes b.hs b.hsv cc hM hp (a:=E[i]) (b:=Xe F) (k:=5) (v:=0) (hE.ord _ hmem) Z (hE.mask _ hmem) (hF.mask _ hF.best) (hE.makes _ hmem) (hF.makes _ hF.best) ZDh ⟨Z,Z⟩ a0 a1 a2 a3 a4;rw[show Jd m sizes (Xe F) [a0,a1,a2,a3,a4] E[i]=[b0,b1,b2,b3,b4]from hJ]at h;have ih:=ih b0 b1 b2 b3 b4 h;apply JA.2.2.1
  grind [Int.toNat_natCast,List.getElem?_eq_getElem,Tm]
structure ZD2 (m:Zf) (q:Zc) (sizes:WL) (out:List Zd) (table:List (List Zd)) (M A:Int) (sh:WL):Prop where
 ok:Ov m sizes q.Atoms out M A sh
 diff:Z4 M A=M-A
 sh:Mi q A (Z4 M A)=some (.own 0,[.arr 3 1 true (sh.map ic)])
 tA:table[A.toNat]?=some (ofM out A)
 tB:table[(M-A).toNat]?=some (ofM out (M-A))
def ZQf{m:Zf}{q:Zc}{sizes:WL}(b:Vm m q sizes){M:Int}(cd:AU M)(hM:M≠0)(cc:List (List Zd))(ht:M.toNat<cc.length)(out:List Zd)(cl:out.length<=1000)(ps:List (Int×WL))(cn:ps.length<=100)
  (ok:∀p∈ps,ZD2 m q sizes out cc M p.1 p.2) (fr fr1:Bool) (x:WL) (x2 x3:Int) (r:XS) :
  ∀i,i<=ps.length->∀a0 a1 a2 a3 a4:Zd,(∀f1 E,((ps.drop i).foldl (K4 m sizes M out) [a0,a1,a2,a3,a4]).filter sm=E->
   HO m q f1 (cc.set M.toNat E) (fr1 && flat (E.map Zd.c)) (out++E) x sizes x2 (w (x3+1))=some r)->
  Mk m q fr cc fr1 out m q sizes M a0 a1 a2 a3 a4 (sm a0) (sm a1) (sm a2) (sm a3) (sm a4) x (ps.map Prod.fst) sizes M x2 x3 ps.length i=some r:=by
 refine down _ ?_ ?_
 .intro a0 a1 a2 a3 a4 h;apply JA.1.2;rw[Ao];obtain⟨fr',he⟩:=ZPI m q sizes M a0 a1 a2 a3 a4;have hl:(p5 a0 a1 a2 a3 a4).length<=5:=GN _ _;exact⟨fr',p5 a0 a1 a2 a3 a4,he,Z,_,Yd ht,Z,h _ _ (by rw[Ym];rfl)⟩
 .intro i hi ih a0 a1 a2 a3 a4 h;have h4:=Z7 (i:=i) Z;have hw:w ((i:Int)+1)=((i+1:Nat):Int):=by rw[show w ((i:Int)+1)=(i:Int)+1 from h4];simp
  rw[Yi hi,Yv]at h;obtain⟨o,hd,hsh,tA,tB⟩:=ok _ (Yf hi);have hget:(ps.map Prod.fst)[i]?=some ps[i].1:=by rw[rW,Yd hi];rfl
  generalize ps[i]=p at *
  obtain⟨A,sh⟩:=p;simp only at o hd hsh tA tB hget;have hp:=o.pair;have hE:=o.left;have hF:=o.right;have pA:=Un hp.a16;have pB:=Un hp.b16;have lE:=hE.len _ hE.best;have lF:=hF.len _ hF.best;have leE:=hE.le;have leF:=hF.le;obtain⟨b0,b1,b2,b3,b4,t,hJ,htt,hx⟩:=Z2s m b.hm q b.hq b.hv sizes b.hs b.hsv cd hM hp (a:=Xe (ofM out A)) (b:=Xe (ofM out (M-A))) (k:=3) (v:=0) (o:=-1) Z Z (hE.mask _ hE.best) (hF.mask _ hF.best) (hE.makes _ hE.best) (hF.makes _ hF.best) ZDg ⟨Z,Z⟩ a0 a1 a2 a3 a4;have hone:K4 m sizes M out [a0,a1,a2,a3,a4] (A,sh)=sh.foldl (JT m sizes A (M-A) (ofM out A) (ofM out (M-A))) ((ofM out A).foldl (Jd m sizes (Xe (ofM out (M-A)))) [b0,b1,b2,b3,b4]):=by
   unfold K4 Ou;rw[<-hJ]
  rw[hone]at h;have hnext:Sl m q fr cc fr1 out m q sizes M b0 b1 b2 b3 b4 (sm b0) (sm b1) (sm b2) (sm b3) (sm b4) (Xe (ofM out (M-A))).Ze x (ps.map Prod.fst) sizes M A (ofM out A) (ofM out (M-A)) x2 x3 ps.length i (ofM out A) (ofM out A).length 0=some r:=by
   refine ZQe b cd hM hp hE hF sh hsh fr cc fr1 out x _ x2 x3 _ _ r 0 (Yc _) b0 b1 b2 b3 b4 ?_;intro c0 c1 c2 c3 c4 hc;refine ZQd b cd hM hp hE hF sh o.len o.vars fr cc fr1 out x _ x2 x3 _ _ r 0 (Yc _) c0 c1 c2 c3 c4 ?_
   grind
  apply JA.1.2;rw[An];refine⟨Z,A,by rw[Yh];exact hget,hp.a16.1,_,tA,by rw[hd];exact hp.b16.1,_,by rw[hd];exact tB,_,ZqZ _ hF.ne Z,_,ZqZ _ hE.ne Z,_,Tm _ _ _ _ Z Z,?_⟩
  grind
def VF(q:Zc)(M:Int):List (Int×WL):=(ZL q.Atoms M).map λA=>(A,Vb q A (M-A))
def Ir(m:Zf)(sizes:WL)(q:Zc)(M a:Int):Zd:=⟨M,((q.Atoms[a.toNat]?).map λx=>x.Vars.headD 0).getD 0,XL m.Scan (Z6 sizes M) 0 (Z6 sizes M),⟨[⟨1,a,0⟩]⟩⟩
def VW(m:Zf)(sizes:WL)(q:Zc)(out:List Zd)(M:Int):List Zd:=match VP M with
 |[a]=>[Ir m sizes q M a]
 |_=>(Tq m sizes M out (VF q M)).filter sm
theorem ZD3:∀a:Fin 16,(K0 (AP (a.1:Int))=true->(VP (a.1:Int)=[((0:Nat):Int)]/\(a.1:Int)=Ac 1 (0:Nat))\/(VP (a.1:Int)=[((1:Nat):Int)]/\(a.1:Int)=Ac 1 (1:Nat))\/(VP (a.1:Int)=[((2:Nat):Int)]/\(a.1:Int)=Ac 1 (2:Nat))\/(VP (a.1:Int)=[((3:Nat):Int)]/\(a.1:Int)=Ac 1 (3:Nat)))/\(K0 (AP (a.1:Int))=false->(VP (a.1:Int)).length≠1):=by decide
def Z2t{M:Int}(h:AU M)(ho:K0 (AP M)=true):∃i:Nat,i<4/\VP M=[(i:Int)]/\M=Ac 1 i:=by
 obtain⟨a,rfl⟩:=m16 h;rcases(ZD3 a).1 ho with h|h|h|h
 .exact⟨0,Z,h⟩
 .exact⟨1,Z,h⟩
 .exact⟨2,Z,h⟩
 .exact⟨3,Z,h⟩
def Z2u{M:Int}(h:AU M)(ho:K0 (AP M)=false):(VP M).length≠1:=by
 grind [m16,ZD3]
def Z2v{m:Zf}{sizes:WL}{q:Zc}{out:List Zd}{M a:Int}(h:VP M=[a]):VW m sizes q out M=[Ir m sizes q M a]:=by unfold VW;rw[h]
def Z2w{m:Zf}{sizes:WL}{q:Zc}{out:List Zd}{M:Int}(h:(VP M).length≠1):VW m sizes q out M=(Tq m sizes M out (VF q M)).filter sm:=by
 unfold VW
 grind
def Z2x{m:Zf}{sizes:WL}{a b:Zd}{k v o:Int}(ho:-1<=o/\o<=3)(hM:At a.Mask b.Mask≠0){mine:List Zd}(h5:mine.length=5):(U6 m sizes a b k v o mine).filter sm≠[]:=by
 refine List.ne_nil_of_mem (a:=Wb ((mine[(o+1).toNat]?).getD zE) (At a.Mask b.Mask) o (jc m sizes a b k) (Ve a.Ze.Steps b.Ze.Steps k v)) (CR.2 ⟨?_,Oo hM⟩);unfold U6
 grind [List.mem_set]
def ZD4{m:Zf}{sizes:WL}{b:Zd}:∀{E c:List Zd},(∀e∈E,(-1<=e.Order/\e.Order<=3)/\At e.Mask b.Mask≠0)->c.length=5->c.filter sm≠[]->(E.foldl (Jd m sizes b) c).filter sm≠[]
 |[],_,_,_,h=>h
 |e::E,c,he,h5,h=>by
  rw[Yv];obtain⟨e1,e2⟩:=he e Om;exact ZD4 (λx hx=>he x (by simp[hx])) (by rw[show(Jd m sizes b c e).length=c.length from K3];exact h5) (Z2x e1 e2 h5)
def ZD5{m:Zf}{sizes:WL}{A B:Int}{E F:List Zd}:∀{sh:WL} {c:List Zd},(∀v∈sh,(-1<=v/\v<=3)/\At (inp m sizes A E v).Mask (inp m sizes B F v).Mask≠0)->c.length=5->c.filter sm≠[]->(sh.foldl (JT m sizes A B E F) c).filter sm≠[]
 |[],_,_,_,h=>h
 |v::sh,c,he,h5,h=>by
  rw[Yv];obtain⟨e1,e2⟩:=he v Om;exact ZD5 (λx hx=>he x (by simp[hx])) (by rw[show(JT m sizes A B E F c v).length=c.length from K3];exact h5) (Z2x e1 e2 h5)
def ZQg{m:Zf}{sizes:WL}{qa:List Zg}{M:Int}{l:List Zd}{p:Int×WL}(hM:M≠0)(hg:Wi m.Sort_)(c:Um sizes)(o:Ov m sizes qa l M p.1 p.2){mine:List Zd}(h5:mine.length=5):(K4 m sizes M l mine p).filter sm≠[]:=by
 have hp:=o.pair;unfold K4 Ou;refine ZD5 (λv hv=>⟨(o.vars v hv).1,?_⟩) (by rw[Zrc,K3];exact h5) (ZD4 (λe he=>⟨o.left.ord e he,?_⟩) (by rw[K3];exact h5) (Z2x Z ?_ h5))
 .rw[(Iq o.left hg c hp.a16 (o.vars v hv).2.1).1,(Iq o.right hg c hp.b16 (o.vars v hv).2.2).1,hp.or];exact hM
 .rw[o.left.mask e he,o.right.mask _ o.right.best,hp.or];exact hM
 .rw[o.left.mask _ o.left.best,o.right.mask _ o.right.best,hp.or];exact hM
def ZD6{m:Zf}{sizes:WL}{qa:List Zg}{M:Int}{l:List Zd}(hM:M≠0)(hg:Wi m.Sort_)(cc:Um sizes):∀{ps:List (Int×WL)} {c:List Zd},(∀p∈ps,Ov m sizes qa l M p.1 p.2)->c.length=5->(ps≠[]\/c.filter sm≠[])->(ps.foldl (K4 m sizes M l) c).filter sm≠[]
 |[],_,_,_,h=>by rcases h with h|h;exact absurd rfl h;exact h
 |p::ps,c,hp,h5,_=>by
  rw[Yv];exact ZD6 hM hg cc (λx hx=>hp x (by simp[hx])) (by rw[show(K4 m sizes M l c p).length=c.length from ZDx];exact h5) (.inr (ZQg hM hg cc (hp p Om) h5))
structure Inv (m:Zf) (sizes:WL) (q:Zc) (done:WL) (out:List Zd):Prop where
 held:∀M∈done,WB m sizes q.Atoms M (ofM out M)
 only:∀e∈out,e.Mask∈done
 len:out.length<=5*done.length
def ZQh{q:Zc}(hv:Zx q.Zh q.Atoms=true){A B:Int}:∀v∈Vb q A B,(-1<=v/\v<=3)/\Bj q.Atoms A v=true/\Bj q.Atoms B v=true:=by
 intro v hvm;unfold Vb at hvm;rw[CR]at hvm;obtain⟨h1,h2⟩:=hvm;rw[Ko]at h2;have key:∀m,v∈XE q m->(0<=v/\v<=3)/\Bj q.Atoms m v=true:=by
  intro m hm;unfold XE Xw at hm;rw[Yn]at hm;obtain⟨u,hu,rfl⟩:=hm;rw[CR,Y3]at hu;have hn:=QE hv;refine⟨Z,?_⟩;unfold Bj;rw[Yg];exact⟨by simp[Al];omega,by rw[Yh];exact hu.2⟩
 grind
def ZQi{q:Zc}(hv:Zx q.Zh q.Atoms=true)(A B:Int):(Vb q A B).length<=1000:=by
 have:=Gp q hv A;unfold Vb
 grind
def Z2y{q:Zc}{sizes:WL}(c:WT q.Zh q.Atoms sizes=true){M:Int}(h:MQ q.Atoms M):Jf sizes M:=by
 unfold WT at c;simp only[Yg,decide_eq_true_eq]at c;have hf:=Qs c.1.1;have h1:=h.1;have h2:=h.2;have hl:M.toNat<sizes.length:=by omega
 refine⟨h1,?_⟩;unfold Z6
 simp_all
def Z2z{qa:List Zg}{M A:Int}(hM:MQ qa M)(h:A∈ZL qa M):MQ qa A/\MQ qa (M-A):=by
 obtain⟨h1,h2,_⟩:=qE h;omega
def Z20{m:Zf}{q:Zc}{sizes:WL}(b:Vm m q sizes){done:WL}{out:List Zd}(hi:Inv m sizes q done out){M:Int}(hM:MQ q.Atoms M)(hc:XY q.Atoms M=true)(hd:∀A∈ZL q.Atoms M,A∈done/\M-A∈done):∀p∈VF q M,Ov m sizes q.Atoms out M p.1 p.2:=by
 intro p hp;unfold VF at hp;rw[Yn]at hp;obtain⟨A,hA,rfl⟩:=hp;obtain⟨d1,d2⟩:=hd A hA;obtain⟨q1,q2⟩:=Z2z hM hA;exact⟨ZPV b.hv hM hc hA,hi.held A d1,hi.held _ d2,Z2y b.hsv q1,Z2y b.hsv q2,ZQi b.hv _ _,ZQh b.hv⟩
def Z21{m:Zf}{q:Zc}{sizes:WL}(b:Vm m q sizes){done:WL}{out:List Zd}(hi:Inv m sizes q done out){M:Int}(hM:MQ q.Atoms M)(h0:M≠0)(hc:XY q.Atoms M=true)(hd:∀A∈ZL q.Atoms M,A∈done/\M-A∈done):WB m sizes q.Atoms M (VW m sizes q out M):=by
 have h16:=(hM.m16 b.hv).1
 cases ho:K0 (AP M)with
 |true =>
  obtain⟨i,hi4,ha,rfl⟩:=Z2t h16 ho;rw[Z2v ha];have hl:i<q.Atoms.length:=by
   have h2:=hM.2;have hl4:=W1 b.hv;have e:Ac 1 (i:Nat)=2 ^ i:=by
    have:i=0\/i=1\/i=2\/i=3:=by omega
    rcases this with rfl|rfl|rfl|rfl<;>decide
   rw[e]at h2;have h3:(2:Int) ^ i<2 ^ q.Atoms.length:=h2;rw[<-QJ,<-QJ]at h3;have h4:2 ^ i<2 ^ q.Atoms.length:=by omega
   simp_all [Nat.pow_lt_pow_iff_right]
  have hmk:=ZPG (m:=m) (sizes:=sizes) hl;have hu:=Ot m.Scan (Z6 sizes (Ac 1 i)) 0 (Z6 sizes (Ac 1 i));rw[Xn Z Z]at hmk;have hvar:=MH b.hv _ (Yf hl);have he:Ir m sizes q (Ac 1 i) (i:Int)=⟨Ac 1 i,q.Atoms[i].Vars.headD 0,XL m.Scan (Z6 sizes (Ac 1 i)) 0 (Z6 sizes (Ac 1 i)),⟨[⟨1,i,0⟩]⟩⟩:=by
   simp[Ir,Yd hl]
  have hpop:Xa (Ac 1 (i:Nat))=1:=by
   have:i=0\/i=1\/i=2\/i=3:=by omega
   rcases this with rfl|rfl|rfl|rfl<;>decide
  have hord:0<=q.Atoms[i].Vars.headD 0/\q.Atoms[i].Vars.headD 0<=3:=by
   cases hvs:q.Atoms[i].Vars with
   |nil=>rw[hvs]at hvar;simp at hvar
   |cons v vs =>
    have:=ZpY b.hv _ (Yf hl) v (by rw[hvs];simp);have hn:=QE b.hv;simp[Al]at this
    grind
  rw[he];refine⟨Om,Om,?_,?_,?_,?_⟩
  .simp
  .grind
  .simp_all
  .simp_all
 |false =>
  rw[Z2w (Z2u h16 ho)];have ok:=Z20 b hi hM hc hd;have hne:=ZPW b.hv hM h0 hc ho;refine ZPR (Z2r b.hg b.hcl ok (ZDy m sizes q.Atoms M)) (ZD6 h0 b.hg b.hcl ok Om (.inl ?_));unfold VF
  simp_all
def ZD7(a b:List Zd)(M:Int):ofM (a++b) M=ofM a M++ofM b M:=by simp[ofM]
def ZQj{l:List Zd}{M:Int}(h:∀e∈l,e.Mask=M):ofM l M=l:=by
 unfold ofM
 simp_all
def ZD8{l:List Zd}{M:Int}(h:∀e∈l,e.Mask≠M):ofM l M=[]:=by
 unfold ofM
 simp_all
def ZD9{m:Zf}{q:Zc}{sizes:WL}(b:Vm m q sizes){done:WL}{out:List Zd}(hi:Inv m sizes q done out){M:Int}(hM:MQ q.Atoms M)(h0:M≠0)(hc:XY q.Atoms M=true)(hd:∀A∈ZL q.Atoms M,A∈done/\M-A∈done)(hn:M ∉ done) :
  Inv m sizes q (done++[M]) (out++VW m sizes q out M)/\(∀A∈done,ofM (out++VW m sizes q out M) A=ofM out A)/\ofM (out++VW m sizes q out M) M=VW m sizes q out M:=by
 have hh:=Z21 b hi hM h0 hc hd;have e1:∀A∈done,ofM (out++VW m sizes q out M) A=ofM out A:=by
  intro A hA;rw[ZD7,ZD8 (l:=VW m sizes q out M),E0];intro e he;rw[hh.mask e he]
  grind
 have e2:ofM (out++VW m sizes q out M) M=VW m sizes q out M:=by
  rw[ZD7,ZQj hh.mask,ZD8 (l:=out),EZ];intro e he h;exact hn (h▸hi.only e he)
 refine⟨⟨?_,?_,?_⟩,e1,e2⟩
 .intro A hA;rcases Yl.1 hA with hA|hA
  .rw[e1 A hA];exact hi.held A hA
  .simp_all
 .intro e he;rcases Yl.1 he with he|he
  .exact GL _ (hi.only e he)
  .rw[hh.mask e he];simp
 .have:=hh.le;have:=hi.len
  grind
theorem Ts{qa:List Zg}{M:Int}:M∈Z2 qa↔1<=M/\M<2 ^ qa.length/\XY qa M=true:=by
 unfold Z2 Kt;rw[Yn];have hp:=QJ qa.length;constructor
 .grind
 .rintro⟨h1,h2,h3⟩;refine⟨M.toNat,?_,Z⟩
  grind
theorem Zrd(qa:List Zg):(Z2 qa).Pairwise (·<·):=by
 unfold Z2 Kt;simp[List.pairwise_map,List.Pairwise.filter,List.pairwise_lt_range']
def Zre{n:Int}{qa:List Zg}(hv:Zx n qa=true):(Z2 qa).length<=15:=by
 have h16:2 ^ qa.length<=16:=Nat.pow_le_pow_right (Z:0<2) (W1 hv).2;have:=ZMu (qa:=qa) (k:=1) (n:=2 ^ qa.length-1);unfold Z2;omega
theorem ZQk{Ms:WL}(hu:Ms.Pairwise (·<·)){i:Nat}(hi:i<Ms.length){A:Int}(hA:A∈Ms)(h:A<Ms[i]):A∈Ms.take i:=by
 grind [List.mem_iff_getElem,List.pairwise_iff_getElem,Nat.lt_trichotomy,List.mem_take_iff_getElem]
theorem Z22{Ms:WL}(hu:Ms.Pairwise (·<·)){i:Nat}(hi:i<Ms.length):Ms[i] ∉ Ms.take i:=by
 grind [List.mem_take_iff_getElem,List.pairwise_iff_getElem]
def Xt(m:Zf)(sizes:WL)(q:Zc):Nat->List Zd
 |0=>[]
 |i+1=>Xt m sizes q i++VW m sizes q (Xt m sizes q i) ((Z2 q.Atoms).getD i 0)
def Tt{q:Zc}{i:Nat}(hi:i<(Z2 q.Atoms).length):MQ q.Atoms (Z2 q.Atoms)[i]/\(Z2 q.Atoms)[i]≠0/\XY q.Atoms (Z2 q.Atoms)[i]=true/\∀A∈ZL q.Atoms (Z2 q.Atoms)[i],A∈(Z2 q.Atoms).take i/\(Z2 q.Atoms)[i]-A∈(Z2 q.Atoms).take i:=by
 obtain⟨h1,h2,h3⟩:=Ts.1 (Yf hi);refine⟨⟨Z,h2⟩,Z,h3,?_⟩;intro A hA;obtain⟨a1,a2,a3,a4,a5⟩:=qE hA
 grind [ZQk,Zrd,Ts]
def Tu{m:Zf}{q:Zc}{sizes:WL}(b:Vm m q sizes):∀i,i<=(Z2 q.Atoms).length->Inv m sizes q ((Z2 q.Atoms).take i) (Xt m sizes q i)
 |0,_=>⟨Om,by simp[Xt],by simp[Xt]⟩
 |i+1,h=>by
  have hi:i<(Z2 q.Atoms).length:=by omega
  obtain⟨c1,c2,c3,c4⟩:=Tt hi;have:=(ZD9 b (Tu b i Z) c1 c2 c3 c4 (Z22 (Zrd _) hi)).1;rw[Xt,Y0 hi]
  simp_all
def Ow{m:Zf}{q:Zc}{sizes:WL}(b:Vm m q sizes){i:Nat}(hi:i<=(Z2 q.Atoms).length):(Xt m sizes q i).length<=75:=by
 have h1:=(Tu b i hi).len;have h2:=Zre b.hv
 grind
def ZQl{M v c:Int}{x:List Zk}(hM:M≠0)(hv:0<=v/\v<=3):[X2 0 zE M v c x,X2 1 zE M v c x,X2 2 zE M v c x,X2 3 zE M v c x,X2 4 zE M v c x].filter sm=[⟨M,v,c,⟨x⟩⟩]:=by
 have h:v=0\/v=1\/v=2\/v=3:=by omega
 rcases h with rfl|rfl|rfl|rfl<;>simp[X2,Wb,sm,zE,hM]
def ZQm:∀(i:Fin 4) (a:Fin 16),1<=a.1->(a.1:Int)<Ac 1 (i.1:Nat)->Ah (a.1:Int) (Ac 1 (i.1:Nat))≠a.1:=by decide
def ZQn{qa:List Zg}{i:Nat}(hi:i<4):ZL qa (Ac 1 i)=[]:=by
 cases h:ZL qa (Ac 1 i)with
 |nil=>rfl
 |cons A l =>
  exfalso;obtain⟨h1,h2,h3,_⟩:=qE (qa:=qa) (M:=Ac 1 i) (A:=A) (by rw[h];simp);have h16:AU (Ac 1 (i:Nat)):=(ZAH ⟨i,hi⟩ ⟨0,Z⟩).2;obtain⟨a,rfl⟩:=m16 (x:=A) Z;exact ZQm ⟨i,hi⟩ a Z h2 h3
def ZQo{E:List Zd}(h:E≠[]):flat (E.map Zd.c)=false:=by
 cases E with
 |nil=>exact absurd rfl h
 |cons e E=>simp[flat,Zd.c,X5]
def ZQp{qa:List Zg}{n:Int}(hv:Zx n qa=true){M A:Int}(hM:MQ qa M)(h:A∈ZL qa M):Z4 M A=M-A:=by
 obtain⟨h1,h2,h3,_⟩:=qE h;have h16:=(hM.m16 hv).1;obtain⟨a,rfl⟩:=m16 (x:=A) Z
 grind [m16,ZAS]
def ZQq(fr:Bool)(out:List Zd)(hl:out.length<=1000)(hs:∀e∈out,e.Ze.Steps.length<=1000):∀i,i<=out.length->jA fr out out.length i=some (.own 0,[.arr 77 4 fr (out.map Zd.c)]):=by
 refine down _ ?_ ?_
 .simp[JA.2.1]
 .intro i hi ih;have h4:=Z7 (i:=i) Z;have hw:w ((i:Int)+1)=((i+1:Nat):Int):=by rw[show w ((i:Int)+1)=(i:Int)+1 from h4];simp
  apply JA.2.1
  simp_all [Yh,Yd,ZqW,Yf,qD]
def Inv.steps{m:Zf}{q:Zc}{sizes done:WL}{out:List Zd}(h:Inv m sizes q done out)(c:∀M∈done,AU M):∀e∈out,e.Ze.Steps.length<=1000:=by
 intro e he;have hd:=h.only e he;have hh:=(h.held _ hd).len e (CR.2 ⟨he,Om⟩)
 grind [Un]
def ZQr{n:Int}{qa:List Zg}(hv:Zx n qa=true):∀M∈Z2 qa,AU M:=by
 intro M hM;obtain⟨h1,h2,_⟩:=Ts.1 hM;exact(MQ.m16 hv ⟨Z,h2⟩).1
def qJ{m:Zf}{q:Zc}{sizes:WL}(b:Vm m q sizes){i:Nat}(hi:i<=(Z2 q.Atoms).length):∀e∈Xt m sizes q i,e.Ze.Steps.length<=1000 :=
 (Tu b i hi).steps λM hM=>ZQr b.hv M (DC hM)
def ZQs{m:Zf}{q:Zc}{sizes:WL}(b:Vm m q sizes):∀i,i<=(Z2 q.Atoms).length->∀(cc:List (List Zd)) (fr fr1:Bool),cc.length=2 ^ q.Atoms.length->(∀M∈(Z2 q.Atoms).take i,cc[M.toNat]?=some (ofM (Xt m sizes q i) M))->(i=(Z2 q.Atoms).length->fr1=false)->
  HO m q fr cc fr1 (Xt m sizes q i) (Z2 q.Atoms) sizes (Z2 q.Atoms).length i=some (.own 0,[.arr 77 4 false ((Xt m sizes q (Z2 q.Atoms).length).map Zd.c)]):=by
 have hcl:=Zre b.hv;refine down _ ?_ ?_
 .intro cc fr fr1 _ _ hf;rw[hf rfl];apply JA.1.1;rw[Ao];exact ZQq false _ (by have:=Ow b (Yj (Z2 q.Atoms).length);omega) (qJ b (Yj _)) 0 (Yc _)
 .intro i hi ih cc fr fr1 htl hT hf;have h4:=Z7 (i:=i) Z;have hw:w ((i:Int)+1)=((i+1:Nat):Int):=by rw[show w ((i:Int)+1)=(i:Int)+1 from h4];simp
  obtain⟨c1,c2,c3,c4⟩:=Tt hi;have hinv:=Tu b i Z;have hstep:=ZD9 b hinv c1 c2 c3 c4 (Z22 (Zrd _) hi);have Do:=Z21 b hinv c1 c2 c3 c4;have hnext:Xt m sizes q (i+1)=Xt m sizes q i++VW m sizes q (Xt m sizes q i) (Z2 q.Atoms)[i]:=by
   rw[Xt]
   simp_all
  have hlen:=Ow b (i:=i) Z;have h16:=(c1.m16 b.hv).1;have hpw:=QJ q.Atoms.length;have hMt:(Z2 q.Atoms)[i].toNat<cc.length:=by have:=c1.1;have:=c1.2;omega
  have key:∀f1 E,E=VW m sizes q (Xt m sizes q i) (Z2 q.Atoms)[i]->HO m q f1 (cc.set (Z2 q.Atoms)[i].toNat E) (fr1 && flat (E.map Zd.c)) (Xt m sizes q i++E) (Z2 q.Atoms) sizes (Z2 q.Atoms).length (w ((i:Int)+1))=some (.own 0,[.arr 77 4 false ((Xt m sizes q (Z2 q.Atoms).length).map Zd.c)]):=by
   intro f1 E hE;subst hE;rw[hw,ZQo Do.ne,Bool.and_false,<-hnext]
   grind [List.length_set,List.take_succ_eq_append_getElem,Z22,Zrd,Ts]
  have hget:(Z2 q.Atoms)[i]?=some (Z2 q.Atoms)[i]:=Yd hi;generalize (Z2 q.Atoms)[i]=M at *
  have hic:XM q.Zh q.Atoms M=true:=by
   unfold XM;rw[b.hv,c3,Qs b.hv];have h1:=c1.1;have h2:=c1.2;simp[Al,c2,h1];omega
  have e1:(VF q M).map Prod.fst=ZL q.Atoms M:=by
   unfold VF;rw[List.map_map];exact List.map_id _
  have e2:(VF q M).length=(ZL q.Atoms M).length:=by unfold VF;rw[DL]
  have hps:(VF q M).length<=100:=by rw[e2];have:=Z2o (qa:=q.Atoms) h16;omega
  have hok:∀p∈VF q M,ZD2 m q sizes (Xt m sizes q i) cc M p.1 p.2:=by
   intro p hp;have o:=Z20 b hinv c1 c3 c4 p hp;unfold VF at hp;rw[Yn]at hp;obtain⟨A,hA,rfl⟩:=hp;have hd:=ZQp b.hv c1 hA;obtain⟨q1,q2⟩:=Z2z c1 hA;refine⟨o,hd,?_,hT A (c4 A hA).1,hT _ (c4 A hA).2⟩;rw[hd];exact ZM7 q b.hq b.hv A (M-A) q1 q2
  have hgo:∀a0 a1 a2 a3 a4:Zd,((VF q M).foldl (K4 m sizes M (Xt m sizes q i)) [a0,a1,a2,a3,a4]).filter sm=VW m sizes q (Xt m sizes q i) M->
    Mk m q fr cc fr1 (Xt m sizes q i) m q sizes M a0 a1 a2 a3 a4 (sm a0) (sm a1) (sm a2) (sm a3) (sm a4) (Z2 q.Atoms) (ZL q.Atoms M) sizes M (Z2 q.Atoms).length i (ZL q.Atoms M).length 0=some (.own 0,[.arr 77 4 false ((Xt m sizes q (Z2 q.Atoms).length).map Zd.c)]):=by
   intro a0 a1 a2 a3 a4 hE;have:=ZQf b h16 c2 cc hMt (Xt m sizes q i) Z (VF q M) hps hok fr fr1 (Z2 q.Atoms) (Z2 q.Atoms).length i _ 0 (Yc _) a0 a1 a2 a3 a4 (λf1 E h=>key f1 E (by rw[Yo,hE]at h;exact h.symm))
   simp_all
  apply JA.1.1;rw[An];refine⟨Z,M,by rw[Yh];exact hget,.inr ⟨VP M,ZM3 h16,?_⟩⟩
  cases ho:K0 (AP M)with
  |true =>
   obtain⟨j,hj4,ha,hMj⟩:=Z2t h16 ho;have hent:=Z2v (m:=m) (sizes:=sizes) (q:=q) (out:=Xt m sizes q i) ha;have hE:=Do;rw[hent]at hE;have hlen1:=hE.len _ (List.mem_singleton.2 rfl);have hmk:=hE.makes _ (List.mem_singleton.2 rfl);have hod:=hE.ord _ (List.mem_singleton.2 rfl);have hjl:j<q.Atoms.length:=by
    have h2:=c1.2;have e:Ac 1 (j:Nat)=2 ^ j:=by
     have:j=0\/j=1\/j=2\/j=3:=by omega
     rcases this with rfl|rfl|rfl|rfl<;>decide
    rw[hMj,e]at h2;have h3:(2:Int) ^ j<2 ^ q.Atoms.length:=h2;rw[<-QJ,<-QJ]at h3;exact(Nat.pow_lt_pow_iff_right Z).1 (Z:2 ^ j<2 ^ q.Atoms.length)
   have hvar:=MH b.hv _ (Yf hjl);obtain⟨v,vs,hvs⟩:∃v vs,q.Atoms[j].Vars=v::vs:=by
    cases hh:q.Atoms[j].Vars with
    |nil=>rw[hh]at hvar;simp at hvar
    |cons v vs=>exact⟨v,vs,rfl⟩
   have hv3:0<=v/\v<=3:=by
    have:=ZpY b.hv _ (Yf hjl) v (by rw[hvs];simp);have hn:=QE b.hv;simp[Al]at this;omega
   have hse:Ir m sizes q M (j:Int)=⟨M,v,XL m.Scan (Z6 sizes M) 0 (Z6 sizes M),⟨[⟨1,j,0⟩]⟩⟩:=by
    simp[Ir,Yd hjl,hvs]
   rw[hse]at hmk;have A4:=XA.cost hmk b.hv Om b.hsv;obtain⟨t,ht,hx⟩:=ZDj m b.hm q b.hq sizes b.hs M c2 zE zE zE zE zE [⟨1,j,0⟩] v Z _ A4;rw[show sm zE=false from rfl]at hx
   have hnx:=hgo _ _ _ _ _ (by
    have hsp:VF q M=[]:=by unfold VF;rw[hMj,ZQn hj4];rfl
    rw[hsp,List.foldl_nil,hent,hse]
    exact ZQl (c:=XL m.Scan (Z6 sizes M) 0 (Z6 sizes M)) (x:=[⟨1,j,0⟩]) c2 hv3)
   rw[ha,Ya Om];refine⟨(j:Int),rfl,_,ZP7 _,Z,q.Atoms[j],by rw[Yh];exact Yd hjl,v,by rw[hvs];rfl,?_⟩;rcases ht with rfl|rfl
   .exact .inl ⟨m,q,sizes,M,_,_,_,_,_,_,_,_,_,_,hx,.inr ⟨_,Z1g q b.hq M hic,hnx⟩⟩
   .exact .inr ⟨m,q,sizes,M,_,_,_,_,_,_,_,_,_,_,_,hx,.inr ⟨_,Z1g q b.hq M hic,hnx⟩⟩
  |false =>
   have hne:=Z2u h16 ho;rw[Ao];have hnx:=hgo zE zE zE zE zE (by rw[Z2w hne];rfl);rw[show sm zE=false from rfl]at hnx;exact .inr ⟨_,Z1g q b.hq M hic,hnx⟩
def ZQt{m:Zf}{q:Zc}{sizes:WL}(b:Vm m q sizes)(ha:Va m):Sk m q sizes=some (.own 0,[.arr 77 4 false ((Xt m sizes q (Z2 q.Atoms).length).map Zd.c)]):=by
 have hf:=Qs b.hv;have hpw:=QJ q.Atoms.length;have h16:2 ^ q.Atoms.length<=16:=Nat.pow_le_pow_right (Z:0<2) (W1 b.hv).2;have hp1:1<=2 ^ q.Atoms.length:=Nat.one_le_two_pow;have e1:w (Z3 q.Zh q.Atoms+1)=2 ^ q.Atoms.length:=by rw[Xn Z Z];omega
 have hr:room=140737488355328:=rfl;refine ZLm _ _ _ _ ⟨_,ZAG m b.hm,?_⟩;rw[Ya (by simpa using ha)];refine⟨_,ZCO q b.hq sizes b.hs,?_⟩;rw[Ya b.hsv];refine⟨_,H4 q b.hq,?_⟩;rw[e1];have e2:((2:Int) ^ q.Atoms.length).toNat=2 ^ q.Atoms.length:=by omega
 rw[e2];refine⟨Z,Z,by rw[hr];omega,Z,_,ZMw q b.hq b.hv,?_⟩;refine ZQs b 0 (Yc _) _ true true Om Om ?_;intro h;exfalso
 have:(1:Int)∈Z2 q.Atoms:=by
  refine Ts.2 ⟨Z,?_,?_⟩
  .have:2 ^ 1<=2 ^ q.Atoms.length:=Nat.pow_le_pow_right Z (W1 b.hv).1
   omega
  .have h1:=ZqV b.hv (true,false,false,false);rw[show Bt (true,false,false,false)=1 from rfl]at h1;rw[h1];have key:∀a b c d e f:Bool,∀n:Fin 5,VD ⟨a,b,c,d,e,f⟩ n.1 (true,false,false,false)=true:=by decide
   exact key _ _ _ _ _ _ ⟨q.Atoms.length,by have:=(W1 b.hv).2;omega⟩
 grind
def JU(q:Zc)(M:Int):WA:=(ZL q.Atoms M).map λA=>Vb q A (M-A)
def Qg(q:Zc)(M:Int):ZX:=⟨M,ZL q.Atoms M,JU q M⟩
def shapes(q:Zc):List ZX:=(Z2 q.Atoms).map (Qg q)
def ZQu{q:Zc}(hv:Zx q.Zh q.Atoms=true){M:Int}(c1:MQ q.Atoms M)(c2:M≠0)(c3:XY q.Atoms M=true):XM q.Zh q.Atoms M=true:=by
 unfold XM;rw[hv,c3,Qs hv];have h1:=c1.1;have h2:=c1.2;simp[Al,c2,h1];omega
section
variable(q:Zc)(hq:AI q)(hv:Zx q.Zh q.Atoms=true)
include hq hv
theorem ZDA{M:Int}(hM:MQ q.Atoms M){A:Int}(hA:A∈ZL q.Atoms M):Jz q A (w (M-A))=some (.own 0,[.arr 3 1 true ((Vb q A (M-A)).map ic)]):=by
 obtain⟨q1,q2⟩:=Z2z hM hA;have h16:=(q2.m16 hv).1
 grind [Xn,Z1i]
theorem ZQv(out:List ZX)(c:out.length<=1000){i:Nat}(hi:i<(Z2 q.Atoms).length)(r:XS)(h:Hx q (out++[Qg q (Z2 q.Atoms)[i]]) (Z2 q.Atoms) (w ((i:Int)+1))=some r) :
  ∀k,k<=(ZL q.Atoms (Z2 q.Atoms)[i]).length->fJ q out (Z2 q.Atoms) (Z2 q.Atoms)[i] (ZL q.Atoms (Z2 q.Atoms)[i]) ((JU q (Z2 q.Atoms)[i]).take k) i k=some r:=by
 obtain⟨c1,c2,c3,c4⟩:=Tt hi;have hsl:=Z2o (qa:=q.Atoms) (c1.m16 hv).1;have hlen:(JU q (Z2 q.Atoms)[i]).length=(ZL q.Atoms (Z2 q.Atoms)[i]).length:=by simp[JU]
 refine down _ ?_ ?_
 .apply WY.1.2.1.2;rw[Ao];refine⟨Z,?_⟩;rw[<-hlen,Yq];exact h
 .intro k hk ih;have h4:=Z7 (i:=k) Z;have hw:w ((k:Int)+1)=((k+1:Nat):Int):=by rw[show w ((k:Int)+1)=(k:Int)+1 from h4];simp
  apply WY.1.2.1.2;rw[An,hw];refine⟨Z,_,by rw[Yh];exact Yd hk,Z,_,by rw[Yh];exact Yd hi,_,ZDA q hq hv c1 (Yf hk),?_,?_⟩
  .grind
  .rw[Y0 Z]at ih;simpa[JU]using ih
theorem ZQw(out:List ZX)(c:out.length<=1000){i:Nat}(hi:i<(Z2 q.Atoms).length)(r:XS)(h:Hx q (out++[Qg q (Z2 q.Atoms)[i]]) (Z2 q.Atoms) (w ((i:Int)+1))=some r) :
  zG q out (Z2 q.Atoms) (Z2 q.Atoms)[i] (ZL q.Atoms (Z2 q.Atoms)[i]) i 0=some r:=by
 obtain⟨c1,c2,c3,c4⟩:=Tt hi;apply WY.1.2.1.1;by_cases h0:(ZL q.Atoms (Z2 q.Atoms)[i]).length=0
 .rw[Ao];refine⟨Z,?_⟩
  have:Qg q (Z2 q.Atoms)[i]=⟨(Z2 q.Atoms)[i],ZL q.Atoms (Z2 q.Atoms)[i],[]⟩:=by
   unfold Qg JU
   simp_all
  rw[<-this];exact h
 .rw[An];have hk:0<(ZL q.Atoms (Z2 q.Atoms)[i]).length:=by omega
  have:=ZQv q hq hv out c hi r h 1 Z;refine⟨Z,_,Yd hk,Z,_,by rw[Yh];exact Yd hi,_,ZDA q hq hv c1 (Yf hk),?_⟩;rw[show w ((0:Int)+1)=((1:Nat):Int)from by decide];have e:(JU q (Z2 q.Atoms)[i]).take 1=[Vb q (ZL q.Atoms (Z2 q.Atoms)[i])[0] ((Z2 q.Atoms)[i]-(ZL q.Atoms (Z2 q.Atoms)[i])[0])]:=by
   rw[Y0 (by simp[JU];omega)];simp[JU]
  simp_all
theorem ZQx:∀i,i<=(Z2 q.Atoms).length->Hx q ((shapes q).take i) (Z2 q.Atoms) i=some (.own 0,[.arr 108 3 true ((shapes q).map ZX.c)]):=by
 have hcl:=Zre hv;have hlen:(shapes q).length=(Z2 q.Atoms).length:=by simp[shapes]
 refine down _ ?_ ?_
 .grind [WY.1.1.2.2,List.take_length]
 .intro i hi ih;have h4:=Z7 (i:=i) Z;have hw:w ((i:Int)+1)=((i+1:Nat):Int):=by rw[show w ((i:Int)+1)=(i:Int)+1 from h4];simp
  obtain⟨c1,c2,c3,c4⟩:=Tt hi;apply WY.1.1.2.2;rw[An];refine⟨Z,_,by rw[Yh];exact Yd hi,_,ZM1 q hq _ (ZQu hv c1 c2 c3),?_⟩;refine ZQw q hq hv _ (by rw[Yy];omega) hi _ ?_;rw[hw];rw[Y0 Z]at ih;simpa[shapes]using ih
theorem Z23:Hw q=some (.own 0,[.arr 108 3 true ((shapes q).map ZX.c)]) :=
 WY.1.2.2.1 _ _ ⟨_,ZMy q hq hv,by simpa using ZQx q hq hv 0 (Yc _)⟩
end
theorem qK:∀a:Fin 16,1<=a.1->(Ah (a.1:Int) (w ((a.1:Int)-1))=0↔K0 (AP (a.1:Int))=true):=by decide
def ZDB{α β:Type}(f:α->β):∀l:List α,l.zip (l.map f)=l.map λa=>(a,f a)
 |[]=>rfl
 |a::l=>by simp[ZDB f l]
def ZQy{m:Zf}{q:Zc}{sizes:WL}(b:Vm m q sizes):∀i,i<=(Z2 q.Atoms).length->∀fr:Bool,∃fr',RN (shapes q) sizes m q fr (Xt m sizes q i) i=some (.own 2,[.arr 108 3 true ((shapes q).map ZX.c),.arr 3 1 true (sizes.map ic),.arr 77 4 fr' ((Xt m sizes q (Z2 q.Atoms).length).map Zd.c)]):=by
 have hcl:=Zre b.hv;have hlen:(shapes q).length=(Z2 q.Atoms).length:=by simp[shapes]
 refine down _ ?_ ?_
 .simp_all [WN.1.2.2.2]
 .intro i hi ih fr;have h4:=Z7 (i:=i) Z;have hw:w ((i:Int)+1)=((i+1:Nat):Int):=by rw[show w ((i:Int)+1)=(i:Int)+1 from h4];simp
  obtain⟨c1,c2,c3,c4⟩:=Tt hi;have hinv:=Tu b i Z;have Do:=Z21 b hinv c1 c2 c3 c4;have hnext:Xt m sizes q (i+1)=Xt m sizes q i++VW m sizes q (Xt m sizes q i) (Z2 q.Atoms)[i]:=by
   rw[Xt]
   simp_all
  have hol:=Ow b (i:=i) Z;have h16:=(c1.m16 b.hv).1;have hget:(shapes q)[i]?=some (Qg q (Z2 q.Atoms)[i]):=by
   unfold shapes
   simp_all
  rw[hnext]at ih;generalize (Z2 q.Atoms)[i]=M at *
  have hz:=Z2y b.hsv c1;have h1:(Ah M (w (M-1))=0↔K0 (AP M)=true):=by
   grind [m16,qK]
  have hle:=Do.le
  cases ho:K0 (AP M)with
  |true =>
   obtain⟨j,hj4,ha,hMj⟩:=Z2t h16 ho;have hent:=Z2v (m:=m) (sizes:=sizes) (q:=q) (out:=Xt m sizes q i) ha;have hjl:j<q.Atoms.length:=by
    have h2:=c1.2;have e:Ac 1 (j:Nat)=2 ^ j:=by
     have:j=0\/j=1\/j=2\/j=3:=by omega
     rcases this with rfl|rfl|rfl|rfl<;>decide
    rw[hMj,e]at h2;have h3:(2:Int) ^ j<2 ^ q.Atoms.length:=h2;rw[<-QJ,<-QJ]at h3;exact(Nat.pow_lt_pow_iff_right Z).1 (Z:2 ^ j<2 ^ q.Atoms.length)
   have hvar:=MH b.hv _ (Yf hjl);obtain⟨v,vs,hvs⟩:∃v vs,q.Atoms[j].Vars=v::vs:=by
    cases hh:q.Atoms[j].Vars with
    |nil=>rw[hh]at hvar;simp at hvar
    |cons v vs=>exact⟨v,vs,rfl⟩
   have hse:Ir m sizes q M (j:Int)=⟨M,v,XL m.Scan (Z6 sizes M) 0 (Z6 sizes M),⟨[⟨1,j,0⟩]⟩⟩:=by
    simp[Ir,Yd hjl,hvs]
   rw[hent,hse]at ih;obtain⟨fr',hr⟩:=ih fr;refine⟨fr',WN.1.2.2.2 _ _ _ _ _ _ _ _ ?_⟩;rw[An];refine⟨Z,_,by rw[Yh];exact hget,?_⟩;have h1':Ah (Qg q M).mask (w ((Qg q M).mask-1))=0:=h1.2 ho;rw[Ya h1',hw];refine⟨_,ZAU h16,(j:Int),by rw[show VP (Qg q M).mask=[(j:Int)]from ha];rfl,Z,q.Atoms[j],by rw[Yh];exact Yd hjl,v,by rw[hvs];rfl,hz.1,_,hz.2,_,KS _ b.hm.1 _ _ _,_,ZP8 _,Z,?_⟩
   exact hr
  |false =>
   have hne:=Z2u h16 ho;have ok:=Z20 b hinv c1 c3 c4;have qP:(Qg q M).ZL.zip (Qg q M).shared=VF q M:=ZDB _ _;have hsl:=Z2o (qa:=q.Atoms) h16;obtain⟨f1,hJ⟩:=ZQb m b.hm b.hg sizes b.hcl q.Atoms fr (Xt m sizes q i) Z (Qg q M) hz h16 (by show 0<M;have:=c1.1;omega) (by simp[Qg,JU]) (by show(ZL q.Atoms M).length<=100;omega) (by rw[qP];exact ok);rw[qP]at hJ;have hent:=Z2w (m:=m) (sizes:=sizes) (q:=q) (out:=Xt m sizes q i) hne;rw[hent]at ih hle;obtain⟨fr',hr⟩:=ih (fr && flat (((Tq m sizes M (Xt m sizes q i) (VF q M)).filter sm).map Zd.c));refine⟨fr',WN.1.2.2.2 _ _ _ _ _ _ _ _ ?_⟩;rw[An];refine⟨Z,_,by rw[Yh];exact hget,?_⟩;have h1':¬Ah (Qg q M).mask (w ((Qg q M).mask-1))=0:=λh=>by have:=h1.1 h;rw[ho]at this;cases this
   rw[Yb h1',hw];exact⟨_,_,hJ,by show(Xt m sizes q i).length+((Tq m sizes M (Xt m sizes q i) (VF q M)).filter sm).length<=68719476736;omega,hr⟩
def Z24{m:Zf}{q:Zc}{sizes:WL}(b:Vm m q sizes):∃fr',J2 (shapes q) sizes m q=some (.own 2,[.arr 108 3 true ((shapes q).map ZX.c),.arr 3 1 true (sizes.map ic),.arr 77 4 fr' ((Xt m sizes q (Z2 q.Atoms).length).map Zd.c)]):=by
 obtain⟨fr',h⟩:=ZQy b 0 (Yc _) true;exact⟨fr',WN.2.1.1 _ _ _ _ _ h⟩
def ZQz(a b c:Int)(fr:Bool)(l:List Zd)(hl:l.length<=1000):∀i,i<=l.length->∀best,So a b c best fr l l.length i=some (.agg (((l.drop i).foldl VV best).c.map .t),[.arr 77 4 fr (l.map Zd.c)]):=by
 refine down _ ?_ ?_
 .simp[H1.1.1]
 .intro i hi ih best;have h4:=Z7 (i:=i) Z;apply H1.1.1;rw[An,Yi hi,Yv];refine⟨Z,l[i],by rw[Yh];exact Yd hi,?_⟩;rw[show w ((i:Int)+1)=((i+1:Nat):Int)from by rw[show w ((i:Int)+1)=(i:Int)+1 from h4];simp];by_cases e:l[i].Cost<best.Cost
  .rw[Ya e,show VV best l[i]=l[i] by simp[VV,e]];exact ih _
  .rw[Yb e,show VV best l[i]=best by simp[VV,e]];exact ih _
def ZQ0(fr:Bool)(l:List Zd)(h0:l≠[])(hl:l.length<=1000):ZpB fr l=some (.agg ((Xe l).c.map .t),[.arr 77 4 fr (l.map Zd.c)]):=by
 cases l with
 |nil=>exact absurd rfl h0
 |cons e l =>
  refine H1.1.2.1 _ _ _ ⟨e,rfl,?_⟩;have:=ZQz 0 0 0 fr (e::l) hl 0 (Yc _) e;simpa[Xe]using this
def Ox(l:List Zd)(mask:Int)(hl:l.length<=1000)(cc:ofM l mask≠[])(hs:∀e∈l,e.Ze.Steps.length<=1000):∀i,i<=l.length->∀fr,Sp 0 0 0 fr (ofM (l.take i) mask) mask l l.length i=some (.tup [.agg [I (Xe (ofM l mask)).Mask,I (Xe (ofM l mask)).Order,I (Xe (ofM l mask)).Cost,.own 0],Bo true],[.arr 149 3 true ((Xe (ofM l mask)).Ze.Steps.map Zk.c)]):=by
 refine down _ ?_ ?_
 .intro fr;apply H1.1.2.2;rw[Ao,Yq];have h1:(ofM l mask).length≠0:=λh=>cc (TD.1 h)
  have h2:(ofM l mask).length<=l.length:=GN _ _;rw[Ao];have hmem:=Z2h cc;exact⟨_,ZQ0 fr _ cc Z,_,ZqW _ (hs _ (CR.1 hmem).1),rfl⟩
 .intro i hi ih fr;have h4:=Z7 (i:=i) Z;have hw:w ((i:Int)+1)=((i+1:Nat):Int):=by rw[show w ((i:Int)+1)=(i:Int)+1 from h4];simp
  rw[ZDk l mask hi]at ih;have h2:(ofM (l.take i) mask).length<=(l.take i).length:=GN _ _;rw[Yy]at h2;apply H1.1.2.2
  grind
def ZQ1(l:List Zd)(mask:Int)(hl:l.length<=1000)(cc:ofM l mask≠[])(hs:∀e∈l,e.Ze.Steps.length<=1000):jB l mask=some (.tup [.agg [I (Xe (ofM l mask)).Mask,I (Xe (ofM l mask)).Order,I (Xe (ofM l mask)).Cost,.own 0],Bo true],[.arr 149 3 true ((Xe (ofM l mask)).Ze.Steps.map Zk.c)]) :=
 H1.2.1 _ _ _ (by simpa[ofM]using Ox l mask hl cc hs 0 (Yc _) true)
def Z25(l:List Zd)(mask:Int)(hl:l.length<=1000)(cc:ofM l mask≠[])(hs:∀e∈l,e.Ze.Steps.length<=1000):Us l mask=some (.tup [.agg [I (Xe (ofM l mask)).Mask,I (Xe (ofM l mask)).Order,I (Xe (ofM l mask)).Cost,.own 0],Bo true],[.arr 149 3 true ((Xe (ofM l mask)).Ze.Steps.map Zk.c)]):=by
 obtain⟨k1,k2⟩:=Zra cc;have hmem:=Z2h cc;have:=hs _ (CR.1 hmem).1;refine WN.2.1.2.1 _ _ _ ⟨_,Tn l mask hl,?_⟩
 grind
def tab(m:Zf)(q:Zc)(sizes:WL):List Zd:=Xt m sizes q (Z2 q.Atoms).length
def opt(m:Zf)(q:Zc)(sizes:WL):Zd:=Xe (ofM (tab m q sizes) (Z3 q.Zh q.Atoms))
def Z26{q:Zc}(hv:Zx q.Zh q.Atoms=true):MQ q.Atoms (Z3 q.Zh q.Atoms):=by
 have:=Qs hv;have:=kQ hv;omega
def Tv{m:Zf}{q:Zc}{sizes:WL}(b:Vm m q sizes)(hc:XM q.Zh q.Atoms (Z3 q.Zh q.Atoms)=true):WB m sizes q.Atoms (Z3 q.Zh q.Atoms) (ofM (tab m q sizes) (Z3 q.Zh q.Atoms)):=by
 refine(Tu b _ (Yj _)).held _ ?_;rw[Yq];have hp:=kQ b.hv;have hq:=Z26 b.hv;unfold XM at hc;simp only[Yg]at hc
 grind [Ts]
def ZQ2{m:Zf}{q:Zc}{sizes:WL}(b:Vm m q sizes)(ha:Va m)(hc:XM q.Zh q.Atoms (Z3 q.Zh q.Atoms)=true):jC m q sizes=some (.tup [.agg [I (opt m q sizes).Mask,I (opt m q sizes).Order,I (opt m q sizes).Cost,.own 0],Bo true],[.arr 149 3 true ((opt m q sizes).Ze.Steps.map Zk.c)]):=by
 have hl:=Ow b (Yj (Z2 q.Atoms).length);refine H1.2.2.1 _ _ _ _ (.inr ⟨_,_,ZQt b ha,_,H4 q b.hq,.inr ⟨_,_,_,_,ZQ1 _ _ Z (Tv b hc).ne (qJ b (Yj _)),rfl⟩⟩)
def ZQ3{m:Zf}{q:Zc}{sizes:WL}(b:Vm m q sizes)(ha:Va m)(hc:XM q.Zh q.Atoms (Z3 q.Zh q.Atoms)=true):jD m q sizes=some (I (opt m q sizes).Cost,[]) :=
 H1.2.2.2 _ _ _ _ (.inr ⟨_,_,_,_,ZQ2 b ha hc,rfl⟩)
def Z27{m:Zf}{q:Zc}{l:WL}(hl:l.length<=4294967296)(h:Xl l=true)(b:Vm m q (ZG l))(ha:Va m)(hc:XM q.Zh q.Atoms (Z3 q.Zh q.Atoms)=true):J9 m q l=some (I (opt m q (ZG l)).Cost,[]):=by
 simp_all [ZAV,W8.1.1.1.1,ZQ3]
def Qw{l:WL}(h:Xl l=true):l.length<=16:=by
 simp only[Xl,Yg,decide_eq_true_eq]at h;omega
def ZQ4{a:Int}(h:0<=a/\a<=7):Al (XJ a) 0 4096=true:=by
 have:a=0\/a=1\/a=2\/a=3\/a=4\/a=5\/a=6\/a=7:=by omega
 rcases this with rfl|rfl|rfl|rfl|rfl|rfl|rfl|rfl<;>decide
def ZDC{m:Zf}(hm:Ba m)(ha:Va m){q:Zc}(hq:AI q)(hv:Zx q.Zh q.Atoms=true){l:WL}(h:Xl l=true)(hl:(l.length:Int)=Z3 q.Zh q.Atoms+1):Vm m q (ZG l):=by
 have hll:(l.length:Int)<=16:=by simp only[Xl,Yg,decide_eq_true_eq]at h;exact h.2
 have hc:=ZPL h;refine⟨hm,ha.2.1,hq,hv,by simp[ZG];omega,hc,?_⟩;unfold WT In;rw[hv]
 have:(ZG l).all (λx=>Al x 0 4096)=true:=by
  rw[Yp];intro s hs;obtain⟨a,h1,rfl⟩:=hc s hs;exact ZQ4 h1
 rw[this];simp[ZG,hl]
def Xg(lo hi:WL)(k:Nat):Int:=hi.getD k 0-lo.getD k 0+1
def Qx(lo hi:WL):Nat->Int->WL->WL
 |0,_,out=>out
 |k+1,idx,out=>Qx lo hi k (idx / Xg lo hi k) (out.set k (lo.getD k 0+idx % Xg lo hi k))
def Uo(lo hi:WL):Nat->Int
 |0=>1
 |k+1=>Uo lo hi k*Xg lo hi k
def WC(b:Box)(idx:Int):WL:=Qx b.Low b.High b.Low.length idx b.Low
def Tw{lo hi:WL}(h:Xr lo hi=true){k:Nat}(hk:k<lo.length):1<=Xg lo hi k/\Xg lo hi k<=8/\lo.getD k 0=lo[k]/\0<=lo.getD k 0/\lo.getD k 0+Xg lo hi k<=8:=by
 obtain⟨b1,b2,b3,b4⟩:=Vp h;have h2:k<hi.length:=by omega
 have:=b4 k hk h2;have e1:lo.getD k 0=lo[k]:=by simp[List.getD,hk]
 have e2:hi.getD k 0=hi[k]:=by simp[List.getD,h2]
 unfold Xg;rw[e1,e2];refine⟨?_,?_,rfl,?_,?_⟩<;>omega
def ZDD{lo hi:WL}(h:Xr lo hi=true):∀k,k<=lo.length->Uo lo hi k*vol (lo.drop k) (hi.drop k)=vol lo hi
 |0,_=>by simp[Uo]
 |k+1,hk=>by
  obtain⟨b1,b2,b3,b4⟩:=Vp h;have ih:=ZDD h k Z;have h2:k<hi.length:=by omega
  rw[Z0T Z h2]at ih;rw[Uo,<-ih,Int.mul_assoc];unfold Xg;rw[show lo.getD k 0=lo[k] by simp[List.getD,show k<lo.length by omega],show hi.getD k 0=hi[k] by simp[List.getD,h2]]
def Z28{lo hi:WL}(h:Xr lo hi=true):Uo lo hi lo.length=vol lo hi:=by
 obtain⟨b1,_⟩:=Vp h;have:=ZDD h lo.length (Yj _);rw[Ym,<-b1,Ym,Z0S,Int.mul_one]at this;rw[<-this,b1]
def Zrf{lo hi:WL}(h:Xr lo hi=true):∀k,k<=lo.length->1<=Uo lo hi k/\Uo lo hi k<=8 ^ k
 |0,_=>by simp[Uo]
 |k+1,hk=>by
  obtain⟨i1,i2⟩:=Zrf h k Z;obtain⟨d1,d2,_⟩:=Tw h (k:=k) Z;rw[Uo];constructor
  .have:=Int.mul_le_mul i1 d1 Z Z;omega
  .have:=Int.mul_le_mul i2 d2 Z (Int.pow_nonneg Z);rw[Int.pow_succ];exact this
def ZDE{lo hi:WL}:∀(k:Nat) (idx:Int) (out:WL),(Qx lo hi k idx out).length=out.length
 |0,_,_=>rfl
 |k+1,idx,out=>by rw[Qx,ZDE k];simp
def ZDF{lo hi:WL}(h:Xr lo hi=true):∀k,k<=lo.length->∀(idx:Int) (out:WL),0<=idx->(∀x∈out,0<=x/\x<=7)->∀x∈Qx lo hi k idx out,0<=x/\x<=7
 |0,_,idx,out,_,ho=>ho
 |k+1,hk,idx,out,h0,ho=>by
  obtain⟨d1,d2,_,d3,d4⟩:=Tw h (k:=k) Z;rw[Qx];refine ZDF h k Z _ _ (Int.ediv_nonneg h0 Z) ?_;intro x hx;rcases Iw hx with hx|hx
  .exact ho x hx
  .have m1:=Int.emod_nonneg idx (show Xg lo hi k≠0 by omega);have m2:=Int.emod_lt_of_pos idx (show 0<Xg lo hi k by omega);omega
def Tx{b:Box}(h:Xr b.Low b.High=true){idx:Int}(h0:0<=idx):Xl (WC b idx)=true/\(WC b idx).length=b.Low.length:=by
 obtain⟨b1,b2,b3,b4⟩:=Vp h;have hlen:(WC b idx).length=b.Low.length:=ZDE _ _ _;refine⟨?_,hlen⟩
 have hin:=ZDF h b.Low.length (Yj _) idx b.Low h0 (λx hx=>by
  obtain⟨i,hi,rfl⟩:=List.mem_iff_getElem.1 hx;have:=b4 i hi Z
  omega)
 unfold Xl JD;rw[Yg,Yp];refine⟨λx hx=>?_,by simp;omega⟩;have:=hin x hx;simp[Al];omega
def WD{x:Int}(h1:-1000000000000000<=x)(h2:x<=1000000000000000):w x=x:=Xn Z Z
def ZDG(b:Box)(h:Xr b.Low b.High=true):∀k,k<=b.Low.length->∀(idx:Int) (out:WL),0<=idx->idx<281474976710656->out.length=b.Low.length->(∀j,j<k->out[j]?=b.Low[j]?)->jF b out idx ((k:Int)-1)=some (.tup [.own 0,Bo true],[.arr 3 1 true ((Qx b.Low b.High k idx out).map ic)])
 |0,_,idx,out,_,_,_,_=>by
  apply W8.1.1.1.2
  rw[Ao];rfl
 |k+1,hk,idx,out,h0,h1,hl,ho=>by
  obtain⟨b1,b2,b3,b4⟩:=Vp h;have hlt:k<b.Low.length:=by omega
  have hlt2:k<b.High.length:=by omega
  obtain⟨d1,d2,e1,d3,d4⟩:=Tw h hlt;have hd:Xg b.Low b.High k=b.High[k]-b.Low[k]+1:=by
   unfold Xg;rw[e1,show b.High.getD k 0=b.High[k] by simp[List.getD,hlt2]]
  have hk1:(((k+1:Nat):Int)-1)=(k:Int):=by omega
  have m1:=Int.emod_nonneg idx (show Xg b.Low b.High k≠0 by omega);have m2:=Int.emod_lt_of_pos idx (show 0<Xg b.Low b.High k by omega);have q1:=Int.ediv_nonneg h0 (show 0<=Xg b.Low b.High k by omega);have q2:idx / Xg b.Low b.High k<=idx:=Int.ediv_le_self _ h0;have g3:=b4 k hlt hlt2;have w1:w (w (b.High[k]-b.Low[k])+1)=Xg b.Low b.High k:=by rw[WD (x:=b.High[k]-b.Low[k]) Z Z,WD Z Z,hd]
  apply W8.1.1.1.2;rw[hk1,An];refine⟨b.High[k],by rw[Yh];exact Yd hlt2,b.Low[k],by rw[Yh];exact Yd hlt,b.Low[k],by rw[Yh,ho k Z];exact Yd hlt,by rw[w1];omega,?_⟩;rw[w1,Yh,Int.tmod_eq_emod_of_nonneg h0,Int.tdiv_eq_ediv_of_nonneg h0,WD (x:=b.Low[k]+idx % Xg b.Low b.High k) Z Z,WD (x:=idx / Xg b.Low b.High k) Z Z,WD (x:=(k:Int)-1) Z Z,<-e1];have ih:=ZDG b h k Z (idx / Xg b.Low b.High k) (out.set k (b.Low.getD k 0+idx % Xg b.Low b.High k)) q1 Z (by simp[hl]) (λj hj=>by rw[List.getElem?_set_ne Z];exact ho j Z);rw[Qx];exact ih
def ZDH(b:Box)(h:Xr b.Low b.High=true):∀k,k<=b.Low.length->∀(idx:Int) (out:WL),0<=idx->idx<Uo b.Low b.High k->out.length=b.Low.length->fK b out idx ((k:Int)-1)=some (.tup [.own 0,Bo true],[.arr 3 1 true ((Qx b.Low b.High k idx out).map ic)])
 |0,_,idx,out,h0,h1,_=>by
  apply WY.1.2.2.2;rw[Uo]at h1
  rw[Ao,Ao];rfl
 |k+1,hk,idx,out,h0,h1,hl=>by
  obtain⟨b1,b2,b3,b4⟩:=Vp h;have hlt:k<b.Low.length:=by omega
  have hlt2:k<b.High.length:=by omega
  obtain⟨d1,d2,e1,d3,d4⟩:=Tw h hlt;have hd:Xg b.Low b.High k=b.High[k]-b.Low[k]+1:=by
   unfold Xg;rw[e1,show b.High.getD k 0=b.High[k] by simp[List.getD,hlt2]]
  have hk1:(((k+1:Nat):Int)-1)=(k:Int):=by omega
  have m1:=Int.emod_nonneg idx (show Xg b.Low b.High k≠0 by omega);have m2:=Int.emod_lt_of_pos idx (show 0<Xg b.Low b.High k by omega);have q1:=Int.ediv_nonneg h0 (show 0<=Xg b.Low b.High k by omega);have q2:idx / Xg b.Low b.High k<=idx:=Int.ediv_le_self _ h0;have hv:=Zrf h (k+1) hk;have hp:=Zqa (show k+1<=16 by omega);have g3:=b4 k hlt hlt2;have w1:w (w (b.High[k]-b.Low[k])+1)=Xg b.Low b.High k:=by rw[WD (x:=b.High[k]-b.Low[k]) Z Z,WD Z Z,hd]
  apply WY.1.2.2.2;rw[hk1,An];refine⟨b.High[k],by rw[Yh];exact Yd hlt2,b.Low[k],by rw[Yh];exact Yd hlt,by rw[w1];omega,out[k],by rw[Yh];exact Yd Z,?_⟩;rw[w1,Yh,Int.tmod_eq_emod_of_nonneg h0,Int.tdiv_eq_ediv_of_nonneg h0,WD (x:=b.Low[k]+idx % Xg b.Low b.High k) Z Z,WD (x:=idx / Xg b.Low b.High k) Z Z,WD (x:=(k:Int)-1) Z Z,<-e1];rw[Uo]at h1;have ih:=ZDH b h k Z (idx / Xg b.Low b.High k) (out.set k (b.Low.getD k 0+idx % Xg b.Low b.High k)) q1 (Int.ediv_lt_of_lt_mul Z h1) (by simp[hl]);rw[Qx];exact ih
def Zrg{lo hi:WL}(h:Xr lo hi=true):1<=vol lo hi/\vol lo hi<=281474976710656:=by
 obtain⟨b1,b2,b3,b4⟩:=Vp h;have h1:=Zrf h lo.length (Yj _);have h2:=Zqa b3;rw[Z28 h]at h1;exact⟨h1.1,Z⟩
def ZQ5(b:Box)(e:Xr b.Low b.High=true):L3 b=some (I (vol b.Low b.High),[]):=by
 have q2:=ZA8 b e 0 (Yc _) 1 Z Sm;exact XC.1.2.1.1 _ _ (by simpa using q2)
def ZQ6(b:Box)(hb:Dl b)(e:Xr b.Low b.High=true){idx:Int}(h0:0<=idx)(h1:idx<vol b.Low b.High):jE b idx=some (.tup [.own 0,Bo true],[.arr 3 1 true ((WC b idx).map ic)]):=by
 obtain⟨b1,b2,b3,b4⟩:=Vp e;obtain⟨v1,v2⟩:=Zrg e;refine W8.1.1.2.1 _ _ _ ⟨_,ZA7 b hb,?_⟩;rw[e,Ya rfl];refine⟨_,ZQ5 b e,_,Qp _ _ _,?_⟩;rw[WD Z Z,Ya (by simp[Al];omega)];refine⟨_,Wp.2.2.1.1 _ _ ⟨Z,rfl⟩,?_⟩;rw[WD Z Z];exact ZDG b e b.Low.length (Yj _) idx b.Low h0 Z rfl (λ_ _=>rfl)
def qQ(b:Box)(hb:Dl b)(e:Xr b.Low b.High=true){idx:Int}(h0:0<=idx)(h1:idx<vol b.Low b.High):Qn b idx=some (.tup [.own 0,Bo true],[.arr 3 1 true ((WC b idx).map ic)]):=by
 obtain⟨b1,b2,b3,b4⟩:=Vp e;obtain⟨v1,v2⟩:=Zrg e;refine WY.2.1.1 _ _ _ ⟨_,Z0W b hb,?_⟩;rw[e,Ya rfl,Ao];refine⟨Z,?_⟩;rw[WD Z Z];exact ZDH b e b.Low.length (Yj _) idx b.Low h0 (by rw[Z28 e];exact h1) rfl
def Xm(b:Box):WA:=(List.range (ZH b.Low b.High).toNat).map λi:Nat=>WC b i
def Oy(b:Box)(hb:Dl b)(h4:ZH b.Low b.High<=400)(hn:0<=ZH b.Low b.High):∀i,i<=(ZH b.Low b.High).toNat->Sq b ((Xm b).take i) (ZH b.Low b.High) i=some (.own 0,[.arr 32 1 true ((Xm b).map AF)]):=by
 have hlen:(Xm b).length=(ZH b.Low b.High).toNat:=by simp[Xm]
 refine down _ ?_ ?_
 .apply W8.1.1.2.2;rw[Ao,<-hlen,Yq]
 .intro i hi ih;have h5:=Z7 (i:=i) Z;have e:Xr b.Low b.High=true:=by
   rcases tf (Xr b.Low b.High)with e|e
   .unfold ZH at hi;rw[e]at hi;simp at hi
   .exact e
  have hv:ZH b.Low b.High<=vol b.Low b.High:=by
   unfold ZH WZ;rw[Ya e];split<;>omega
  apply W8.1.1.2.2;rw[An];refine .inr ⟨_,ZQ6 b hb e Z Z,by rw[Yy];omega,?_⟩;rw[show w ((i:Int)+1)=((i+1:Nat):Int)from by rw[show w ((i:Int)+1)=(i:Int)+1 from h5];simp];rw[Y0 Z]at ih;simpa[Xm]using ih
def ZQ7(b:Box):0<=ZH b.Low b.High:=by
 unfold ZH;split
 .rename_i e;have:=Zrg e;unfold WZ;split<;>omega
 .omega
def ZDI(b:Box)(hb:Dl b):HP b=if ZH b.Low b.High<=400 then some (.own 0,[.arr 32 1 true ((Xm b).map AF)])else some (.t .nil,[]):=by
 by_cases h4:ZH b.Low b.High<=400
 .rw[Ya h4];refine W8.1.2.1.1 _ _ ⟨_,Z0X b hb,?_⟩;rw[Ao];simpa using Oy b hb h4 (ZQ7 b) 0 (Yc _)
 .rw[Yb h4];refine W8.1.2.1.1 _ _ ⟨_,Z0X b hb,?_⟩;rw[An]
def ZQ8(b:Zu)(hl:CE b)(k:Nat)(hk:k<b.Contours.length)(r:XS):∀i,i<=b.Contours[k].length->
  (if WG b.Plans.length (b.Contours[k].take i) (b.Contours[k].drop i)=true then LZ b (w ((k:Int)+1))=some r else some (Bo false,[])=some r)->
  L0 b k i=some r:=by
 obtain⟨l1,l2,l3,l4,l5,l6⟩:=hl;have l7:=l6 _ (Yf hk);have hw:w ((b.Plans.length:Int)-1)=(b.Plans.length:Int)-1:=ZE Z Z;refine down _ ?_ ?_
 .intro h;apply X4.2.1.2.1;simp[WG]at h;simp[hk,h]
 .intro i hi ih h;apply X4.2.1.2.1;have h4:=Z7 (i:=i) Z;have c1:=Qq (b.Contours[k].take i) b.Contours[k][i] (by simp;omega);have e7:i<=b.Contours[k].length:=by omega
  rw[ZpT _ hi]at h;simp at ih;rcases tf (Al b.Contours[k][i] 0 ((b.Plans.length:Int)-1))with e1|e1
  .simp_all
  .rcases tf (has (b.Contours[k].take i) b.Contours[k][i])with e2|e2
   .simp_all
   .simp_all
def ZQ9(b:Zu)(hr:Al b.Ratio 2 8=true)(hl:CE b)(hc:b.Contours.length=b.Budgets.length):∀k,k<=b.Budgets.length->(∀p,VM b.Budgets k=some p->Al p 1 500000000000=true)->
  LZ b k=some (Bo (QG b.Ratio (VM b.Budgets k) (b.Budgets.drop k) && (b.Contours.drop k).all (UU b.Plans.length)),[]):=by
 have hl':=hl;obtain⟨l1,l2,l3,l4,l5,l6⟩:=hl;refine down _ ?_ ?_
 .intro _;apply X4.2.1.1.2;rw[Ao,<-hc,Ym,hc,Ym];simp[QG]
 .intro k hk ih hp;have hk2:k<b.Contours.length:=by omega
  have h4:=Z7 (i:=k) Z;rw[ZA5 _ _ hk,Gf _ hk2];rcases tf (Al b.Budgets[k] 1 500000000000)with e1|e1
  .apply X4.2.1.1.2;simp[hk,e1]
  have pk:VM b.Budgets (k+1)=some b.Budgets[k]:=by simp[VM,Yd hk]
  rw[pk]at ih;have ih:=ih (λp h=>by cases h;exact e1)
  have tail:∀pr:Bool,pr=true->(∀x,b.Contours[k]?=some x->(if(x.length:Int)=0 then some (Bo false,[])=some (Bo (Al b.Budgets[k] 1 500000000000 && pr && QG b.Ratio (some b.Budgets[k]) (b.Budgets.drop (k+1)) && (UU b.Plans.length b.Contours[k] && (b.Contours.drop (k+1)).all (UU b.Plans.length))),([]:V2))
    else L0 b k 0=some (Bo (Al b.Budgets[k] 1 500000000000 && pr && QG b.Ratio (some b.Budgets[k]) (b.Budgets.drop (k+1)) && (UU b.Plans.length b.Contours[k] && (b.Contours.drop (k+1)).all (UU b.Plans.length))),[]))):=by
   intro pr hpr x hx;rw[Yd hk2]at hx;cases hx;rw[hpr,e1];by_cases e3:b.Contours[k].length=0
   .rw[An];simp[UU,e3]
   .rw[Ao];refine ZQ8 b hl' k hk2 _ 0 (Yc _) ?_;rw[List.take_zero,Yo,show w ((k:Int)+1)=(k:Int)+1 from h4];rcases tf (WG b.Plans.length [] b.Contours[k])with e4|e4
    .simp[e4,UU]
    .rw[Ya e4];simp only[Ys,Yt]at ih;rw[ih];have e5:0<b.Contours[k].length:=by omega
     simp[UU,e4,e5]
  apply X4.2.1.1.2;rw[An];refine⟨Z,b.Budgets[k],by rw[Yh];exact Yd hk,true,by rw[ZM,e1],?_⟩;rw[Ya rfl]
  cases k with
  |zero =>
   rw[Ao];refine⟨b.Contours[0],Om,?_⟩;have:=tail true rfl b.Contours[0] Om;simp only[VM,SC]
   exact this
  |succ j =>
   have hj:j<b.Budgets.length:=by omega
   have kX:VM b.Budgets (j+1)=some b.Budgets[j]:=by simp[VM,Yd hj]
   have hb:=hp _ kX;rw[kX];simp only[SC];simp[Al]at hb hr;have m1:b.Budgets[j]*b.Ratio<=500000000000*8:=Int.mul_le_mul hb.2 hr.2 Z Z;have m2:0<=b.Budgets[j]*b.Ratio:=Int.mul_nonneg Z Z;have w1:w (b.Budgets[j]*b.Ratio)=b.Budgets[j]*b.Ratio:=ZE Z Z;have w2:w (((j+1:Nat):Int)-1)=j:=by rw[show((j+1:Nat):Int)-1=j by omega];exact ZE Z Z
   rw[An,w2];refine⟨Z,b.Budgets[j],by rw[Yh];exact Yd hj,?_⟩;rw[w1];by_cases e2:b.Budgets[j+1]=b.Budgets[j]*b.Ratio
   .simp_all
   .simp_all
def ZQA(q:Zc)(b:Zu)(hq:AI q)(hl:CE b)(c:Bool)(hc:LZ b 0=some (Bo c,[])):∀k,k<=b.Plans.length->
  R0 q b k=some (Bo (((b.Plans.drop k).all λp=>H3 q.Zh q.Atoms p && decide (Z3 q.Zh q.Atoms≠0)) && c),[]):=by
 obtain⟨l1,l2,l3,l4,l5,l6⟩:=hl;refine down _ ?_ ?_
 .simp_all [X4.2.1.1.1]
 .intro k hk ih;apply X4.2.1.1.1;have h4:=Z7 (i:=k) Z;have q1:=ZLT q b.Plans[k] hq;have q2:=VN q hq;rw[Gf _ hk];simp at ih;by_cases e:Gi q.Zh q.Atoms b.Plans[k].Steps=Z3 q.Zh q.Atoms
  .by_cases e2:Z3 q.Zh q.Atoms=0
   .simp_all
   .simp[hk,h4,q1,q2,e,e2,ih,H3]
  .simp[hk,h4,q1,q2,e,H3]
def ZQB:∀c:WL,UU 0 c=false
 |[]=>by simp[UU]
 |v::c=>by
  have:Al v 0 (-1)=false:=by simp[Al];omega
  simp[UU,WG,this]
@[simp] def Z29(q:Zc)(b:Zu)(hq:AI q)(hl:CE b):HC q b=some (Bo (JE q.Zh q.Atoms b),[]):=by
 apply X4.2.1.2.2;have q2:=VN q hq;have q3:=SE b.Box ⟨hl.1,hl.2.1⟩;have q4:=ZpW q.Zh q.Atoms;unfold JE Zqb;rcases tf (Al b.Version 1 999)with e2|e2
 .simp[e2]
 rcases tf (Al b.Ratio 2 8)with e3|e3
 .simp[e2,e3]
 rcases tf (Al b.Slack 0 100)with e4|e4
 .simp[e2,e3,e4]
 by_cases e6:(b.Box.Low.length:Int)=Z3 q.Zh q.Atoms+1
 rotate_left
 .simp_all
 rcases tf (Al (ZH b.Box.Low b.Box.High) 1 400)with e5|e5
 .simp_all
 simp only[q2,q3,e2,e3,e4,e5,ZM,Y4,Ds,AV.t.injEq,T.bool.injEq,T.int.injEq,true_and,and_true,exists_eq_left',if_true];rw[show w (Z3 q.Zh q.Atoms+1)=Z3 q.Zh q.Atoms+1 from q4,Ya e6,decide_eq_true e6];by_cases e7:b.Budgets.length=0
 .simp_all
 rw[Ao];by_cases e8:b.Contours.length=b.Budgets.length
 rotate_left
 .grind
 rw[An,decide_eq_true e8];have r2:=ZQ9 b e3 hl e8 0 (Yc _) (λp h=>by simp[VM]at h);have r0:=ZQA q b hq hl _ r2 0 (Yc _);simp only[Yo,VM]at r0;have r0:R0 q b 0=_:=r0;rw[r0];have e9:decide (0<b.Budgets.length)=true:=decide_eq_true Z;rw[e9];rcases tf (Zx q.Zh q.Atoms)with e1|e1
 .have e5':Z3 q.Zh q.Atoms=0:=by unfold Z3;rw[e1];rfl
  rw[e1,e5'];simp only[ne_eq,not_true_eq_false,decide_false,Bool.and_false,E2]
  cases hp:b.Plans with
  |cons p ps=>simp
  |nil =>
   cases hcs:b.Contours with
   |nil=>rw[hcs]at e8;simp at e8;omega
   |cons c cs=>simp[ZQB]
 .have e5':=kQ e1
  grind
def ZDJ{n:Int}:∀{xs c:WL},WG n c xs=true->∀v∈xs,0<=v/\v<=n-1
 |[],_,_,v,hv=>by cases hv
 |x::xs,c,h,v,hv=>by
  simp only[WG,Yg]at h
  cases hv with
  |head=>have:=h.1.1;simp[Al]at this;omega
  |tail _ hv=>exact ZDJ h.2 v hv
def ZDK{r:Int}:∀{xs:WL} {p:Option Int},QG r p xs=true->∀x∈xs,Al x 1 500000000000=true
 |[],_,_,v,hv=>by cases hv
 |x::xs,p,h,v,hv=>by
  simp only[QG,Yg]at h
  cases hv with
  |head=>exact h.1.1
  |tail _ hv=>exact ZDK h.2 v hv
def VX(m:Zf)(q:Zc)(b:Zu):Prop:=JE q.Zh q.Atoms b=true/\XM q.Zh q.Atoms (Z3 q.Zh q.Atoms)=true/\Va m
structure Ty (q:Zc) (b:Zu):Prop where
 hv:Zx q.Zh q.Atoms=true
 box:Xr b.Box.Low b.Box.High=true
 v1:1<=ZH b.Box.Low b.Box.High
 v2:ZH b.Box.Low b.Box.High<=400
 len:(b.Box.Low.length:Int)=Z3 q.Zh q.Atoms+1
 sl:Al b.Slack 0 100=true
 pl:∀p∈b.Plans,Gi q.Zh q.Atoms p.Steps=Z3 q.Zh q.Atoms
 co:∀c∈b.Contours,c≠[]/\∀p∈c,0<=p/\p.toNat<b.Plans.length
 cl:b.Contours.length=b.Budgets.length
 b0:0<b.Budgets.length
 bu:∀x∈b.Budgets,Al x 1 500000000000=true
def VG{q:Zc}{b:Zu}(h:JE q.Zh q.Atoms b=true):Ty q b:=by
 unfold JE Zqb at h;simp only[Yg,decide_eq_true_eq]at h;obtain⟨⟨⟨⟨⟨h1,⟨⟨⟨h2,h3⟩,h4⟩,h5⟩,h6⟩,h7⟩,h8⟩,h9⟩,h10,h11⟩:=h;have hx:Xr b.Box.Low b.Box.High=true:=by
  rcases tf (Xr b.Box.Low b.Box.High)with e|e
  .unfold ZH at h5;rw[e]at h5;simp[Al]at h5
  .exact e
 simp only[Al,Yg,decide_eq_true_eq]at h5;refine⟨h1,hx,h5.1,h5.2,h6,h4,λp hp=>?_,λc hc=>?_,h11,h10,ZDK h8⟩
 .have:=Yp.1 h7 p hp;simpa[H3]using this
 .have:=Yp.1 h9 c hc;unfold UU at this;simp only[Yg,decide_eq_true_eq]at this;refine⟨λe=>by rw[e]at this;simp at this,λp hp=>?_⟩;have:=ZDJ this.1 p hp;omega
def Is{m:Zf}{q:Zc}{b:Zu}(hm:Ba m)(hq:AI q)(h:VX m q b){l:WL}(h1:Xl l=true)(h2:l.length=b.Box.Low.length):Vm m q (ZG l) :=
 ZDC hm h.2.2 hq (VG h.1).hv h1 (by rw[h2];exact(VG h.1).len)
def ZQC{m:Zf}{q:Zc}{b:Zu}(hm:Ba m)(hq:AI q)(hb:CE b):iN m q b=some (Bo (@decide (VX m q b) (Classical.propDecidable _)),[]):=by
 refine Wf.1.2.2.2.1 _ _ _ _ ⟨_,ZLZ q b hq hb,?_⟩;unfold VX;rcases tf (JE q.Zh q.Atoms b)with e|e
 .rw[Yb (by rw[e];simp)];simp[e]
 rw[Ya e];refine⟨_,H4 q hq,_,ZAQ q hq _,?_⟩;rcases tf (XM q.Zh q.Atoms (Z3 q.Zh q.Atoms))with e2|e2
 .rw[Yb (by rw[e2];simp)];simp[e2]
 rw[Ya e2];refine⟨_,ZAG m hm,?_⟩;by_cases ha:Va m<;>simp[e,e2,ha]
def WU(bs:WL)(c:Int):Int:=Wt (λx=>decide (c<=x)) bs 0
def ZDL{α:Type}(p:α->Bool):∀(xs:List α) (i:Nat),0<=Wt p xs i->∃j,∃h:j<xs.length,Wt p xs i=((i+j:Nat):Int)/\p xs[j]=true
 |[],i,h=>by simp[Wt]at h
 |x::xs,i,h=>by
  unfold Wt at h|-;by_cases e:p x=true
  .rw[Ya e];exact⟨0,Om,Om,e⟩
  .rw[Yb e]at h|-;obtain⟨j,h1,h2,h3⟩:=ZDL p xs (i+1) h;exact⟨j+1,by simpa using h1,by rw[h2];congr 1;omega,by simpa using h3⟩
def Oz(s:WL)(c:Int)(hs:Le s):∀i,i<=s.length->jG s c s.length i=some (I (Wt (λx=>decide (c<=x)) (s.drop i) i),[]):=by
 refine down _ ?_ ?_
 .apply W8.1.2.2.1;rw[Ao];simp[Wt]
 .intro i hi ih;have h5:=Z7 (i:=i) Z;apply W8.1.2.2.1;rw[An,Sz _ hi];refine⟨Z,s[i],by rw[Yh];exact Yd hi,_,W8.1.2.1.2 _ _ _ rfl,?_⟩;rw[show w ((i:Int)+1)=((i+1:Nat):Int)from by rw[show w ((i:Int)+1)=(i:Int)+1 from h5];simp];split
  .rfl
  .exact ih
def ZQD(bs:WL)(c:Int)(hs:Le bs):ZpC bs c=some (I (WU bs c),[]) :=
 W8.1.2.2.2.2 _ _ _ ⟨_,W8.1.2.2.2.1 _ _ _ (by simpa[WU]using Oz bs c hs 0 (Yc _)),rfl⟩
def ZQE(s:WL)(c:Int)(hs:Le s):∀i,i<=s.length->jP s c i=some (I (Wt (λx=>decide (c<=x)) (s.drop i) i),[]):=by
 refine down _ ?_ ?_
 .apply Uu.2.1.1;rw[Ao];simp[Wt]
 .intro i hi ih;have h5:=Z7 (i:=i) Z;apply Uu.2.1.1;rw[An,Sz _ hi];refine⟨Z,s[i],by rw[Yh];exact Yd hi,?_⟩;rw[show w ((i:Int)+1)=((i+1:Nat):Int)from by rw[show w ((i:Int)+1)=(i:Int)+1 from h5];simp];by_cases e:c<=s[i]
  .rw[Ya e,Ya (by simpa using e)]
  .rw[Yb e,Yb (by simpa using e)];exact ih
def ZQF(bs:WL)(c:Int)(hs:Le bs):jO bs c=some (I (WU bs c),[]) :=
 Uu.2.1.2.1 _ _ _ (by simpa[WU]using ZQE bs c hs 0 (Yc _))
def qR(b:Zu)(p:Int):Ze:=(b.Plans[p.toNat]?).getD ⟨[]⟩
def pc(m:Zf)(q:Zc)(b:Zu)(l:WL)(p:Int):Int:=Vt m q.Zh q.Atoms (qR b p).Steps (ZG l)
def BC(b:Zu)(k:Nat):Int:=QF ((b.Budgets[k]?).getD 0) b.Slack
def Zrh(b:Zu)(k:Nat):WL:=(b.Contours[k]?).getD []
def Tz(m:Zf)(q:Zc)(b:Zu)(l:WL)(k:Nat):Bool:=(Zrh b k).any λp=>decide (pc m q b l p<=BC b k)
def DB(m:Zf)(q:Zc)(b:Zu)(l:WL):Bool:=decide (0<=WU b.Budgets (opt m q (ZG l)).Cost) && Tz m q b l (WU b.Budgets (opt m q (ZG l)).Cost).toNat
def It(m:Zf)(q:Zc)(b:Zu):Bool:=!decide ((opt m q (ZG b.Box.Low)).Cost<(b.Budgets[0]?).getD 0) && (Xm b.Box).all (DB m q b)
def Zri{b:Zu}{p:Int}(h:p.toNat<b.Plans.length):b.Plans[p.toNat]?=some (qR b p):=by
 unfold qR;rw[Yd h];rfl
section
variable{m:Zf}{q:Zc}{b:Zu}(hm:Ba m)(hq:AI q)(hb:CE b)(hf:Ty q b)
include hm hq
theorem OA{l:WL}(h1:Xl l=true){p sl:Int}(hp:0<=p/\p.toNat<b.Plans.length):ZpD p m q b l sl=some (Bo (decide (pc m q b l p<=sl)),[]):=by
 have l1:=Qw h1;exact W8.2.1.2.1 _ _ _ _ _ _ _ ⟨hp.1,_,Zri hp.2,_,ZCT m hm q hq _ l Z h1,rfl⟩
theorem OB{l:WL}(h1:Xl l=true)(sl:Int)(s:WL)(hs:s.length<=1099511627776)(hp:∀p∈s,0<=p/\p.toNat<b.Plans.length):∀i,i<=s.length->
  jI s m q b l sl s.length i=some (I (Wt (λp=>decide (pc m q b l p<=sl)) (s.drop i) i),[]):=by
 refine down _ ?_ ?_
 .apply W8.2.1.2.2;rw[Ao];simp[Wt]
 .intro i hi ih;have h5:=Z7 (i:=i) Z;apply W8.2.1.2.2;rw[An,Sz _ hi];refine⟨Z,s[i],by rw[Yh];exact Yd hi,_,OA hm hq h1 (hp _ (Yf hi)),?_⟩;rw[show w ((i:Int)+1)=((i+1:Nat):Int)from by rw[show w ((i:Int)+1)=(i:Int)+1 from h5];simp];split
  .rfl
  .exact ih
theorem ZQG{l:WL}(h1:Xl l=true)(sl:Int)(s:WL)(hs:s.length<=1099511627776)(hp:∀p∈s,0<=p/\p.toNat<b.Plans.length) :
  ZpE s m q b l sl=some (Bo (s.any λp=>decide (pc m q b l p<=sl)),[]):=by
 refine W8.2.2.1.2 _ _ _ _ _ _ _ ⟨_,W8.2.2.1.1 _ _ _ _ _ _ _ (by simpa using OB hm hq h1 sl s hs hp 0 (Yc _)),?_⟩;rcases tf (s.any λp=>decide (pc m q b l p<=sl))with e|e
 .rw[e,Z0K _ _ _ e];simp
 .rw[e];have:=Z0L _ s 0 e;simp[this]
include hb hf
theorem ZQH{l:WL}(h1:Xl l=true)(k:Nat)(hk:k<b.Contours.length):∀i,i<=b.Contours[k].length->
  jR m q b k l i=some (Bo ((b.Contours[k].drop i).any λp=>decide (pc m q b l p<=BC b k)),[]):=by
 have hc:=hf.co _ (Yf hk);have hlen:=hb.2.2.2.2.2 _ (Yf hk);have hk2:k<b.Budgets.length:=by have:=hf.cl;omega
 refine down _ ?_ ?_
 .refine Uu.2.1.2.2 _ _ _ _ _ _ _ ⟨Z,b.Contours[k],by rw[Yh];exact Yd hk,?_⟩;rw[Ao];simp
 .intro i hi ih;have h5:=Z7 (i:=i) Z;have l1:=Qw h1;obtain⟨p1,p2⟩:=hc.2 _ (Yf hi);refine Uu.2.1.2.2 _ _ _ _ _ _ _ ⟨Z,b.Contours[k],by rw[Yh];exact Yd hk,?_⟩;rw[An,Yi hi,GM];refine⟨Z,b.Contours[k][i],by rw[Yh];exact Yd hi,p1,_,Zri p2,_,Z1Z m hm q hq _ l Z h1,b.Budgets[k],by rw[Yh];exact Yd hk2,_,Z0Z _ _,?_⟩;rw[show w ((i:Int)+1)=((i+1:Nat):Int)from by rw[show w ((i:Int)+1)=(i:Int)+1 from h5];simp];have es:BC b k=QF b.Budgets[k] b.Slack:=by unfold BC;rw[Yd hk2];rfl
  rw[es]at ih|-;show if pc m q b l b.Contours[k][i]<=QF b.Budgets[k] b.Slack then _ else _;by_cases e:pc m q b l b.Contours[k][i]<=QF b.Budgets[k] b.Slack
  .rw[Ya e];simp[e]
  .rw[Yb e,ih];simp[e]
theorem ZQI{l:WL}(h1:Xl l=true){k:Int}(h0:0<=k)(hk:k.toNat<b.Contours.length):jQ m q b k l=some (Bo (Tz m q b l k.toNat),[]):=by
 obtain⟨n,rfl⟩:∃n:Nat,k=n:=⟨k.toNat,Z⟩;rw[Yh]at hk|-;have:=ZQH hm hq hb hf h1 n hk 0 (Yc _);apply Uu.2.2.1;unfold Tz Zrh;rw[Yd hk];simpa using this
end
def Z2A{bs:WL}{c:Int}(h:0<=WU bs c):(WU bs c).toNat<bs.length:=by
 obtain⟨j,h1,h2,_⟩:=ZDL _ _ _ h;unfold WU;rw[h2,Yh];omega
def ZQJ{m:Zf}{q:Zc}{b:Zu}(hm:Ba m)(hq:AI q)(hb:CE b)(h:VX m q b)(ls:WA)(hl:ls.length<=1000)(c:∀l∈ls,Xl l=true/\l.length=b.Box.Low.length):∀i,i<=ls.length->
  jK m q b ls ls.length i=some (Bo ((ls.drop i).all (DB m q b)),[]):=by
 have hf:=VG h.1;refine down _ ?_ ?_
 .apply W8.2.2.2.1;rw[Ao];simp
 .intro i hi ih;have h5:=Z7 (i:=i) Z;obtain⟨g1,g2⟩:=c _ (Yf hi);have l1:=Qw g1;apply W8.2.2.2.1;rw[An,Yi hi,CU];refine⟨Z,ls[i],by rw[Yh];exact Yd hi,_,Z27 Z g1 (Is hm hq h g1 g2) h.2.2 h.2.1,_,ZQD _ _ hb.2.2.1,?_⟩;rw[show w ((i:Int)+1)=((i+1:Nat):Int)from by rw[show w ((i:Int)+1)=(i:Int)+1 from h5];simp];by_cases e:WU b.Budgets (opt m q (ZG ls[i])).Cost<0
  .rw[Ya e];unfold DB;simp[show ¬0<=WU b.Budgets (opt m q (ZG ls[i])).Cost by omega]
  .rw[Yb e];have h0:0<=WU b.Budgets (opt m q (ZG ls[i])).Cost:=by omega
   have hk:=Z2A h0;have hk2:(WU b.Budgets (opt m q (ZG ls[i])).Cost).toNat<b.Contours.length:=by have:=hf.cl;omega
   have hc:=hf.co _ (Yf hk2);have hlen:=hb.2.2.2.2.2 _ (Yf hk2);refine⟨h0,_,Yd hk,_,ZAB _ _,_,Yd hk2,_,ZQG hm hq g1 _ _ Z hc.2,?_⟩;have ec:DB m q b ls[i]=(b.Contours[(WU b.Budgets (opt m q (ZG ls[i])).Cost).toNat]).any λp=>decide (pc m q b ls[i] p<=QF b.Budgets[(WU b.Budgets (opt m q (ZG ls[i])).Cost).toNat] b.Slack):=by
    unfold DB Tz Zrh BC;rw[Yd hk,Yd hk2];simp[h0]
   rw[<-ec];rcases tf (DB m q b ls[i])with e2|e2
   .rw[e2];simp
   .rw[e2,Ya rfl,ih];simp
def ZQK{m:Zf}{q:Zc}{b:Zu}(hm:Ba m)(hq:AI q)(hb:CE b)(h:VX m q b):∀i,i<=(Xm b.Box).length->
  jS m q b (shapes q) (Z3 q.Zh q.Atoms) i=some (Bo (((Xm b.Box).drop i).all (DB m q b)),[]):=by
 have hf:=VG h.1;have hx:Dl b.Box:=⟨hb.1,hb.2.1⟩;have hv2:=hf.v2;have hlen:(Xm b.Box).length=(ZH b.Box.Low b.Box.High).toNat:=by simp[Xm]
 have hv:ZH b.Box.Low b.Box.High<=vol b.Box.Low b.Box.High:=by
  unfold ZH WZ;rw[Ya hf.box];split<;>omega
 have hp:=hf.v1;refine down _ ?_ ?_
 .refine Uu.2.2.2.1 _ _ _ _ _ _ _ ⟨_,SE b.Box hx,?_⟩;rw[Ao];simp
 .intro i hi ih;have h5:=Z7 (i:=i) Z;have hli:(Xm b.Box)[i]=WC b.Box i:=by simp[Xm]
  obtain⟨k1,k2⟩:=Tx hf.box (show(0:Int)<=(i:Int) by omega);have l1:=Qw k1;have bb:=Is hm hq h k1 k2;have hl:=Ow bb (Yj (Z2 q.Atoms).length);have hs:=Zql (WC b.Box i) Z;rw[k1,Ya rfl]at hs;obtain⟨fr,ht⟩:=Z24 bb;refine Uu.2.2.2.1 _ _ _ _ _ _ _ ⟨_,SE b.Box hx,?_⟩;rw[An,Yi hi,CU,hli];refine⟨_,_,qQ b.Box hx hf.box Z Z,_,hs,_,_,ht,.inr ⟨_,_,_,_,Z25 _ _ Z (Tv bb h.2.1).ne (qJ bb (Yj _)),_,ZQF _ _ hb.2.2.1,?_⟩⟩;rw[show w ((i:Int)+1)=((i+1:Nat):Int)from by rw[show w ((i:Int)+1)=(i:Int)+1 from h5];simp];show if WU b.Budgets (opt m q (ZG (WC b.Box i))).Cost<0 then _ else _;by_cases e:WU b.Budgets (opt m q (ZG (WC b.Box i))).Cost<0
  .rw[Ya e];unfold DB;simp[show ¬0<=WU b.Budgets (opt m q (ZG (WC b.Box i))).Cost by omega]
  .rw[Yb e];have h0:0<=WU b.Budgets (opt m q (ZG (WC b.Box i))).Cost:=by omega
   have hk:=Z2A h0;have hcov:=ZQI hm hq hb hf k1 (k:=WU b.Budgets (opt m q (ZG (WC b.Box i))).Cost) h0 (by have:=hf.cl;omega);refine⟨_,hcov,?_⟩;have ec:DB m q b (WC b.Box i)=Tz m q b (WC b.Box i) (WU b.Budgets (opt m q (ZG (WC b.Box i))).Cost).toNat:=by
    unfold DB;simp[h0]
   rw[<-ec];rcases tf (DB m q b (WC b.Box i))with e2|e2
   .rw[e2];simp
   .rw[e2,Ya rfl,ih];simp
def ZDM{q:Zc}{b:Zu}(hf:Ty q b):∀l∈Xm b.Box,Xl l=true/\l.length=b.Box.Low.length:=by
 intro l hl;unfold Xm at hl;rw[Yn]at hl;obtain⟨i,_,rfl⟩:=hl;exact Tx hf.box Z
def ZDN{m:Zf}{q:Zc}{l:WL}(h:Xl l=true)(bb:Vm m q (ZG l))(hm:Ba m)(ha:Va m)(hc:XM q.Zh q.Atoms (Z3 q.Zh q.Atoms)=true):Gb m q l=some (I (opt m q (ZG l)).Cost,[]):=by
 have l1:=Qw h;have hs:=Zql l Z;rw[h,Ya rfl]at hs;have hl:=Ow bb (Yj (Z2 q.Atoms).length);obtain⟨fr,ht⟩:=Z24 bb;have hsv:=ZCP q bb.hq (ZG l) (by simp[ZG];omega)
 have hT:=Uu.1.1.2.2 (ZG l) m q _ ⟨_,lP m hm,by
  rw[Ya (by simp[ha])]
  exact⟨_,hsv,by rw[bb.hsv,Ya rfl];exact⟨_,Z23 q bb.hq bb.hv,_,_,ht,rfl⟩⟩⟩
 have hB:=Uu.1.2.1 (ZG l) m q _ (.inl ⟨_,_,_,hT,_,VN q bb.hq,.inr ⟨_,_,_,_,Z25 _ _ Z (Tv bb hc).ne (qJ bb (Yj _)),rfl⟩⟩);have hC:=Uu.1.2.2.1 (ZG l) m q _ (.inr ⟨_,_,_,_,_,hB,rfl⟩);exact Uu.1.2.2.2 _ _ _ _ ⟨_,hs,_,_,hC,rfl⟩
open Classical in
noncomputable def GI(m:Zf)(q:Zc)(b:Zu):Bool:=decide (VX m q b) && It m q b
def ZQL{m:Zf}{q:Zc}{b:Zu}(hm:Ba m)(hq:AI q)(hb:CE b):jJ m q b=some (Bo (GI m q b),[]):=by
 refine W8.2.2.2.2.1 _ _ _ _ ⟨_,ZQC hm hq hb,?_⟩;unfold GI;by_cases h:VX m q b
 .have hf:=VG h.1;have hv1:=hf.v1;have hlen:(Xm b.Box).length=(ZH b.Box.Low b.Box.High).toNat:=by simp[Xm]
  have hb0:=hf.b0;have hlow:=Vp hf.box;have hl:Xl b.Box.Low=true:=by
   have:=hf.box;simp only[Xr,Yg]at this;exact this.1.1.2
  have l1:=Qw hl;rw[Ya (by simp[h])];refine⟨_,Z27 Z hl (Is hm hq h hl rfl) h.2.2 h.2.1,b.Budgets[0],Yd hb0,?_⟩;unfold It;rw[Yd hb0];by_cases e:(opt m q (ZG b.Box.Low)).Cost<b.Budgets[0]
  .rw[Ya e];simp[h,e]
  .rw[Yb e];have hx:=ZDI b.Box ⟨hb.1,hb.2.1⟩;rw[Ya hf.v2]at hx;refine .inr ⟨_,hx,?_⟩;have hv2:=hf.v2;have:=ZQJ hm hq hb h (Xm b.Box) Z (ZDM hf) 0 (Yc _);rw[Yo]at this;refine Ye this ?_;simp[h,e]
 .rw[Yb (by simp[h])];simp[h]
def ZQM{m:Zf}{q:Zc}{b:Zu}(hm:Ba m)(hq:AI q)(hb:CE b):Mo m q b=some (Bo (GI m q b),[]):=by
 refine Uu.2.2.2.2 _ _ _ _ ⟨_,lP m hm,?_⟩;unfold GI;by_cases ha:Va m
 .rw[Ya (by simp[ha])];refine⟨_,Z29 q b hq hb,?_⟩;rcases tf (JE q.Zh q.Atoms b)with e|e
  .rw[Yb (by rw[e];simp)]
   have:¬VX m q b:=λh=>by rw[h.1]at e;cases e
   simp[this]
  rw[Ya e];refine⟨_,VN q hq,_,Gm q hq _,?_⟩;rcases tf (XM q.Zh q.Atoms (Z3 q.Zh q.Atoms))with e2|e2
  .rw[Yb (by rw[e2];simp)]
   have:¬VX m q b:=λh=>by rw[h.2.1]at e2;cases e2
   simp[this]
  rw[Ya e2];have h:VX m q b:=⟨e,e2,ha⟩;have hf:=VG e;have hb0:=hf.b0;have hl:Xl b.Box.Low=true:=by
   have:=hf.box;simp only[Xr,Yg]at this;exact this.1.1.2
  refine⟨_,ZDN hl (Is hm hq h hl rfl) hm ha e2,b.Budgets[0],Yd hb0,?_⟩;unfold It;rw[Yd hb0];by_cases e3:(opt m q (ZG b.Box.Low)).Cost<b.Budgets[0]
  .rw[Ya e3];simp[h,e3]
  .rw[Yb e3];have:=ZQK hm hq hb h 0 (Yc _);rw[Yo]at this;exact⟨_,Z23 q hq hf.hv,by refine Ye this ?_;simp[h,e3]⟩
 .rw[Yb (by simp[ha])]
  have:¬VX m q b:=λh=>ha h.2.2
  simp[this]
