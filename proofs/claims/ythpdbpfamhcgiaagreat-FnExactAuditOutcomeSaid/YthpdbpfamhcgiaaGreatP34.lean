/-
  Parts of the proofs for this seat: SM IE YC YD YE YF YG YH.
-/
import Derived.Test.YthpdbpfamhcgiaaGreatP33
set_option linter.all false
set_option maxRecDepth 100000
set_option maxHeartbeats 4000000
namespace Go.Proofs.YthpdbpfamhcgiaaGreat
open Go.AM
def Zck{m:Zn}{sizes:V6}{qa:List Ze}{M:Int}{E:List Zd}(h:WR m sizes qa M E)(hg:WC m.Zz)(c:Q3 sizes)(hM:M16 M){v:Int}(hv:vin qa M v=true) :
  (inp m sizes M E v).Mask=M/\(inp m sizes M E v).Zl=v/\XY m sizes qa (inp m sizes M E v).Zg.Steps M v (inp m sizes M E v).Zv/\1<=(inp m sizes M E v).Zg.Steps.length/\(inp m sizes M E v).Zg.Steps.length+2<=4*XR M:=by
 have h4:=Qb hM;have hlen:=h.len _ h.best;have hb:=(h.makes _ h.best).bound (by omega);have hp:=ZBB hg c M M;have hu:=Zh0 m.Zz (ZU sizes M) 0 (ZU sizes M);have hsrt:(Xz E).Zl≠v->(srt m sizes M E v).Mask=M/\(srt m sizes M E v).Zl=v/\XY m sizes qa (srt m sizes M E v).Zg.Steps M v (srt m sizes M E v).Zv/\1<=(srt m sizes M E v).Zg.Steps.length/\(srt m sizes M E v).Zg.Steps.length+2<=4*XR M:=by
  intro hne;refine⟨rfl,rfl,h.srt_makes hv hne,?_,?_⟩<;>simp only[srt,Zer,Yq,Yw,Ybj]<;>omega
 unfold inp
 cases ho:ofO E v with
 |none =>
  refine hsrt (λhe=>?_);have:=Zqh h.up h.best
  simp_all
 |some e =>
  have hmem:e∈E:=List.mem_of_find?_eq_some ho;have hov:e.Zl=v:=by have:=List.find?_some ho;simpa using this
  simp only;by_cases hc:e.Zv<=(srt m sizes M E v).Zv
  .rw[Ya hc];have hm:=h.makes e hmem;rw[hov]at hm;have:=h.len e hmem;exact⟨h.mask e hmem,hov,hm,by omega,by omega⟩
  .rw[Yb hc];refine hsrt (λhe=>hc ?_);have hx:=Zqh h.up h.best;rw[he,ho]at hx;cases hx;unfold srt
   grind [Q2]
structure Jr (qa:List Ze) (A B M:Int):Prop where
 a16:M16 A
 b16:M16 B
 or:orI A B=M
 dis:andI A B=0
 shr:shr qa A B=true
 pop:XR A+XR B=XR M
def Z1e{m:Zn}{sizes:V6}{qa:List Ze}{A B M:Int}(hp:Jr qa A B M){mine:List Zd}(h:UF m sizes qa M mine){a b:Zd}{k v o oa ob:Int}(ho:-1<=o/\o<=3)(hk:3<=k)(ha:a.Mask=A)(hb:b.Mask=B)(ma:XY m sizes qa a.Zg.Steps A oa a.Zv)(mb:XY m sizes qa b.Zg.Steps B ob b.Zv)(hj:QV qa ⟨k,0,v⟩ (A,oa) (B,ob)=some o)(hl:a.Zg.Steps.length+2<=4*XR A/\b.Zg.Steps.length+2<=4*XR B):UF m sizes qa M (UE m sizes a b k v o mine):=by
 have hpop:=hp.pop;refine ZP1 h ho (by rw[ha,hb];exact hp.or) ?_ (by simp only[Vp,Yq,Yw,Ybj];omega);have:=ZB0 (x:=⟨k,0,v⟩) ma mb hk rfl hp.dis hp.shr hj;rw[hp.or]at this;unfold jc;rw[ha,hb,hp.or];exact this
def ZBK{m:Zn}{sizes:V6}{qa:List Ze}{A B M:Int}(hp:Jr qa A B M){b:Zd}{ob:Int}(hb:b.Mask=B)(mb:XY m sizes qa b.Zg.Steps B ob b.Zv)(lb:b.Zg.Steps.length+2<=4*XR B):∀{E c:List Zd},(∀e∈E,e.Mask=A/\(-1<=e.Zl/\e.Zl<=3)/\XY m sizes qa e.Zg.Steps A e.Zl e.Zv/\e.Zg.Steps.length+2<=4*XR A)->UF m sizes qa M c->UF m sizes qa M (E.foldl (Jq m sizes b) c)
 |[],_,_,h=>h
 |e::E,c,he,h=>by
  obtain⟨e1,e2,e3,e4⟩:=he e (by simp);rw[Y7];exact ZBK hp hb mb lb (λx hx=>he x (by simp[hx])) (Z1e hp h e2 (by omega) e1 hb e3 mb ZB2 ⟨e4,lb⟩)
def ZBL{m:Zn}{sizes:V6}{qa:List Ze}{A B M:Int}(hp:Jr qa A B M)(hg:WC m.Zz)(cc:Q3 sizes){E F:List Zd}(hE:WR m sizes qa A E)(hF:WR m sizes qa B F):∀{sh:V6} {c:List Zd},(∀v∈sh,(-1<=v/\v<=3)/\vin qa A v=true/\vin qa B v=true)->UF m sizes qa M c->UF m sizes qa M (sh.foldl (JS m sizes A B E F) c)
 |[],_,_,h=>h
 |v::sh,c,hv,h=>by
  obtain⟨v1,v2,v3⟩:=hv v (by simp);obtain⟨a1,a2,a3,a4,a5⟩:=Zck hE hg cc hp.a16 v2;obtain⟨b1,b2,b3,b4,b5⟩:=Zck hF hg cc hp.b16 v3;rw[Y7];exact ZBL hp hg cc hE hF (λx hx=>hv x (by simp[hx])) (Z1e hp h v1 (by omega) a1 b1 a3 b3 (ZB3 v2 v3 rfl rfl) ⟨a5,b5⟩)
def ZP3{m:Zn}{sizes:V6}{qa:List Ze}{A B M:Int}(hp:Jr qa A B M)(hg:WC m.Zz)(c:Q3 sizes){E F:List Zd}(hE:WR m sizes qa A E)(hF:WR m sizes qa B F){sh:V6}{mine:List Zd}(hv:∀v∈sh,(-1<=v/\v<=3)/\vin qa A v=true/\vin qa B v=true)(h:UF m sizes qa M mine):UF m sizes qa M (Zes m sizes A B sh E F mine):=by
 have lE:=hE.len _ hE.best;have lF:=hF.len _ hF.best;have mE:=hE.makes _ hE.best;have mF:=hF.makes _ hF.best;unfold Zes;refine ZBL hp hg c hE hF hv (ZBK hp (hF.mask _ hF.best) mF (by omega) (λe he=>⟨hE.mask e he,hE.ord e he,hE.makes e he,by have:=hE.len e he;omega⟩) ?_);exact Z1e hp h (by omega) (by omega) (hE.mask _ hE.best) (hF.mask _ hF.best) mE mF ZB1 ⟨by omega,by omega⟩
def ZlM{qa:List Ze}{M A:Int}(h:A∈Xf qa M):1<=A/\A<M/\andI A M=A/\Va qa A=true/\Va qa (M-A)=true:=by
 unfold Xf QU at h;rw[Yt]at h;obtain⟨k,hk,rfl⟩:=h;rw[Ybb,List.mem_range'_1]at hk;obtain⟨⟨h1,h2⟩,h3⟩:=hk;simp only[VK,Yg,decide_eq_true_eq]at h3
 grind
def ZP4{qa:List Ze}{M:Int}{k:Nat}(h1:1<=k)(h2:(k:Int)<M)(h3:VK qa M k=true):(k:Int)∈Xf qa M:=by
 unfold Xf QU
 grind
def Z1f{qa:List Ze}{M:Int}(h:M16 M):(Xf qa M).length<=16:=by
 unfold Xf QU
 grind
set_option maxRecDepth 100000 in
def ZP5:∀a b c d e f g h:Bool,Wz (e,f,g,h) (a,b,c,d)=(e,f,g,h)->XR (toI (e,f,g,h))+XR (toI (Uu (a,b,c,d) (e,f,g,h)))=XR (toI (a,b,c,d))/\orB (e,f,g,h) (Uu (a,b,c,d) (e,f,g,h))=(a,b,c,d)/\Wz (e,f,g,h) (Uu (a,b,c,d) (e,f,g,h))=(false,false,false,false):=by decide
def ZBM{n:Int}{qa:List Ze}(hv:Z9 n qa=true){M:Int}(h:MQ qa M):inN qa.length (ofI M)=true:=by
 have h4:=Wg hv;have h16:=(h.m16 hv).1;obtain⟨a,rfl⟩:=m16 h16;have key:∀a:Fin 16,(a.1<2->inN 1 (ofI (a.1:Int))=true)/\(a.1<4->inN 2 (ofI (a.1:Int))=true)/\(a.1<8->inN 3 (ofI (a.1:Int))=true)/\inN 4 (ofI (a.1:Int))=true:=by decide
 grind
def okf1(g:Ed){n:Nat}(hn:1<=n/\n<=4)(p:B4):Zhv g n p=true:=by
 have:=f1 g.a g.b g.c g.d g.e g.f p.1 p.2.1 p.2.2.1 p.2.2.2;have hl:n=1\/n=2\/n=3\/n=4:=by omega
 rcases hl with rfl|rfl|rfl|rfl
 .exact this.1
 .exact this.2.1
 .exact this.2.2.1
 .exact this.2.2.2
def okf2(g:Ed){n:Nat}(hn:1<=n/\n<=4)(p x:B4):Zhw g n p x=true:=by
 have:=f2 g.a g.b g.c g.d g.e g.f p.1 p.2.1 p.2.2.1 p.2.2.2 x.1 x.2.1 x.2.2.1 x.2.2.2;have hl:n=1\/n=2\/n=3\/n=4:=by omega
 rcases hl with rfl|rfl|rfl|rfl
 .exact this.1
 .exact this.2.1
 .exact this.2.2.1
 .exact this.2.2.2
def ZP6{n:Int}{qa:List Ze}(hv:Z9 n qa=true){M A:Int}(hM:MQ qa M)(hc:Va qa M=true)(h:A∈Xf qa M):Jr qa A (M-A) M:=by
 obtain⟨h1,h2,h3,_,_⟩:=ZlM h;have h16:=(hM.m16 hv).1;have a16:M16 A:=by omega
 have b16:M16 (M-A):=by omega
 have eM:=Z0T h16;have eA:=Z0T a16;have hsub:Wz (ofI A) (ofI M)=ofI A:=by
  grind [Z0U,Zqa]
 have eB:=ZBj hsub;rw[eM,eA]at eB;have hp:=ZP5 (ofI M).1 (ofI M).2.1 (ofI M).2.2.1 (ofI M).2.2.2 (ofI A).1 (ofI A).2.1 (ofI A).2.2.1 (ofI A).2.2.2 hsub;have hp1:XR (toI (ofI A))+XR (toI (Uu (ofI M) (ofI A)))=XR (toI (ofI M)):=hp.1;have hp2:orB (ofI A) (Uu (ofI M) (ofI A))=ofI M:=hp.2.1;have hp3:Wz (ofI A) (Uu (ofI M) (ofI A))=(false,false,false,false):=hp.2.2;refine⟨a16,b16,?_,?_,?_,?_⟩
 .grind [ZBi]
 .rw[eB];have:=Zqa (ofI A) (Uu (ofI M) (ofI A));rw[hp3,eA]at this;exact this
 .rw[eB];have:=ZOX (Wg hv).2 (ofI A) (Uu (ofI M) (ofI A)) hp3;rw[eA]at this;rw[this];have h5:=okf2 (Ky qa) (Wg hv) (ofI M) (ofI A);have hcb:=Zqb hv (ofI M);rw[eM,hc]at hcb;have hin:=ZBM hv hM;have n0:ofI A≠(false,false,false,false):=λhe=>by
   rw[he]at eA
   have:toI (false,false,false,false)=0:=rfl
   omega
  have nM:ofI A≠ofI M:=λhe=>by rw[he,eM]at eA;omega
  unfold Zhw at h5
  simp_all
 .simp_all
def ZP7{n:Int}{qa:List Ze}(hv:Z9 n qa=true){M:Int}(hM:MQ qa M)(h0:M≠0)(hc:Va qa M=true)(h1:Kw (ofI M)=false):Xf qa M≠[]:=by
 have h16:=(hM.m16 hv).1;have eM:=Z0T h16;have h5:=okf1 (Ky qa) (Wg hv) (ofI M);have hcb:=Zqb hv (ofI M);rw[eM,hc]at hcb;have hin:=ZBM hv hM;have nz:ofI M≠(false,false,false,false):=λhe=>by
  rw[he]at eM
  have:toI (false,false,false,false)=0:=rfl
  omega
 have one:∀(x:B4) (k:Nat),toI x=(k:Int)->1<=k->Kw x=true->Wz x x=x->VL (Ky qa) qa.length x=true->Wz (ofI M) x≠(false,false,false,false)->(Wz (ofI M) x=x)->VL (Ky qa) qa.length (Uu (ofI M) x)=true->Xf qa M≠[]:=by
  intro x k hk hk1 hx hxx hcx hne hsub hcs;have hsub':Wz x (ofI M)=x:=by
   have:Wz x (ofI M)=Wz (ofI M) x:=by
    obtain⟨a,b,c,d⟩:=x;show(a && (ofI M).1,b && (ofI M).2.1,c && (ofI M).2.2.1,d && (ofI M).2.2.2)=((ofI M).1 && a,(ofI M).2.1 && b,(ofI M).2.2.1 && c,(ofI M).2.2.2 && d)
    grind
   rw[this,hsub]
  have e1:=ZBj hsub';rw[eM,hk]at e1;have hxm:x≠ofI M:=λhe=>by rw[<-he,hx]at h1;cases h1
  have hle:(k:Int)<M:=by
   have q1:=toI_16 (Uu (ofI M) x)
   grind [Z0U]
  have:(k:Int)∈Xf qa M:=by
   refine ZP4 hk1 hle ?_;unfold VK
   grind [Zqb,Zqa]
  grind
 have c1:∀(g:Ed) (n:Nat),1<=n/\n<=4->VL g n (true,false,false,false)=true/\VL g n (false,true,false,false)=true/\VL g n (false,false,true,false)=true/\VL g n (false,false,false,true)=true:=by
  have key:∀a b c d e f:Bool,∀n:Fin 5,1<=n.1->VL ⟨a,b,c,d,e,f⟩ n.1 (true,false,false,false)=true/\VL ⟨a,b,c,d,e,f⟩ n.1 (false,true,false,false)=true/\VL ⟨a,b,c,d,e,f⟩ n.1 (false,false,true,false)=true/\VL ⟨a,b,c,d,e,f⟩ n.1 (false,false,false,true)=true:=by decide
  intro g n hn;exact key g.a g.b g.c g.d g.e g.f ⟨n,by omega⟩ hn.1
 obtain⟨k0,k1,k2,k3⟩:=c1 (Ky qa) qa.length (Wg hv);have sel:∀a b c d:Bool,(¬Wz (a,b,c,d) (true,false,false,false)=(false,false,false,false)->Wz (a,b,c,d) (true,false,false,false)=(true,false,false,false))/\(¬Wz (a,b,c,d) (false,true,false,false)=(false,false,false,false)->Wz (a,b,c,d) (false,true,false,false)=(false,true,false,false))/\(¬Wz (a,b,c,d) (false,false,true,false)=(false,false,false,false)->Wz (a,b,c,d) (false,false,true,false)=(false,false,true,false))/\(¬Wz (a,b,c,d) (false,false,false,true)=(false,false,false,false)->Wz (a,b,c,d) (false,false,false,true)=(false,false,false,true)):=by
  intro a b c d;cases a<;>cases b<;>cases c<;>cases d<;>simp[Wz]
 have hs:=sel (ofI M).1 (ofI M).2.1 (ofI M).2.2.1 (ofI M).2.2.2;unfold Zhv at h5;rw[hin,<-hcb,h1]at h5;have nz':(ofI M == (false,false,false,false))=false:=by simpa using nz
 rw[nz']at h5;simp only[Bool.not_true,Yda,Ycy,Yg,bne_iff_ne,ne_eq]at h5;rcases h5 with((h5|h5)|h5)|h5
 .exact one _ 1 rfl (by omega) rfl rfl k0 h5.1 (hs.1 h5.1) h5.2
 .exact one _ 2 rfl (by omega) rfl rfl k1 h5.1 (hs.2.1 h5.1) h5.2
 .exact one _ 4 rfl (by omega) rfl rfl k2 h5.1 (hs.2.2.1 h5.1) h5.2
 .exact one _ 8 rfl (by omega) rfl rfl k3 h5.1 (hs.2.2.2 h5.1) h5.2
def pos(e:Zd):Bool:=decide (0<e.Mask)
def ZP8(mine:List Zd)(h5:mine.length=5)(sizes:V6)(fr1:Bool)(l:List Zd):∀i:Nat,i<=5->∀(fr:Bool) (out:List Zd),out.length<=i->∃fr',ZdY mine fr out sizes fr1 l i=some (.own 2,[.arr 3 1 true (sizes.map ic),.arr 328 4 fr1 (l.map Zd.c),.arr 328 4 fr' ((out++(mine.drop i).filter pos).map Zd.c)]):=by
 refine down _ ?_ ?_
 .simp_all [WB.1.1.2.2,Ybk]
 .intro i hi ih fr out ho;have h4:=Xd (i:=i) (by omega);have hlt:i<mine.length:=by omega
  have hw:w ((i:Int)+1)=((i+1:Nat):Int):=by rw[show w ((i:Int)+1)=(i:Int)+1 from h4];simp
  rw[Yi hlt,Yc7];by_cases e:0<mine[i].Mask
  .obtain⟨fr',h⟩:=ih false (out++[mine[i]]) (by simp;omega);refine⟨fr',WB.1.1.2.2 _ _ _ _ _ _ _ _ ?_⟩;rw[Ypx];refine⟨by omega,mine[i],by rw[Yh];exact Yf hlt,?_⟩;rw[Ya e,hw];refine⟨by omega,?_⟩;simpa[pos,e]using h
  .obtain⟨fr',h⟩:=ih fr out (by omega);refine⟨fr',WB.1.1.2.2 _ _ _ _ _ _ _ _ ?_⟩;rw[Ypx];refine⟨by omega,mine[i],by rw[Yh];exact Yf hlt,?_⟩;rw[Yb e,hw];simpa[pos,e]using h
def ZP9{m:Zn}{sizes:V6}{qa:List Ze}{M:Int}{mine:List Zd}(h:UF m sizes qa M mine)(hM:0<M):mine.filter pos=mine.filter sm:=by
 refine List.filter_congr λe he=>?_
 obtain⟨k,hk⟩:=List.mem_iff_getElem?.1 he;by_cases h0:e.Mask=0
 .simp[pos,sm,h0]
 .have:=(h.2 k e hk h0).mask;simp[pos,sm,h0];omega
def Js(sizes:V6)(M:Int):Prop:=0<=M/\sizes[M.toNat]?=some (ZU sizes M)
def Z1g{m:Zn}{sizes:V6}{a b:Zd}{k v o:Int}{mine:List Zd}{e:Zd}(he:mine[(o+1).toNat]?=some e):mine.set (o+1).toNat (W0 e (orI a.Mask b.Mask) o (jc m sizes a b k) (Vp a.Zg.Steps b.Zg.Steps k v))=UE m sizes a b k v o mine:=by
 simp[UE,he]
def ZPA(m:Zn)(hm:LeM m)(hg:WC m.Zz)(sizes:V6)(c:Q3 sizes)(qa:List Ze)(fr:Bool)(l:List Zd)(hl:l.length<=1000){A B M:Int}(hp:Jr qa A B M)(hE:WR m sizes qa A (ofM l A))(hF:WR m sizes qa B (ofM l B))(zA:Js sizes A)(zB:Js sizes B)(zM:Js sizes M)(x:X5)(k:Nat)(sh:V6)(cc:x.shared[k]?=some sh)(cd:sh.length<=1000)(hv:∀v∈sh,(-1<=v/\v<=3)/\vin qa A v=true/\vin qa B v=true)(r:V3):∀i,i<=sh.length->∀mine:List Zd,mine.length=5->ZgN sizes fr l m x ((sh.drop i).foldl (JS m sizes A B (ofM l A) (ofM l B)) mine) (w ((k:Int)+1))=some r->ZaA sizes fr l m x mine k A B i=some r:=by
 have pA:=Qb hp.a16;have pB:=Qb hp.b16;refine down _ ?_ ?_
 .intro mine h5 h;refine WB.1.2.1.1 _ _ _ _ _ _ _ _ _ _ _ ⟨by omega,sh,by rw[Yh];exact cc,?_⟩;rw[Ynx];simpa using h
 .intro i hi ih mine h5 h;have h4:=Xd (i:=i) (by omega);have hw:w ((i:Int)+1)=((i+1:Nat):Int):=by rw[show w ((i:Int)+1)=(i:Int)+1 from h4];simp
  rw[Yi hi,Y7]at h;have ih:=ih _ (by rw[show(JS m sizes A B (ofM l A) (ofM l B) mine sh[i]).length=mine.length from K1];exact h5) h;obtain⟨v1,v2,v3⟩:=hv sh[i] (Ye hi);obtain⟨a1,a2,a3,a4,a5⟩:=Zck hE hg c hp.a16 v2;obtain⟨b1,b2,b3,b4,b5⟩:=Zck hF hg c hp.b16 v3;have hlt:(sh[i]+1).toNat<mine.length:=by omega
  have he:mine[(sh[i]+1).toNat]?=some mine[(sh[i]+1).toNat]:=Yf hlt;have ea:0<=(inp m sizes A (ofM l A) sh[i]).Mask/\sizes[(inp m sizes A (ofM l A) sh[i]).Mask.toNat]?=some (ZU sizes (inp m sizes A (ofM l A) sh[i]).Mask):=by rw[a1];exact zA
  have eb:0<=(inp m sizes B (ofM l B) sh[i]).Mask/\sizes[(inp m sizes B (ofM l B) sh[i]).Mask.toNat]?=some (ZU sizes (inp m sizes B (ofM l B) sh[i]).Mask):=by rw[b1];exact zB
  have eab:0<=orI (inp m sizes A (ofM l A) sh[i]).Mask (inp m sizes B (ofM l B) sh[i]).Mask/\sizes[(orI (inp m sizes A (ofM l A) sh[i]).Mask (inp m sizes B (ofM l B) sh[i]).Mask).toNat]?=some (ZU sizes (orI (inp m sizes A (ofM l A) sh[i]).Mask (inp m sizes B (ofM l B) sh[i]).Mask)):=by rw[a1,b1,hp.or];exact zM
  have la:(inp m sizes A (ofM l A) sh[i]).Zg.Steps.length<=1000:=by omega
  have lb:(inp m sizes B (ofM l B) sh[i]).Zg.Steps.length<=1000:=by omega
  have o0:=Z1b m hm sizes mine _ _ 4 sh[i] sh[i] v1 he ea eb eab la lb;have o1:=ZPy m hm sizes mine _ _ 4 sh[i] sh[i] v1 he ea eb eab la lb;have o2:=ZPz m hm sizes mine _ _ 4 sh[i] sh[i] v1 he ea eb eab la lb;have o3:=ZP0 m hm sizes mine _ _ 4 sh[i] sh[i] v1 he ea eb eab la lb;rw[Z1g he]at o0 o1 o2 o3;refine WB.1.2.1.1 _ _ _ _ _ _ _ _ _ _ _ ⟨by omega,sh,by rw[Yh];exact cc,?_⟩;rw[Ypx];refine⟨by omega,sh[i],by rw[Yh];exact Yf hi,?_⟩;rw[hw];have bA:=hE.len _ hE.best;have bB:=hF.len _ hF.best;rcases Z1a m hm sizes fr l hl zA.1 zA.2 hE.ne (by omega) sh[i]with ha|ha
  .refine .inl ⟨_,ha,?_⟩;rcases Z1a m hm sizes fr l hl zB.1 zB.2 hF.ne (by omega) sh[i]with hb|hb
   .exact .inl ⟨_,hb,_,_,o0,ih⟩
   .exact .inr ⟨_,_,_,_,hb,_,_,_,o1,ih⟩
  .refine .inr ⟨_,_,_,_,ha,?_⟩;rcases Z1a m hm sizes fr l hl zB.1 zB.2 hF.ne (by omega) sh[i]with hb|hb
   .exact .inl ⟨_,hb,_,_,_,o2,ih⟩
   .exact .inr ⟨_,_,_,_,hb,_,_,_,_,o3,ih⟩
def Z1h(m:Zn)(hm:LeM m)(sizes:V6)(qa:List Ze)(fr:Bool)(l:List Zd)(hl:l.length<=1000){A B M:Int}(hp:Jr qa A B M)(hE:WR m sizes qa A (ofM l A))(b:Zd)(hb:b.Mask=B)(lb:b.Zg.Steps.length<=1000)(zA:Js sizes A)(zB:Js sizes B)(zM:Js sizes M)(x:X5)(k:Int)(r:V3):∀n:Nat,n<=5->∀mine:List Zd,mine.length=5->ZaA sizes fr l m x (Jp (Jq m sizes b) (ofM l A) n (4-n) mine) k A B 0=some r->ZgO sizes fr l m x mine b k A B (4-n)=some r
 |0,_,mine,h5,h=>by
  apply WB.1.1.2.1;rw[Ynx]
  exact h
 |n+1,hn,mine,h5,h=>by
  have pA:=Qb hp.a16;have hw:w ((4:Int)-((n+1:Nat):Int)+1)=4-(n:Int):=by rw[Q2 (by omega) (by omega)];omega
  rw[Jp,show(4:Int)-((n+1:Nat):Int)+1=4-(n:Int) by omega]at h;have hf:=ZB8 l A (4-((n+1:Nat):Int));apply WB.1.1.2.1;rw[Ypx,hw];refine⟨_,Zqd l A _ hl,?_⟩
  cases ho:ofO (ofM l A) (4-((n+1:Nat):Int))with
  |none =>
   rw[ho]at hf h;simp only at hf h;rw[hf,Ynx]
   exact Z1h m hm sizes qa fr l hl hp hE b hb lb zA zB zM x k r n (by omega) mine h5 h
  |some e =>
   rw[ho]at hf h;simp only at hf h;have hmem:e∈ofM l A:=List.mem_of_find?_eq_some ho;have hov:e.Zl=4-((n+1:Nat):Int):=by have:=List.find?_some ho;simpa using this
   have le:=hE.len e hmem;have me:=hE.mask e hmem;have hlt:((4-((n+1:Nat):Int))+1).toNat<mine.length:=by omega
   have he:=Yf hlt;have o0:=Z1b m hm sizes mine e b 5 0 (4-((n+1:Nat):Int)) (by omega) he (by rw[me];exact zA) (by rw[hb];exact zB) (by rw[me,hb,hp.or];exact zM) (by omega) lb;rw[Z1g he]at o0;rw[Ya hf.1];refine⟨e,hf.2,_,_,o0,?_⟩;rw[show Jq m sizes b mine e=UE m sizes e b 5 0 (4-((n+1:Nat):Int)) mine by rw[Jq,hov]]at h;exact Z1h m hm sizes qa fr l hl hp hE b hb lb zA zB zM x k r n (by omega) _ (by rw[K1];exact h5) h
def K2(m:Zn)(sizes:V6)(M:Int)(l c:List Zd)(p:Int×V6):List Zd:=Zes m sizes p.1 (M-p.1) p.2 (ofM l p.1) (ofM l (M-p.1)) c
structure Zet (m:Zn) (sizes:V6) (qa:List Ze) (l:List Zd) (M A:Int) (sh:V6):Prop where
 pair:Jr qa A (M-A) M
 left:WR m sizes qa A (ofM l A)
 right:WR m sizes qa (M-A) (ofM l (M-A))
 zA:Js sizes A
 zB:Js sizes (M-A)
 len:sh.length<=1000
 vars:∀v∈sh,(-1<=v/\v<=3)/\vin qa A v=true/\vin qa (M-A) v=true
def ZPB(m:Zn)(hm:LeM m)(hg:WC m.Zz)(sizes:V6)(cc:Q3 sizes)(qa:List Ze)(fr:Bool)(l:List Zd)(hl:l.length<=1000)(x:X5)(zM:Js sizes x.mask)(cd:M16 x.mask)(c:x.Xf.length=x.shared.length)(hx:x.Xf.length<=100)(ok:∀p∈x.Xf.zip x.shared,Zet m sizes qa l x.mask p.1 p.2)(r:V3):∀i,i<=x.Xf.length->∀mine:List Zd,mine.length=5->ZdY (((x.Xf.zip x.shared).drop i).foldl (K2 m sizes x.mask l) mine) true [] sizes fr l 0=some r->ZgN sizes fr l m x mine i=some r:=by
 have hz:(x.Xf.zip x.shared).length=x.Xf.length:=by simp[c]
 refine down _ ?_ ?_
 .simp_all [WB.1.1.1,Ybk]
 .intro i hi ih mine h5 h;have h4:=Xd (i:=i) (by omega);have hw:w ((i:Int)+1)=((i+1:Nat):Int):=by rw[show w ((i:Int)+1)=(i:Int)+1 from h4];simp
  have hiz:i<(x.Xf.zip x.shared).length:=by omega
  have his:i<x.shared.length:=by omega
  rw[Yi hiz,Y7,List.getElem_zip]at h;have o:=ok _ (Ye hiz);rw[List.getElem_zip]at o;have ih:=ih _ (by rw[show(K2 m sizes x.mask l mine (x.Xf[i],x.shared[i])).length=mine.length from ZBI];exact h5) h;have hB:w (x.mask-x.Xf[i])=x.mask-x.Xf[i]:=by
   have:=o.pair.b16
   grind [Q2]
  obtain⟨k1,k2⟩:=Zqg o.left.ne;obtain⟨j1,j2⟩:=Zqg o.right.ne;have eM:=o.left.mask _ o.left.best;have fM:=o.right.mask _ o.right.best;have pA:=Qb o.pair.a16;have pB:=Qb o.pair.b16;have la:=o.left.len _ o.left.best;have lb:=o.right.len _ o.right.best;have hlt:((-1:Int)+1).toNat<mine.length:=by simp;omega
  have he:=Yf hlt;have o0:=Z1b m hm sizes mine _ _ 3 0 (-1) (by omega) he (by rw[eM];exact o.zA) (by rw[fM];exact o.zB) (by rw[eM,fM,o.pair.or];exact zM) (by omega) (by omega);rw[Z1g he]at o0;apply WB.1.1.1;rw[Ypx];refine⟨by omega,x.Xf[i],by rw[Yh];exact Yf hi,?_⟩;rw[hB];refine⟨_,Zhy l _ hl,k1,_,k2,_,Zhy l _ hl,j1,_,j2,_,_,o0,?_⟩;refine Z1h m hm sizes qa fr l hl o.pair o.left _ fM (by omega) o.zA o.zB zM x i r 5 (Yj _) _ (by rw[K1];exact h5) ?_;rw[Z1c _ 5 _ _ _ o.left.up (λe he=>by have:=o.left.ord e he;omega)];refine ZPA m hm hg sizes cc qa fr l hl o.pair o.left o.right o.zA o.zB zM x i _ (Yf his) o.len o.vars r 0 (Yc _) _ (by rw[Zqi,K1];exact h5) ?_;rw[hw,Ym];exact ih
def Z1i{m:Zn}{sizes:V6}{qa:List Ze}{l:List Zd}{M:Int}(hg:WC m.Zz)(cc:Q3 sizes):∀{ps:List (Int×V6)} {c:List Zd},(∀p∈ps,Zet m sizes qa l M p.1 p.2)->UF m sizes qa M c->UF m sizes qa M (ps.foldl (K2 m sizes M l) c)
 |[],_,_,h=>h
 |p::ps,c,hp,h=>by
  have o:=hp p (by simp);rw[Y7];exact Z1i hg cc (λy hy=>hp y (by simp[hy])) (ZP3 o.pair hg cc o.left o.right o.vars h)
def Zh1(m:Zn)(sizes:V6)(M:Int)(l:List Zd)(ps:List (Int×V6)):List Zd:=ps.foldl (K2 m sizes M l) (List.replicate 5 zE)
def ZPC(m:Zn)(hm:LeM m)(hg:WC m.Zz)(sizes:V6)(cc:Q3 sizes)(qa:List Ze)(fr:Bool)(l:List Zd)(hl:l.length<=1000)(x:X5)(zM:Js sizes x.mask)(cl:M16 x.mask)(h0:0<x.mask)(cd:x.Xf.length=x.shared.length)(hx:x.Xf.length<=100)(ok:∀p∈x.Xf.zip x.shared,Zet m sizes qa l x.mask p.1 p.2) :
  ∃fr',Zpg sizes fr l m x=some (.own 2,[.arr 3 1 true (sizes.map ic),.arr 328 4 fr (l.map Zd.c),.arr 328 4 fr' (((Zh1 m sizes x.mask l (x.Xf.zip x.shared)).filter sm).map Zd.c)]):=by
 have hs:UF m sizes qa x.mask (Zh1 m sizes x.mask l (x.Xf.zip x.shared)):=Z1i hg cc ok (ZBJ m sizes qa x.mask);obtain⟨fr',h⟩:=ZP8 _ hs.1 sizes fr l 0 (by omega) true [] (Yj _);rw[Ym,Ybi,ZP9 hs h0]at h;exact⟨fr',WB.1.2.1.2 _ _ _ _ _ _ (ZPB m hm hg sizes cc qa fr l hl x zM cl cd hx ok _ 0 (Yc _) _ (by simp) (by rw[Ym];exact h))⟩
def ZPD{m:Zn}{sizes:V6}{a b:Zd}{k v o:Int}(ho:-1<=o/\o<=3)(a0 a1 a2 a3 a4:Zd):UE m sizes a b k v o [a0,a1,a2,a3,a4] =
  [XS 0 a0 (orI a.Mask b.Mask) o (jc m sizes a b k) (Vp a.Zg.Steps b.Zg.Steps k v),XS 1 a1 (orI a.Mask b.Mask) o (jc m sizes a b k) (Vp a.Zg.Steps b.Zg.Steps k v),XS 2 a2 (orI a.Mask b.Mask) o (jc m sizes a b k) (Vp a.Zg.Steps b.Zg.Steps k v),XS 3 a3 (orI a.Mask b.Mask) o (jc m sizes a b k) (Vp a.Zg.Steps b.Zg.Steps k v),XS 4 a4 (orI a.Mask b.Mask) o (jc m sizes a b k) (Vp a.Zg.Steps b.Zg.Steps k v)]:=by
 have h5:o=-1\/o=0\/o=1\/o=2\/o=3:=by omega
 rcases h5 with rfl|rfl|rfl|rfl|rfl<;>simp[UE,XS]
def five{mine:List Zd}(h:mine.length=5):∃a0 a1 a2 a3 a4,mine=[a0,a1,a2,a3,a4]:=by
 match mine,h with
 |[a0,a1,a2,a3,a4],_=>exact⟨a0,a1,a2,a3,a4,rfl⟩
def Z1j(m:Zn)(hm:LeM m)(q:Zf)(hq:LeQ q)(cl:Z9 q.Zk q.Zb=true)(sizes:V6)(hs:Le sizes)(cd:VM q.Zk q.Zb sizes=true){A B M:Int}(cc:M16 M)(hM:M≠0)(hp:Jr q.Zb A B M){a b:Zd}{k v o oa ob:Int}(ho:-1<=o/\o<=3)(hk:3<=k)(ha:a.Mask=A)(hb:b.Mask=B)(ma:XY m sizes q.Zb a.Zg.Steps A oa a.Zv)(mb:XY m sizes q.Zb b.Zg.Steps B ob b.Zv)(hj:QV q.Zb ⟨k,0,v⟩ (A,oa) (B,ob)=some o)(hl:a.Zg.Steps.length+2<=4*XR A/\b.Zg.Steps.length+2<=4*XR B)(a0 a1 a2 a3 a4:Zd) :
  ∃b0 b1 b2 b3 b4 t,UE m sizes a b k v o [a0,a1,a2,a3,a4]=[b0,b1,b2,b3,b4]/\(t=.dead\/t=.arr 258 3 true ((Vp a.Zg.Steps b.Zg.Steps k v).map Zj.c))/\Zaz m q sizes M a0 a1 a2 a3 a4 (sm a0) (sm a1) (sm a2) (sm a3) (sm a4) (Vp a.Zg.Steps b.Zg.Steps k v) o=some (.tup [],[WF m q sizes M b0 b1 b2 b3 b4 (sm b0) (sm b1) (sm b2) (sm b3) (sm b4),t]):=by
 have hpop:=hp.pop;have p4:=Qb cc;have mk:=ZB0 (x:=⟨k,0,v⟩) ma mb hk rfl hp.dis hp.shr hj;rw[hp.or]at mk;have hc:=XY.cost mk cl (by simp only[Yq,Yw,Ybj];omega) cd;obtain⟨t,ht,hx⟩:=ZB4 m hm q hq sizes hs M hM a0 a1 a2 a3 a4 (Vp a.Zg.Steps b.Zg.Steps k v) o ho _ hc;refine⟨_,_,_,_,_,t,ZPD ho a0 a1 a2 a3 a4,ht,?_⟩;rw[hx];simp only[jc,ha,hb,hp.or]
