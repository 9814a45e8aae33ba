/-
  Parts of the proofs for this seat: AMJoin AMFz AMSound AMCall AMCode AMFrame AMDraw AMDraw2 AMZ AMTop.
-/
import Derived.Deep.LoopGhost
import Derived.Orders
import Derived.Test.YtggcnlojfngdeaaGreatP2
set_option linter.all false
namespace Go.AM
open Go.RowKit (Below)
section
variable{N:Bi}{A:Nat->Prop}{base:Nat}{ρ ρc:Map}{h hr:WM}{w w':World}{n b:Nat}
def Vt(ρ ρc:Map)(n len:Nat):Map:=λb=>if n<=b/\b<n+len then ρc (b-n)else ρ b
theorem GO(n:Nat):∀(bs:WM) (i:Nat) (h:WM) (b:Nat),gt (upd h (AH n bs i)) b=if n+i<=b/\b<n+i+bs.length then A0 (λc=>c+n) (gt bs (b-(n+i)))else gt h b
 |[],i,h,b=>by simp[AH,upd];intro h1 h2;omega
 |x::bs,i,h,b=>by
  simp only[AH,upd];rw[GO n bs (i+1),Vh];by_cases h1:b=n+i
  .subst h1;rw[Ap,Ya rfl,Ya Om];simp[gt]
  .by_cases h2:n+(i+1)<=b/\b<n+(i+1)+bs.length
   .have h3:n+i<=b/\b<n+i+(x::bs).length:=by simp;omega
    rw[Ya h2,Ya h3]
    have:b-(n+i)=(b-(n+(i+1)))+1:=by omega
    rw[this];simp[gt]
   .grind
theorem T0(n:Nat):∀(bs:WM) (i b:Nat),b∈(AH n bs i).map Prod.fst↔n+i<=b/\b<n+i+bs.length
 |[],i,b=>by simp[AH]
 |x::bs,i,b=>by
  simp only[AH,Yx,Yz,T0 n bs (i+1),Yy];omega
theorem ZqA{e sz:Nat}{fr:Bool}{es:WA}(hf:hr.all OT=true)(hb:gt hr b=.arr e sz fr es):fr=true:=by
 unfold gt at hb
 cases hx:hr[b]? with
 |none=>simp[hx]at hb
 |some x =>
  simp[hx]at hb;subst hb;have:=Yn.1 hf _ (Y3 hx);exact this
theorem Z1h{cs:XQ}(hf:hr.all OT=true)(hb:gt hr b=.box cs):UE cs=true:=by
 unfold gt at hb
 cases hx:hr[b]? with
 |none=>simp[hx]at hb
 |some x =>
  simp[hx]at hb;subst hb;exact Yn.1 hf _ (Y3 hx)
def C4(w:World)(A:Nat->Prop):Bi:=⟨λg=>w.heap.size<=g\/A g,λg=>w.heap.size<=g,λ_=>False⟩
structure UI (N:Bi) (A:Nat->Prop) (base:Nat) (ρ:Map) (h:WM) (w:World) (ρc:Map) (hr:WM) (w':World) (n:Nat):Prop where
 R:Rel N base ρ h w
 B:Below w.heap.size w w'
 Rc:Rel (C4 w A) w.heap.size ρc hr w'
 new:∀b,n<=b->b<n+hr.length->ρ b=none
 dom:∀b,hr.length<=b->ρc b=none
 share:(∀g,A g->Free N ρ h g)\/hr.all OT=true
theorem UI.free_new(J:UI N A base ρ h w ρc hr w' n){g:Nat}(hg:Free (C4 w A) ρc hr g)(hs:w.heap.size<=g\/∀g,A g->Free N ρ h g) :
  Free N (Vt ρ ρc n hr.length) (upd h (AH n hr 0)) g:=by
 have hor:w.heap.size<=g\/Free N ρ h g:=by
  rcases hs with hs|hs
  .exact .inl hs
  .exact hg.1.imp id (hs g)
 refine⟨?_,?_⟩
 .rcases hor with h1|h1
  .exact(J.R.hN g h1).1
  .exact h1.1
 .intro b r hb hd he;rw[GO]at hd;simp only[Dz]at hd;simp only[Vt]at hb;by_cases hc:n<=b/\b<n+hr.length
  .rw[Ya hc]at hb hd;exact hg.2 (b-n) r hb (λhx=>hd (by rw[hx];rfl)) he
  .rw[Yb hc]at hb hd;have:=J.R.lt hb hd he;rcases hor with h1|h1
   .omega
   .exact h1.2 b r hb hd he
theorem UI.keeps(J:UI N A base ρ h w ρc hr w' n):X7 ρ w (Free N ρ h) (Vt ρ ρc n hr.length) w' (Free N (Vt ρ ρc n hr.length) (upd h (AH n hr 0))):=by
 constructor
 .intro b r hb;refine⟨r,?_,rfl⟩;simp only[Vt];rw[Yb λhc=>by rw[J.new b hc.1 hc.2]at hb;cases hb];exact hb
 .intro g hlt hf;refine⟨⟨hf.1,?_⟩,J.B.block g hlt⟩;intro b r hb hd he;rw[GO]at hd;simp only[Dz]at hd;simp only[Vt]at hb;by_cases hc:n<=b/\b<n+hr.length
  .rw[Ya hc]at hb hd;have:=J.Rc.lt hb (λhx=>hd (by rw[hx];rfl)) he;omega
  .rw[Yb hc]at hb hd;exact hf.2 b r hb hd he
theorem UI.root(J:UI N A base ρ h w ρc hr w' n){r:Root}(hb:ρc b=some r):Vt ρ ρc n hr.length (b+n)=some r:=by
 have hlt:b<hr.length:=by
  rcases Dl b hr.length with h1|h1
  .exact h1
  .rw[J.dom b h1]at hb;cases hb
 simp only[Vt]
 grind
theorem UI.rel(J:UI N A base ρ h w ρc hr w' n):Rel N base (Vt ρ ρc n hr.length) (upd h (AH n hr 0)) w':=by
 have hk:=J.keeps;have hsplit:∀b r,Vt ρ ρc n hr.length b=some r->gt (upd h (AH n hr 0)) b≠.dead->
   (ρ b=some r/\gt h b≠.dead/\gt (upd h (AH n hr 0)) b=gt h b)\/(n<=b/\ρc (b-n)=some r/\gt hr (b-n)≠.dead/\gt (upd h (AH n hr 0)) b=A0 (λc=>c+n) (gt hr (b-n))):=by
  intro b r hb hd;rw[GO]at hd|-;simp only[Dz]at hd|-;simp only[Vt]at hb;by_cases hc:n<=b/\b<n+hr.length
  .rw[Ya hc]at hb hd|-;exact .inr ⟨hc.1,hb,λhx=>hd (by rw[hx];rfl),rfl⟩
  .grind
 refine⟨Y8 J.R.hb J.B.size,λg hl=>J.R.hN g (Y8 J.B.size hl),?_,?_,?_,?_⟩
 .intro b r g hb hd hg;rcases hsplit b r hb hd with⟨h1,h2,_⟩|⟨h0,h1,h2,_⟩
  .exact J.R.hO b r g h1 h2 hg
  .exact J.R.hN g (J.Rc.lt h1 h2 hg).1
 .intro b hd;have hd':=hd;rw[GO]at hd;simp only[Dz]at hd;by_cases hc:n<=b/\b<n+hr.length
  .rw[Ya hc]at hd;obtain⟨r,h1,h2⟩:=J.Rc.blk (b-n) λhx=>hd (by rw[hx];rfl)
   refine⟨r,by simp only[Vt];rw[Ya hc];exact h1,?_⟩;rw[GO];simp only[Dz];rw[Ya hc]
   cases hx:gt hr (b-n)with
   |dead=>trivial
   |box cs =>
    rw[hx]at h2;obtain⟨h0,g,c,e,h3,h4,h5,h6,h7⟩:=h2;refine⟨h0,g,c,e,h3,Y8 J.R.hb h4,h5,?_,h7⟩;rcases J.share with hs|hs
    .exact h6.ren _ (λc _ r hr'=>J.root hr') λg _ hg=>J.free_new hg (.inr hs)
    .exact h6.scal _ (λc _ r hr'=>J.root hr') (Z1h hs hx)
   |arr e sz fr es =>
    rw[hx]at h2;obtain⟨h0,e',xs,he',h3,h4,h5,h6,h7,h8,h9⟩:=h2;refine⟨h0,e',xs,he',IB J.R.hb h3,h4,h5,h6,λg hg=>?_,λhf=>⟨(h8 hf).1,λg hg=>(J.R.hN g ((h8 hf).2 g hg)).2⟩,λhf=>(h9 hf).mono J.R.hb⟩;rcases J.share with hs|hs
    .exact J.free_new (h7 g hg) (.inr hs)
    .exact J.free_new (h7 g hg) (.inl ((h8 (ZqA hs hx)).2 g hg))
   |det e sz es i off c =>
    rw[hx]at h2;obtain⟨e',xs,rb,fa,fc,he,ho,hsz,hl,hrb,hcell,q1,q2,hex,hA,hC,oA,oC,rest⟩:=h2
    exact⟨e',xs,rb,fa,fc,he,IB J.R.hb ho,hsz,hl,J.root hrb,hcell,q1,q2,hex,hA,hC,oA.mono J.R.hb,oC.mono J.R.hb,rest⟩
   |xarr e sz es =>
    rw[hx]at h2;obtain⟨e',xs,he',h3,h4,h5,h6,h7,rest⟩:=h2;exact⟨e',xs,he',IB J.R.hb h3,h4,h5,h6,h7.mono J.R.hb,rest⟩
  .rw[Yb hc]at hd;obtain⟨r,h1,h2⟩:=J.R.blk b hd;refine⟨r,by simp only[Vt];rw[Yb hc];exact h1,?_⟩;rw[GO];simp only[Dz];rw[Yb hc];exact h2.keep hk λg hg=>J.B.block g (h2.lt hd hg).2
 .intro b b' r r' g hb hb' hd hd' hg hg';rcases hsplit b r hb hd with⟨h1,h2,_⟩|⟨h0,h1,h2,_⟩<;>rcases hsplit b' r' hb' hd' with⟨h3,h4,_⟩|⟨h0',h3,h4,_⟩
  .exact J.R.inj b b' r r' g h1 h3 h2 h4 hg hg'
  .have q1:=(J.R.lt h1 h2 hg).2;have q2:=(J.Rc.lt h3 h4 hg').1;omega
  .have q1:=(J.R.lt h3 h4 hg').2;have q2:=(J.Rc.lt h1 h2 hg).1;omega
  .have:=J.Rc.inj (b-n) (b'-n) r r' g h1 h3 h2 h4 hg hg';omega
 .intro b b' r r' g hb hb' hf hf' hg hg';have Ab7:∀b r,ρ b=some r->Xm (gt h b)=true->∀g∈r.fp,g<w.heap.size:=by
   intro b r hb hf g hg;obtain⟨r2,h1,h2⟩:=J.R.blk b (KV hf);rw[hb]at h1;cases h1
   cases hx:gt h b with
   |dead=>rw[hx]at hf;cases hf
   |box cs=>rw[hx]at hf;cases hf
   |arr e sz fr es=>rw[hx]at h2;obtain⟨_,_,xs,_,_,_,_,h6,_⟩:=h2;exact h6.lt g hg
   |xarr e sz es=>rw[hx]at hf;cases hf
   |det e sz es i off c=>rw[hx]at hf;cases hf
  have Ab8:∀b r,ρc b=some r->Xm (gt hr b)=true->∀g∈r.fp,w.heap.size<=g:=by
   intro b r hb hf g hg;obtain⟨r2,h1,h2⟩:=J.Rc.blk b (KV hf);rw[hb]at h1;cases h1
   cases hx:gt hr b with
   |dead=>rw[hx]at hf;cases hf
   |box cs=>rw[hx]at hf;cases hf
   |arr e sz fr es =>
    rw[hx]at h2 hf;obtain⟨_,_,xs,_,_,_,_,_,_,h8,_⟩:=h2
    exact(h8 hf).2 g hg
   |xarr e sz es=>rw[hx]at hf;cases hf
   |det e sz es i off c=>rw[hx]at hf;cases hf
  rcases hsplit b r hb (KV hf)with⟨h1,h2,e1⟩|⟨h0,h1,h2,e1⟩<;>rcases hsplit b' r' hb' (KV hf')with⟨h3,h4,e2⟩|⟨h0',h3,h4,e2⟩
  .rw[e1]at hf;rw[e2]at hf';exact J.R.apart b b' r r' g h1 h3 hf hf' hg hg'
  .grind [KW]
  .grind [KW]
  .rw[e1,KW]at hf;rw[e2,KW]at hf';have:=J.Rc.apart (b-n) (b'-n) r r' g h1 h3 hf hf' hg hg';omega
theorem UI.val(J:UI N A base ρ h w ρc hr w' n){r:AV}{v:Value}(hv:RV ρc w' (Free (C4 w A) ρc hr) r v)(hs:(∀g,A g->Free N ρ h g)\/QL r=true) :
  RV (Vt ρ ρc n hr.length) w' (Free N (Vt ρ ρc n hr.length) (upd h (AH n hr 0))) (shift n r) v:=by
 rcases hs with hs|hs
 .exact hv.ren _ (λb _ r hr'=>J.root hr') λg _ hg=>J.free_new hg (.inr hs)
 .exact hv.scal _ (λb _ r hr'=>J.root hr') hs
end
open Go.RowKit (Below)
section
variable{P:Program}{N:Bi}{base:Nat}{ρ:Map}{h:WM}{w:World}{v d:AV}{val:Value}
theorem Z1i(R:Rel N base ρ h w){b:Nat}{r:Root}(hr:ρ b=some r){el sz:Nat}{es:WA}(hb:gt h b=.xarr el sz es):∃fp,TR w (.lst sz es) r.v fp/\∀g∈fp,X3 r g:=by
 have hd:gt h b≠.dead:=by rw[hb];intro hc;cases hc
 obtain⟨r',h1,h2⟩:=R.blk b hd;rw[hr]at h1;cases h1;rw[hb]at h2;obtain⟨e',xs,_,hown,hsz,hl,ht,_⟩:=h2;by_cases hz:es=[]
 .subst hz;refine⟨[],?_,λg hg=>by cases hg⟩;rcases hown.2 with⟨hv,_⟩|⟨g,cap,cur,hv,_⟩<;>rw[hv]<;>exact .lst0 _ _ _
 .rcases hown.2 with⟨_,hz'⟩|⟨g,cap,cur,hv,hbg,hg,hcap,_,hcs',htake⟩
  .simp_all
  .refine⟨g::r.ex,?_,?_⟩
   .rw[hv];refine .lst hz hsz hcap hg hl ?_
    simp_all
   .intro x hx
    cases hx with
    |head=>exact .inl (by rw[hv];rfl)
    |tail _ hx=>exact .inr hx
theorem Z1j(R:Rel N base ρ h w){x:T}(hf:BF h v=some x)(hv:RV ρ w (Free N ρ h) v val):∃fp,TR w x val fp/\∀g∈fp,N.a g:=by
 cases v<;>try (simp[BF]at hf;done)
 .simp[BF]at hf;subst hf
  cases hv with
  |t hT hf=>exact⟨_,hT,λg hg=>(hf g hg).1⟩
 .rename_i b;simp only[BF]at hf;split at hf
  .rename_i el sz fr es hb;cases hf
   cases hv with
   |own hr hone =>
    have hd:gt h b≠.dead:=by rw[hb];intro hc;cases hc
    obtain⟨fp,hT,_,hg,_⟩:=TL R hr hb;obtain⟨r',h1,h2⟩:=R.blk b hd;rw[hr]at h1;cases h1;rw[hb]at h2;obtain⟨_,_,_,_,_,_,_,_,hfree,_⟩:=h2;exact⟨fp,hT,λg hg'=>(hg g hg').elim (λq=>(R.hO b _ g hr hd (.inl q)).1) λq=>(hfree g q).1⟩
  .rename_i el sz es hb;cases hf
   cases hv with
   |own hr hone =>
    have hd:gt h b≠.dead:=by rw[hb];intro hc;cases hc
    obtain⟨fp,hT,hg⟩:=Z1i R hr hb;exact⟨fp,hT,λg hg'=>(R.hO b _ g hr hd (hg g hg')).1⟩
  .cases hf
theorem Z1k(R:Rel N base ρ h w):∀{cs:XQ} {ts:V4} {vs:V3},Qt h cs=some ts->Ay ρ w (Free N ρ h) cs vs->∃fp,AK w ts vs fp/\∀g∈fp,N.a g
 |[],ts,vs,hg,hv=>by simp[Qt]at hg;subst hg;cases hv;exact⟨[],.nil,λg hg=>by cases hg⟩
 |c::cs,ts,vs,hg,hv=>by
  cases hv with
  |cons h1 h2 =>
   simp only[Qt]at hg;split at hg
   .rename_i x xs hx hxs;cases hg;obtain⟨fp,h3,h4⟩:=Z1j R hx h1;obtain⟨fq,h5,h6⟩:=Z1k R hxs h2;exact⟨fp++fq,.cons h3 h5,λg hg=>(Yi.1 hg).elim (h4 g) (h6 g)⟩
   .cases hg
theorem Z1l(R:Rel N base ρ h w)(hp:DC v=true)(hf:Do h v=some d)(hv:RV ρ w (Free N ρ h) v val):RV (λ_=>none) w N.a d val:=by
 cases v<;>try (simp[DC]at hp;done)
 .simp[Do,Bt]at hf;subst hf
  cases hv with
  |t hT hf=>exact .t hT λg hg=>(hf g hg).1
 .rename_i cs;simp only[Do,Bt]at hf;split at hf
  .rename_i ds hds;cases hf
   cases hv with
   |agg hc h1 =>
    obtain⟨fp,h3,h4⟩:=Z1k R hds hc;exact .agg (Ay.of_TRs h3 h4) h1
  .cases hf
 .rename_i b;have hv':=hv
  have:∃x,BF h (.own b)=some x/\d=.t x:=by
   simp only[Do,Bt]at hf;simp only[BF]
   grind
  obtain⟨x,hx,rfl⟩:=this;obtain⟨fp,h3,h4⟩:=Z1j R hx hv';exact .t h3 h4
theorem Z1m(R:Rel N base ρ h w):∀{vs ds:XQ} {vals:V3},vs.all DC=true->AG h vs=some ds->Ay ρ w (Free N ρ h) vs vals->Ay (λ_=>none) w N.a ds vals
 |[],ds,vals,_,hf,hv=>by simp[AG]at hf;subst hf;cases hv;exact .nil
 |v::vs,ds,vals,hp,hf,hv=>by
  simp only[Cz,Yd]at hp
  cases hv with
  |cons h1 h2 =>
   simp only[AG]at hf;split at hf
   .rename_i x xs hx hxs;cases hf;exact .cons (Z1l R hp.1 hx h1) (Z1m R hp.2 hxs h2)
   .cases hf
theorem ZCb(R:Rel N base ρ h w)(hf:Cu h v=some d)(hv:RV ρ w (Free N ρ h) v val):RV (λ_=>none) w N.a d val:=by
 unfold Cu at hf;split at hf
 .split at hf
  .rename_i hg;split at hf
   .rename_i ds hds;cases hf
    cases hv with
    |tup hc=>exact .tup (Z1m R hg hds hc)
   .cases hf
  .cases hf
 .grind [Z1l]
end
open Go.RowKit (Below)
abbrev VI:Map:=λ_=>none
def Ww(P:Program):CV:=λf args h0 r h1=>KT P f=true/\∀(N:Bi) (base:Nat) (w:World) (ρ:Map) (vs:Array Value),Rel N base ρ h0 w->(∀b,h0.length<=b->ρ b=none)->
 Ay ρ w (Free N ρ h0) args vs.toList->(∀g,N.z g->Free N ρ h0 g)->
 Calls P f vs w λe w'=>∃v ρ',e=.returned v/\Below base w w'/\Rel N base ρ' h1 w'/\RV ρ' w' (Free N ρ' h1) r v/\(∀b,h1.length<=b->ρ' b=none)/\h0.length<=h1.length/\
  (∀g,g<w.heap.size->¬N.a g->w'.heap[g]?=w.heap[g]?)/\(∀g,g<w.heap.size->N.z g->Free N ρ' h1 g/\w'.heap[g]?=w.heap[g]?)/\
  ∀b r0,b<h0.length->ρ b=some r0->∃r1,ρ' b=some r1/\r1.v=r0.v
def Rel.empty{N:Bi}{base:Nat}{w:World}(hb:base<=w.heap.size)(hN:∀g,w.heap.size<=g->N.a g/\N.f g):Rel N base VI [] w :=
 ⟨hb,hN,λb r g hr=>(by cases hr),λb hb=>absurd (by simp[gt]) hb,λb b' r r' g hb=>(by cases hb),λb b' r r' g hb=>(by cases hb)⟩
def Ww.data{P:Program}{f:Nat}{args:XQ}{r:AV}{hr:WM}(h:Ww P f args [] r hr)(w:World)(A:Nat->Prop)(vs:Array Value)(hv:Ay VI w A args vs.toList) :
  Calls P f vs w λe w'=>∃v ρ,e=.returned v/\Below w.heap.size w w'/\Rel (C4 w A) w.heap.size ρ hr w'/\RV ρ w' (Free (C4 w A) ρ hr) r v/\∀b,hr.length<=b->ρ b=none:=by
 have hk:X7 VI w A VI w (Free (C4 w A) VI []):=⟨λb r hb=>(by cases hb),λg _ hg=>⟨⟨.inr hg,λb r hb=>(by cases hb)⟩,rfl⟩⟩;refine(h.2 (C4 w A) w.heap.size w VI vs (.empty (Yk _) λg hg=>⟨.inl hg,hg⟩) (λ_ _=>rfl) (hv.keep hk) (λg hg=>hg.elim)).mono ?_
 grind
section
variable{P:Program}{N:Bi}{base:Nat}{ρ:Map}{h:WM}{w:World}{e:Env}{a:Act}{inl:V2}{ops:Array Oper}{F:Nat->Prop}{f:Nat}{v d r:AV}{val:Value}{vs as:XQ}{o:Oper}{vals:Array Value}{hr:WM}{K:Act->World->Prop}{Q:Exit->Act->World->Prop}
theorem Et(R:Rel N base ρ h w){x:T}(hf:BF h v=some x)(hv:RV ρ w (Free N ρ h) v val)(hF:(refs v=[]/\∀g,Free N ρ h g->F g)\/∀g,F g):∃fp,TR w x val fp/\∀g∈fp,F g:=by
 cases v<;>try (simp[BF]at hf;done)
 .simp[BF]at hf;subst hf
  cases hv with
  |t hT hf=>exact⟨_,hT,λg hg=>hF.elim (λh2=>h2.2 g (hf g hg)) λh2=>h2 g⟩
 .rename_i b;simp only[BF]at hf;split at hf
  .rename_i el sz fr es hb;cases hf;rcases hF with hF|hF
   .simp[refs]at hF
   .cases hv with
    |own hr hone =>
     grind [TL]
  .rename_i el sz es hb;cases hf;rcases hF with hF|hF
   .simp[refs]at hF
   .cases hv with
    |own hr hone =>
     obtain⟨fp,hT⟩:=Z1c R hr hb
     grind
  .cases hf
theorem ZqB{F:Nat->Prop}(R:Rel N base ρ h w):∀{cs:XQ} {ts:V4} {vs:V3},Qt h cs=some ts->Ay ρ w (Free N ρ h) cs vs->((Z8 cs=[]/\∀g,Free N ρ h g->F g)\/∀g,F g)->∃fp,AK w ts vs fp/\∀g∈fp,F g
 |[],ts,vs,hg,hv,_=>by simp[Qt]at hg;subst hg;cases hv;exact⟨[],.nil,λg hg=>by cases hg⟩
 |c::cs,ts,vs,hg,hv,hF=>by
  cases hv with
  |cons h1 h2 =>
   simp only[Qt]at hg;split at hg
   .rename_i x xs hx hxs;cases hg;obtain⟨fp,h3,h4⟩:=Et R hx h1 (hF.imp (λ⟨q1,q2⟩=>⟨by simp[Z8]at q1;exact q1.1,q2⟩) id);obtain⟨fq,h5,h6⟩:=ZqB R hxs h2 (hF.imp (λ⟨q1,q2⟩=>⟨by simp[Z8]at q1;exact q1.2,q2⟩) id);exact⟨fp++fq,.cons h3 h5,λg hg=>(Yi.1 hg).elim (h4 g) (h6 g)⟩
   .cases hg
theorem Z1n(R:Rel N base ρ h w)(hf:Bt h v=some d)(hv:RV ρ w (Free N ρ h) v val)(hF:(refs v=[]/\∀g,Free N ρ h g->F g)\/∀g,F g):RV VI w F d val:=by
 cases v<;>try (simp[Bt]at hf;done)
 .simp[Bt]at hf;subst hf;cases hv;exact .nilp
 .simp[Bt]at hf;subst hf
  cases hv with
  |t hT hf=>exact .t hT λg hg=>hF.elim (λh2=>h2.2 g (hf g hg)) λh2=>h2 g
 .rename_i cs;simp only[Bt]at hf;split at hf
  .rename_i ds hds;cases hf
   cases hv with
   |agg hc h1 =>
    obtain⟨fp,h3,h4⟩:=ZqB R hds hc (hF.imp (λ⟨q1,q2⟩=>⟨by simpa[refs]using q1,q2⟩) id);exact .agg (Ay.of_TRs h3 h4) h1
  .cases hf
 .rename_i b off;simp only[Bt]at hf;split at hf
  .rename_i cs hb;split at hf
   .rename_i ts hts;cases hf;rcases hF with hF|hF
    .simp[refs]at hF
    .cases hv with
     |ptr hr hv =>
      obtain⟨r',h1,h2⟩:=R.blk b (by rw[hb];intro hc;cases hc);rw[hr]at h1;cases h1;rw[hb]at h2;obtain⟨hx0,g',c,te,hv2,_,hh,hcs,hone⟩:=h2;rw[hv]at hv2;cases hv2;obtain⟨fp,h3,h4⟩:=ZqB R hts hcs (.inr hF);have hl:ts.length=c.toList.length:=h3.length;have:=RV.iptr (ρ:=VI) (F:=F) (o:=0) (off:=off) hh (hF _) (by rw[Yq,hl,Yr];exact h3) (λg _=>hF g);simpa using this
   .cases hf
  .cases hf
 .simp[Bt]at hf;subst hf
  cases hv with
  |iptr hg hF' hc hf=>exact .iptr hg (hF.elim (λh2=>h2.2 _ hF') λh2=>h2 _) hc λg hg=>hF.elim (λh2=>h2.2 g (hf g hg)) λh2=>h2 g
 .rename_i b;simp only[Bt]at hf;split at hf
  .rename_i el sz fr es hb;cases hf;rcases hF with hF|hF
   .simp[refs]at hF
   .cases hv with
    |own hr hone =>
     obtain⟨fp,hT,_,_⟩:=TL R hr hb;exact .t hT λg _=>hF g
  .rename_i el sz es hb;cases hf;rcases hF with hF|hF
   .simp[refs]at hF
   .cases hv with
    |own hr hone =>
     obtain⟨fp,hT⟩:=Z1c R hr hb;exact .t hT λg _=>hF g
  .cases hf
theorem Z1o{F:Nat->Prop}(R:Rel N base ρ h w):∀{vs ds:XQ} {vals:V3},JC h vs=some ds->Ay ρ w (Free N ρ h) vs vals->((Z8 vs=[]/\∀g,Free N ρ h g->F g)\/∀g,F g)->Ay VI w F ds vals
 |[],ds,vals,hf,hv,_=>by simp[JC]at hf;subst hf;cases hv;exact .nil
 |v::vs,ds,vals,hf,hv,hF=>by
  cases hv with
  |cons h1 h2 =>
   simp only[JC]at hf;split at hf
   .rename_i x xs hx hxs;cases hf;exact .cons (Z1n R hx h1 (hF.imp (λ⟨q1,q2⟩=>⟨by simp[Z8]at q1;exact q1.1,q2⟩) id)) (Z1o R hxs h2 (hF.imp (λ⟨q1,q2⟩=>⟨by simp[Z8]at q1;exact q1.2,q2⟩) id))
   .cases hf
theorem Fz(R:Rel N base ρ h w)(hf:Do h v=some d)(hv:RV ρ w (Free N ρ h) v val)(hF:(refs v=[]/\∀g,Free N ρ h g->F g)\/∀g,F g):RV VI w F d val:=by
 by_cases hx:∃g cs,v=.fn g cs
 .obtain⟨g,cs,rfl⟩:=hx;simp only[Do]at hf;split at hf
  .rename_i ds hds;cases hf
   cases hv with
   |fn hc=>exact .fn (Z1o R hds hc (hF.imp (λ⟨q1,q2⟩=>⟨by simpa[refs]using q1,q2⟩) id))
  .cases hf
 .have:Do h v=Bt h v:=by
   cases v<;>first|rfl|exact absurd ⟨_,_,rfl⟩ hx
  grind [Z1n]
theorem sD(R:Rel N base ρ h w){ds:XQ}{vals:V3}(hf:AG h vs=some ds)(hv:Ay ρ w (Free N ρ h) vs vals)(hF:(Z8 vs=[]/\∀g,Free N ρ h g->F g)\/∀g,F g):Ay VI w F ds vals:=by
 induction vs generalizing ds vals with
 |nil=>simp[AG]at hf;subst hf;cases hv;exact .nil
 |cons v vs ih =>
  cases hv with
  |cons h1 h2 =>
   simp only[AG]at hf;split at hf
   .rename_i x xs hx hxs;cases hf;exact .cons (Fz R hx h1 (hF.imp (λ⟨q1,q2⟩=>⟨by simp[Z8]at q1;exact q1.1,q2⟩) id)) (ih hxs h2 (hF.imp (λ⟨q1,q2⟩=>⟨by simp[Z8]at q1;exact q1.2,q2⟩) id))
   .cases hf
theorem Z1p(hc:KT P f=true)(args:Array Value)(w:World):(callFunc f args).run P w=.ok (.enter f args) w:=by
 unfold KT at hc;split at hc
 .rename_i fn hfn;simp only[Yd,bne_iff_ne,ne_eq]at hc
  cases hb:fn.body with
  |none=>simp[hb]at hc
  |some c=>simp[callFunc,hfn,hc.2,hb]
 .cases hc
def CQ(Γ:CV)(h:WM)(nx:Nat)(e:Env)(k:AY)(v:AV)(u:List (Nat×Ax)):Prop:=match k with
 |.call f args=>∃as,AG h (args.map (ev e))=some as/\∃r hr,Γ f as [] r hr/\(UF (args.map (ev e)) || CH r hr)=true/\v=shift nx r/\u=AH nx hr 0
 |.xcall f args=>∃as,AG h (args.map (ev e))=some as/\∃r hr,Γ f as [] r hr/\CH r hr=true/\v=shift nx r/\u=AH nx (hr.map xB) 0
 |.fcall f args=>∃as,AG h (args.map (ev e))=some as/\UF (args.map (ev e))=true/\∃r hr,Γ f as [] r hr/\Cu hr r=some v/\u=[]
 |.icall f args=>WP Γ f (args.map (ev e)) h nx λv' u'=>v=v'/\u=u'
 |.scall f args p=>WP Γ f (args.map (ev e)) h nx λv' u'=>∃u2,QM h u' (ev e p)=some u2/\v=v'/\u=u'++u2
 |.pcall f args=>KR Γ f (args.map (ev e)) h nx λv' u'=>v=v'/\u=u'
 |.dcall f args=>∃g caps,ev e f=.fn g caps/\WP Γ g (args.map (ev e)++caps) h nx λv' u'=>v=v'/\u=u'
 |k=>Zy h nx e k=some (v,u)
structure Qw (N:Bi) (base:Nat) (ρ:Map) (h:WM) (w:World) (v:AV) (u:List (Nat×Ax)) (val:Value) (w':World) (ρ':Map):Prop where
 val:RV ρ' w' (Free N ρ' (upd h u)) v val
 rel:Rel N base ρ' (upd h u) w'
 keeps:X7 ρ w (Free N ρ h) ρ' w' (Free N ρ' (upd h u))
 same:∀b,b ∉ u.map Prod.fst->ρ b=none->ρ' b=none
 below:Below base w w'
 kn:∀g,g<w.heap.size->¬N.a g->w'.heap[g]?=w.heap[g]?
def named:AY->Option (Nat×List AO)
 |.call f args=>some (f,args)
 |.xcall f args=>some (f,args)
 |.fcall f args=>some (f,args)
 |.icall f args=>some (f,args)
 |.scall f args _=>some (f,args)
 |.pcall f args=>some (f,args)
 |_=>none
theorem IK{op:Op}{k:AY}(hk:Xg P inl ops op=some k) :
  (∀f args,named k=some (f,args)->∃c,op=.call c/\c.callee=.value (.func f)/\AQ AZ c.args.toList=some args/\KT P f=true)/\
  (∀x args,k=.dcall x args->∃c y,op=.call c/\c.callee=.value y/\AZ y=some x/\AQ AZ c.args.toList=some args):=by
 cases op with
 |call c =>
  obtain⟨callee,as,ts⟩:=c
  cases callee with
  |invoke r m=>simp[Xg]at hk
  |builtin b =>
   have:named k=none/\(∀x args,k≠.dcall x args):=by
    cases b<;>simp only[Xg]at hk<;>(repeat' split at hk)<;>first
     |cases hk;done
     |(cases hk;exact⟨rfl,Om⟩)
     |(obtain⟨_,_,rfl⟩:=Yo.1 hk;exact⟨rfl,Om⟩)
   simp_all
  |value y =>
   cases y with
   |func f =>
    simp only[Xg]at hk;split at hk
    .rename_i hc;obtain⟨as',h1,h2⟩:=Yo.1 hk;have hn:named k=some (f,as')/\∀x args,k≠.dcall x args:=by
      subst h2;unfold D6
      repeat' split
      all_goals exact⟨rfl,Om⟩
     simp_all
    .cases hk
   |tmp t =>
    simp only[Xg]at hk;split at hk
    .rename_i x as' hx has;cases hk;refine⟨by simp[named],?_⟩
     simp_all
    .cases hk
   |const v =>
    simp only[Xg]at hk;split at hk
    .rename_i x as' hx has;cases hk;refine⟨by simp[named],?_⟩
     simp_all
    .cases hk
   |global g =>
    simp only[Xg]at hk;split at hk
    .rename_i x as' hx has;simp[AZ]at hx
    .cases hk
 |makeFunc fn first caps =>
  have:named k=none/\(∀x args,k≠.dcall x args):=by
   cases fn<;>simp only[Xg]at hk<;>(repeat' split at hk)<;>first
    |(cases hk;done)
    |(cases hk;exact⟨rfl,Om⟩)
    |(obtain⟨_,_,rfl⟩:=Yo.1 hk;exact⟨rfl,Om⟩)
  simp_all
 |slice t x lo hi mx =>
  have:named k=none/\(∀x args,k≠.dcall x args):=by
   cases mx<;>simp only[Xg]at hk<;>(repeat' split at hk)<;>first
    |(cases hk;done)
    |(cases hk;exact⟨rfl,Om⟩)
    |(obtain⟨_,_,rfl⟩:=Yo.1 hk;exact⟨rfl,Om⟩)
  simp_all
 |_ =>
  have:named k=none/\(∀x args,k≠.dcall x args):=by
   simp only[Xg]at hk<;>(repeat' split at hk)<;>first
    |(cases hk;done)
    |(cases hk;exact⟨rfl,Om⟩)
    |(obtain⟨_,_,rfl⟩:=Yo.1 hk;exact⟨rfl,Om⟩)
  exact⟨λf args h=>(by rw[this.1]at h;cases h),λx args h=>absurd h (this.2 x args)⟩
theorem O3{c:Call}(ho:o.op=.call c)(hc:c.callee=.value (.func f))(hcl:KT P f=true)(w:World):(execOp a.eval o).run P w=.ok (.enter f (c.args.map a.eval)) w:=by
 unfold execOp;rw[ho];simp[resolve,hc,Act.eval,Deferred.ofValue,invoke,Z1p hcl]
theorem ZCc(R:Rel N base ρ h w){nx:Nat}(hargs:Ay ρ w (Free N ρ h) vs vals.toList)(hu:∀b,b∈(AH nx hr 0).map Prod.fst->nx<=b->ρ b=none)
  (hfz:AG h vs=some as) (hG:Ww P f as [] r hr) (hsh:(UF vs || CH r hr)=true) (hex:(execOp a.eval o).run P w=.ok (.enter f vals) w) (hK:∀val w' ρ',Qw N base ρ h w (shift nx r) (AH nx hr 0) val w' ρ'->K (a.put o.dst val) w'):o.wp P a w K Q:=by
 have hnew:∀b,nx<=b->b<nx+hr.length->ρ b=none:=by
  simp_all [T0]
 have main:∀A:Nat->Prop,Ay VI w A as vals.toList->((∀g,A g->Free N ρ h g)\/CH r hr=true)->o.wp P a w K Q:=by
  intro A hA hs;unfold Oper.wp;rw[hex];show Calls P f vals w _;refine(hG.data w A _ hA).mono ?_;rintro e w' ⟨val,ρc,rfl,hB,O4,hv,hdom⟩;have J:UI N A base ρ h w ρc hr w' nx:=⟨R,hB,O4,hnew,hdom,hs.imp id λhf=>by simp only[CH,Yd]at hf;exact hf.2⟩;refine hK val w' (Vt ρ ρc nx hr.length) ⟨J.val hv (hs.imp id λhf=>by simp only[CH,Yd]at hf;exact hf.1),J.rel,J.keeps,?_,hB.mono R.hb,λg hg _=>hB.block g hg⟩;intro b hb hb0;rw[T0]at hb;simp only[Vt]
  grind
 simp only[rF]at hsh;rcases hsh with hsh|hsh
 .have h0:Z8 vs=[]:=by simpa[UF]using hsh
  exact main (Free N ρ h) (sD R hfz hargs (.inl ⟨h0,λ_ h=>h⟩)) (.inl λ_ h=>h)
 .exact main (λ_=>True) (sD R hfz hargs (.inr λ_=>trivial)) (.inr hsh)
theorem ZCd(R:Rel N base ρ h w)(hargs:Ay ρ w (Free N ρ h) vs vals.toList)
  (hfz:AG h vs=some as) (hno:UF vs=true) (hG:Ww P f as [] r hr) (hd:Cu hr r=some d) (hex:(execOp a.eval o).run P w=.ok (.enter f vals) w) (hK:∀val w' ρ',Qw N base ρ h w d [] val w' ρ'->K (a.put o.dst val) w'):o.wp P a w K Q:=by
 have h0:Z8 vs=[]:=by simpa[UF]using hno
 have hA:Ay VI w (Free N ρ h) as vals.toList:=sD R hfz hargs (.inl ⟨h0,λ_ h=>h⟩);unfold Oper.wp;rw[hex];show Calls P f vals w _;refine(hG.data w (Free N ρ h) _ hA).mono ?_;rintro e w' ⟨val,ρc,rfl,hB,O4,hv,hdom⟩;have hv':=ZCb O4 hd hv;have J:UI N (Free N ρ h) base ρ h w VI [] w' h.length:=⟨R,hB,Rel.empty hB.size O4.hN,λb h1 h2=>absurd h2 (by simp;omega),λb _=>rfl,.inl λ_ h=>h⟩;have e1:Vt ρ VI h.length ([]:WM).length=ρ:=by
  funext b;simp only[Vt,Ff,Dz];rw[Ap]
 have e2:upd h (AH h.length [] 0)=h:=rfl;have q1:=J.rel;have q2:=J.keeps;rw[e1,e2]at q1 q2;refine hK val w' ρ ⟨?_,q1,q2,λb _ hb=>hb,hB.mono R.hb,λg hg _=>hB.block g hg⟩;refine hv'.keep ⟨λb r hb=>(by cases hb),λg hg hf=>⟨?_,rfl⟩⟩;have:=J.free_new (g:=g) ⟨hf,λb r hb=>(by cases hb)⟩ (.inr λ_ h=>h);rw[e1,e2]at this;exact this
def xR(b:Ax)(r:Root):Root:=if Xm b=true then⟨r.v,[],r.fp⟩else r
def VX(ρ ρc:Map)(n:Nat)(hr:WM):Map:=λb=>if n<=b/\b<n+hr.length then(ρc (b-n)).map (xR (gt hr (b-n)))else ρ b
theorem FA(hr:WM)(i:Nat):gt (hr.map xB) i=xB (gt hr i):=by
 unfold gt;rw[Tx];cases hr[i]?<;>rfl
theorem FB(f:Nat->Nat)(b:Ax):A0 f (xB b)=xB (A0 f b):=by
 cases b with
 |arr e sz fr es=>cases fr<;>rfl
 |_=>rfl
section
variable{A:Nat->Prop}{ρc:Map}{hr:WM}{w':World}{n:Nat}
theorem UI.xrel(J:UI N A base ρ h w ρc hr w' n)(hfr:hr.all OT=true) :
  Rel N base (VX ρ ρc n hr) (upd h (AH n (hr.map xB) 0)) w'/\X7 ρ w (Free N ρ h) (VX ρ ρc n hr) w' (Free N (VX ρ ρc n hr) (upd h (AH n (hr.map xB) 0))):=by
 have hgt:∀b,gt (upd h (AH n (hr.map xB) 0)) b=if n<=b/\b<n+hr.length then xB (A0 (λc=>c+n) (gt hr (b-n)))else gt h b:=by
  simp[GO,Dz,Dy,FA,FB]
 have hsplit:∀b r,VX ρ ρc n hr b=some r->gt (upd h (AH n (hr.map xB) 0)) b≠.dead->
   (ρ b=some r/\gt h b≠.dead/\gt (upd h (AH n (hr.map xB) 0)) b=gt h b)\/
   (∃r0,n<=b/\b<n+hr.length/\ρc (b-n)=some r0/\r=xR (gt hr (b-n)) r0/\gt hr (b-n)≠.dead/\gt (upd h (AH n (hr.map xB) 0)) b=xB (A0 (λc=>c+n) (gt hr (b-n)))):=by
  intro b r hb hd;rw[hgt]at hd|-;simp only[VX]at hb;by_cases hc:n<=b/\b<n+hr.length
  .rw[Ya hc]at hb hd|-;obtain⟨r0,h1,h2⟩:=Yo.1 hb;exact .inr ⟨r0,hc.1,hc.2,h1,h2.symm,λhx=>hd (by rw[hx];rfl),rfl⟩
  .grind
 -- the blocks of a new root are new
 have hnew:∀i r0 g,ρc i=some r0->gt hr i≠.dead->X3 (xR (gt hr i) r0) g->w.heap.size<=g/\(X3 r0 g\/(Xm (gt hr i)=true/\g∈r0.fp)):=by
  intro i r0 g h1 h2 h3;unfold xR at h3;by_cases hf:Xm (gt hr i)=true
  .rw[Ya hf]at h3;rcases h3 with h3|h3
   .exact⟨(J.Rc.lt h1 h2 (.inl h3)).1,.inl (.inl h3)⟩
   .exact⟨(J.Rc.fresh h1 hf g h3).1,.inr ⟨hf,h3⟩⟩
  .rw[Yb hf]at h3;exact⟨(J.Rc.lt h1 h2 h3).1,.inl h3⟩
 have hfree:∀g,g<w.heap.size->Free N ρ h g->Free N (VX ρ ρc n hr) (upd h (AH n (hr.map xB) 0)) g:=by
  intro g hlt hg;refine⟨hg.1,λb r hb hd he=>?_⟩;rcases hsplit b r hb hd with⟨h1,h2,_⟩|⟨r0,_,_,h1,h2,h3,_⟩
  .exact hg.2 b r h1 h2 he
  .grind
 have hkeep:X7 ρ w (Free N ρ h) (VX ρ ρc n hr) w' (Free N (VX ρ ρc n hr) (upd h (AH n (hr.map xB) 0))):=by
  refine⟨λb r hb=>⟨r,?_,rfl⟩,λg hlt hg=>⟨hfree g hlt hg,J.B.block g hlt⟩⟩;simp only[VX];rw[Yb λhc=>by rw[J.new b hc.1 hc.2]at hb;cases hb];exact hb
 have hroot:∀c r0,ρc c=some r0->∃r1,VX ρ ρc n hr (c+n)=some r1/\r1.v=r0.v:=by
  intro c r0 hc;have hlt:c<hr.length:=by
   rcases Dl c hr.length with q|q
   .exact q
   .rw[J.dom c q]at hc;cases hc
  refine⟨xR (gt hr c) r0,?_,?_⟩
  .simp only[VX]
   grind
  .unfold xR;split<;>rfl
 refine⟨⟨Y8 J.R.hb J.B.size,λg hl=>J.R.hN g (Y8 J.B.size hl),?_,?_,?_,?_⟩,hkeep⟩
 .intro b r g hb hd hg;rcases hsplit b r hb hd with⟨h1,h2,_⟩|⟨r0,_,_,h1,h2,h3,_⟩
  .exact J.R.hO b r g h1 h2 hg
  .rw[h2]at hg;exact J.R.hN g (hnew _ r0 g h1 h3 hg).1
 .intro b hd;have hd0:=hd;rw[hgt]at hd;by_cases hc:n<=b/\b<n+hr.length
  .rw[Ya hc]at hd;obtain⟨r0,h1,h2⟩:=J.Rc.blk (b-n) λhx=>hd (by rw[hx];rfl)
   refine⟨xR (gt hr (b-n)) r0,by simp only[VX];rw[Ya hc,h1];rfl,?_⟩;rw[hgt,Ya hc]
   cases hx:gt hr (b-n)with
   |dead=>trivial
   |box cs =>
    rw[hx]at h2;obtain⟨h0,g,c,e,h3,h4,h5,h6,h7⟩:=h2
    exact⟨h0,g,c,e,h3,Y8 J.R.hb h4,h5,h6.scalX _ (λc _ r hr'=>hroot c r hr') (Z1h hfr hx),h7⟩
   |arr e sz fr es =>
    have hft:fr=true:=ZqA hfr hx;subst hft;rw[hx]at h2;obtain⟨h0,e',xs,he',h3,h4,h5,h6,h7,h8,h9⟩:=h2
    exact⟨e',xs,he',IB J.R.hb h3,h4,h5,h6,(h9 rfl).mono J.R.hb,(h8 rfl).1,λg hg hv=>(h7 g hg).2 (b-n) r0 h1 (by rw[hx];intro hc;cases hc) (.inl hv)⟩
   |xarr e sz es =>
    rw[hx]at h2;obtain⟨e',xs,he',h3,h4,h5,h6,h7,rest⟩:=h2
    exact⟨e',xs,he',IB J.R.hb h3,h4,h5,h6,h7.mono J.R.hb,rest⟩
   |det e sz es i off c =>
    rw[hx]at h2;obtain⟨e',xs,rb,fa,fc,he,ho,hsz,hl,hrb,hcell,q1,q2,hex,hA,hC,oA,oC,rest⟩:=h2;obtain⟨r1,k1,k2⟩:=hroot c rb hrb;exact⟨e',xs,r1,fa,fc,he,IB J.R.hb ho,hsz,hl,k1,by rw[k2];exact hcell,q1,q2,hex,hA,hC,oA.mono J.R.hb,oC.mono J.R.hb,rest⟩
  .rw[Yb hc]at hd;obtain⟨r,h1,h2⟩:=J.R.blk b hd;refine⟨r,by simp only[VX];rw[Yb hc];exact h1,?_⟩;rw[hgt,Yb hc];exact h2.keep hkeep λg hg=>J.B.block g (h2.lt hd hg).2
 .intro b b' r r' g hb hb' hd hd' hg hg';rcases hsplit b r hb hd with⟨h1,h2,_⟩|⟨r0,z1,z2,h1,h2,h3,_⟩<;>rcases hsplit b' r' hb' hd' with⟨h4,h5,_⟩|⟨r1,z3,z4,h4,h5,h6,_⟩
  .exact J.R.inj b b' r r' g h1 h4 h2 h5 hg hg'
  .rw[h5]at hg';have q1:=(J.R.lt h1 h2 hg).2;have q2:=(hnew _ r1 g h4 h6 hg').1;omega
  .rw[h2]at hg;have q1:=(J.R.lt h4 h5 hg').2;have q2:=(hnew _ r0 g h1 h3 hg).1;omega
  .rw[h2]at hg;rw[h5]at hg';have key:b-n=b'-n:=by
    rcases(hnew _ r0 g h1 h3 hg).2 with q|⟨q,q'⟩<;>rcases(hnew _ r1 g h4 h6 hg').2 with p|⟨p,p'⟩
    .exact J.Rc.inj _ _ r0 r1 g h1 h4 h3 h6 q p
    .exact absurd q ((J.Rc.fresh h4 p g p').2.1.2 _ r0 h1 h3)
    .exact absurd p ((J.Rc.fresh h1 q g q').2.1.2 _ r1 h4 h6)
    .exact J.Rc.apart _ _ r0 r1 g h1 h4 q p q' p'
   omega
 .intro b b' r r' g hb hb' hf hf' hg hg';have T1:∀b r,VX ρ ρc n hr b=some r->Xm (gt (upd h (AH n (hr.map xB) 0)) b)=true->ρ b=some r/\Xm (gt h b)=true:=by
   intro b r hb hf;rcases hsplit b r hb (KV hf)with⟨h1,h2,e1⟩|⟨r0,_,_,h1,h2,h3,e1⟩
   .simp_all
   .exfalso;rw[e1]at hf
    cases hx:gt hr (b-n)with
    |arr e sz fr es =>
     have hft:fr=true:=ZqA hfr hx;subst hft
     rw[hx]at hf;cases hf
    |_=>rw[hx]at hf;cases hf
  obtain⟨h1,h2⟩:=T1 b r hb hf;obtain⟨h3,h4⟩:=T1 b' r' hb' hf';exact J.R.apart b b' r r' g h1 h3 h2 h4 hg hg'
end
theorem ZCe{o:Oper}(R:Rel N base ρ h w){nx f:Nat}{vs as:XQ}{vals:Array Value}(hargs:Ay ρ w (Free N ρ h) vs vals.toList){r:AV}{hr:WM}(hu:∀b,b∈(AH nx (hr.map xB) 0).map Prod.fst->nx<=b->ρ b=none)
  (hfz:AG h vs=some as) (hG:Ww P f as [] r hr) (hsh:CH r hr=true) (hex:(execOp a.eval o).run P w=.ok (.enter f vals) w)
  {K:Act->World->Prop} {Q:Exit->Act->World->Prop} (hK:∀val w' ρ',Qw N base ρ h w (shift nx r) (AH nx (hr.map xB) 0) val w' ρ'->K (a.put o.dst val) w'):o.wp P a w K Q:=by
 have hnew:∀b,nx<=b->b<nx+hr.length->ρ b=none:=by
  simp_all [T0]
 unfold Oper.wp;rw[hex];show Calls P f vals w _;refine(hG.data w (λ_=>True) _ (sD R hfz hargs (.inr λ_=>trivial))).mono ?_;rintro e w' ⟨val,ρc,rfl,hB,O4,hv,hdom⟩;simp only[CH,Yd]at hsh;have J:UI N (λ_=>True) base ρ h w ρc hr w' nx:=⟨R,hB,O4,hnew,hdom,.inr hsh.2⟩;obtain⟨h1,h2⟩:=J.xrel hsh.2;refine hK val w' (VX ρ ρc nx hr) ⟨?_,h1,h2,?_,hB.mono R.hb,λg hg _=>hB.block g hg⟩
 .refine hv.scalX _ (λc _ r0 hc=>?_) hsh.1;have hlt:c<hr.length:=by
   grind
  refine⟨xR (gt hr c) r0,?_,?_⟩
  .simp only[VX]
   grind
  .unfold xR;split<;>rfl
 .intro b hb hb0;rw[T0]at hb;simp only[VX]
  grind
end
open Go.RowKit (Below)
section
variable{P:Program}{N:Bi}{base:Nat}{ρ:Map}{h:WM}{w:World}{e:Env}{a:Act}{inl:V2}{ops:Array Oper}{ids:V2}{i nx b m:Nat}{F:Nat->Prop}{ρ1:Map}
theorem RV.root{x:AV}{v:Value}(hv:RV ρ w F x v):∀b∈refs x,∃r,ρ b=some r:=by
 refine RV.rec (motive_1:=λx v _=>∀b∈refs x,∃r,ρ b=some r) (motive_2:=λxs vs _=>∀b∈Z8 xs,∃r,ρ b=some r) ?_ ?_ ?_ ?_ ?_ ?_ ?_ ?_ ?_ ?_ ?_ ?_ ?_ hv
 .intro v b hb;cases hb
 .intro b hb;cases hb
 .intro x v fp _ _ b hb;cases hb
 .intro cs c _ _ ih;simpa[refs]using ih
 .intro cs c _ ih;simpa[refs]using ih
 .intro b off g r hr _ c hc;simp[refs]at hc;subst hc;exact⟨r,hr⟩
 .intro b i sz off g n cap r hr _ c hc;simp[refs]at hc;subst hc;exact⟨r,hr⟩
 .intro cs off g o c e fz fp _ _ _ _ b hb;cases hb
 .intro b r hr _ c hc;simp[refs]at hc;subst hc;exact⟨r,hr⟩
 .intro b n g r hr _ c hc;simp[refs]at hc;subst hc;exact⟨r,hr⟩
 .intro f cs c _ ih;simpa[refs]using ih
 .intro b hb;cases hb
 .intro x v xs vs _ _ ih1 ih2 b hb;simp only[Z8,Yi]at hb
  grind
theorem Ay.root{xs:XQ}{vs:V3}(hv:Ay ρ w F xs vs):∀b∈Z8 xs,∃r,ρ b=some r:=by
 induction xs generalizing vs with
 |nil=>intro b hb;cases hb
 |cons x xs ih =>
  cases hv with
  |cons h1 h2 =>
   intro b hb;simp only[Z8,Yi]at hb;exact hb.elim (h1.root b) (ih h2 b)
theorem ZqC{p:Nat->Prop}(hc:∀b,p b->∀c∈W5 (gt h b),p c):∀(n:Nat) (todo acc:V2),(∀b∈todo,p b)->(∀b∈acc,p b)->∀b∈Xp h n todo acc,p b
 |0,_,_,_,ha,b,hb=>ha b (by simpa[Xp]using hb)
 |n+1,[],acc,_,ha,b,hb=>ha b (by simpa[Xp]using hb)
 |n+1,c::todo,acc,ht,ha,b,hb=>by
  simp only[Xp]at hb;split at hb
  .exact ZqC hc n todo acc (λb hb=>ht b (by simp[hb])) ha b hb
  .refine ZqC hc n _ _ (λb hb=>?_) (λb hb=>?_) b hb
   .grind
   .grind
theorem Rel.refs_root(R:Rel N base ρ h w)(b:Nat):∀c∈W5 (gt h b),∃r,ρ c=some r:=by
 intro c hc
 cases hx:gt h b with
 |dead=>rw[hx]at hc;cases hc
 |arr e sz fr es=>rw[hx]at hc;cases hc
 |xarr e sz es=>rw[hx]at hc;cases hc
 |det e sz es i off b' =>
  obtain⟨r,h1,h2⟩:=R.blk b (by rw[hx];intro hc;cases hc);rw[hx]at h2 hc;obtain⟨_,_,rb,_,_,_,_,_,_,hrb,_⟩:=h2;simp[W5]at hc
  simp_all
 |box cs =>
  obtain⟨r,h1,h2⟩:=R.blk b (by rw[hx];intro hc;cases hc);rw[hx]at h2 hc;obtain⟨_,g,c',e',_,_,_,h6,_⟩:=h2;exact h6.root c hc
theorem Z1q(R:Rel N base ρ h w){vs:XQ}{vals:V3}(hv:Ay ρ w (Free N ρ h) vs vals):∀b∈ZN h vs,∃r,ρ b=some r :=
 ZqC (p:=λb=>∃r,ρ b=some r) (λb _ c hc=>R.refs_root b c hc) 200 (Z8 vs) [] (λb hb=>hv.root b hb) (λb hb=>by cases hb)
theorem C5(hnd:ids.Nodup)(hi:ids[i]?=some b):idx b ids 0=i:=by
 obtain⟨j,h1,h2⟩:=Z1g (Y3 hi) 0;rw[Yv]at h1
 grind [List.getElem?_eq_some_iff,Nat.lt_trichotomy,List.pairwise_iff_getElem]
theorem KX(hi:ids[i]?=some b):bk ids nx i=b:=by simp[bk,hi]
theorem B3(hi:ids.length<=i):bk ids nx i=nx+(i-ids.length):=by simp[bk,It hi]
theorem Eu(hnd:ids.Nodup)(hn:∀j,j<m-ids.length->nx+j ∉ ids){j:Nat}(hi:i<m)(hj:j<m)(he:bk ids nx i=bk ids nx j):i=j:=by
 rcases Dl i ids.length with h1|h1<;>rcases Dl j ids.length with h2|h2
 .have e1:ids[i]?=some ids[i]:=by simp[h1]
  have e2:ids[j]?=some ids[j]:=by simp[h2]
  rw[KX e1,KX e2]at he;rw[<-C5 hnd e1,<-C5 hnd e2,he]
 .have e1:ids[i]?=some ids[i]:=by simp[h1]
  rw[KX e1,B3 h2]at he;exact absurd (he▸Y3 e1) (hn _ Z)
 .have e2:ids[j]?=some ids[j]:=by simp[h2]
  rw[KX e2,B3 h1]at he;exact absurd (he.symm▸Y3 e2) (hn _ Z)
 .grind [B3]
theorem O5(ids:V2)(nx:Nat):∀(bs:WM) (i b:Nat),b∈(XW ids nx bs i).map Prod.fst↔∃j,i<=j/\j<i+bs.length/\bk ids nx j=b
 |[],i,b=>by simp[XW];intro j h1 h2;omega
 |x::bs,i,b=>by
  simp only[XW,Yx,Yz,O5 ids nx bs (i+1),Yy]
  grind
theorem sE(ids:V2)(nx:Nat):∀(bs:WM) (i:Nat) (h:WM) (b:Nat),(∀j,i<=j->j<i+bs.length->bk ids nx j≠b)->gt (upd h (XW ids nx bs i)) b=gt h b
 |[],i,h,b,_=>rfl
 |x::bs,i,h,b,hb=>by
  simp only[XW,upd];rw[sE ids nx bs (i+1) _ b (λj h1 h2=>hb j Z (by simp;omega)),Vh,Yb λhe=>hb i (Yk _) Om he.symm]
theorem ZqD(ids:V2)(nx:Nat):∀(bs:WM) (i:Nat) (h:WM),(∀j k,i<=j->j<i+bs.length->i<=k->k<i+bs.length->bk ids nx j=bk ids nx k->j=k)->∀j,i<=j->j<i+bs.length->
  gt (upd h (XW ids nx bs i)) (bk ids nx j)=A0 (bk ids nx) (gt bs (j-i))
 |[],i,h,_,j,h1,h2=>by simp at h2;omega
 |x::bs,i,h,hinj,j,h1,h2=>by
  simp only[Yy]at h2 hinj;simp only[XW,upd];by_cases hj:j=i
  .subst hj;rw[sE ids nx bs (j+1) _ _ (λk h3 h4 he=>by have:=hinj k j Z Z Z Z he;omega),Vh,Ya rfl];simp[gt]
  .rw[ZqD ids nx bs (i+1) _ (λj k q1 q2 q3 q4=>hinj j k Z Z Z Z) j Z Z]
   have:j-i=(j-(i+1))+1:=by omega
   rw[this];simp[gt]
open Classical in
noncomputable def QU(ρ ρ1:Map)(ids:V2)(nx m:Nat):Map:=λb=>if hx:∃i,i<m/\bk ids nx i=b then ρ1 hx.choose else ρ b
theorem ZqE(hinj:∀i j,i<m->j<m->bk ids nx i=bk ids nx j->i=j)(hi:i<m):QU ρ ρ1 ids nx m (bk ids nx i)=ρ1 i:=by
 have hx:∃j,j<m/\bk ids nx j=bk ids nx i:=⟨i,hi,rfl⟩;unfold QU;rw[dif_pos hx,hinj _ _ hx.choose_spec.1 hi hx.choose_spec.2]
theorem Z1r(hb:∀i,i<m->bk ids nx i≠b):QU ρ ρ1 ids nx m b=ρ b:=by
 unfold QU
 grind
def Cx(N:Bi)(ρ:Map)(h:WM)(w:World)(ids:V2):Bi :=
 ⟨λg=>N.a g/\∀b r,b ∉ ids->ρ b=some r->gt h b≠.dead->¬X3 r g,
  λg=>w.heap.size<=g\/∃b∈ids,∃r,ρ b=some r/\gt h b≠.dead/\(X3 r g\/Xm (gt h b)=true/\g∈r.fp),Free N ρ h⟩
theorem Rel.sub(R:Rel N base ρ h w)(hnd:ids.Nodup)(hcl:∀b∈ids,∀c∈W5 (gt h b),c∈ids):Rel (Cx N ρ h w ids) base (A2 ρ ids) (AW h ids) w:=by
 refine R.renN hnd hcl ?_ ?_ ?_ ?_
 .intro g hg;refine⟨⟨(R.hN g hg).1,λb r _ hr hd he=>?_⟩,.inl hg⟩;have:=(R.lt hr hd he).2;omega
 .intro b hb r g hr hd hg;refine⟨⟨(R.hO b r g hr hd hg).1,λc rc hc hrc hdc he=>?_⟩,.inr ⟨b,hb,r,hr,hd,.inl hg⟩⟩;exact hc (R.inj b c r rc g hr hrc hd hdc hg he▸hb)
 .exact λg hg=>⟨hg.1,λb r _=>hg.2 b r⟩
 .intro b hb r hr hf g hg;exact .inr ⟨b,hb,r,hr,KV hf,.inr ⟨hf,hg⟩⟩
structure Qx (N:Bi) (base:Nat) (ρ:Map) (h:WM) (w:World) (ids:V2) (nx:Nat) (ρ1:Map) (h1:WM) (w':World):Prop where
 R:Rel N base ρ h w
 nd:ids.Nodup
 root:∀b∈ids,∃r,ρ b=some r
 len:ids.length<=h1.length
 new:∀j,j<h1.length-ids.length->ρ (nx+j)=none
 R1:Rel (Cx N ρ h w ids) base ρ1 h1 w'
 B:Below base w w'
 dom:∀b,h1.length<=b->ρ1 b=none
 kn:∀g,g<w.heap.size->¬(Cx N ρ h w ids).a g->w'.heap[g]?=w.heap[g]?
 fz:∀g,g<w.heap.size->Free N ρ h g->Free (Cx N ρ h w ids) ρ1 h1 g/\w'.heap[g]?=w.heap[g]?
 rt:∀b r0,b<ids.length->A2 ρ ids b=some r0->∃r1,ρ1 b=some r1/\r1.v=r0.v
section
variable{ids:V2}{nx:Nat}{ρ1:Map}{h1:WM}{w':World}
theorem Qx.inj(J:Qx N base ρ h w ids nx ρ1 h1 w'):∀i j,i<h1.length->j<h1.length->bk ids nx i=bk ids nx j->i=j:=by
 intro i j hi hj he;refine Eu J.nd (m:=h1.length) (λk hk hm=>?_) hi hj he;obtain⟨r,hr⟩:=J.root _ hm;rw[J.new k hk]at hr;cases hr
theorem Qx.split(J:Qx N base ρ h w ids nx ρ1 h1 w')(b:Nat) :
  (∃i,i<h1.length/\bk ids nx i=b/\QU ρ ρ1 ids nx h1.length b=ρ1 i/\gt (upd h (XW ids nx h1 0)) b=A0 (bk ids nx) (gt h1 i))\/
  (b ∉ ids/\(∀i,i<h1.length->bk ids nx i≠b)/\QU ρ ρ1 ids nx h1.length b=ρ b/\gt (upd h (XW ids nx h1 0)) b=gt h b):=by
 by_cases hx:∃i,i<h1.length/\bk ids nx i=b
 .obtain⟨i,hi,rfl⟩:=hx;refine .inl ⟨i,hi,rfl,ZqE J.inj hi,?_⟩;have:=ZqD ids nx h1 0 h (λj k _ h2 _ h4=>J.inj j k Z Z) i (Yc _) Z;simpa using this
 .have hn:∀i,i<h1.length->bk ids nx i≠b:=λi hi he=>hx ⟨i,hi,he⟩
  refine .inr ⟨λhm=>?_,hn,Z1r hn,sE ids nx h1 0 h b λj _ h2=>hn j Z⟩;obtain⟨i,hi⟩:=Ydb hm;have hl:=(Y0.1 hi).1;exact hn i (by have:=J.len;omega) (KX hi)
theorem Qx.free(J:Qx N base ρ h w ids nx ρ1 h1 w'){g:Nat}(hg:Free (Cx N ρ h w ids) ρ1 h1 g):Free N (QU ρ ρ1 ids nx h1.length) (upd h (XW ids nx h1 0)) g:=by
 refine⟨hg.1.1,?_⟩;intro b r hb hd he;rcases J.split b with⟨i,hi,rfl,e1,e2⟩|⟨hm,_,e1,e2⟩
 .rw[e1]at hb;rw[e2]at hd;exact hg.2 i r hb (λhc=>hd (by rw[hc];rfl)) he
 .rw[e1]at hb;rw[e2]at hd;exact hg.1.2 b r hm hb hd he
theorem Qx.keeps(J:Qx N base ρ h w ids nx ρ1 h1 w'):X7 ρ w (Free N ρ h) (QU ρ ρ1 ids nx h1.length) w' (Free N (QU ρ ρ1 ids nx h1.length) (upd h (XW ids nx h1 0))):=by
 constructor
 .intro b r hb;rcases J.split b with⟨i,hi,rfl,e1,_⟩|⟨hm,_,e1,_⟩
  .rw[e1];rcases Dl i ids.length with hl|hl
   .have ei:ids[i]?=some ids[i]:=by simp[hl]
    rw[KX ei]at hb;exact J.rt i r hl (by simp[A2,ei,hb])
   .rw[B3 hl,J.new _ Z]at hb;cases hb
  .simp_all
 .intro g hl hf;obtain⟨q1,q2⟩:=J.fz g hl hf;exact⟨J.free q1,q2⟩
theorem Qx.rel(J:Qx N base ρ h w ids nx ρ1 h1 w'):Rel N base (QU ρ ρ1 ids nx h1.length) (upd h (XW ids nx h1 0)) w':=by
 have hk:=J.keeps;have hroot:∀c r,ρ1 c=some r->QU ρ ρ1 ids nx h1.length (bk ids nx c)=some r:=by
  intro c r hc;have hl:c<h1.length:=by
   rcases Dl c h1.length with q|q
   .exact q
   .rw[J.dom c q]at hc;cases hc
  rw[ZqE J.inj hl];exact hc
 have hf1:∀g,(Cx N ρ h w ids).f g->N.f g:=by
  rintro g (hg|⟨b,hb,r,hr,hd,hg|⟨hf,hg⟩⟩)
  .exact(J.R.hN g hg).2
  .exact(J.R.hO b r g hr hd hg).2
  .exact(J.R.fresh hr hf g hg).1
 refine⟨Y8 J.R.hb J.B.size,λg hl=>J.R.hN g (Y8 J.B.size hl),?_,?_,?_,?_⟩
 .intro b r g hb hd hg;rcases J.split b with⟨i,hi,rfl,e1,e2⟩|⟨hm,_,e1,e2⟩
  .rw[e1]at hb;rw[e2]at hd;have:=J.R1.hO i r g hb (λhc=>hd (by rw[hc];rfl)) hg;exact⟨this.1.1,hf1 g this.2⟩
  .rw[e1]at hb;rw[e2]at hd;exact J.R.hO b r g hb hd hg
 .intro b hd;rcases J.split b with⟨i,hi,rfl,e1,e2⟩|⟨hm,_,e1,e2⟩
  .rw[e2]at hd|-;rw[e1];obtain⟨r,q1,q2⟩:=J.R1.blk i λhc=>hd (by rw[hc];rfl)
   refine⟨r,q1,?_⟩
   cases hx:gt h1 i with
   |dead=>trivial
   |box cs =>
    rw[hx]at q2;obtain⟨h0,g,c,e',h3,h4,h5,h6,h7⟩:=q2
    exact⟨h0,g,c,e',h3,h4,h5,h6.ren _ (λc _ r hr=>hroot c r hr) λg _ hg=>J.free hg,h7⟩
   |arr e' sz fr es =>
    rw[hx]at q2;obtain⟨h0,e',xs,he',h3,h4,h5,h6,h7,h8,h9⟩:=q2
    exact⟨h0,e',xs,he',h3,h4,h5,h6,λg hg=>J.free (h7 g hg),λhf=>⟨(h8 hf).1,λg hg=>hf1 g ((h8 hf).2 g hg)⟩,h9⟩
   |det e' sz es i' off c =>
    rw[hx]at q2;obtain⟨e',xs,rb,fa,fc,he,ho,hsz,hl,hrb,rest⟩:=q2
    exact⟨e',xs,rb,fa,fc,he,ho,hsz,hl,hroot c rb hrb,rest⟩
   |xarr e' sz es=>rw[hx]at q2;exact q2
  .rw[e2]at hd|-;rw[e1];obtain⟨r,q1,q2⟩:=J.R.blk b hd;exact⟨r,q1,q2.keep hk λg hg=>J.kn g (q2.lt hd hg).2 λhc=>hc.2 b r hm q1 hd hg⟩
 .intro b b' r r' g hb hb' hd hd' hg hg';rcases J.split b with⟨i,hi,rfl,e1,e2⟩|⟨hm,_,e1,e2⟩<;>rcases J.split b' with⟨j,hj,rfl,e3,e4⟩|⟨hm',_,e3,e4⟩
  .rw[e1]at hb;rw[e2]at hd;rw[e3]at hb';rw[e4]at hd';rw[J.R1.inj i j r r' g hb hb' (λhc=>hd (by rw[hc];rfl)) (λhc=>hd' (by rw[hc];rfl)) hg hg']
  .rw[e1]at hb;rw[e2]at hd;rw[e3]at hb';rw[e4]at hd';have:=J.R1.hO i r g hb (λhc=>hd (by rw[hc];rfl)) hg;exact absurd hg' (this.1.2 b' r' hm' hb' hd')
  .rw[e1]at hb;rw[e2]at hd;rw[e3]at hb';rw[e4]at hd';have:=J.R1.hO j r' g hb' (λhc=>hd' (by rw[hc];rfl)) hg';exact absurd hg (this.1.2 b r hm hb hd)
  .rw[e1]at hb;rw[e2]at hd;rw[e3]at hb';rw[e4]at hd';exact J.R.inj b b' r r' g hb hb' hd hd' hg hg'
 .intro b b' r r' g hb hb' hf hf' hg hg';have mixed:∀i r b' r',ρ1 i=some r->Xm (gt h1 i)=true->b' ∉ ids->ρ b'=some r'->Xm (gt h b')=true->g∈r.fp->g∈r'.fp->False:=by
   intro i r b' r' hb hf hm hb' hf' hg hg';have q1:=(J.R1.fresh hb hf g hg).1;obtain⟨_,q2,q3⟩:=J.R.fresh hb' hf' g hg';rcases q1 with q1|⟨c,hc,rc,h3,h4,h5|⟨h5,h6⟩⟩
   .omega
   .exact q2.2 c rc h3 h4 h5
   .exact hm (J.R.apart c b' rc r' g h3 hb' h5 hf' h6 hg'▸hc)
  rcases J.split b with⟨i,hi,rfl,e1,e2⟩|⟨hm,_,e1,e2⟩<;>rcases J.split b' with⟨j,hj,rfl,e3,e4⟩|⟨hm',_,e3,e4⟩
  .rw[e1]at hb;rw[e2,KW]at hf;rw[e3]at hb';rw[e4,KW]at hf';rw[J.R1.apart i j r r' g hb hb' hf hf' hg hg']
  .grind [KW]
  .grind [KW]
  .rw[e1]at hb;rw[e2]at hf;rw[e3]at hb';rw[e4]at hf';exact J.R.apart b b' r r' g hb hb' hf hf' hg hg'
theorem Qx.after(J:Qx N base ρ h w ids nx ρ1 h1 w'){r:AV}{v:Value}(hv:RV ρ1 w' (Free (Cx N ρ h w ids) ρ1 h1) r v) :
  Qw N base ρ h w (ren (bk ids nx) r) (XW ids nx h1 0) v w' (QU ρ ρ1 ids nx h1.length):=by
 refine⟨hv.ren _ (λb _ r hr=>?_) λg _ hg=>J.free hg,J.rel,J.keeps,?_,J.B,λg hl hn=>J.kn g hl λhc=>hn hc.1⟩
 .have hl:b<h1.length:=by
   rcases Dl b h1.length with q|q
   .exact q
   .rw[J.dom b q]at hr;cases hr
  rw[ZqE J.inj hl];exact hr
 .simp_all [O5,Z1r,Yc]
end
theorem sF{o:Oper}(R:Rel N base ρ h w){nx f:Nat}{vs:XQ}{vals:Array Value}(hargs:Ay ρ w (Free N ρ h) vs vals.toList){r:AV}{h1:WM}
  (hu:∀j,(ZN h vs).length<=j->j<h1.length->ρ (nx+(j-(ZN h vs).length))=none) (hcl:Qg h (ZN h vs) (Z8 vs)=true) (hG:Ww P f (BJ (ZN h vs) vs) (AW h (ZN h vs)) r h1)
  (hex:(execOp a.eval o).run P w=.ok (.enter f vals) w) {K:Act->World->Prop} {Q:Exit->Act->World->Prop}
  (hK:∀val w' ρ',Qw N base ρ h w (ren (bk (ZN h vs) nx) r) (XW (ZN h vs) nx h1 0) val w' ρ'->K (a.put o.dst val) w'):o.wp P a w K Q:=by
 obtain⟨hin,T2⟩:=sC hcl;have hnd:(ZN h vs).Nodup:=sA _ _ _ Y2;have hroot:=Z1q R hargs;generalize ZN h vs=ids at *
 unfold Oper.wp;rw[hex];show Calls P f vals w _;have hF:∀g,Free N ρ h g->Free (Cx N ρ h w ids) (A2 ρ ids) (AW h ids) g:=λg hg=>sB hg ⟨hg.1,λb r _=>hg.2 b r⟩
 refine(hG.2 (Cx N ρ h w ids) base w (A2 ρ ids) vals (R.sub hnd T2) (λb hb=>Zq9 (by simpa[AW]using hb))
  (hargs.ren _ (λb hb r hr=>by rw[O1 (hin b hb)];exact hr) λg _ hg=>hF g hg) hF).mono ?_
 rintro e w' ⟨v,ρ1,rfl,hB,hR1,hv,hdom,hlen,hkn,hfz,hrt⟩;have hl:(AW h ids).length=ids.length:=by simp[AW]
 rw[hl]at hlen hrt
 have J:Qx N base ρ h w ids nx ρ1 h1 w':=⟨R,hnd,hroot,hlen,λj hj=>by
  have:=hu (j+ids.length) Z Z
  rwa [Ydc]at this,hR1,hB,hdom,hkn,hfz,hrt⟩
 exact hK v w' _ (J.after hv)
theorem Free.congr{h':WM}(hg:∀b,gt h b=gt h' b):Free N ρ h=Free N ρ h':=by
 funext g;unfold Free;simp only[hg]
theorem Rel.congr{h':WM}(hg:∀b,gt h b=gt h' b)(R:Rel N base ρ h w):Rel N base ρ h' w:=by
 have hF:=Free.congr (N:=N) (ρ:=ρ) hg;refine⟨R.hb,R.hN,?_,?_,?_,?_⟩
 .intro b r g hr hd;rw[<-hg]at hd;exact R.hO b r g hr hd
 .intro b hb;rw[<-hg]at hb;obtain⟨r,h1,h2⟩:=R.blk b hb
  simp_all
 .intro b b' r r' g h1 h2 h3 h4;rw[<-hg]at h3 h4;exact R.inj b b' r r' g h1 h2 h3 h4
 .intro b b' r r' g h1 h2 h3 h4;rw[<-hg]at h3 h4;exact R.apart b b' r r' g h1 h2 h3 h4
theorem Ew{f g:Nat->Nat}:∀(v:AV),(∀c∈refs v,g (f c)=c)->ren g (ren f v)=v:=by
 intro v;refine AV.rec (motive_1:=λv=>(∀c∈refs v,g (f c)=c)->ren g (ren f v)=v) (motive_2:=λvs=>(∀c∈Z8 vs,g (f c)=c)->rens g (rens f vs)=vs) ?_ ?_ ?_ ?_ ?_ ?_ ?_ ?_ ?_ ?_ ?_ ?_ ?_ v
 .intro _;rfl
 .intro _;rfl
 .intro x _;rfl
 .intro cs ih h;simp[ren,ih (by simpa[refs]using h)]
 .intro cs ih h;simp[ren,ih (by simpa[refs]using h)]
 .intro b off h;simp[ren,h b (by simp[refs])]
 .intro b i sz off h;simp[ren,h b (by simp[refs])]
 .intro cs off _;rfl
 .intro b h;simp[ren,h b (by simp[refs])]
 .intro b n h;simp[ren,h b (by simp[refs])]
 .intro fn cs ih h;simp[ren,ih (by simpa[refs]using h)]
 .intro _;rfl
 .intro v vs ih1 ih2 h;simp only[Z8,Yi]at h;simp[rens,ih1 (λc hc=>h c (.inl hc)),ih2 (λc hc=>h c (.inr hc))]
theorem Z1s{f g:Nat->Nat}:∀(vs:XQ),(∀c∈Z8 vs,g (f c)=c)->rens g (rens f vs)=vs
 |[],_=>rfl
 |v::vs,h=>by
  simp only[Z8,Yi]at h;simp[rens,Ew v (λc hc=>h c (.inl hc)),Z1s vs (λc hc=>h c (.inr hc))]
theorem ZCf{f g:Nat->Nat}(x:Ax)(h:∀c∈W5 x,g (f c)=c):A0 g (A0 f x)=x:=by
 cases x with
 |box cs=>simp[A0,Z1s cs h]
 |det e sz es i off b=>simp[A0,h b (by simp[W5])]
 |_=>rfl
theorem ZqF(ids:V2)(nx:Nat):∀(xs ys:WM) (i:Nat),XW ids nx (xs++ys) i=XW ids nx xs i++XW ids nx ys (i+xs.length)
 |[],ys,i=>by simp[XW]
 |x::xs,ys,i=>by simp[XW,ZqF ids nx xs ys (i+1),Ty,Nat.add_comm 1]
theorem ZCg{u:List (Nat×Ax)}:∀{h h':WM},(∀b,gt h b=gt h' b)->∀b,gt (upd h u) b=gt (upd h' u) b:=by
 induction u with
 |nil=>intro h h' hg b;exact hg b
 |cons p u ih =>
  intro h h' hg b;obtain⟨c,x⟩:=p;exact ih (λb=>by rw[Vh,Vh,hg]) b
theorem ZCh{ids:V2}(hnd:ids.Nodup)(hcl:∀b∈ids,∀c∈W5 (gt h b),c∈ids)(nx b:Nat):gt (upd h (XW ids nx (AW h ids) 0)) b=gt h b:=by
 have hl:(AW h ids).length=ids.length:=by simp[AW]
 by_cases hb:b∈ids
 .obtain⟨i,hi⟩:=Ydb hb;have hil:=(Y0.1 hi).1;have hinj:∀j k,j<ids.length->k<ids.length->bk ids nx j=bk ids nx k->j=k:=λj k hj hk he=>Eu hnd (m:=ids.length) (λq hq=>by omega) hj hk he
  have:=ZqD ids nx (AW h ids) 0 h (λj k _ h2 _ h4=>hinj j k Z Z) i (Yc _) Z;rw[KX hi]at this;rw[this];have e:gt (AW h ids) (i-0)=A0 (λc=>idx c ids 0) (gt h b):=by
   rw[Nat.sub_zero,AW,O2,hi]
  rw[e];refine ZCf _ λc hc=>?_
  obtain⟨j,hj⟩:=Ydb (hcl b hb c hc);rw[C5 hnd hj,KX hj]
 .exact sE ids nx _ 0 h b λj _ h2 he=>hb (by
   have hj:ids[j]?=some (ids[j]' Z):=by simp
   rw[KX hj]at he
   exact he▸Y3 hj)
theorem Qw.congr{v:AV}{u u':List (Nat×Ax)}{val:Value}{w':World}{ρ':Map}(hA:Qw N base ρ h w v u val w' ρ')(hg:∀b,gt (upd h u) b=gt (upd h u') b)(hs:∀b,b ∉ u'.map Prod.fst->ρ b=none->ρ' b=none):Qw N base ρ h w v u' val w' ρ':=by
 have hF:=Free.congr (N:=N) (ρ:=ρ') hg;exact⟨by rw[<-hF];exact hA.val,hA.rel.congr hg,by rw[<-hF];exact hA.keeps,hs,hA.below,hA.kn⟩
theorem ZCi{o:Oper}(R:Rel N base ρ h w){nx f:Nat}{vs:XQ}{vals:Array Value}(hargs:Ay ρ w (Free N ρ h) vs vals.toList){r:AV}{hn:WM}
  (hu:∀b,b∈(XW (ZN h vs) nx hn (ZN h vs).length).map Prod.fst->nx<=b->ρ b=none) (hcl:Qg h (ZN h vs) (Z8 vs)=true)
  (hG:Ww P f (BJ (ZN h vs) vs) (AW h (ZN h vs)) r (AW h (ZN h vs)++hn)) (hex:(execOp a.eval o).run P w=.ok (.enter f vals) w) {K:Act->World->Prop} {Q:Exit->Act->World->Prop}
  (hK:∀val w' ρ',Qw N base ρ h w (ren (bk (ZN h vs) nx) r) (XW (ZN h vs) nx hn (ZN h vs).length) val w' ρ'->K (a.put o.dst val) w'):o.wp P a w K Q:=by
 have hl:(AW h (ZN h vs)).length=(ZN h vs).length:=by simp[AW]
 refine sF R (nx:=nx) hargs (λj h1 h2=>?_) hcl hG hex λval w' ρ' hA=>?_
 .rw[Yu,hl]at h2;refine hu _ ((O5 _ _ _ _ _).2 ⟨j,h1,h2,B3 h1⟩) (Nat.le_add_right _ _)
 .obtain⟨hin,T2⟩:=sC hcl;have hnd:(ZN h vs).Nodup:=sA _ _ _ Y2;refine hK val w' ρ' (hA.congr (λb=>?_) λb hb hb0=>?_)
  .rw[ZqF,TI,hl,Yv]
   grind [ZCg,ZCh]
  .refine hA.same b (λhm=>?_) hb0;rw[ZqF,CE,Yi,hl,Yv]at hm;rcases hm with hm|hm
   .obtain⟨j,_,h2,h3⟩:=(O5 _ _ _ _ _).1 hm;rw[Yv,hl]at h2;have hj:(ZN h vs)[j]?=some ((ZN h vs)[j]'h2):=by simp[h2]
    rw[KX hj]at h3;obtain⟨r0,hr0⟩:=Z1q R hargs b (h3▸Y3 hj)
    simp_all
   .exact hb hm
def isC:AY->Prop
 |.call _ _=>True
 |.xcall _ _=>True
 |.fcall _ _=>True
 |.icall _ _=>True
 |.scall _ _ _=>True
 |.pcall _ _=>True
 |.dcall _ _=>True
 |_=>False
theorem T3{o:Oper}{k:AY}(hk:Xg P inl ops o.op=some k)(hE:XB ρ w (Free N ρ h) e a.tmps)(R:Rel N base ρ h w){nx:Nat}{v:AV}{u:List (Nat×Ax)}(hn:isC k\/ρ nx=none)(hu:∀b,b∈u.map Prod.fst->nx<=b->ρ b=none)
  (hev:CQ (Ww P) h nx e k v u) {K:Act->World->Prop} {Q:Exit->Act->World->Prop} (hK:∀val w' ρ',Qw N base ρ h w v u val w' ρ'->K (a.put o.dst val) w'):o.wp P a w K Q:=by
 have plain:Zy h nx e k=some (v,u)->o.wp P a w K Q:=by
  intro hev;have hnx:ρ nx=none:=by
   rcases hn with hn|hn
   .cases k<;>first|exact hn.elim|cases hev
   .exact hn
  obtain⟨val,w',ρ',hrun,h1,h2,h3,h4,h5,h6⟩:=Ep hk hE R hnx hev;have:=hK val w' ρ' ⟨h1,h2,h3,λb hb hb0=>by rw[h4 b hb];exact hb0,h5,h6⟩;unfold Oper.wp;rcases hrun with hrun|⟨hrun,rfl⟩
  .rw[hrun];exact this
  .rw[hrun];exact this
 have hul:∀{ids:V2} {h1:WM},u=XW ids nx h1 0->∀j,ids.length<=j->j<h1.length->ρ (nx+(j-ids.length))=none:=by
  intro ids h1 he j h2 h3;exact hu _ (by rw[he];exact(O5 _ _ _ _ _).2 ⟨j,Yc _,Z,B3 h2⟩) (Nat.le_add_right _ _)
 cases k<;>try (exact plain hev)
 .rename_i f args;simp only[CQ]at hev;obtain⟨as,hfz,r,hr,hG,hsh,rfl,rfl⟩:=hev;obtain⟨c,hoc,hcc,has,hcl⟩:=(IK hk).1 f args rfl;exact ZCc R (vals:=c.args.map a.eval) (by rw[DL];exact GL hE has) hu hfz hG hsh (O3 hoc hcc hcl w) hK
 .rename_i f args;simp only[CQ]at hev;obtain⟨as,hfz,r,hr,hG,hsh,rfl,rfl⟩:=hev;obtain⟨c,hoc,hcc,has,hcl⟩:=(IK hk).1 f args rfl;exact ZCe R (vals:=c.args.map a.eval) (by rw[DL];exact GL hE has) hu hfz hG hsh (O3 hoc hcc hcl w) hK
 .rename_i f args;simp only[CQ]at hev;obtain⟨as,hfz,hno,r,hr,hG,hd,rfl⟩:=hev;obtain⟨c,hoc,hcc,has,hcl⟩:=(IK hk).1 f args rfl;exact ZCd R (vals:=c.args.map a.eval) (by rw[DL];exact GL hE has) hfz hno hG hd (O3 hoc hcc hcl w) hK
 .rename_i f args;simp only[CQ,WP]at hev;obtain⟨hcl',r,h1,hG,rfl,rfl⟩:=hev;obtain⟨c,hoc,hcc,has,hcl⟩:=(IK hk).1 f args rfl;exact sF R (vals:=c.args.map a.eval) (by rw[DL];exact GL hE has) (hul rfl) hcl' hG (O3 hoc hcc hcl w) hK
 .rename_i f args p;simp only[CQ,WP]at hev;obtain⟨hcl',r,h1,hG,u2,hp,rfl,rfl⟩:=hev;obtain⟨c,hoc,hcc,has,hcl⟩:=(IK hk).1 f args rfl;refine sF R (nx:=nx) (vals:=c.args.map a.eval) (by rw[DL];exact GL hE has) (λj h2 h3=>?_) hcl' hG (O3 hoc hcc hcl w) λval w' ρ' hA=>?_
  .refine hu _ ?_ (Nat.le_add_right _ _);rw[CE,Yi];exact .inl ((O5 _ _ _ _ _).2 ⟨j,Yc _,Z,B3 h2⟩)
  .obtain⟨ρ2,q1,q2,q3,_⟩:=Z1d hA.rel hp;refine hK val w' ρ2 ⟨?_,?_,?_,λb hb hb0=>q3 b (hA.same b (λhm=>hb (by rw[CE,Yi];exact .inl hm)) hb0),hA.below,hA.kn⟩
   .rw[TI];exact hA.val.keep q2
   .simp_all [TI]
   .rw[TI];exact hA.keeps.trans q2 hA.below.size
 .rename_i f args;simp only[CQ,KR]at hev;obtain⟨hcl',r,hn,hG,rfl,rfl⟩:=hev;obtain⟨c,hoc,hcc,has,hcl⟩:=(IK hk).1 f args rfl;exact ZCi R (vals:=c.args.map a.eval) (by rw[DL];exact GL hE has) hu hcl' hG (O3 hoc hcc hcl w) hK
 .rename_i x args;simp only[CQ,WP]at hev;obtain⟨g,caps,hg,hcl',r,h1,hG,rfl,rfl⟩:=hev;obtain⟨c,y,hoc,hcc,hy,has⟩:=(IK hk).2 x args rfl;have C3:=ZY hE hy;rw[hg]at C3;obtain⟨cv,hcv,T4⟩:=C3.fn_val;have hex:(execOp a.eval o).run P w=.ok (.enter g (c.args.map a.eval++cv)) w:=by
   unfold execOp;rw[hoc];simp[resolve,hcc,hcv,Deferred.ofValue,invoke,Z1p hG.1]
  exact sF R (vals:=c.args.map a.eval++cv) (by rw[Array.toList_append,DL];exact(GL hE has).append T4) (hul rfl) hcl' hG hex hK
end
open Go.RowKit (Below)
def Uo(ρ:Map)(w:World)(F:Nat->Prop):List Env->List (Array Value)->Prop
 |[],[]=>True
 |e::es,t::ts=>XB ρ w F e t/\Uo ρ w F es ts
 |_,_=>False
structure AE (N:Bi) (base:Nat) (w0:World) (nt:Nat) (ts:List (Array Value)) (ρ:Map) (s:S) (a:Act) (w:World):Prop where
 rel:Rel N base ρ s.h w
 env:XB ρ w (Free N ρ s.h) s.env a.tmps
 stk:Uo ρ w (Free N ρ s.h) s.stk ts
 dom:∀b,s.h.length<=b->ρ b=none
 defers:a.defers=[]
 size:a.tmps.size=nt
 below:Below base w0 w
 kn:∀g,g<w0.heap.size->¬N.a g->w.heap[g]?=w0.heap[g]?
 fz:∀g,g<w0.heap.size->N.z g->Free N ρ s.h g/\w.heap[g]?=w0.heap[g]?
section
variable{P:Program}{N:Bi}{base:Nat}{w0:World}{nt:Nat}{ts:List (Array Value)}{inl:V2}{ρ:Map}{w:World}{a:Act}{d:Option Nat}{s:S}{F:Nat->Prop}{e:Env}{v:AV}{val:Value}{ops:Array Oper}{o:Oper}
theorem Uo.keep{ρ ρ':Map}{w w':World}{F F':Nat->Prop}(hk:X7 ρ w F ρ' w' F'):∀{es:List Env} {ts:List (Array Value)},Uo ρ w F es ts->Uo ρ' w' F' es ts
 |[],[],_=>trivial
 |_::_,_::_,h=>⟨λs=>(h.1 s).keep hk,Uo.keep hk h.2⟩
 |[],_::_,h=>h.elim
 |_::_,[],h=>h.elim
theorem FC(h:WM)(b:Nat)(x:Ax):h.length<=(stB h b x).length/\b<(stB h b x).length:=by
 induction h generalizing b with
 |nil =>
  induction b with
  |zero=>simp[stB]
  |succ b ih=>simp[stB];exact ih.2
 |cons y h ih =>
  cases b with
  |zero=>simp[stB]
  |succ b=>simp[stB];exact ih b
theorem ZqG(u:List (Nat×Ax)):∀h:WM,h.length<=(upd h u).length/\∀b∈u.map Prod.fst,b<(upd h u).length:=by
 induction u with
 |nil=>intro h;simp[upd]
 |cons p u ih =>
  intro h;obtain⟨b,x⟩:=p;have h1:=FC h b x;have h2:=ih (stB h b x);simp only[upd]
  grind
theorem sG(hE:XB ρ w F e a.tmps)(hv:RV ρ w F v val)(hd:∀x,d=some x->x<a.tmps.size):XB ρ w F (put d v e) (a.put d val).tmps:=by
 cases d with
 |none=>exact hE
 |some d =>
  intro s;have hlt:=hd d rfl;simp only[put,lk,Act.put];split
  .simp_all
  .rename_i hs;have:=hE s
   simp_all
theorem sH(a:Act)(d:Option Nat)(v:Value):(a.put d v).defers=a.defers:=by cases d<;>rfl
theorem sI(a:Act)(d:Option Nat)(v:Value):(a.put d v).tmps.size=a.tmps.size:=by cases d<;>simp[Act.put]
theorem AE.after{ρ':Map}{w':World}(hS:AE N base w0 nt ts ρ s a w){u:List (Nat×Ax)}(hA:Qw N base ρ s.h w v u val w' ρ')(hd:∀x,d=some x->x<nt) :
  AE N base w0 nt ts ρ' { s with env:=put d v s.env,h:=upd s.h u } (a.put d val) w':=by
 refine⟨hA.rel,sG (λs=>(hS.env s).keep hA.keeps) hA.val λx hx=>by rw[hS.size];exact hd x hx,hS.stk.keep hA.keeps,?_,by rw[sH];exact hS.defers,by rw[sI];exact hS.size,hS.below.trans hA.below,
  λg hg hn=>(hA.kn g (OO hg hS.below.size) hn).trans (hS.kn g hg hn),λg hg hz=>?_⟩
 .intro b hb;have h1:=ZqG u s.h;exact hA.same b (λhc=>by have:=h1.2 b hc;simp only at hb;omega) (hS.dom b (by simp only at hb;omega))
 .obtain⟨h1,h2⟩:=hS.fz g hg hz;obtain⟨h3,h4⟩:=hA.keeps.free g (OO hg hS.below.size) h1
  simp_all
theorem AE.skip(hS:AE N base w0 nt ts ρ s a w)(hd:∀x,d=some x->x<nt) :
  AE N base w0 nt ts ρ { s with env:=put d (.tup []) s.env } (a.put d undef) w :=
 ⟨hS.rel,sG hS.env (RV.tup (c:=#[]) .nil) λx hx=>by rw[hS.size];exact hd x hx,hS.stk,hS.dom,by rw[sH];exact hS.defers,by rw[sI];exact hS.size,hS.below,hS.kn,hS.fz⟩
theorem Z1t{Γ:CV}{o:MO}{K:S->Prop}(hr:Bm Γ o s K):∃v u,CQ Γ s.h s.h.length s.env o.op v u/\K { s with env:=put o.dst v s.env,h:=upd s.h u }:=by
 cases ho:o.op with
 |xcall f args =>
  simp only[Bm,ho]at hr;obtain⟨as,h1,r,hr',h2,h3,h4⟩:=hr
  exact⟨_,_,⟨as,h1,r,hr',h2,h3,rfl,rfl⟩,h4⟩
 |fcall f args =>
  simp only[Bm,ho]at hr;obtain⟨as,h1,hno,r,hr',d,h2,h3,h4⟩:=hr
  exact⟨_,_,⟨as,h1,hno,r,hr',h2,h3,rfl⟩,h4⟩
 |scall f args p =>
  simp only[Bm,ho,WP]at hr;obtain⟨h1,r,h2,h3,u2,h4,h5⟩:=hr
  exact⟨_,_,⟨h1,r,h2,h3,u2,h4,rfl,rfl⟩,h5⟩
 |icall f args =>
  simp only[Bm,ho,WP]at hr;obtain⟨h1,r,h2,h3,h4⟩:=hr
  exact⟨_,_,⟨h1,r,h2,h3,rfl,rfl⟩,h4⟩
 |pcall f args =>
  simp only[Bm,ho,KR]at hr;obtain⟨h1,r,h2,h3,h4⟩:=hr
  exact⟨_,_,⟨h1,r,h2,h3,rfl,rfl⟩,h4⟩
 |dcall f args =>
  simp only[Bm,ho]at hr;split at hr
  .rename_i g caps hg;obtain⟨h1,r,h2,h3,h4⟩:=hr;exact⟨_,_,⟨g,caps,hg,h1,r,h2,h3,rfl,rfl⟩,h4⟩
  .exact hr.elim
 |call f args =>
  simp only[Bm,ho]at hr;obtain⟨as,h1,r,hr',h2,h3,h4⟩:=hr
  exact⟨_,_,⟨as,h1,r,hr',h2,h3,rfl,rfl⟩,h4⟩
 |_ =>
  simp only[Bm,ho]at hr;split at hr
  .rename_i v u hev;exact⟨v,u,hev,hr⟩
  .exact hr.elim
theorem ZqH{m:MO}(hc:B0 P inl nt ops o=some m):Xg P inl ops o.op=some m.op/\m.dst=o.dst/\(∀x,o.dst=some x->x<nt)/\
  ((o.guard=none/\m.guard=none)\/∃j b d,o.guard=some (j,b)/\(ops[j]?).bind (·.dst)=some d/\m.guard=some (d,b)):=by
 unfold B0 at hc
 grind [Option.map_eq_some_iff]
theorem ZqI(hE:XB ρ w F e a.tmps){j d:Nat}{b:Bool}(hg:o.guard=some (j,b))(hd:(ops[j]?).bind (·.dst)=some d) :
  (∀c,lk d e=.t (.bool c)->Region.wanted o (yielded ops a.tmps)=decide (c=b))/\(lk d e=.tup []->Region.wanted o (yielded ops a.tmps)=false):=by
 have hr:=hE d;constructor
 .intro c hc;rw[hc]at hr;have h1:=hr.bool_inv;have h2:a.tmps[d]?=some (.bool c):=by
   rw[Iu]at h1
   cases hx:a.tmps[d]? with
   |none=>rw[hx]at h1;cases h1
   |some y=>rw[hx]at h1;simp at h1;rw[h1]
  simp only[Region.wanted,hg,yielded,hd,Option.bind_some,h2]
  grind
 .intro hc;rw[hc]at hr;obtain⟨c,h1,h2⟩:=hr.tup_val;have h3:c=#[]:=by cases h2':c.toList with|nil=>simpa using h2'|cons x xs=>rw[h2']at h2;cases h2
  subst h3;simp only[Region.wanted,hg,yielded,hd,Option.bind_some];rw[Iu]at h1
  grind
theorem Z1u{Γ:CV}(hΓ:Γ=Ww P){ops:Array Oper}{Qc:Exit->Act->World->Prop}{K:S->Prop}
  (hQ:∀s a w ρ,K s->AE N base w0 nt ts ρ s a w->Qc .normal a w):∀(l:List Oper) (os:List MO),AQ (B0 P inl nt ops) l=some os->∀(s:S) (a:Act) (w:World) (ρ:Map),Ci Γ os s K->AE N base w0 nt ts ρ s a w->wpList P ops Qc l a w
 |[],os,hm,s,a,w,ρ,hr,hS=>by cases hm;exact hQ s a w ρ hr hS
 |o::l,os,hm,s,a,w,ρ,hr,hS=>by
  obtain⟨m,ms,h1,h2,rfl⟩:=QR hm;obtain⟨hk,hdst,hd,hguard⟩:=ZqH h1;simp only[Ci]at hr;have ih:=Z1u hΓ hQ l ms h2;have run:Bm Γ m s (λs'=>Ci Γ ms s' K)->o.wp P a w (wpList P ops Qc l) Qc:=by
   intro hrun;obtain⟨v,u,hop,hK⟩:=Z1t hrun;rw[hΓ]at hop;refine T3 hk hS.env hS.rel (nx:=s.h.length) (.inr (hS.dom _ (Yk _))) (λb _ hb=>hS.dom b hb) hop λval w' ρ' hA=>?_
   exact ih _ _ _ ρ' hK (by rw[hdst];exact hS.after hA hd)
  have skip:Ci Γ ms { s with env:=put m.dst (.tup []) s.env } K->wpList P ops Qc l (a.put o.dst undef) w:=λhK=>ih _ _ _ ρ hK (by rw[hdst];exact hS.skip hd)
  refine wpList_step λK' hK'=>?_
  have run':Bm Γ m s (λs'=>Ci Γ ms s' K)->o.wp P a w K' Qc:=λh=>Oper.wp_mono hK' (run h)
  rcases hguard with⟨hg1,hg2⟩|⟨j,b,d,hg1,hg2,hg3⟩
  .simp only[D2,hg2]at hr;simp only[Region.wanted,hg1,if_true];exact run' hr
  .have hw:=ZqI hS.env hg1 hg2;simp only[D2,hg3]at hr
   grind
end
def ZCj(xs ys:XQ):Z8 (xs++ys)=Z8 xs++Z8 ys:=by
 induction xs with
 |nil=>rfl
 |cons x xs ih=>simp[Z8,ih]
def ZCk{v:AV}{vs:XQ}(h:v∈vs){b:Nat}(hb:b∈refs v):b∈Z8 vs:=by
 induction vs with
 |nil=>cases h
 |cons x xs ih =>
  simp only[Z8,Yi]
  grind
section
variable{h h':WM}{e e':Env}{v:AV}{vs cs:XQ}{rs:V2}{b sz nx:Nat}{ps:List (Nat×AO)}{st:Bool}{k:AY}
theorem T5(hc:cellsOf v=some vs):Z8 vs=refs v:=by
 cases v<;>simp[cellsOf]at hc<;>subst hc<;>simp[Z8,refs]
theorem ZCl(hh:∀b∈refs v,gt h b=gt h' b):DB h v=DB h' v:=by
 cases v<;>simp[DB];rename_i b;rw[hh b (by simp[refs])]
theorem sJ(hh:∀b∈Z8 vs,gt h b=gt h' b):A9 h vs=A9 h' vs:=by
 induction vs with
 |nil=>rfl
 |cons v vs ih =>
  simp only[A9];rw[ZCl (λb hb=>hh b (by simp[Z8,hb])),ih (λb hb=>hh b (by simp[Z8,hb]))]
theorem ZCm(hh:∀b∈refs v,gt h b=gt h' b):BF h v=BF h' v:=by
 cases v<;>simp[BF];rename_i b;rw[hh b (by simp[refs])]
theorem Z1v(hh:∀b∈Z8 vs,gt h b=gt h' b):Qt h vs=Qt h' vs:=by
 induction vs with
 |nil=>rfl
 |cons v vs ih =>
  simp only[Qt];rw[ZCm (λb hb=>hh b (by simp[Z8,hb])),ih (λb hb=>hh b (by simp[Z8,hb]))]
theorem Z1w{h:WM}(hb:b∈rs):b∈QN h rs:=E4 _ (E4 _ hb)
theorem Z1x{h:WM}{c:Nat}(hb:b∈rs)(hc:c∈W5 (gt h b)):c∈QN h rs:=E4 _ (Iv _ (List.mem_flatMap.2 ⟨b,hb,hc⟩))
theorem sK{h:WM}(hb:b∈Xp h 200 rs []):b∈QN h rs:=Iv _ hb
theorem sL{h:WM}:∀(n:Nat) (todo acc:V2),∀b∈acc,b∈Xp h n todo acc
 |0,_,_,b,hb=>by simpa[Xp]using hb
 |n+1,[],acc,b,hb=>by simpa[Xp]using hb
 |n+1,c::todo,acc,b,hb=>by
  simp only[Xp];split
  .exact sL n _ _ b hb
  .exact sL n _ _ b (by simp[hb])
def GP(h h':WM)(rs:V2):Prop:=∀b∈rs,gt h b=gt h' b/\∀c∈W5 (gt h b),gt h c=gt h' c
theorem ZqJ{h h':WM}(hh:∀b∈QN h rs,gt h b=gt h' b):GP h h' rs:=λb hb=>⟨hh b (Z1w hb),λc hc=>hh c (Z1x hb hc)⟩
theorem GP.sub{h h':WM}{rs':V2}(hh:GP h h' rs)(hs:∀b∈rs',b∈rs):GP h h' rs':=λb hb=>hh b (hs b hb)
theorem ZqK{h h':WM}:∀(n:Nat) (todo acc:V2),(∀b∈Xp h n todo acc,gt h b=gt h' b)->Xp h' n todo acc=Xp h n todo acc
 |0,_,_,_=>rfl
 |n+1,[],acc,_=>rfl
 |n+1,c::todo,acc,hh=>by
  simp only[Xp]at hh|-;split
  .rename_i hc;rw[Ya hc]at hh;exact ZqK n todo acc hh
  .rename_i hc;rw[Yb hc]at hh
   have:gt h c=gt h' c:=hh c (sL n _ _ c Om)
   rw[<-this];exact ZqK n _ _ hh
theorem Z1y(hh:GP h h' (refs v)):Bt h v=Bt h' v:=by
 cases v<;>simp only[Bt]
 .rename_i cs;rw[Z1v λb hb=>(hh b (by simpa[refs]using hb)).1]
 .rename_i b off;obtain⟨hb,hc⟩:=hh b (by simp[refs]);rw[<-hb]
  cases hg:gt h b with
  |box cs=>simp only;rw[Z1v λc hc'=>hc c (by rw[hg];exact hc')]
  |_=>rfl
 .rename_i b;rw[(hh b (by simp[refs])).1]
theorem ZCn(hh:GP h h' (Z8 vs)):JC h vs=JC h' vs:=by
 induction vs with
 |nil=>rfl
 |cons v vs ih =>
  simp only[JC];rw[Z1y (hh.sub λc hc=>by simp[Z8,hc]),ih (hh.sub λc hc=>by simp[Z8,hc])]
theorem ZCo(hh:GP h h' (refs v)):Do h v=Do h' v:=by
 by_cases hx:∃g cs,v=.fn g cs
 .obtain⟨g,cs,rfl⟩:=hx;simp only[Do];rw[ZCn (hh.sub λc hc=>by simpa[refs]using hc)]
 .have e:∀h,Do h v=Bt h v:=by
   intro h;cases v<;>first|rfl|exact absurd ⟨_,_,rfl⟩ hx
  rw[e,e,Z1y hh]
theorem ZqL(hh:GP h h' (Z8 vs)):AG h vs=AG h' vs:=by
 induction vs with
 |nil=>rfl
 |cons v vs ih =>
  simp only[AG];rw[ZCo (hh.sub λc hc=>by simp[Z8,hc]),ih (hh.sub λc hc=>by simp[Z8,hc])]
theorem Z1z(hh:∀b∈Xp h 200 (Z8 vs) [],gt h b=gt h' b):ZN h' vs=ZN h vs/\AW h' (ZN h vs)=AW h (ZN h vs)/\Qg h' (ZN h vs) (Z8 vs)=Qg h (ZN h vs) (Z8 vs):=by
 refine⟨ZqK 200 _ _ hh,?_,?_⟩
 .unfold AW;exact DU λb hb=>by rw[hh b hb]
 .unfold Qg;congr 1;rw[Fg,Yn,Yn];constructor
  .intro q b hb;rw[hh b hb];exact q b hb
  .intro q b hb;rw[<-hh b hb];exact q b hb
theorem ZCp{ps:List (Nat×Nat×AO)}(he:∀p∈ps,ev e p.2.2=ev e' p.2.2):parts e cs ps=parts e' cs ps:=by
 induction ps generalizing cs with
 |nil=>rfl
 |cons p ps ih =>
  obtain⟨o,n,x⟩:=p;have h1:=he (o,n,x) Om;simp only at h1;have h2:=λcs=>ih (cs:=cs) (λp hp=>he p (by simp[hp]))
  simp only[parts,h1,h2]
theorem ZCq(he:∀p∈ps,ev e p.2=ev e' p.2):KP e cs ps=KP e' cs ps:=by
 induction ps generalizing cs with
 |nil=>rfl
 |cons p ps ih =>
  obtain⟨n,x⟩:=p;have h1:=he (n,x) Om;simp only at h1;have h2:=λcs=>ih (cs:=cs) (λp hp=>he p (by simp[hp]))
  simp only[KP,h1,h2]
theorem Z10{es:WA}(he:∀p∈ps,ev e p.2=ev e' p.2)(hh:∀p∈ps,∀b∈refs (ev e p.2),gt h b=gt h' b):elems h e sz es ps=elems h' e' sz es ps:=by
 induction ps generalizing es with
 |nil=>rfl
 |cons p ps ih =>
  obtain⟨n,x⟩:=p;have h1:=he (n,x) Om;have h3:=hh (n,x) Om;simp only at h1 h3;have h2:=λes=>ih (es:=es) (λp hp=>he p (by simp[hp])) (λp hp=>hh p (by simp[hp]))
  simp only[elems,h2,<-h1]
  grind [sJ,T5]
theorem IL{x:T}{f:Bool}{ks:V2}(h1:DB h v=some (x,f,ks)):∀k∈ks,k∈refs v:=by
 cases v with
 |t y=>simp[DB]at h1;obtain⟨_,_,rfl⟩:=h1;simp
 |own b =>
  simp only[DB]at h1;split at h1
  .cases h1;simp[refs]
  .split at h1
   .cases h1;simp[refs]
   .cases h1
  .cases h1
 |_=>simp[DB]at h1
theorem Z11:∀{vs:XQ} {xs:V4} {f:Bool} {ks:V2},A9 h vs=some (xs,f,ks)->∀k∈ks,k∈Z8 vs
 |[],_,_,_,h1=>by simp[A9]at h1;obtain⟨_,_,rfl⟩:=h1;simp
 |v::vs,xs,f,ks,h1=>by
  simp only[A9]at h1;split at h1
  .rename_i x f1 k1 y g1 l1 e1 e2;cases h1;intro k hk;rw[Z8,Yi];rcases Yi.1 hk with hk|hk
   .grind [IL]
   .exact .inr (Z11 e2 k hk)
  .cases h1
theorem Z12{sz:Nat}:∀{ps:List (Nat×AO)} {es es':WA} {f:Bool} {ks:V2},elems h e sz es ps=some (es',f,ks)->∀k∈ks,∃p∈ps,k∈refs (ev e p.2)
 |[],_,_,_,_,h1=>by simp[elems]at h1;obtain⟨_,_,rfl⟩:=h1;simp
 |(i,x)::ps,es,es',f,ks,h1=>by
  simp only[elems]at h1;split at h1
  .rename_i vs hc;split at h1
   .rename_i ts f1 k1 ht;split at h1
    .split at h1
     .rename_i es2 g2 l2 hr;cases h1;intro k hk;rcases Yi.1 hk with hk|hk
      .exact⟨(i,x),Om,by rw[<-T5 hc];exact Z11 ht k hk⟩
      .obtain⟨p,hp,hq⟩:=Z12 hr k hk
       grind
     .cases h1
    .cases h1
   .cases h1
  .cases h1
theorem ZCr(hh:∀b∈refs v,gt h b=gt h' b):VV h st v=VV h' st v:=by
 cases v with
 |own b=>cases st<;>simp only[VV];rw[hh b (by simp[refs])]
 |t x=>cases st<;>cases x<;>rfl
 |_=>cases st<;>rfl
theorem ZCs(hh:∀b∈refs v,gt h b=gt h' b):VH h st v=VH h' st v:=by
 cases v with
 |own b=>cases st<;>simp only[VH];rw[hh b (by simp[refs])]
 |t x=>cases st<;>cases x<;>first|rfl|(rename_i es;cases es<;>rfl)
 |_=>cases st<;>rfl
theorem ZCt{mv:Bool}(hh:∀b∈refs v,gt h b=gt h' b):Qs h sz mv v=Qs h' sz mv v:=by
 cases v with
 |own b=>simp only[Qs];rw[hh b (by simp[refs])]
 |t x=>cases x<;>rfl
 |_=>rfl
theorem ZCu(hh:∀b∈refs v,gt h b=gt h' b):JB h sz v=JB h' sz v:=by
 cases v with
 |own b=>simp only[JB];rw[hh b (by simp[refs])]
 |_=>rfl
theorem Z13{d:Nat}{o:Option AO}(he:∀x,o=some x->ev e x=ev e' x):bnd e d o=bnd e' d o:=by
 cases o with
 |none=>rfl
 |some x=>simp[bnd,he x rfl]
theorem ZCv(he:∀x∈Z4 k,ev e x=ev e' x)(hh:∀x∈Z4 k,∀b∈refs (ev e x),gt h b=gt h' b):Zy h nx e k=Zy h' nx e' k:=by
 cases k with
 |mov x=>simp[Zy,he x (by simp[Z4])]
 |pick c a b=>simp[Zy,he c (by simp[Z4]),he a (by simp[Z4]),he b (by simp[Z4])]
 |alloc zs=>rfl
 |box x=>simp[Zy,he x (by simp[Z4])]
 |build zs ps =>
  simp only[Zy]
  rw[ZCp (λp hp=>he p.2.2 (by simp only[Z4,Yp];exact⟨p,hp,rfl⟩))]
 |bslice el sz n zs ps =>
  simp only[Zy]
  rw[Z10 (λp hp=>he p.2 (by simp only[Z4,Yp];exact⟨p,hp,rfl⟩)) (λp hp=>hh p.2 (by simp only[Z4,Yp];exact⟨p,hp,rfl⟩))]
 |bsliceX el sz n zs ps =>
  simp only[Zy];have hE:=Z10 (h:=h) (h':=h') (e:=e) (e':=e') (sz:=sz) (es:=List.replicate n zs) (ps:=ps) (λp hp=>he p.2 (by simp only[Z4,Yp];exact⟨p,hp,rfl⟩)) (λp hp=>hh p.2 (by simp only[Z4,Yp];exact⟨p,hp,rfl⟩));rw[<-hE]
  cases hq:elems h e sz (List.replicate n zs) ps with
  |none=>rfl
  |some r =>
   obtain⟨es,fr,ks⟩:=r;have hk:∀k∈ks,gt h k=gt h' k:=λk hk=>by
    obtain⟨p,hp,hr⟩:=Z12 hq k hk;exact hh p.2 (by simp only[Z4,Yp];exact⟨p,hp,rfl⟩) k hr
   simp_all
 |bptrs n ps =>
  simp only[Zy]
  rw[ZCq (λp hp=>he p.2 (by simp only[Z4,Yp];exact⟨p,hp,rfl⟩))]
 |load n x =>
  have h1:=he x (by simp[Z4]);have h2:=hh x (by simp[Z4]);simp only[Zy,<-h1];cases hx:ev e x<;>simp only
  .rw[h2 _ (by rw[hx];simp[refs])]
  .rw[h2 _ (by rw[hx];simp[refs])]
 |loadU mv x =>
  have h1:=he x (by simp[Z4]);have h2:=hh x (by simp[Z4]);simp only[Zy,<-h1];cases hx:ev e x<;>simp only
  .rw[h2 _ (by rw[hx];simp[refs])]
  .rw[h2 _ (by rw[hx];simp[refs])]
 |store n x v =>
  have h1:=he x (by simp[Z4]);have h2:=hh x (by simp[Z4]);have h3:=he v (by simp[Z4]);have h4:=hh v (by simp[Z4]);simp only[Zy,<-h1,<-h3]
  cases hc:cellsOf (ev e v)with
  |none=>rfl
  |some vs =>
   simp only;rw[sJ (h:=h) (h':=h') (λb hb=>h4 b (by rw[<-T5 hc];exact hb))];cases hx:ev e x<;>simp only
   .rw[h2 _ (by rw[hx];simp[refs])]
   .rw[h2 _ (by rw[hx];simp[refs])]
 |storeF n x v =>
  have h1:=he x (by simp[Z4]);have h2:=hh x (by simp[Z4]);have h3:=he v (by simp[Z4]);have h4:=hh v (by simp[Z4]);simp only[Zy,<-h1,<-h3]
  cases hc:cellsOf (ev e v)with
  |none=>rfl
  |some vs =>
   simp only;rw[sJ (h:=h) (h':=h') (λb hb=>h4 b (by rw[<-T5 hc];exact hb))];cases hx:ev e x<;>simp only
   .rw[h2 _ (by rw[hx];simp[refs])]
 |storeP n x v p =>
  have h1:=he x (by simp[Z4]);have h2:=hh x (by simp[Z4]);have h3:=he v (by simp[Z4]);have h4:=hh v (by simp[Z4]);have h5:=he p (by simp[Z4]);have h6:=hh p (by simp[Z4]);simp only[Zy,<-h1,<-h3,<-h5]
  cases hx:ev e x with
  |eptr c j sz off =>
   cases hp:ev e p with
   |eptr b _ _ _ =>
    simp only;rw[<-h2 c (by rw[hx];simp[refs]),<-h6 b (by rw[hp];simp[refs])]
    grind [sJ,T5]
   |_=>rfl
  |_=>rfl
 |nilchk x=>simp[Zy,he x (by simp[Z4])]
 |bin op x y=>simp[Zy,he x (by simp[Z4]),he y (by simp[Z4])]
 |beq n x y=>simp[Zy,he x (by simp[Z4]),he y (by simp[Z4])]
 |aeq n ks x y=>simp[Zy,he x (by simp[Z4]),he y (by simp[Z4])]
 |nileq n sl x =>
  simp only[Zy,<-he x (by simp[Z4])]
  rw[ZCs (hh x (by simp[Z4]))]
 |mm m x y=>simp[Zy,he x (by simp[Z4]),he y (by simp[Z4])]
 |un op x=>simp[Zy,he x (by simp[Z4])]
 |conv k x=>simp[Zy,he x (by simp[Z4])]
 |tostr x =>
  have h1:=he x (by simp[Z4]);have h2:=hh x (by simp[Z4]);simp only[Zy,<-h1];cases hx:ev e x<;>simp only
  .rw[h2 _ (by rw[hx];simp[refs])]
 |mkfn f caps =>
  simp only[Zy]
  rw[DU (λx hx=>he x (by simpa[Z4]using hx))]
 |mkslice el sz bytes zs l c=>simp[Zy,he l (by simp[Z4]),he c (by simp[Z4])]
 |slice sz x lo hi =>
  have h1:=he x (by simp[Z4]);have h2:∀d,bnd e d lo=bnd e' d lo:=λd=>Z13 λy hy=>he y (by subst hy;simp[Z4])
  have h3:∀d,bnd e d hi=bnd e' d hi:=λd=>Z13 λy hy=>he y (by subst hy;simp[Z4])
  have h4:=hh x (by simp[Z4]);simp only[Zy,<-h1,h2,h3]
  cases hx:ev e x with
  |own b=>cases sz<;>simp only[h4 b (by rw[hx];simp[refs])]
  |t x=>cases sz<;>cases x<;>rfl
  |_=>cases sz<;>rfl
 |faddr off x=>simp[Zy,he x (by simp[Z4])]
 |field off n x=>simp[Zy,he x (by simp[Z4])]
 |iaddr sz x i =>
  have h1:=he x (by simp[Z4]);have h2:=hh x (by simp[Z4]);have h3:=he i (by simp[Z4]);simp only[Zy,<-h1,<-h3]
  cases hx:ev e x with
  |own b=>simp only;rw[h2 b (by rw[hx];simp[refs])]
  |t x=>cases x<;>rfl
  |_=>rfl
 |index x i=>simp[Zy,he x (by simp[Z4]),he i (by simp[Z4])]
 |aaddr n sz x i=>simp[Zy,he x (by simp[Z4]),he i (by simp[Z4])]
 |aidx n sz m x i=>simp[Zy,he x (by simp[Z4]),he i (by simp[Z4])]
 |ext x i=>simp[Zy,he x (by simp[Z4])]
 |len st x =>
  simp only[Zy,<-he x (by simp[Z4])]
  rw[ZCr (hh x (by simp[Z4]))]
 |append el sz bytes mv x y =>
  have h1:=he x (by simp[Z4]);have h2:=hh x (by simp[Z4]);have h3:=he y (by simp[Z4]);have h4:=hh y (by simp[Z4]);simp only[Zy,<-h1,<-h3];rw[ZCt h4,ZCu h4]
  cases hx:ev e x with
  |own b=>simp only;rw[h2 b (by rw[hx];simp[refs])]
  |t x=>cases x<;>rfl
  |_=>rfl
 |call f args=>rfl
 |xcall f args=>rfl
 |fcall f args=>rfl
 |icall f args=>rfl
 |scall f args p=>rfl
 |pcall f args=>rfl
 |dcall f args=>rfl
theorem ZCw{u:List (Nat×Ax)}(hev:Zy h nx e k=some (v,u))(hn:nx ∉ u.map Prod.fst)(nx':Nat):Zy h nx' e k=some (v,u):=by
 cases k<;>try exact hev
 case alloc zs=>simp[Zy]at hev;obtain⟨_,rfl⟩:=hev;simp at hn
 case box x =>
  simp only[Zy]at hev|-
  grind
 case loadU mv x =>
  simp only[Zy]at hev|-
  cases hx:ev e x with
  |ptr b off=>simp only[hx]at hev|-;exact hev
  |eptr b i sz off =>
   simp only[hx]at hev|-
   repeat' split at hev
   all_goals first
    |(cases hev;done)
    |(cases hev;simp at hn;done)
    |(cases hev;simp_all)
  |_=>simp only[hx]at hev;cases hev
 case bslice el sz n zs ps =>
  simp only[Zy]at hev|-
  grind
 case bsliceX el sz n zs ps =>
  simp only[Zy]at hev|-
  grind
 case bptrs n ps =>
  simp only[Zy]at hev|-
  grind
 case mkslice el sz bytes zs l c =>
  simp only[Zy]at hev|-
  grind
 case slice sz x lo hi =>
  simp only[Zy]at hev|-
  cases hb:bnd e 0 lo with
  |none=>simp only[hb]at hev;cases hev
  |some l =>
   simp only[hb]at hev|-
   cases sz with
   |none =>
    grind
   |some sz =>
    cases hx:ev e x with
    |own b =>
     simp only[hx]at hev
     grind
    |t x=>simp only[hx]at hev|-;cases x<;>exact hev
    |_=>simp only[hx]at hev;cases hev
 case append el sz bytes mv x y =>
  simp only[Zy]at hev|-
  repeat' split at hev
  all_goals first
   |(cases hev;done)
   |(cases hev;simp at hn)
end
open Go.RowKit (Below)
structure Tr where
 dst:Option Nat
 v:AV
 u:List (Nat×Ax)
 foot:AN
def AU(t:Tr)(s:S):S:={ s with env:=put t.dst t.v s.env,h:=upd s.h t.u }
def ZS(L:Nat->Bool):Nat->List Tr->S->S
 |_,[],s=>s
 |i,t::ts,s=>ZS L (i+1) ts (if L i then AU t s else s)
def T6(o:MO)(e:Env):Prop:=o.guard=none\/∃g b,o.guard=some (g,b)/\lk g e=.t (.bool b)
def GR(o:MO)(e:Env):Prop:=∃g b,o.guard=some (g,b)/\(lk g e=.tup []\/∃c,lk g e=.t (.bool c)/\c≠b)
def T7(Γ:CV)(o:MO)(t:Tr)(s:S):Prop:=t.dst=o.dst/\t.foot=Vg o s (t.u.map Prod.fst)/\
 ((T6 o s.env/\CQ Γ s.h s.h.length s.env o.op t.v t.u)\/(GR o s.env/\t.v=.tup []/\t.u=[]))
def Steps(Γ:CV):List MO->List Tr->S->Prop
 |[],[],_=>True
 |o::os,t::ts,s=>T7 Γ o t s/\Steps Γ os ts (AU t s)
 |_,_,_=>False
variable{Γ:CV}{h h':WM}{nx f:Nat}{u:List (Nat×Ax)}{vs:XQ}{K:AV->List (Nat×Ax)->Prop}
theorem ZCx{o:MO}{s:S}{K:AN->S->Prop}(h:CN Γ o s K):∃t,T7 Γ o t s/\K t.foot (AU t s):=by
 have run:T6 o s.env->Um Γ o s K->∃t,T7 Γ o t s/\K t.foot (AU t s):=by
  intro hg h
  cases ho:o.op with
  |call f args =>
   simp only[Um,ho]at h;obtain⟨as,h1,r,hr,h2,h3,h4⟩:=h
   exact⟨⟨o.dst,shift s.h.length r,AH s.h.length hr 0,_⟩,⟨rfl,rfl,.inl ⟨hg,by rw[ho];exact⟨as,h1,r,hr,h2,h3,rfl,rfl⟩⟩⟩,h4⟩
  |xcall f args =>
   simp only[Um,ho]at h;obtain⟨as,h1,r,hr,h2,h3,h4⟩:=h
   exact⟨⟨o.dst,_,_,_⟩,⟨rfl,rfl,.inl ⟨hg,by rw[ho];exact⟨as,h1,r,hr,h2,h3,rfl,rfl⟩⟩⟩,h4⟩
  |fcall f args =>
   simp only[Um,ho]at h;obtain⟨as,h1,hno,r,hr,d,h2,h3,h4⟩:=h
   exact⟨⟨o.dst,_,_,_⟩,⟨rfl,rfl,.inl ⟨hg,by rw[ho];exact⟨as,h1,hno,r,hr,h2,h3,rfl⟩⟩⟩,h4⟩
  |scall f args p =>
   simp only[Um,ho,WP]at h;obtain⟨h1,r,h2,h3,u2,h4,h5⟩:=h
   exact⟨⟨o.dst,_,_,_⟩,⟨rfl,rfl,.inl ⟨hg,by rw[ho];exact⟨h1,r,h2,h3,u2,h4,rfl,rfl⟩⟩⟩,h5⟩
  |icall f args =>
   simp only[Um,ho,WP]at h;obtain⟨h1,r,h2,h3,h4⟩:=h
   exact⟨⟨o.dst,_,_,_⟩,⟨rfl,rfl,.inl ⟨hg,by rw[ho];exact⟨h1,r,h2,h3,rfl,rfl⟩⟩⟩,h4⟩
  |pcall f args =>
   simp only[Um,ho,KR]at h;obtain⟨h1,r,h2,h3,h4⟩:=h
   exact⟨⟨o.dst,_,_,_⟩,⟨rfl,rfl,.inl ⟨hg,by rw[ho];exact⟨h1,r,h2,h3,rfl,rfl⟩⟩⟩,h4⟩
  |dcall f args =>
   simp only[Um,ho]at h;split at h
   .rename_i g caps hgc;obtain⟨h1,r,h2,h3,h4⟩:=h;exact⟨⟨o.dst,_,_,_⟩,⟨rfl,rfl,.inl ⟨hg,by rw[ho];exact⟨g,caps,hgc,h1,r,h2,h3,rfl,rfl⟩⟩⟩,h4⟩
   .exact h.elim
  |_ =>
   simp only[Um,ho]at h;split at h
   .rename_i v u hev;exact⟨⟨o.dst,v,u,_⟩,⟨rfl,rfl,.inl ⟨hg,by rw[ho];exact hev⟩⟩,h⟩
   .exact h.elim
 have skip:GR o s.env->K (Vg o s []) { s with env:=put o.dst (.tup []) s.env }->∃t,T7 Γ o t s/\K t.foot (AU t s):=λhg h =>
  ⟨⟨o.dst,.tup [],[],Vg o s []⟩,⟨rfl,rfl,.inr ⟨hg,rfl,rfl⟩⟩,h⟩
 unfold CN at h;split at h
 .rename_i hg;exact run (.inl hg) h
 .rename_i g want hg;split at h
  .rename_i b hb;split at h
   .rename_i hbw;subst hbw;exact run (.inr ⟨g,b,hg,hb⟩) h
   .rename_i hbw;exact skip ⟨g,want,hg,.inr ⟨b,hb,hbw⟩⟩ h
  .rename_i hb;exact skip ⟨g,want,hg,.inl hb⟩ h
  .exact h.elim
theorem Z14{Γ:CV}:∀(os:List MO) (s:S) (Aw:List AN) (K:List AN->S->Prop) (i:Nat),CO Γ os s Aw K->∃ts,Steps Γ os ts s/\K (Aw++ts.map (·.foot)) (ZS (λ_=>true) i ts s)
 |[],s,Aw,K,i,h=>⟨[],trivial,by simp only[Dm,E3,ZS];exact h⟩
 |o::os,s,Aw,K,i,h=>by
  obtain⟨t,h1,h2⟩:=ZCx h;obtain⟨ts,h3,h4⟩:=Z14 os (AU t s) _ K (i+1) h2;refine⟨t::ts,⟨h1,h3⟩,?_⟩;simpa[ZS]using h4
theorem T8{L:Nat->Bool}:∀(ts:List Tr) (k:Nat) (s:S),(∀j,k<=j->L j=false)->ZS L k ts s=s
 |[],_,_,_=>rfl
 |t::ts,k,s,h=>by
  simp only[ZS,h k (Yk _),rG,if_false];exact T8 ts (k+1) s λj hj=>h j Z
theorem Z15{Γ:CV}:∀(os:List MO) (ts:List Tr) (s:S) (k:Nat),Steps Γ os ts s->ts.length=os.length/\∀i o,os[i]?=some o->∃t,ts[i]?=some t/\T7 Γ o t (ZS (λj=>decide (j<k+i)) k ts s)
 |[],[],_,_,_=>⟨rfl,Om⟩
 |o::os,t::ts,s,k,h=>by
  obtain⟨h1,h2⟩:=h;obtain⟨h3,h4⟩:=Z15 os ts (AU t s) (k+1) h2;refine⟨by simp[h3],?_⟩;intro i o' ho
  cases i with
  |zero =>
   simp_all [T8]
  |succ i =>
   obtain⟨t',h5,h6⟩:=h4 i o' (by simpa using ho);refine⟨t',by simpa using h5,?_⟩;have e:ZS (λj=>decide (j<k+(i+1))) k (t::ts) s=ZS (λj=>decide (j<k+1+i)) (k+1) ts (AU t s):=by
    simp only[ZS]
    grind
   rw[e]
   exact h6
 |[],_::_,_,_,h=>h.elim
 |_::_,[],_,_,h=>h.elim
theorem T9(d:Option Nat)(v:AV)(e:Env)(r:Nat):lk r (put d v e)=if d=some r then v else lk r e:=by
 cases d with
 |none=>simp[put]
 |some d=>simp[put,lk]
theorem ZqM:∀{h h':WM} {b:Nat},b∈u.map Prod.fst->gt (upd h u) b=gt (upd h' u) b:=by
 induction u with
 |nil=>intro h h' b hb;simp at hb
 |cons p u ih =>
  intro h h' b hb;obtain⟨c,x⟩:=p;by_cases hu:b∈u.map Prod.fst
  .exact ih hu
  .simp only[upd];rw[IF hu,IF hu,Vh,Vh]
   simp_all
theorem ZCy{b:Nat}(hg:gt h b=gt h' b):gt (upd h u) b=gt (upd h' u) b:=by
 grind [ZqM,IF]
theorem UA{L L':Nat->Bool}(r:Nat):∀(ts:List Tr) (k:Nat) (s s':S),(∀j t,ts[j]?=some t->t.dst=some r->L (k+j)=L' (k+j))->lk r s.env=lk r s'.env->lk r (ZS L k ts s).env=lk r (ZS L' k ts s').env
 |[],_,_,_,_,h=>h
 |t::ts,k,s,s',hL,h=>by
  simp only[ZS];refine UA r ts (k+1) _ _ (λj t' hj hd=>?_) ?_
  .have:=hL (j+1) t' (by simpa using hj) hd
   grind
  .have h0:=hL 0 t rfl;rw[Dz]at h0;by_cases hd:t.dst=some r
   .rw[h0 hd];cases L' k
    .simpa using h
    .simp[AU,T9,hd]
   .have key:∀(b:Bool) (x:S),lk r (if b=true then AU t x else x).env=lk r x.env:=by
     intro b x;cases b
     .rfl
     .simp[AU,T9,hd]
    rw[key,key,h]
theorem UB{L L':Nat->Bool}(b:Nat):∀(ts:List Tr) (k:Nat) (s s':S),(∀j t,ts[j]?=some t->b∈t.u.map Prod.fst->L (k+j)=L' (k+j))->gt s.h b=gt s'.h b->gt (ZS L k ts s).h b=gt (ZS L' k ts s').h b
 |[],_,_,_,_,h=>h
 |t::ts,k,s,s',hL,h=>by
  simp only[ZS];refine UB b ts (k+1) _ _ (λj t' hj hd=>?_) ?_
  .have:=hL (j+1) t' (by simpa using hj) hd
   grind
  .have h0:=hL 0 t rfl;rw[Dz]at h0;by_cases hd:b∈t.u.map Prod.fst
   .rw[h0 hd];cases L' k
    .simpa using h
    .simp only[if_true,AU];exact ZqM hd
   .have key:∀(c:Bool) (x:S),gt (if c=true then AU t x else x).h b=gt x.h b:=by
     intro c x;cases c
     .rfl
     .simp only[if_true,AU];exact IF hd
    rw[key,key,h]
theorem UC{L:Nat->Bool}:∀(ts:List Tr) (k:Nat) (s:S),(ZS L k ts s).stk=s.stk
 |[],_,_=>rfl
 |t::ts,k,s=>by
  simp only[ZS];rw[UC ts];split<;>rfl
theorem sM{L:Nat->Bool}:∀(ts:List Tr) (k:Nat) (s:S),s.h.length<=(ZS L k ts s).h.length/\∀j t,ts[j]?=some t->L (k+j)=true->∀b∈t.u.map Prod.fst,b<(ZS L k ts s).h.length
 |[],_,_=>⟨Yk _,Om⟩
 |t::ts,k,s=>by
  simp only[ZS];obtain⟨h1,h2⟩:=sM ts (k+1) (if L k=true then AU t s else s);have h3:s.h.length<=(if L k=true then AU t s else s).h.length:=by
   split
   .exact(ZqG t.u s.h).1
   .exact Yk _
  refine⟨Y8 h3 h1,?_⟩;intro j t' hj hL b hb
  cases j with
  |zero =>
   simp at hj;subst hj;rw[Dz]at hL;rw[hL]at h1|-;simp only[if_true]at h1|-
   exact OO ((ZqG t.u s.h).2 b hb) h1
  |succ j =>
   grind
theorem Z16{L:Nat->Bool}{i:Nat}{t:Tr}(hi:L i=false):∀(ts:List Tr) (k:Nat) (s:S),(∃m,i=k+m/\ts[m]?=some t)->
  ((∀r,t.dst=some r->∀j t',ts[j]?=some t'->i<k+j->L (k+j)=true->t'.dst≠some r)->∀r,lk r (ZS (λj=>L j || decide (j=i)) k ts s).env=lk r (AU t (ZS L k ts s)).env)/\
  ((∀b∈t.u.map Prod.fst,∀j t',ts[j]?=some t'->i<k+j->L (k+j)=true->b ∉ t'.u.map Prod.fst)->∀b,gt (ZS (λj=>L j || decide (j=i)) k ts s).h b=gt (AU t (ZS L k ts s)).h b)
 |[],_,_,⟨m,_,h⟩=>by simp at h
 |t0::ts,k,s,⟨m,hm,ht⟩=>by
  cases m with
  |zero =>
   simp at ht;subst ht;have hik:i=k:=by omega
   subst hik;simp only[ZS,hi,Fh,decide_true,if_true,rG,if_false];constructor
   .intro hw r;by_cases hd:t0.dst=some r
    .have e1:=UA (L:=λj=>L j || decide (j=i)) (L':=λ_=>false) r ts (i+1) (AU t0 s) (AU t0 s) (λj t' hj hd'=>by
      have:=hw r hd (j+1) t' (by simpa using hj) Z;cases hx:L (i+1+j)
      .simp;omega
      .exact absurd hd' (this (by rw[show i+(j+1)=i+1+j by omega];exact hx))) rfl
     rw[e1,T8 ts (i+1) _ (λ_ _=>rfl)];simp[AU,T9,hd]
    .have e1:=UA (L:=λj=>L j || decide (j=i)) (L':=L) r ts (i+1) (AU t0 s) s (λj t' hj hd'=>by
      have:(decide (i+1+j=i))=false:=by simp;omega
      simp[this]) (by simp[AU,T9,hd])
     rw[e1];simp[AU,T9,hd]
   .intro hw b;by_cases hd:b∈t0.u.map Prod.fst
    .have e1:=UB (L:=λj=>L j || decide (j=i)) (L':=λ_=>false) b ts (i+1) (AU t0 s) (AU t0 s) (λj t' hj hd'=>by
      have:=hw b hd (j+1) t' (by simpa using hj) Z;cases hx:L (i+1+j)
      .simp;omega
      .exact absurd hd' (this (by rw[show i+(j+1)=i+1+j by omega];exact hx))) rfl
     rw[e1,T8 ts (i+1) _ (λ_ _=>rfl)];exact ZqM hd
    .have e1:=UB (L:=λj=>L j || decide (j=i)) (L':=L) b ts (i+1) (AU t0 s) s (λj t' hj hd'=>by
      have:(decide (i+1+j=i))=false:=by simp;omega
      simp[this]) (by simp only[AU];exact IF hd)
     rw[e1];simp only[AU]
     exact(IF hd).symm
  |succ m =>
   have hne:decide (k=i)=false:=by simp;omega
   simp only[ZS,hne,Bool.or_false];have ih:=Z16 hi ts (k+1) (if L k=true then AU t0 s else s) ⟨m,Z,by simpa using ht⟩;constructor
   .intro hw;exact ih.1 λr hr j t' hj hlt hL=>hw r hr (j+1) t' (by simpa using hj) Z (by rw[show k+(j+1)=k+1+j by omega];exact hL)
   .intro hw;exact ih.2 λb hb j t' hj hlt hL=>hw b hb (j+1) t' (by simpa using hj) Z (by rw[show k+(j+1)=k+1+j by omega];exact hL)
theorem ZqN{L:Nat->Bool}:∀(bs:List (V2)) (acc:List (V2)),(∀j b,bs[j]?=some b->L (acc.length+j)=true->∀i∈b,L i=true)->(∀j c,acc[j]?=some c->L j=true->∀i∈c,L i=true)->
  ∀j c,(TF bs acc)[j]?=some c->L j=true->∀i∈c,L i=true
 |[],acc,_,h=>h
 |b::bs,acc,hb,h=>by
  simp only[TF];refine ZqN bs _ (λj b' hj hL=>hb (j+1) b' (by simpa using hj) (by simp at hL;rw[show acc.length+(j+1)=acc.length+1+j by omega];exact hL)) ?_;intro j c hj hL i hi;rw[List.getElem?_append]at hj;split at hj
  .exact h j c hj hL i hi
  .rename_i hlt;have hj0:j=acc.length:=by
    grind
   subst hj0;simp at hj;subst hj;have h0:=hb 0 b rfl (by simpa using hL)
   grind
theorem Z17{before:List (V2)}{Aw:List AN}(h:JF before Aw=true){i j:Nat}{f g:AN}(hi:Aw[i]?=some f)(hj:Aw[j]?=some g)(hij:i<j)(hc:QP f g=true) :
  ∃c,(TF before [])[j]?=some c/\i∈c:=by
 unfold JF at h;have hjl:j<Aw.length:=by
  grind
 have h1:=Yn.1 h j (CF.2 hjl);unfold Z0I at h1
 grind
theorem ZqO(hh:∀b∈Xp h 200 (Z8 vs) [],gt h b=gt h' b)(hr:WP Γ f vs h nx K):WP Γ f vs h' nx K:=by
 obtain⟨e1,e2,e3⟩:=Z1z hh;unfold WP;rw[e1,e2,e3];exact hr
theorem ZCz(hh:∀b∈Xp h 200 (Z8 vs) [],gt h b=gt h' b)(hr:KR Γ f vs h nx K):KR Γ f vs h' nx K:=by
 obtain⟨e1,e2,e3⟩:=Z1z hh;unfold KR;rw[e1,e2,e3];exact hr
theorem ZC0{K':AV->List (Nat×Ax)->Prop}(hr:WP Γ f vs h nx K)(hK:∀v u,K v u->K' v u):WP Γ f vs h nx K':=by
 obtain⟨h1,r,h2,h3,h4⟩:=hr;exact⟨h1,r,h2,h3,hK _ _ h4⟩
theorem ZqP{h:WM}:∀(n:Nat) (A B acc:V2),∀b∈Xp h n A acc,b∈Xp h n (A++B) acc
 |0,_,_,_,b,hb=>by simpa[Xp]using hb
 |n+1,[],B,acc,b,hb=>sL _ _ _ b (by simpa[Xp]using hb)
 |n+1,c::A,B,acc,b,hb=>by
  simp only[Xp,List.cons_append]at hb|-;split
  .rename_i hc;rw[Ya hc]at hb;exact ZqP n A B acc b hb
  .rename_i hc;rw[Yb hc]at hb;have:=ZqP n (W5 (gt h c)++A) B (acc++[c]) b hb
   rwa [DT]at this
theorem ZC1{e e':Env}{k:AY}{v:AV}(he:∀x∈Z4 k,ev e x=ev e' x)(hh:∀b∈D3 k h e,gt h b=gt h' b)
  (hr:CQ Γ h nx e k v u):CQ Γ h' nx e' k v u:=by
 cases k with
 |call f args =>
  obtain⟨as,h1,r,hr,h2,h3,h4,h5⟩:=hr;have e1:args.map (ev e')=args.map (ev e):=DU λx hx=>(he x (by simpa[Z4]using hx)).symm
  refine⟨as,?_,r,hr,h2,by rw[e1];exact h3,h4,h5⟩;rw[e1,<-h1]
  exact(ZqL (ZqJ hh)).symm
 |xcall f args =>
  obtain⟨as,h1,r,hr,h2,h3,h4,h5⟩:=hr;have e1:args.map (ev e')=args.map (ev e):=DU λx hx=>(he x (by simpa[Z4]using hx)).symm
  refine⟨as,?_,r,hr,h2,h3,h4,h5⟩;rw[e1,<-h1]
  exact(ZqL (ZqJ hh)).symm
 |fcall f args =>
  obtain⟨as,h1,hno,r,hr,h2,h3,h4⟩:=hr;have e1:args.map (ev e')=args.map (ev e):=DU λx hx=>(he x (by simpa[Z4]using hx)).symm
  refine⟨as,?_,by rw[e1];exact hno,r,hr,h2,h3,h4⟩;rw[e1,<-h1]
  exact(ZqL (ZqJ hh)).symm
 |scall f args p =>
  have e1:args.map (ev e')=args.map (ev e):=DU λx hx=>(he x (by simp[Z4,hx])).symm
  have e2:ev e' p=ev e p:=(he p (by simp[Z4])).symm;have e3:QO (.scall f args p) e=Z8 (args.map (ev e))++refs (ev e p):=by simp[QO,Z4,ZCj,Z8]
  simp only[D3]at hh;rw[e3]at hh;simp only[CQ]at hr|-;rw[e1,e2];refine ZC0 (ZqO (λb hb=>hh b (sK (ZqP 200 _ _ _ b hb))) hr) ?_;rintro v' u' ⟨u2,q1,q2,q3⟩;refine⟨u2,?_,q2,q3⟩;rw[<-q1]
  cases hx:ev e p with
  |eptr b i sz off =>
   have hb:b∈Z8 (args.map (ev e))++refs (ev e p):=by rw[hx];simp[refs]
   have hg:=hh b (Z1w hb);unfold QM;simp only;split
   .rfl
   .rw[<-hg]
    cases hd:gt h b with
    |det el sz es i off c =>
     simp only
     rw[ZCy (hh c (Z1x hb (by rw[hd];simp[W5])))]
    |_=>rfl
  |_=>rfl
 |icall f args =>
  have e1:args.map (ev e')=args.map (ev e):=DU λx hx=>(he x (by simpa[Z4]using hx)).symm
  simp only[CQ]at hr|-;rw[e1]
  exact ZqO (λb hb=>hh b (sK hb)) hr
 |pcall f args =>
  have e1:args.map (ev e')=args.map (ev e):=DU λx hx=>(he x (by simpa[Z4]using hx)).symm
  simp only[CQ]at hr|-;rw[e1]
  exact ZCz (λb hb=>hh b (sK hb)) hr
 |dcall f args =>
  obtain⟨g,caps,hg,hr⟩:=hr;have e1:args.map (ev e')=args.map (ev e):=DU λx hx=>(he x (by simp[Z4,hx])).symm
  refine⟨g,caps,by rw[<-he f (by simp[Z4])];exact hg,?_⟩;rw[e1];refine ZqO (λb hb=>hh b (sK ?_)) hr;simp only[QO,hg]
  exact hb
 |mov x =>
  change Zy h nx e (.mov x)=some (v,u)at hr;show Zy h' nx e' (.mov x)=some (v,u);simp only[Zy]at hr|-;rw[<-he x (by simp[Z4])]
  exact hr
 |_ =>
  show Zy h' nx e' _=some (v,u);rw[<-ZCv he (λx hx b hb=>hh b (ZCk (Yp.2 ⟨x,hx,rfl⟩) hb))];exact hr
section
variable{P:Program}{N:Bi}{base:Nat}{w0:World}{nt:Nat}{ts:List (Array Value)}{inl:V2}{D D':Nat->Prop}{ρ:Map}{s:S}{a:Act}{w:World}{d:Option Nat}
structure BT (N:Bi) (base:Nat) (w0:World) (nt:Nat) (ts:List (Array Value)) (D:Nat->Prop) (ρ:Map) (s:S) (a:Act) (w:World):Prop where
 rel:Rel N base ρ s.h w
 env:XB ρ w (Free N ρ s.h) s.env a.tmps
 stk:Uo ρ w (Free N ρ s.h) s.stk ts
 dom:∀b,D b->ρ b=none
 defers:a.defers=[]
 size:a.tmps.size=nt
 below:Below base w0 w
 kn:∀g,g<w0.heap.size->¬N.a g->w.heap[g]?=w0.heap[g]?
 fz:∀g,g<w0.heap.size->N.z g->Free N ρ s.h g/\w.heap[g]?=w0.heap[g]?
theorem BT.congr{s':S}(h:BT N base w0 nt ts D ρ s a w)(hl:∀r,lk r s.env=lk r s'.env)(hg:∀b,gt s.h b=gt s'.h b)(hk:s.stk=s'.stk)(hD:∀b,D' b->D b) :
  BT N base w0 nt ts D' ρ s' a w:=by
 refine⟨h.rel.congr hg,?_,?_,λb hb=>h.dom b (hD b hb),h.defers,h.size,h.below,h.kn,by rw[<-Free.congr hg];exact h.fz⟩
 .intro r;rw[<-hl,<-Free.congr hg];exact h.env r
 .rw[<-hk,<-Free.congr hg];exact h.stk
theorem BT.after{ρ':Map}{w':World}(hS:BT N base w0 nt ts D ρ s a w){v:AV}{u:List (Nat×Ax)}{val:Value}(hA:Qw N base ρ s.h w v u val w' ρ')(hd:∀x,d=some x->x<nt)
  (hD:∀b,D' b->D b/\b ∉ u.map Prod.fst):BT N base w0 nt ts D' ρ' { s with env:=put d v s.env,h:=upd s.h u } (a.put d val) w':=by
 refine⟨hA.rel,sG (λs=>(hS.env s).keep hA.keeps) hA.val λx hx=>by rw[hS.size];exact hd x hx,hS.stk.keep hA.keeps,?_,by rw[sH];exact hS.defers,by rw[sI];exact hS.size,hS.below.trans hA.below,
  λg hg hn=>(hA.kn g (OO hg hS.below.size) hn).trans (hS.kn g hg hn),λg hg hz=>?_⟩
 .intro b hb;exact hA.same b (hD b hb).2 (hS.dom b (hD b hb).1)
 .obtain⟨h1,h2⟩:=hS.fz g hg hz;obtain⟨h3,h4⟩:=hA.keeps.free g (OO hg hS.below.size) h1
  simp_all
theorem BT.skip(hS:BT N base w0 nt ts D ρ s a w)(hd:∀x,d=some x->x<nt) :
  BT N base w0 nt ts D ρ { s with env:=put d (.tup []) s.env } (a.put d undef) w :=
 ⟨hS.rel,sG hS.env (RV.tup (c:=#[]) .nil) λx hx=>by rw[hS.size];exact hd x hx,hS.stk,hS.dom,by rw[sH];exact hS.defers,by rw[sI];exact hS.size,hS.below,hS.kn,hS.fz⟩
theorem IM{a b:V2}{x:Nat}(h:x∈a)(h':x∈b):JE a b=true:=by
 unfold JE
 grind
end
open Go.RowKit (Below)
section
variable{P:Program}{N:Bi}{base:Nat}{w0:World}{nt:Nat}{ts:List (Array Value)}{inl:V2}
theorem Z18{α β:Type}{f:α->Option β}:∀{l:List α} {os:List β},AQ f l=some os->∀{i:Nat} {o:α},l[i]?=some o->∃m,os[i]?=some m/\f o=some m
 |[],_,_,_,_,h=>by simp at h
 |x::l,os,hm,i,o,h=>by
  obtain⟨m,ms,h1,h2,rfl⟩:=QR hm
  cases i with
  |zero=>simp at h;subst h;exact⟨m,rfl,h1⟩
  |succ i =>
   obtain⟨m',h3,h4⟩:=Z18 h2 (i:=i) (o:=o) (by simpa using h)
   simp_all
theorem Z19:∀{bs:List (V2)} {k:Nat},B2 bs k=true->∀{j:Nat} {b:V2},bs[j]?=some b->∀i∈b,i<k+j
 |[],_,_,_,_,h=>by simp at h
 |x::bs,k,hb,j,b,h=>by
  simp only[B2,Yd,Yn,decide_eq_true_eq]at hb;intro i hi
  cases j with
  |zero=>simp at h;subst h;exact hb.1 i hi
  |succ j=>have:=Z19 hb.2 (j:=j) (b:=b) (by simpa using h) i hi;omega
theorem sN{listed:Array Bool}{i j:Nat}(hi:i<listed.size):(listed.setIfInBounds i true).getD j false=(listed.getD j false || decide (j=i)):=by
 simp only[Iu,Array.getElem?_setIfInBounds]
 grind
variable{ops:Array Oper}{os:List MO}{tr:List Tr}{s0:S}{Qc:Exit->Act->World->Prop}
def C6(tr:List Tr)(s0:S)(L:Nat->Bool)(b:Nat):Prop:=s0.h.length<=b/\∀j t,tr[j]?=some t->L j=true->b ∉ t.u.map Prod.fst
theorem ZC2(hback:B2 (ops.toList.map VW) 0=true){listed:Array Bool}(hsz:listed.size=ops.size)(hr:Region.ready .any ops listed=[]):∀j,j<ops.size->listed.getD j false=true:=by
 intro j
 induction j using Nat.strongRecOn with
 |ind j ih =>
  intro hj
  cases hc:listed.getD j false with
  |true=>rfl
  |false =>
   exfalso;have hmem:j∈Region.ready .any ops listed:=by
    unfold Region.ready;refine CB.2 ⟨CF.2 hj,?_⟩;have h1:listed.getD j true=false:=by
     simp_all
    have h2:ops[j]?=some ops[j]:=by simp[hj]
    rw[h1,h2];simp only[Bool.not_false,Yl,Option.map_some,Option.getD_some];rw[Array.all_eq_true_iff_forall_mem];intro e he
    cases hb:Region.binds .any e with
    |false=>rfl
    |true =>
     simp only[Bool.not_true,Fh];have hin:e.on∈VW ops[j]:=by
      unfold VW
      grind
     have hlt:=Z19 hback (j:=j) (b:=VW ops[j]) (by simp[hj]) e.on hin
     grind
   simp_all
theorem Z1A{K:S->Prop}(hQ:∀s a w ρ,K s->AE N base w0 nt ts ρ s a w->Qc .normal a w)(hlen:tr.length=ops.size)(hK:K (ZS (λ_=>true) 0 tr s0)){listed:Array Bool}(hall:∀j,j<ops.size->listed.getD j false=true)
  {ρ:Map} {a:Act} {w:World} (hS:BT N base w0 nt ts (C6 tr s0 (listed.getD · false)) ρ (ZS (listed.getD · false) 0 tr s0) a w):Qc .normal a w:=by
 have hj:∀(j:Nat) (t:Tr),tr[j]?=some t->listed.getD (0+j) false=true:=by
  grind
 have h1:=hS.congr (s':=ZS (λ_=>true) 0 tr s0) (D':=C6 tr s0 (listed.getD · false)) (λr=>UA r tr 0 _ _ (λj t h _=>hj j t h) rfl) (λb=>UB b tr 0 _ _ (λj t h _=>hj j t h) rfl) (by rw[UC,UC]) (λ_ h=>h);refine hQ _ a w ρ hK ⟨h1.rel,h1.env,h1.stk,?_,h1.defers,h1.size,h1.below,h1.kn,h1.fz⟩;intro b hb;have hl:=sM (L:=λ_=>true) tr 0 s0;refine h1.dom b ⟨Z,?_⟩
 grind
theorem FD(hos:AQ (B0 P inl nt ops) ops.toList=some os)(hback:B2 (ops.toList.map VW) 0=true)(hst:Steps (Ww P) os tr s0)(hord:JF (ops.toList.map VW) (tr.map (·.foot))=true)
  {K:S->Prop} (hQ:∀s a w ρ,K s->AE N base w0 nt ts ρ s a w->Qc .normal a w) (hK:K (ZS (λ_=>true) 0 tr s0)) :
  ∀(fuel:Nat) (listed:Array Bool) (a:Act) (w:World) (ρ:Map),listed.size=ops.size->listed.toList.count false<=fuel->
   (∀j b,(ops.toList.map VW)[j]?=some b->listed.getD j false=true->∀i∈b,listed.getD i false=true)->
   BT N base w0 nt ts (C6 tr s0 (listed.getD · false)) ρ (ZS (listed.getD · false) 0 tr s0) a w->wpAny P .any ops Qc fuel listed a w:=by
 obtain⟨hl1,hat⟩:=Z15 os tr s0 0 hst;have hlen:tr.length=ops.size:=by rw[hl1,rV hos];simp
 have hdst:∀(j:Nat) (t:Tr),tr[j]?=some t->(∀r,t.dst=some r->r∈t.foot.ws)/\t.u.map Prod.fst=t.foot.wb:=by
  intro j t h;have hj:j<os.length:=by
   grind
  obtain⟨t',h1,h2,h3,_⟩:=hat j os[j] (by simp[hj]);rw[h]at h1;cases h1;rw[h3];exact⟨λr hr=>by simp[Vg,<-h2,hr],rfl⟩
 intro fuel
 induction fuel with
 |zero =>
  intro listed a w ρ hsz hc hcl hS;have hall:∀j,j<ops.size->listed.getD j false=true:=by
   intro j hj
   cases hx:listed.getD j false with
   |true=>rfl
   |false =>
    exfalso
    have:false∈listed.toList:=by
     rw[Iu]at hx
     grind
    grind
  refine⟨?_,Z1A hQ hlen hK hall hS⟩;unfold Region.ready
  simp_all
 |succ fuel ih =>
  intro listed a w ρ hsz hc hcl hS;refine⟨λhr=>Z1A hQ hlen hK (ZC2 hback hsz hr) hS,?_⟩;intro i hi;unfold Region.ready at hi;obtain⟨hir,hcond⟩:=CB.1 hi;have hin:i<ops.size:=CF.1 hir;have hil:i<listed.size:=by omega
  have hops:ops[i]?=some ops[i]:=by simp[hin]
  rw[hops]at hcond;simp only[Option.map_some,Option.getD_some,Yd,Bool.not_eq_true',Array.all_eq_true_iff_forall_mem]at hcond;obtain⟨hLt,haft⟩:=hcond;have hLi:listed.getD i false=false:=by
   simp_all
  have hbef:∀j∈VW ops[i],listed.getD j false=true:=by
   intro j hj;unfold VW at hj
   grind
  -- the operation
  obtain⟨m,hm,hcm⟩:=Z18 hos (i:=i) (o:=ops[i]) (by simp[hin]);obtain⟨hk,hmd,hd,hguard⟩:=ZqH hcm;obtain⟨t,ht,htd,htf,hstep⟩:=hat i m hm
  -- the new list
  have hcl':∀(j:Nat) (b:V2),(ops.toList.map VW)[j]?=some b->(listed.setIfInBounds i true).getD j false=true->∀x∈b,(listed.setIfInBounds i true).getD x false=true:=by
   intro j b hb hj x hx;rw[sN hil]at hj|-
   grind
  -- who is in QP
  have low:∀(j:Nat) (t':Tr),tr[j]?=some t'->j<i->QP t'.foot t.foot=true->listed.getD j false=true:=by
   intro j t' hj hlt hcf;obtain⟨c,h1,h2⟩:=Z17 hord (i:=j) (j:=i) (f:=t'.foot) (g:=t.foot) (by simp[hj]) (by simp[ht]) hlt hcf;have h3:=ZqN (L:=λj=>(listed.setIfInBounds i true).getD j false) (ops.toList.map VW) [] (λj b hb hL=>hcl' j b hb (by simpa using hL)) Om i c h1 (by simp only[sN hil,decide_true,Bool.or_true]) j h2
   grind [sN]
  have high:∀(j:Nat) (t':Tr),tr[j]?=some t'->i<j->QP t.foot t'.foot=true->listed.getD j false=true->False:=by
   intro j t' hj hlt hcf hL;obtain⟨c,h1,h2⟩:=Z17 hord (i:=i) (j:=j) (f:=t.foot) (g:=t'.foot) (by simp[ht]) (by simp[hj]) hlt hcf;have h3:=ZqN (L:=λj=>listed.getD j false) (ops.toList.map VW) [] (λj b hb hL=>hcl j b hb (by simpa using hL)) Om j c h1 hL i h2
   simp_all
  -- what it looks at stands as in the text's order
  have hlk:∀r∈t.foot.rs,lk r (ZS (λj=>decide (j<0+i)) 0 tr s0).env=lk r (ZS (listed.getD · false) 0 tr s0).env:=by
   intro r hr;refine UA r tr 0 _ _ (λj t' hj hd'=>?_) rfl;have hw:=(hdst j t' hj).1 r hd';rcases rC j i with hlt|rfl|hgt
   .rw[Yv,Yv,low j t' hj hlt (by simp[QP,IM hw (E4 t.foot.ws hr)])];simpa using hlt
   .grind
   .rw[Yv,Yv]
    cases hx:listed.getD j false with
    |true=>exact(high j t' hj hgt (by simp[QP,IM hw hr]) hx).elim
    |false=>simp;omega
  have Aaj:∀b∈t.foot.rb,gt (ZS (λj=>decide (j<0+i)) 0 tr s0).h b=gt (ZS (listed.getD · false) 0 tr s0).h b:=by
   intro b hb;refine UB b tr 0 _ _ (λj t' hj hd'=>?_) rfl;have hw:b∈t'.foot.wb:=by rw[<-(hdst j t' hj).2];exact hd'
   rcases rC j i with hlt|rfl|hgt
   .rw[Yv,Yv,low j t' hj hlt (by simp[QP,IM hw (E4 t.foot.wb hb)])];simpa using hlt
   .grind
   .rw[Yv,Yv]
    cases hx:listed.getD j false with
    |true=>exact(high j t' hj hgt (by simp[QP,IM hw hb]) hx).elim
    |false=>simp;omega
  have UD:(λj=>(listed.setIfInBounds i true).getD j false)=(λj=>listed.getD j false || decide (j=i)):=by
   funext j;exact sN hil
  have hins:=Z16 (L:=λj=>listed.getD j false) (i:=i) (t:=t) hLi tr 0 s0 ⟨i,Z,ht⟩;have hcount:(listed.setIfInBounds i true).toList.count false<=fuel:=by
   rw[Array.toList_setIfInBounds,List.count_set (by simpa using hil)];have hx:listed.toList[i]'(by simpa using hil)=false:=by
    rw[Iu]at hLi;simpa[hil]using hLi
   grind
  -- the state behind it
  have next:∀a' w' ρ',BT N base w0 nt ts (C6 tr s0 λj=>listed.getD j false || decide (j=i)) ρ' (AU t (ZS (listed.getD · false) 0 tr s0)) a' w'->wpAny P .any ops Qc fuel (listed.setIfInBounds i true) a' w':=by
   intro a' w' ρ' hR;refine ih _ a' w' ρ' (by simpa using hsz) hcount hcl' ?_;rw[UD];refine hR.congr (λr=>(hins.1 ?_ r).symm) (λb=>(hins.2 ?_ b).symm) (by rw[UC];exact UC tr 0 s0) (λ_ h=>h)
   .intro r hr j t' hj hlt hL hd';rw[Yv]at hlt hL;exact high j t' hj hlt (by simp[QP,IM ((hdst i t ht).1 r hr) (Iv t'.foot.rs ((hdst j t' hj).1 r hd'))]) hL
   .intro b hb j t' hj hlt hL hd';rw[Yv]at hlt hL;have hb1:b∈t.foot.wb:=by rw[<-(hdst i t ht).2];exact hb
    have hb2:b∈t'.foot.wb:=by rw[<-(hdst j t' hj).2];exact hd'
    exact high j t' hj hlt (by simp[QP,IM hb1 (Iv t'.foot.rb hb2)]) hL
  have hrs:∀x∈Z4 m.op,∀r∈rK x,r∈t.foot.rs:=by
   intro x hx r hr;rw[htf];simp only[Vg]
   grind
  have hgs:∀g b,m.guard=some (g,b)->g∈t.foot.rs:=by
   intro g b hg;rw[htf];simp only[Vg,hg];simp
  have he:∀x∈Z4 m.op,ev (ZS (λj=>decide (j<0+i)) 0 tr s0).env x=ev (ZS (listed.getD · false) 0 tr s0).env x:=by
   intro x hx
   cases x with
   |c v=>rfl
   |s r=>exact hlk r (hrs _ hx r (by simp[rK]))
  have hh:∀b∈D3 m.op (ZS (λj=>decide (j<0+i)) 0 tr s0).h (ZS (λj=>decide (j<0+i)) 0 tr s0).env,gt (ZS (λj=>decide (j<0+i)) 0 tr s0).h b=gt (ZS (listed.getD · false) 0 tr s0).h b:=by
   intro b hb;refine Aaj b ?_;rw[htf];exact hb
  have hlI:=sM (L:=λj=>decide (j<0+i)) tr 0 s0;have hlT:=sM (L:=λ_=>true) tr 0 s0;have hu:∀b,b∈t.u.map Prod.fst->(ZS (λj=>decide (j<0+i)) 0 tr s0).h.length<=b->ρ b=none:=by
   intro b hb hle;refine hS.dom b ⟨Z,?_⟩;intro j t' hj hL hin';have hw:b∈t'.foot.wb:=by rw[<-(hdst j t' hj).2];exact hin'
   have hb':b∈t.foot.wb:=by rw[<-(hdst i t ht).2];exact hb
   rcases rC j i with hlt|rfl|hgt
   .grind
   .simp_all
   .exact high j t' hj hgt (by simp[QP,IM hb' (Iv t'.foot.rb hw)]) hL
  have GS:∀b,C6 tr s0 (λj=>listed.getD j false || decide (j=i)) b->C6 tr s0 (listed.getD · false) b/\b ∉ t.u.map Prod.fst:=by
   intro b hb;refine⟨⟨hb.1,λj t' hj hL=>hb.2 j t' hj (by simp only at hL|-;rw[hL];rfl)⟩,hb.2 i t ht Om⟩
  have hrun:CQ (Ww P) (ZS (λj=>decide (j<0+i)) 0 tr s0).h (ZS (λj=>decide (j<0+i)) 0 tr s0).h.length (ZS (λj=>decide (j<0+i)) 0 tr s0).env m.op t.v t.u->
    (ops[i]).wp P a w (wpAny P .any ops Qc fuel (listed.setIfInBounds i true)) Qc:=by
   intro hop;have hop':=ZC1 he hh hop;have fin:∀val w' ρ',Qw N base ρ (ZS (listed.getD · false) 0 tr s0).h w t.v t.u val w' ρ'->wpAny P .any ops Qc fuel (listed.setIfInBounds i true) (a.put (ops[i]).dst val) w':=by
    intro val w' ρ' hA;refine next _ _ ρ' ?_
    have:=hS.after hA (d:=(ops[i]).dst) hd GS;rw[<-hmd,<-htd]at this|-;exact this
   by_cases hcall:isC m.op
   .exact T3 hk hS.env hS.rel (.inl hcall) hu hop' fin
   .by_cases hnx:(ZS (λj=>decide (j<0+i)) 0 tr s0).h.length∈t.u.map Prod.fst
    .exact T3 hk hS.env hS.rel (.inr (hu _ hnx (Yk _))) hu hop' fin
    .have hM:CQ (Ww P) (ZS (listed.getD · false) 0 tr s0).h (ZS (λ_=>true) 0 tr s0).h.length (ZS (listed.getD · false) 0 tr s0).env m.op t.v t.u:=by
      cases CR:m.op with
      |call f args=>rw[CR]at hcall;exact absurd trivial hcall
      |xcall f args=>rw[CR]at hcall;exact absurd trivial hcall
      |fcall f args=>rw[CR]at hcall;exact absurd trivial hcall
      |scall f args p=>rw[CR]at hcall;exact absurd trivial hcall
      |icall f args=>rw[CR]at hcall;exact absurd trivial hcall
      |pcall f args=>rw[CR]at hcall;exact absurd trivial hcall
      |dcall f args=>rw[CR]at hcall;exact absurd trivial hcall
      |_=>rw[CR]at hop';exact ZCw hop' hnx _
     refine T3 hk hS.env hS.rel (nx:=(ZS (λ_=>true) 0 tr s0).h.length) (.inr ?_) ?_ hM fin
     .refine hS.dom _ ⟨hlT.1,?_⟩
      grind
     .grind
  have Ab9:t.v=.tup []->t.u=[]->wpAny P .any ops Qc fuel (listed.setIfInBounds i true) (a.put (ops[i]).dst undef) w:=by
   intro hv hu0;refine next _ _ ρ ?_
   have:=(hS.skip (d:=(ops[i]).dst) hd).congr (D':=C6 tr s0 λj=>listed.getD j false || decide (j=i)) (s':=AU t (ZS (listed.getD · false) 0 tr s0)) (λr=>by rw[<-hmd,<-htd];simp[AU,hv]) (λb=>by simp[AU,hu0,upd]) rfl (λb hb=>(GS b hb).1);exact this
  unfold wpOp;rw[hops];simp only;rcases hguard with⟨hg1,hg2⟩|⟨j,b,d,hg1,hg2,hg3⟩
  .simp only[Region.wanted,hg1,if_true];rcases hstep with⟨_,hop⟩|⟨⟨g,b,hg,_⟩,_,_⟩
   .exact .inl (hrun hop)
   .grind
  .have hw:=ZqI hS.env hg1 hg2;have Aci:=hlk d (hgs d b hg3);rcases hstep with⟨hgr,hop⟩|⟨⟨g,b',hg,hsk⟩,hv,hu0⟩
   .rcases hgr with hgn|⟨g,b',hg,hb'⟩
    .grind
    .grind
   .grind
theorem AE.drew{ρ:Map}{s:S}{a:Act}{w:World}(hS:AE N base w0 nt ts ρ s a w):AE N base w0 nt ts ρ s a { w with drawn:=w.drawn+1 }:=by
 have hk:X7 ρ w (Free N ρ s.h) ρ { w with drawn:=w.drawn+1 } (Free N ρ s.h):=⟨λ_ r h=>⟨r,h,rfl⟩,λ_ _ h=>⟨h,rfl⟩⟩;have hb:Below base w { w with drawn:=w.drawn+1 }:=⟨rfl,rfl,rfl,Yk _,λ_ _=>rfl⟩;obtain⟨R,hE,hst,hdom,hdf,hsz,hB,hkn,hfz⟩:=hS;obtain⟨h1,h2,h0,h3,h4,h5⟩:=R;refine⟨⟨h1,h2,h0,?_,h4,h5⟩,λs=>(hE s).keep hk,hst.keep hk,hdom,hdf,hsz,hB.trans hb,hkn,hfz⟩;intro b hne;obtain⟨r,q1,q2⟩:=h3 b hne;exact⟨r,q1,q2.keep hk λ_ _=>rfl⟩
theorem Z1B{Γ:CV}(hΓ:Γ=Ww P){ops:Array Oper}{os:List MO}(hos:AQ (B0 P inl nt ops) ops.toList=some os)(hback:B2 (ops.toList.map VW) 0=true)(Aak:P.follows .mixedOrders=true)
  {Qc:Exit->Act->World->Prop} {K:S->Prop} (hQ:∀s a w ρ,K s->AE N base w0 nt ts ρ s a w->Qc .normal a w) {id:Nat} {s:S} {a:Act} {w:World} {ρ:Map}
  (hW:CO Γ os s [] λAw s'=>JF (ops.toList.map VW) Aw=true/\K s') (hS:AE N base w0 nt ts ρ s a w):(Code.region id ops true).wp P Qc a w:=by
 obtain⟨tr,hst,hord,hK⟩:=Z14 os s [] _ 0 hW;rw[hΓ]at hst;rw[DW]at hord;refine wp_region_any Aak ?_;have hD:=hS.drew;have hf:∀j,(Array.replicate ops.size false).getD j false=false:=by
  intro j;rw[Iu]
  grind
 have hfun:(λj=>(Array.replicate ops.size false).getD j false)=λ_=>false:=funext hf
 refine FD hos hback hst hord hQ hK ops.size _ a _ ρ Om ?_ ?_ ?_
 .simp
 .simp_all
 .rw[hfun,T8 tr 0 s (λ_ _=>rfl)];exact⟨hD.rel,hD.env,hD.stk,λb hb=>hD.dom b hb.1,hD.defers,hD.size,hD.below,hD.kn,hD.fz⟩
end
open Go.RowKit (Below)
variable{b:Nat}{h:WM}{d:AV}
theorem IP{f:Ax->Ax}(hf:f .dead=.dead)(h:WM)(c:Nat):gt (h.map f) c=f (gt h c):=by
 unfold gt
 grind
theorem sO(b:Nat)(d:AV)(h:WM)(c:Nat):gt (CJ b d h) c=if c=b then .dead else rJ b d (gt h c):=by
 unfold CJ;rw[Vh,IP rfl]
theorem Z1C:∀(h:WM) (b:Nat) (x:Ax),b<h.length->(stB h b x).length=h.length
 |[],_,_,hb=>by simp at hb
 |_::h,0,x,_=>rfl
 |_::h,b+1,x,hb=>by simp[stB,Z1C h b x (by simpa using hb)]
theorem Du(hd:gt h b≠.dead):b<h.length:=by
 by_cases hl:b<h.length
 .exact hl
 .exfalso;apply hd;unfold gt
  simp_all
theorem O6(hb:b<h.length):(CJ b d h).length=h.length:=by
 unfold CJ
 simp_all [Z1C,Dy]
theorem VA(b:Nat)(d:AV)(s:Nat):∀e:Env,lk s (E6 b d e)=Iy b d (lk s e)
 |[]=>rfl
 |(k,v)::e=>by
  simp only[E6,lk];split
  .rfl
  .exact VA b d s e
theorem ZC3{x:Ax}:Xm (rJ b d x)=Xm x:=by cases x<;>rfl
section
variable{N:Bi}{base:Nat}{ρ:Map}{h:WM}{w:World}{F F':Nat->Prop}{b:Nat}{d:AV}
theorem RV.sb(hk:∀g,F g->F' g)(hd:∀r,ρ b=some r->RV ρ w F' d r.v){a:AV}{v:Value}(h:RV ρ w F a v):RV ρ w F' (Iy b d a) v:=by
 refine RV.rec (motive_1:=λa v _=>RV ρ w F' (Iy b d a) v) (motive_2:=λas vs _=>Ay ρ w F' (CI b d as) vs) ?_ ?_ ?_ ?_ ?_ ?_ ?_ ?_ ?_ ?_ ?_ ?_ ?_ h
 .exact λv=>.top v
 .exact .nilp
 .intro x v fp h hf;exact .t h λg hg=>hk g (hf g hg)
 .intro cs c _ h1 ih;exact .agg ih h1
 .intro cs c _ ih;exact .tup ih
 .intro b off g r hr hv;exact .ptr hr hv
 .intro b i sz off g n cap r hr hv;exact .eptr hr hv
 .intro cs off g o c e fz fp hg hF hc hf;exact .iptr hg (hk _ hF) hc λg hg=>hk g (hf g hg)
 .intro c r hr ho;unfold Iy;split
  .simp_all
  .exact .own hr ho
 .intro b n g r hr hv;exact .bsl hr hv
 .intro f cs c _ ih;exact .fn ih
 .exact .nil
 .intro a v as vs _ _ ih1 ih2;exact .cons ih1 ih2
theorem Ay.sb(hk:∀g,F g->F' g){b:Nat}{d:AV}(hd:∀r,ρ b=some r->RV ρ w F' d r.v):∀{as:XQ} {vs:V3},Ay ρ w F as vs->Ay ρ w F' (CI b d as) vs
 |[],_,h=>by cases h;exact .nil
 |a::as,_,h=>by cases h with|cons h hs=>exact .cons (h.sb hk hd) (Ay.sb hk hd hs)
theorem Qy{g:Nat}(hg:Free N ρ h g):Free N ρ (CJ b d h) g:=by
 refine⟨hg.1,λc r hr hc=>hg.2 c r hr λe=>hc ?_⟩;rw[sO];split
 .rfl
 .rw[e];rfl
theorem sP(R:Rel N base ρ h w){sz:Nat}{es:WA}(hb:(∃el fr,gt h b=.arr el sz fr es)\/∃el,gt h b=.xarr el sz es) :
  Rel N base ρ (CJ b (.t (.lst sz es)) h) w/\∀r,ρ b=some r->RV ρ w (Free N ρ (CJ b (.t (.lst sz es)) h)) (.t (.lst sz es)) r.v:=by
 have hd:gt h b≠.dead:=by rcases hb with⟨el,fr,hb⟩|⟨el,hb⟩<;>(rw[hb];intro hc;cases hc)
 have live:∀c,gt (CJ b (.t (.lst sz es)) h) c≠.dead->c≠b/\gt h c≠.dead:=by
  intro c hc;rw[sO]at hc;by_cases e:c=b
  .simp_all
  .rw[Yb e]at hc;exact⟨e,λe2=>hc (by rw[e2];rfl)⟩
 have hfr:∀r,ρ b=some r->∀g,X3 r g->Free N ρ (CJ b (.t (.lst sz es)) h) g:=by
  intro r hr g hg;refine⟨(R.hO b r g hr hd hg).1,λc r' hr' hc ho=>?_⟩;obtain⟨h1,h2⟩:=live c hc;exact h1 (R.inj c b r' r g hr' hr h2 hd ho hg)
 have hdat:∀r,ρ b=some r->RV ρ w (Free N ρ (CJ b (.t (.lst sz es)) h)) (.t (.lst sz es)) r.v:=by
  intro r hr;rcases hb with⟨el,fr,hb⟩|⟨el,hb⟩
  .obtain⟨fp,hT,_,hg,_⟩:=TL R hr hb;obtain⟨r',h1,h2⟩:=R.blk b hd;rw[hr]at h1;cases h1;rw[hb]at h2;obtain⟨_,_,_,_,_,_,_,_,hfree,_⟩:=h2;exact .t hT λg hg'=>(hg g hg').elim (λq=>hfr r hr g (.inl q)) λq=>Qy (hfree g q)
  .obtain⟨fp,hT,hg⟩:=Z1i R hr hb;exact .t hT λg hg'=>hfr r hr g (hg g hg')
 have hK:X7 ρ w (Free N ρ h) ρ w (Free N ρ (CJ b (.t (.lst sz es)) h)):=⟨λc r hr=>⟨r,hr,rfl⟩,λg _ hg=>⟨Qy hg,rfl⟩⟩;refine⟨⟨R.hb,R.hN,λc r g hr hc ho=>R.hO c r g hr (live c hc).2 ho,λc hc=>?_,λc c' r r' g hr hr' hc hc'=>R.inj c c' r r' g hr hr' (live c hc).2 (live c' hc').2,λc c' r r' g hr hr' hc hc'=>?_⟩,hdat⟩
 .obtain⟨h1,h2⟩:=live c hc;obtain⟨r,hr,hx⟩:=R.blk c h2;refine⟨r,hr,?_⟩;rw[sO,Yb h1]
  cases e:gt h c with
  |box cs =>
   rw[e]at hx;obtain⟨h0,g,c',e',hv,hb',hh,q1,q2⟩:=hx
   exact⟨h0,g,c',e',hv,hb',hh,q1.sb (λ_=>Qy) hdat,q2⟩
  |dead=>exact absurd e h2
  |arr a1 a2 a3 a4=>rw[e]at hx;exact hx.keep hK λ_ _=>rfl
  |xarr a1 a2 a3=>rw[e]at hx;exact hx.keep hK λ_ _=>rfl
  |det a1 a2 a3 a4 a5 a6=>rw[e]at hx;exact hx.keep hK λ_ _=>rfl
 .have f:∀c,Xm (gt (CJ b (.t (.lst sz es)) h) c)=true->Xm (gt h c)=true:=by
   intro c hc;rw[sO]at hc;split at hc
   .cases hc
   .rwa [ZC3]at hc
  exact R.apart c c' r r' g hr hr' (f c hc) (f c' hc')
end
theorem AE.fzS{N:Bi}{base:Nat}{w0:World}{nt:Nat}{ts:List (Array Value)}{ρ:Map}{s s':S}{a:Act}{w:World}(hS:AE N base w0 nt ts ρ s a w){b:Nat}(hs:Go.AM.fzS b s=some s') :
  AE N base w0 nt ts ρ s' a w/\X7 ρ w (Free N ρ s.h) ρ w (Free N ρ s'.h)/\s'.h.length=s.h.length:=by
 unfold Go.AM.fzS at hs;split at hs
 .rename_i el sz fr es hb;cases hs;obtain⟨R,hd⟩:=sP hS.rel (.inl ⟨_,_,hb⟩);have hl:b<s.h.length:=Du (by rw[hb];intro hc;cases hc);refine⟨⟨R,λx=>?_,?_,?_,hS.defers,hS.size,hS.below,hS.kn,λg hg hz=>⟨Qy (hS.fz g hg hz).1,(hS.fz g hg hz).2⟩⟩,⟨λc r hr=>⟨r,hr,rfl⟩,λg _ hg=>⟨Qy hg,rfl⟩⟩,O6 hl⟩
  .show RV _ _ _ (lk x (E6 b _ s.env)) _;rw[VA];exact(hS.env x).sb (λ_=>Qy) hd
  .show Uo _ _ _ (s.stk.map _) _;have hk:=hS.stk;generalize s.stk=st at hk;generalize ts=tt at hk
   induction st generalizing tt with
   |nil=>cases tt<;>exact hk
   |cons e st ih =>
    cases tt with
    |nil=>exact hk
    |cons t tt =>
     refine⟨λx=>?_,ih _ hk.2⟩;rw[VA];exact(hk.1 x).sb (λ_=>Qy) hd
  .intro c hc;exact hS.dom c (by rw[O6 hl]at hc;exact hc)
 .rename_i el sz es hb;cases hs;obtain⟨R,hd⟩:=sP hS.rel (.inr ⟨_,hb⟩);have hl:b<s.h.length:=Du (by rw[hb];intro hc;cases hc);refine⟨⟨R,λx=>?_,?_,?_,hS.defers,hS.size,hS.below,hS.kn,λg hg hz=>⟨Qy (hS.fz g hg hz).1,(hS.fz g hg hz).2⟩⟩,⟨λc r hr=>⟨r,hr,rfl⟩,λg _ hg=>⟨Qy hg,rfl⟩⟩,O6 hl⟩
  .show RV _ _ _ (lk x (E6 b _ s.env)) _;rw[VA];exact(hS.env x).sb (λ_=>Qy) hd
  .show Uo _ _ _ (s.stk.map _) _;have hk:=hS.stk;generalize s.stk=st at hk;generalize ts=tt at hk
   induction st generalizing tt with
   |nil=>cases tt<;>exact hk
   |cons e st ih =>
    cases tt with
    |nil=>exact hk
    |cons t tt =>
     refine⟨λx=>?_,ih _ hk.2⟩;rw[VA];exact(hk.1 x).sb (λ_=>Qy) hd
  .intro c hc;exact hS.dom c (by rw[O6 hl]at hc;exact hc)
 .cases hs
theorem AE.fzVs{N:Bi}{base:Nat}{w0:World}{nt:Nat}{ts:List (Array Value)}{ρ:Map}{a:Act}{w:World}:∀(vs:XQ) {s:S},AE N base w0 nt ts ρ s a w->AE N base w0 nt ts ρ (Go.AM.fzVs vs s) a w
 |[],_,hS=>hS
 |v::vs,s,hS=>by
  cases v with
  |own b =>
   simp only[Go.AM.fzVs]
   cases h:Go.AM.fzS b s with
   |none=>exact AE.fzVs vs hS
   |some s'=>exact AE.fzVs vs (hS.fzS h).1
  |_=>exact AE.fzVs vs hS
theorem AE.fzO{N:Bi}{base:Nat}{w0:World}{nt:Nat}{ts:List (Array Value)}{ρ:Map}{a:Act}{w:World}{s:S}(o:MO)(hS:AE N base w0 nt ts ρ s a w):AE N base w0 nt ts ρ (Go.AM.fzO o s) a w:=by
 unfold Go.AM.fzO
 grind [AE.fzVs]
section
variable{P:Program}{N:Bi}{base:Nat}{w0:World}{nt:Nat}{ts:List (Array Value)}{inl:V2}
theorem Z1D{Γ:CV}(hΓ:Γ=Ww P){ops:Array Oper}{Qc:Exit->Act->World->Prop}{K:S->Prop}
  (hQ:∀s a w ρ,K s->AE N base w0 nt ts ρ s a w->Qc .normal a w):∀(l:List Oper) (os:List MO),AQ (B0 P inl nt ops) l=some os->∀(s:S) (a:Act) (w:World) (ρ:Map),KS Γ os s K->AE N base w0 nt ts ρ s a w->wpList P ops Qc l a w
 |[],os,hm,s,a,w,ρ,hr,hS=>by cases hm;exact hQ s a w ρ hr hS
 |o::l,os,hm,s,a,w,ρ,hr,hS=>by
  obtain⟨m,ms,h1,h2,rfl⟩:=QR hm;obtain⟨hk,hdst,hd,hguard⟩:=ZqH h1;simp only[KS]at hr;replace hS:=hS.fzO m;generalize Go.AM.fzO m s=s at hr hS;have ih:=Z1D hΓ hQ l ms h2;have run:Bm Γ m s (λs'=>KS Γ ms s' K)->o.wp P a w (wpList P ops Qc l) Qc:=by
   intro hrun;obtain⟨v,u,hop,hK⟩:=Z1t hrun;rw[hΓ]at hop;refine T3 hk hS.env hS.rel (nx:=s.h.length) (.inr (hS.dom _ (Yk _))) (λb _ hb=>hS.dom b hb) hop λval w' ρ' hA=>?_
   exact ih _ _ _ ρ' hK (by rw[hdst];exact hS.after hA hd)
  have skip:KS Γ ms { s with env:=put m.dst (.tup []) s.env } K->wpList P ops Qc l (a.put o.dst undef) w:=λhK=>ih _ _ _ ρ hK (by rw[hdst];exact hS.skip hd)
  refine wpList_step λK' hK'=>?_
  have run':Bm Γ m s (λs'=>KS Γ ms s' K)->o.wp P a w K' Qc:=λh=>Oper.wp_mono hK' (run h)
  rcases hguard with⟨hg1,hg2⟩|⟨j,b,d,hg1,hg2,hg3⟩
  .simp only[D2,hg2]at hr;simp only[Region.wanted,hg1,if_true];exact run' hr
  .have hw:=ZqI hS.env hg1 hg2;simp only[D2,hg3]at hr
   grind
end
open Go.RowKit (Below)
section
variable{P:Program}{N:Bi}{base:Nat}{w0:World}{nt:Nat}{ts:List (Array Value)}{inl:V2}{ρ:Map}{s:S}{a:Act}{w:World}
theorem Uo.ren{ρ ρ':Map}{w:World}{F F':Nat->Prop}(f:Nat->Nat)(hF:∀g,g<w.heap.size->F g->F' g):∀{es:List Env} {ts:List (Array Value)},Uo ρ w F es ts->(∀b∈es.flatMap Kw,∀r,ρ b=some r->ρ' (f b)=some r)->Uo ρ' w F' (es.map (CX f)) ts
 |[],[],_,_=>trivial
 |_::_,_::_,h,hr=>⟨h.1.ren f (λb hb=>hr b (by simp only[Yda,Yi];exact .inl hb)) hF,Uo.ren f hF h.2 λb hb=>hr b (by simp only[Yda,Yi];exact .inr hb)⟩
 |[],_::_,h,_=>h.elim
 |_::_,[],h,_=>h.elim
theorem Z1E(hS:AE N base w0 nt ts ρ s a w)(keep:V2):∃ρ',AE N base w0 nt ts ρ' (Qu keep s) a w:=by
 unfold Qu;simp only;split
 .rename_i hc;obtain⟨h1,h2⟩:=sC hc;have hnd:(Xp s.h 200 (Kw (Ix s.h (rst keep s.env))++s.stk.flatMap Kw) []).Nodup:=sA _ _ _ Y2;generalize Xp s.h 200 (Kw (Ix s.h (rst keep s.env))++s.stk.flatMap Kw) []=ids at *
  refine⟨A2 ρ ids,hS.rel.ren hnd h2,?_,?_,?_,hS.defers,hS.size,hS.below,hS.kn,λg hg hz=>⟨TZ (hS.fz g hg hz).1,(hS.fz g hg hz).2⟩⟩
  .exact((hS.env.rst keep).scrub (h:=s.h)).ren _ (λb hb r hr=>by rw[O1 (h1 b (by simp[hb]))];exact hr) λg _ hg=>TZ hg
  .exact hS.stk.ren _ (λg _ hg=>TZ hg) λb hb r hr=>by rw[O1 (h1 b (Yi.2 (.inr hb)))];exact hr
  .simp_all [Zq9]
 .exact⟨ρ,hS.rel,λ_=>.top _,hS.stk,hS.dom,hS.defers,hS.size,hS.below,hS.kn,hS.fz⟩
def PQ(N:Bi)(base:Nat)(w0:World)(nt:Nat)(ts:List (Array Value))(Q:X->S->Prop):Exit->Act->World->Prop
 |.normal,a,w=>∃s ρ,Q .n s/\AE N base w0 nt ts ρ s a w
 |.exit id,a,w=>∃s ρ,Q (.x id) s/\AE N base w0 nt ts ρ s a w
 |.ret,a,w=>∃s ρ,Q .r s/\AE N base w0 nt ts ρ s a w
 |_,_,_=>False
theorem AE.rst(hS:AE N base w0 nt ts ρ s a w)(keep:V2):AE N base w0 nt ts ρ { s with env:=rst keep s.env } a w :=
 ⟨hS.rel,hS.env.rst keep,hS.stk,hS.dom,hS.defers,hS.size,hS.below,hS.kn,hS.fz⟩
theorem Ex{Γ:CV}(hΓ:Γ=Ww P):∀(c:Code) (ks:List (V2)) (m:Za) (ks':List (V2)),comp P inl nt c ks=some (m,ks')->∀(Q:X->S->Prop) (s:S) (a:Act) (w:World) (ρ:Map),
  Wc Γ m Q s->AE N base w0 nt ts ρ s a w->c.wp P (PQ N base w0 nt ts Q) a w:=by
 intro c
 induction c with
 |skip =>
  intro ks m ks' hc Q s a w ρ hW hS;simp[comp]at hc;obtain⟨rfl,rfl⟩:=hc
  exact wp_skip ⟨s,ρ,hW,hS⟩
 |region id ops draw =>
  intro ks m ks' hc Q s a w ρ hW hS
  cases ks with
  |nil=>simp[comp]at hc
  |cons k ks =>
   simp only[comp]at hc;split at hc
   .rename_i os hos;split at hc
    .rename_i Ey;subst Ey;split at hc
     .rename_i hcond;cases hc;split at hW
      .simp only[Wc]at hW;exact Z1B hΓ hos hcond.1 hcond.2.1 (λs a w ρ hq hS=>⟨_,ρ,hq,hS.rst k⟩) hW (AE.fzVs _ hS)
      .simp only[Wc]at hW;exact Z1B hΓ hos hcond.1 hcond.2.1 (λs a w ρ hq hS=>⟨_,ρ,hq,hS.rst k⟩) hW hS
     .cases hc
    .rename_i Ey;cases hc;have IQ:draw=false:=by simpa using Ey
     subst IQ;split at hW
     .simp only[Wc]at hW;exact wp_region_list (Z1D hΓ (λs a w ρ hq hS=>⟨_,ρ,hq,hS.rst k⟩) ops.toList os hos s a w ρ hW hS)
     .simp only[Wc]at hW;exact wp_region_list (Z1u hΓ (λs a w ρ hq hS=>⟨_,ρ,hq,hS.rst k⟩) ops.toList os hos s a w ρ hW hS)
   .cases hc
 |seq x y ihx ihy =>
  intro ks m ks' hc Q s a w ρ hW hS;simp only[comp]at hc;split at hc
  .rename_i mx k1 h1;split at hc
   .rename_i my k2 h2;cases hc;simp only[Wc]at hW;refine wp_seq (wp_mono (ihx ks mx k1 h1 _ s a w ρ hW hS) ?_);intro e a' w' hq
    cases e with
    |normal=>obtain⟨s',ρ',h3,h4⟩:=hq;exact ihy k1 my _ h2 Q s' a' w' ρ' h3 h4
    |exit id=>exact hq
    |ret=>exact hq
    |goto l=>exact hq.elim
    |panic ch=>exact hq.elim
    |outgrown=>exact hq.elim
   .cases hc
  .cases hc
 |cond o x y ihx ihy =>
  intro ks m ks' hc Q s a w ρ hW hS;simp only[comp]at hc;split at hc
  .rename_i o' mx k1 ho h1;split at hc
   .rename_i my k2 h2;cases hc;simp only[Wc]at hW;have hr:=ZY hS.env ho;split at hW
    .rename_i b hb;rw[hb]at hr;refine wp_cond hr.bool_inv ?_
     grind
    .exact hW.elim
   .cases hc
  .cases hc
 |block id b ih =>
  intro ks m ks' hc Q s a w ρ hW hS;simp only[comp]at hc;split at hc
  .rename_i mb k1 h1;cases hc;simp only[Wc]at hW;refine wp_block (wp_mono (ih ks mb _ h1 _ s a w ρ hW hS) ?_);intro e a' w' hq
   cases e with
   |normal=>exact hq
   |exit id' =>
    obtain⟨s',ρ',h3,h4⟩:=hq;simp only[Exit.inBlock];simp only at h3;split at h3
    .rename_i hid;rw[Ya hid];exact⟨s',ρ',h3,h4⟩
    .rename_i hid;rw[Yb hid];exact⟨s',ρ',h3,h4⟩
   |ret=>exact hq
   |goto l=>exact hq.elim
   |panic ch=>exact hq.elim
   |outgrown=>exact hq.elim
  .cases hc
 |loop b ih =>
  intro ks m ks' hc Q s a w ρ hW hS
  cases ks with
  |nil=>simp[comp]at hc
  |cons k ks =>
   simp only[comp]at hc;split at hc
   .rename_i mb k1 h1;cases hc;simp only[Wc,GB]at hW;obtain⟨I,μ,h0,IR⟩:=hW;obtain⟨ρ0,hS0⟩:=Z1E hS k;refine wp_loop_ghost (λn a w=>∃s ρ,I s/\μ s=n/\AE N base w0 nt ts ρ s a w) (μ (Qu k s)) ⟨_,ρ0,h0,rfl,hS0⟩ ?_;rintro n a' w' ⟨s1,ρ1,hI,rfl,hS1⟩;refine wp_mono (ih ks mb _ h1 _ s1 a' w' ρ1 (IR s1 hI) hS1) ?_;intro e a2 w2 hq
    cases e with
    |normal =>
     obtain⟨s2,ρ2,⟨h3,h4⟩,h5⟩:=hq;obtain⟨ρ3,h6⟩:=Z1E h5 k
     exact⟨μ (Qu k s2),h4,_,ρ3,h3,rfl,h6⟩
    |exit id=>exact hq
    |ret=>exact hq
    |goto l=>exact hq.elim
    |panic ch=>exact hq.elim
    |outgrown=>exact hq.elim
   .cases hc
 |exit id =>
  intro ks m ks' hc Q s a w ρ hW hS;simp[comp]at hc;obtain⟨rfl,rfl⟩:=hc
  exact wp_exit ⟨s,ρ,hW,hS⟩
 |ret =>
  intro ks m ks' hc Q s a w ρ hW hS;simp[comp]at hc;obtain⟨rfl,rfl⟩:=hc
  exact wp_ret ⟨s,ρ,hW,hS⟩
 |rangeFunc f ps x y _ _=>intro ks m ks' hc;cases ks<;>simp[comp]at hc
 |scope b _=>intro ks m ks' hc;cases ks<;>simp[comp]at hc
 |label l=>intro ks m ks' hc;cases ks<;>simp[comp]at hc
 |goto l=>intro ks m ks' hc;cases ks<;>simp[comp]at hc
 |refuse wy=>intro ks m ks' hc;cases ks<;>simp[comp]at hc
end
end Go.AM
