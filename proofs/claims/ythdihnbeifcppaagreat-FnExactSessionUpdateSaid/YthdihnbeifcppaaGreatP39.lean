/-
  Parts of the proofs for this seat: DFX CR.
-/
import Derived.Test.YthdihnbeifcppaaGreatP6
import Derived.Test.YthdihnbeifcppaaGreatP38
set_option linter.all false
set_option maxRecDepth 100000
set_option maxHeartbeats 4000000
namespace Go.Proofs.YthdihnbeifcppaaGreat
open Go.RowKit Go.AM
def ZvO(e:UD):Prop:=∃t0 t1 t2 t3 t4 t5 x t7,e=[t0,t1,t2,t3,t4,t5,.int .i64 x,t7]
def ZOQ{e:UD}(h:Zfp e=true):ZvO e:=by
 unfold Zfp at h;split at h
 .exact⟨_,_,_,_,_,_,_,_,rfl⟩
 .cases h
def Z77{w:World}{e:UD}{z:UC}{f:UB}(he:ZvO e)(h:TRs w e z f)(v:Int):Zi5 z/\(!old v z)=Uh v e:=by
 obtain⟨t0,t1,t2,t3,t4,t5,x,t7,rfl⟩:=he
 cases h with|cons h0 h =>
 cases h with|cons h1 h =>
 cases h with|cons h2 h =>
 cases h with|cons h3 h =>
 cases h with|cons h4 h =>
 cases h with|cons h5 h =>
 cases h with|cons h6 h =>
 cases h6
 cases h with|cons h7 h =>
 cases h;refine⟨⟨_,_,_,_,_,_,_,_,rfl⟩,?_⟩;simp[old,Uh,bne]
def ZOR{fr:Bool}{es:V5}{v:Int}(hE:∀e∈es,ZvO e):Xr Tryz.prog 76 [.own 0,.fn 77 [.ptr 1 0]] [.arr 128 8 fr es,.box [.t (.int .i64 v)]] (.own 2) [.dead,.box [.t (.int .i64 v)],.arr 128 8 fr (es.filter (Uh v))]:=by
 refine⟨by decide +kernel,?_⟩;intro N base w ρ vs R hdom hv hz;obtain⟨l⟩:=vs;simp only at hv
 cases hv with|cons q0 hv =>
 cases hv with|cons q1 hv =>
 cases hv
 cases q0 with|own hr h1 =>
 rename_i r
 cases q1 with|fn q1 =>
 rename_i c;obtain⟨c⟩:=c;simp only at q1
 cases q1 with|cons q1 q2 =>
 cases q2
 cases q1 with|ptr hr1 hv1 =>
 rename_i vb r1;have hb:gt [Blk.arr 128 8 fr es,.box [.t (.int .i64 v)]] 0=.arr 128 8 fr es:=by simp[gt]
 have hb1:gt [Blk.arr 128 8 fr es,.box [.t (.int .i64 v)]] 1=.box [.t (.int .i64 v)]:=by simp[gt]
 have hd0:gt [Blk.arr 128 8 fr es,.box [.t (.int .i64 v)]] 0≠.dead:=by rw[hb];intro hc;cases hc
 have hd1:gt [Blk.arr 128 8 fr es,.box [.t (.int .i64 v)]] 1≠.dead:=by rw[hb1];intro hc;cases hc
 obtain⟨r2,e1,e2⟩:=R.blk 0 hd0;rw[hr]at e1;cases e1;rw[hb]at e2;obtain⟨r3,e3,e4⟩:=R.blk 1 hd1;rw[hr1]at e3;cases e3;rw[hb1]at e4;obtain⟨_,g1,c1,t1,e5,hb1g,hg1,hc1,_⟩:=e4;rw[hv1]at e5;cases e5;obtain⟨hex,e',xs,hel,ho,hsz,hlen,htr,hfree,hfr,how⟩:=e2;obtain⟨hxl,ho⟩:=ho;have fin:∀(e:Ending) (w':World) (r':Root) (n:Nat),(∃a,r'.v=.slice a n (match r'.v with|.slice _ _ c=>c|_=>0))->e=.returned r'.v->Below base w w'->Rel N base (updM ρ 2 r') [.dead,.box [.t (.int .i64 v)],.arr 128 8 fr (es.filter (Uh v))] w'->
   Keeps ρ w (Free N ρ [.arr 128 8 fr es,.box [.t (.int .i64 v)]]) (updM ρ 2 r') w' (Free N (updM ρ 2 r') [.dead,.box [.t (.int .i64 v)],.arr 128 8 fr (es.filter (Uh v))])->(∀g,g<w.heap.size->¬N.a g->w'.heap[g]?=w.heap[g]?)->
   ∃v1 ρ',e=.returned v1/\Below base w w'/\Rel N base ρ' [.dead,.box [.t (.int .i64 v)],.arr 128 8 fr (es.filter (Uh v))] w'/\RV ρ' w' (Free N ρ' [.dead,.box [.t (.int .i64 v)],.arr 128 8 fr (es.filter (Uh v))]) (.own 2) v1/\(∀b,3<=b->ρ' b=none)/\2<=3/\
    (∀g,g<w.heap.size->¬N.a g->w'.heap[g]?=w.heap[g]?)/\(∀g,g<w.heap.size->N.z g->Free N ρ' [.dead,.box [.t (.int .i64 v)],.arr 128 8 fr (es.filter (Uh v))] g/\w'.heap[g]?=w.heap[g]?)/\
    ∀b r0,b<2->ρ b=some r0->∃r1,ρ' b=some r1/\r1.v=r0.v:=by
  intro e w' r' n hs he hB p1 p2 p3;refine⟨_,_,he,hB,p1,.own (b:=2) (r:=r') (by simp[updM]) (by obtain⟨a,ha⟩:=hs;rw[ha];rfl),λb hb=>?_,by decide,p3,λg hg hzz=>p2.free g hg (hz g hzz),λb r0 hb h0=>⟨r0,?_,rfl⟩⟩
  .simp only[updM];rw[Ynx];exact hdom b (by simp;omega)
  .simp only[updM];rw[Ynx];exact h0
 rcases ho with⟨hrv,hn⟩|⟨g,cap,cur,hrv,hbg,hg,hcap,hcm,hcur,htake⟩
 .have hn:es=[]:=Ycn.1 hn;subst hn;rw[hrv];refine(ZOP _ w).mono ?_;rintro e w' ⟨rfl,rfl⟩;obtain⟨p1,p2,p3⟩:=fltN_rel R hr hdom (w':=w') ⟨rfl,rfl,rfl,Yh _,λ_ _ _=>rfl⟩;exact fin _ _ _ 0 ⟨none,rfl⟩ rfl (Below.refl _ _) p1 p2 p3
 obtain⟨zs,hzx,hch⟩:=Ch.of htr;have hzl:=hch.length;have hgne:vb≠g:=by
  intro h;subst h;have:=R.inj 1 0 r1 r vb hr1 hr hd1 hd0 (.inl (by rw[hv1];rfl)) (.inl (by rw[hrv];rfl));cases this
 have hcell:w.cell? ⟨vb,0,none⟩=some (.int .i64 v):=by
  obtain⟨c1⟩:=c1;simp only at hc1
  cases hc1 with|cons k0 k1 =>
  cases k1
  cases k0 with|t k0 _ =>
  cases k0;rw[Jd hg1];rfl
 have hpv:∀e∈es,∀z f,TRs w e z f->(!old v z)=Uh v e:=λe he z f h=>(Z77 (hE e he) h v).2
 have hone:=htr.one;rw[hrv];have hwalk:=ZON g vb es.length cap e' v zs cur w hg hzl (by rw[htake,hzx]) hcur hcap (by unfold maxLen at hcm;omega)
  (λz hz=>by obtain⟨e,f,h1,h2⟩:=hch.mem hz;exact(Z77 (hE e h1) h2 v).1)
  (λz hz x hx=>hone x (by rw[<-hzx];exact Ycd.2 ⟨z,hz,hx⟩)) (Yb6.1 hg1).1 hgne hcell
 refine hwalk.mono ?_;rintro e w' ⟨he,hc2,hgr⟩;obtain⟨fp0,_,hch2⟩:=hch.filter hpv;have hkl:(kept v zs).length=(es.filter (Uh v)).length:=hch2.length;rw[hkl]at he hc2;have hzl2:=Z71 (es.length-(es.filter (Uh v)).length);generalize (Builtin.zeroCells UO.cells (es.length-(es.filter (Uh v)).length)).toList=zr at hc2 hzl2;obtain⟨fp',p1,p2,p3⟩:=flt_rel R rfl hr hdom hrv hg hch (by rw[hzx,htake]) hpv (zr:=zr) hzl2 hc2 hgr;refine fin e w' _ (es.filter (Uh v)).length ⟨some ⟨g,0,none⟩,rfl⟩ he ?_ p1 p2 p3;obtain⟨a1,a2,a3,a4,a5⟩:=hgr;exact⟨a1,a2,a3,a4,λk hk=>a5 k (Yby hk R.hb) (by intro h;cases h;omega)⟩
end Go.Proofs.YthdihnbeifcppaaGreat
namespace Go.Proofs.YthdihnbeifcppaaGreat
open Go.RowKit Go.Lib
def Z78(x:Int)(w:World):Calls Tryz.prog 385 #[.int .i64 x] w λe w'=>e=.returned (.bool false)/\w'=w:=by
 go_enter Tryz.func385,Tryz.ntmps385
 go_wp2
 go_ret
 exact⟨by simp,rfl⟩
def c3(x y:Int):Int:=if x<y then -1 else if y<x then 1 else 0
def ZOS(x y:Int)(w:World):Calls Tryz.prog 354 #[.int .i64 x,.int .i64 y] w λe w'=>e=.returned (.int .i64 (c3 x y))/\w'=w:=by
 have h1:=Z78 x w;have h2:=Z78 y w;by_cases e1:x<y
 .go_enter Tryz.func354,Tryz.ntmps354
  go_wp2_with (first|(refine h1.mono ?_;rintro e w' ⟨rfl,rfl⟩)|(refine h2.mono ?_;rintro e w' ⟨rfl,rfl⟩))
  go_ret
  exact⟨by simp[c3,e1],rfl⟩
 .by_cases e2:y<x
  .go_enter Tryz.func354,Tryz.ntmps354
   go_wp2_with (first|(refine h1.mono ?_;rintro e w' ⟨rfl,rfl⟩)|(refine h2.mono ?_;rintro e w' ⟨rfl,rfl⟩))
   go_ret
   exact⟨by simp[c3,e1,e2],rfl⟩
  .have hc:c3 x y=0:=by unfold c3;rw[if_neg e1,if_neg e2]
   rw[hc];clear hc
   go_enter Tryz.func354,Tryz.ntmps354
   go_wp2_with (first|(refine h1.mono ?_;rintro e w' ⟨rfl,rfl⟩)|(refine h2.mono ?_;rintro e w' ⟨rfl,rfl⟩))
   go_ret
   exact⟨rfl,rfl⟩
def JL(w:World)(v:Value)(r:List Int):Prop:=∃a c,v=.slice a r.length c/\∀j (h:j<r.length),∃g off,a=some ⟨g,off,none⟩/\w.cell? ⟨g,off+j,none⟩=some (.int .i64 r[j])
def ZOT{a b:List Int}{k:Nat}(h1:k<a.length)(h2:k<b.length):ZT (a.drop k) (b.drop k)=if c3 a[k] b[k]=0 then ZT (a.drop (k+1)) (b.drop (k+1))else c3 a[k] b[k]:=by
 rw[List.drop_eq_getElem_cons h1,List.drop_eq_getElem_cons h2]
 conv=>lhs;unfold ZT
 unfold c3;by_cases e1:a[k]<b[k]
 .simp[e1]
 .rw[if_neg e1,if_neg e1];by_cases e2:b[k]<a[k]
  .simp[e2]
  .simp[e2]
def ZOU(v1 v2:Value)(a b:List Int)(w:World)(h1:JL w v1 a)(h2:JL w v2 b)(c:a.length<2305843009213693952)(cc:b.length<2305843009213693952) :
  Calls Tryz.prog 320 #[v1,v2] w λe w'=>e=.returned (.int .i64 (ZT a b))/\w'=w:=by
 obtain⟨p1,c1,rfl,r1⟩:=h1;obtain⟨p2,c2,rfl,r2⟩:=h2;have mixed:Tryz.prog.follows Departure.mixedOrders=true:=by kernel_rfl
 have hc:=λx y=>ZOS x y w
 generalize hR:ZT a b=R;have HR:Aside (ZT (a.drop 0) (b.drop 0)=R):=hR;clear hR
 go_enter Tryz.func320,Tryz.ntmps320
 go_wp2
 go_loopg [5,6,7,8,11] a.length (λgg _ _ _ _ s11 wr=>∃kk:Nat,kk<=a.length/\a.length-kk<=gg/\s11=.int .i64 kk/\wr=w/\Aside (kk<=b.length)/\Aside (ZT (a.drop kk) (b.drop kk)=R))
 case atStart=>exact⟨0,Nat.zero_le _,by omega,rfl,rfl,Nat.zero_le _,HR⟩
 case round =>
  obtain⟨kk,hkk,hg,rfl,rfl,A,B⟩:=hrel;by_cases hlt:kk<a.length
  .have hltz:(kk:Int)<(a.length:Int):=by omega
   obtain⟨g1,o1,rfl,d1⟩:=r1 kk hlt;by_cases hlb:kk<b.length
   .have hltb:¬(b.length:Int)<=(kk:Int):=by omega
    obtain⟨g2,o2,rfl,d2⟩:=r2 kk hlb;have hs:=ZOT hlt hlb;have hcall:=hc a[kk] b[kk];have S:Aside (ZT (a.drop kk) (b.drop kk)=if c3 a[kk] b[kk]=0 then ZT (a.drop (kk+1)) (b.drop (kk+1))else c3 a[kk] b[kk]):=hs;clear hs hc r1 r2;generalize c3 a[kk] b[kk]=z at hcall S;generalize a[kk]=x at hcall d1;generalize b[kk]=y at hcall d2;by_cases hz:z=0
    .subst hz
     go_wp2_with (refine hcall.mono ?_;rintro e w' ⟨rfl,rfl⟩)
     go_roundg (a.length-(kk+1))
     case measure=>omega
     case rel =>
      refine⟨kk+1,by omega,by omega,by go_num,rfl,(show Aside _ from by show kk+1<=b.length;omega),(show Aside _ from ?_)⟩;have:=S.out;rw[B.out]at this;show ZT (a.drop (kk+1)) (b.drop (kk+1))=R;simpa using this.symm
    .have hr:R=z:=by rw[<-B.out,S.out,if_neg hz]
     go_wp2_with (refine hcall.mono ?_;rintro e w' ⟨rfl,rfl⟩)
     go_ret
     exact⟨by subst hr;rfl,rfl⟩
   .have hltb:(b.length:Int)<=(kk:Int):=by omega
    have hr:R=1:=by
     rw[<-B.out,List.drop_eq_getElem_cons hlt,show b.drop kk=[]from List.drop_of_length_le (by omega)];rfl
    clear hc r2
    go_wp2
    go_ret
    exact⟨by subst hr;rfl,rfl⟩
  .have hltz:¬(kk:Int)<(a.length:Int):=by omega
   have he:kk=a.length:=by omega
   have hA:=A.out;by_cases hlb:(a.length:Int)<(b.length:Int)
   .have hr:R=-1:=by
     rw[<-B.out,he,List.drop_length,List.drop_eq_getElem_cons (l:=b) (i:=a.length) (by omega)];rfl
    clear hc r1 r2
    go_wp2
    go_ret
    exact⟨by subst hr;rfl,rfl⟩
   .have hr:R=0:=by
     rw[<-B.out,he,List.drop_length,show b.drop a.length=[]from List.drop_of_length_le (by omega)];rfl
    clear hc r1 r2
    go_wp2
    go_ret
    exact⟨by subst hr;rfl,rfl⟩
def ZOV(v1 v2:Value)(a b:List Int)(w:World)(h1:JL w v1 a)(h2:JL w v2 b)(c:a.length<2305843009213693952)(cc:b.length<2305843009213693952) :
  Calls Tryz.prog 275 #[v1,v2] w λe w'=>e=.returned (.int .i64 (ZT a b))/\w'=w:=by
 have hc:=ZOU v1 v2 a b w h1 h2 c cc;generalize ZT a b=R at hc|-;obtain⟨p1,c1,rfl,r1⟩:=h1;obtain⟨p2,c2,rfl,r2⟩:=h2;clear r1 r2
 go_enter Tryz.func275,Tryz.ntmps275
 go_wp2_with (refine hc.mono ?_;rintro e w' ⟨rfl,rfl⟩)
 go_ret
 exact⟨rfl,rfl⟩
