/-
  Parts of the proofs for this seat: SO1 SE1 SO2 SO3 CPL CPW CPS.
-/
import Derived.BigQuiet
import Derived.BigRegion
import Derived.Deep.QuietTactic
import Derived.Lib.SlicesCompact
import Derived.Shelf.SlSortCmp.Kit1
import Derived.Test.YthpdbpfamhcgiaaGreatP5
import Derived.Test.YthpdbpfamhcgiaaGreatP41
set_option linter.all false
set_option maxRecDepth 100000
set_option maxHeartbeats 4000000
namespace Go.Proofs.YthpdbpfamhcgiaaGreat
open Go.RowKit Go.AM
def ZDC{w:World}:∀{r:V6} {vs:KI} {fp:V8},TRs w (r.map ic).flatten vs fp->vs=r.map (Value.int .i64)
 |[],vs,fp,h=>by cases h;rfl
 |x::r,vs,fp,h=>by
  rw[Y0,Ybc]at h;change TRs w (T.int .i64 x::(r.map ic).flatten) vs fp at h
  cases h with
  |cons h hs =>
   cases h;rw[Y0,<-ZDC hs]
def ZlV{w W:World}{r:V6}{v:Value}{fp:V8}(h:TR w (.lst 1 (r.map ic)) v fp)(hW:∀g∈fp,W.heap[g]?=w.heap[g]?):Zbb W v r:=by
 have h:=h.frame hW;generalize he:r.map ic=es at h
 cases h with
 |lst0 sz a cap =>
  have:r=[]:=List.map_eq_nil_iff.1 he
  subst this
  exact⟨a,cap,rfl,λj hj=>absurd hj (Nat.not_lt_zero _)⟩
 |@lst sz es g off cap c e fz fp hne hsz hcap hg hlen hc =>
  subst he;have hv:=ZDC hc;refine⟨some ⟨g,off,none⟩,cap,by rw[Y1],λj hj=>⟨g,off,rfl,?_⟩⟩;have h1:((c.toList.drop off).take ((r.map ic).length*1))[j]?=some (.int .i64 r[j]):=by
   simp_all
  rw[Ydb,Ya (by rw[Y1];omega),Yde]at h1;unfold World.cell?;rw[hg];simpa using h1
end Go.Proofs.YthpdbpfamhcgiaaGreat
namespace Go.Proofs.YthpdbpfamhcgiaaGreat
open Go.RowKit Go.Lib
def dropEq{a b:List Int}{k:Nat}(h1:k<a.length)(h2:k<b.length):decide (a.drop k=b.drop k)=(decide (a[k]=b[k]) && decide (a.drop (k+1)=b.drop (k+1))):=by
 rw[Bool.eq_iff_iff];simp only[Bool.and_eq_true,decide_eq_true_eq]
 grind [List.drop_eq_getElem_cons,List.cons.injEq]
def ZUg(v1 v2:Value)(a b:List Int)(w:World)(h1:Zbb w v1 a)(h2:Zbb w v2 b)(c:a.length<2305843009213693952)(cc:b.length<2305843009213693952) :
  Calls Tryz.prog 164 #[v1,v2] w λe w'=>e=.returned (.bool (decide (a=b)))/\∃q,w'=w.drewN q:=by
 obtain⟨p1,c1,rfl,r1⟩:=h1;obtain⟨p2,c2,rfl,r2⟩:=h2;have mixed:Tryz.prog.follows Departure.mixedOrders=true:=by kernel_rfl
 by_cases hlen:a.length=b.length
 .obtain⟨n,hna⟩:∃n:Nat,a.length=n:=⟨_,rfl⟩;have hnb:b.length=n:=by omega
  rw[hna,hnb];have HN:Aside (a.length=n/\b.length=n):=⟨hna,hnb⟩;have hln:n<2305843009213693952:=by omega
  clear hna hnb hlen c cc;generalize hR:decide (a=b)=R;have HR:Aside (decide (a.drop 0=b.drop 0)=R):=hR;clear hR
  go_enter Tryz.func164,Tryz.ntmps164
  go_wp2
  go_loopg [5,13] n (λgg _ s13 wr=>∃kk q:Nat,kk<=n/\n-kk<=gg/\s13=.int .i64 kk/\wr=w.drewN q/\Aside (a.length=n/\b.length=n)/\Aside (decide (a.drop kk=b.drop kk)=R))
  case atStart=>exact⟨0,0,Nat.zero_le _,by omega,rfl,rfl,HN,HR⟩
  case round =>
   obtain⟨kk,q,hkk,hg,rfl,rfl,A,B⟩:=hrel;have hA:=A.out;obtain⟨hA1,hA2⟩:=hA;by_cases hltn:kk<n
   .have hltz:(kk:Int)<(n:Int):=by omega
    have hlta:kk<a.length:=by omega
    have hlt:kk<b.length:=by omega
    obtain⟨g1,o1,rfl,d1⟩:=r1 kk hlta;obtain⟨g2,o2,rfl,d2⟩:=r2 kk hlt;have S:Aside (decide (a.drop kk=b.drop kk)=(decide (a[kk]=b[kk]) && decide (a.drop (kk+1)=b.drop (kk+1)))):=by
     exact dropEq hlta hlt
    clear r1 r2 hA1 hA2;generalize a[kk]=x at d1 S;generalize b[kk]=y at d2 S;by_cases hz:x=y
    .subst hz
     go_wp2_with fail
     go_region_o
     go_wp2
     go_roundg (n-(kk+1))
     case measure=>omega
     case rel =>
      refine⟨kk+1,q+1,by omega,by omega,by go_num,rfl,A,(show Aside _ from ?_)⟩;have:=S.out
      simp_all
    .have hr:R=false:=by rw[<-B.out,S.out];simp[hz]
     go_wp2_with fail
     go_region_o
     go_wp2
     go_ret
     exact⟨by subst hr;rfl,q+1,rfl⟩
   .have hltz:¬(kk:Int)<(n:Int):=by omega
    have hr:R=true:=by
     rw[<-B.out,show b.drop kk=[]from List.drop_of_length_le (by omega),show a.drop kk=[]from List.drop_of_length_le (by omega)];simp
    clear r1 r2 hA1 hA2
    go_wp2
    go_ret
    exact⟨by subst hr;rfl,q,rfl⟩
 .have hne:decide (a=b)=false:=by
   grind
  have hlz:¬(a.length:Int)=(b.length:Int):=by omega
  rw[hne];clear hne r1 r2
  go_enter Tryz.func164,Tryz.ntmps164
  go_wp2
  go_ret
  exact⟨rfl,0,rfl⟩
def ZUh(v1 v2:Value)(a b:List Int)(w:World)(h1:Zbb w v1 a)(h2:Zbb w v2 b)(c:a.length<2305843009213693952)(cc:b.length<2305843009213693952) :
  Calls Tryz.prog 363 #[v1,v2] w λe w'=>e=.returned (.bool (decide (a=b)))/\∃q,w'=w.drewN q:=by
 have hc:=ZUg v1 v2 a b w h1 h2 c cc;generalize decide (a=b)=R at hc|-;obtain⟨p1,c1,rfl,r1⟩:=h1;obtain⟨p2,c2,rfl,r2⟩:=h2;clear r1 r2
 go_enter Tryz.func363,Tryz.ntmps363
 go_wp2_with (refine hc.mono ?_;rintro e w' ⟨rfl,q,rfl⟩)
 go_ret
 exact⟨rfl,q,rfl⟩
end Go.Proofs.YthpdbpfamhcgiaaGreat
namespace Go.Proofs.YthpdbpfamhcgiaaGreat
open Go.RowKit Go.AM Go.Lib Go.Sort
def ZDD:Prop:=∀(α:Type) [Inhabited α] (enc:α->Value) (_:OneCell enc) (cf:α->α->Int) (_:SWO (ltOf cf)) (blk off cap:Nat) (d:Array α) (w:World),CmpLays1 Tryz.prog 361 #[] enc cf blk off d.size w->Holds enc w blk off d->blk<w.heap.size->d.size<4611686018427387904->
 Calls Tryz.prog 360 #[.slice (some ⟨blk,off,none⟩) d.size cap,.func (.func 361) #[] #[]] w λe w'=>e=.returned (.tuple #[])/\∃d' n os,PermIn 0 d.size d d'/\SortedIn (ltOf cf) 0 d.size d'/\w'=sortWorld enc w blk off n d' os
def ZDE:Prop:=∀(p:Option Addr) (cap:Nat) (w:World),Calls Tryz.prog 360 #[.slice p 0 cap,.func (.func 361) #[] #[]] w λe w'=>e=.returned (.tuple #[])/\w'=w
def El(w:World)(g:Nat):Type:={p:V6×Value×V8 // TR w (.lst 1 (p.1.map ic)) p.2.1 p.2.2/\(∀x∈p.2.2,x≠g)/\p.1.length<=4}
instance (w:World) (g:Nat):Inhabited (El w g):=⟨⟨([],.slice none 0 0,[]),.lst0 1 none 0,by simp,by simp⟩⟩
def El.enc{w:World}{g:Nat}(x:El w g):Value:=x.1.2.1
def El.row{w:World}{g:Nat}(x:El w g):V6:=x.1.1
def El.tri{w:World}{g:Nat}(x:El w g):V4×Value×V8:=([x.1.1],x.1.2.1,x.1.2.2)
def El.t3{w:World}{g:Nat}(x:El w g):KS×KI×V8:=(isc x.row,[x.enc],x.1.2.2)
def El.list{w:World}{g:Nat}:∀l:List (KS×KI×V8),(∀p∈l,∃q:El w g,q.t3=p)->∃L:List (El w g),L.map El.t3=l
 |[],_=>⟨[],rfl⟩
 |p::l,h=>by
  obtain⟨q,hq⟩:=h p (by simp);obtain⟨L,hL⟩:=El.list l λp hp=>h p (by simp[hp])
  exact⟨q::L,by simp[hq,hL]⟩
def cfE{w:World}{g:Nat}(x y:El w g):Int:=Xv x.row y.row
def swoE{w:World}{g:Nat}:SWO (ltOf (cfE (w:=w) (g:=g))) where
 irrefl x:=by unfold ltOf cfE;rw[ZaI];rfl
 trans x y z h1 h2:=by
  unfold ltOf cfE at *
  grind [Zhq,Int.le_of_lt,JP,Int.lt_or_eq_of_le,Qz]
 ntrans x y z h1 h2:=by
  unfold ltOf cfE at *
  grind [JP,Zhq]
def Zqx{α:Type}[Inhabited α](enc:α->Value)(w:World)(blk off n:Nat)(d:Array α)(os:Array Obj){k:Nat}(hk:k<w.heap.size)(c:k≠blk):(sortWorld enc w blk off n d os).heap[k]?=w.heap[k]?:=by
 show((w.heap.modify blk (onCells (putCells enc off d)))++os)[k]?=_
 grind
def ZDF{α:Type}[Inhabited α](enc:α->Value)(w:World)(blk off n:Nat)(d:Array α)(os:Array Obj){c:Array Value}{e:TypeId}{fz:Nat×Nat}(hg:w.heap[blk]?=some (.cells c e fz)):(sortWorld enc w blk off n d os).heap[blk]?=some (.cells (putCells enc off d c) e fz):=by
 have hk:blk<w.heap.size:=(Ycd.1 hg).1;show((w.heap.modify blk (onCells (putCells enc off d)))++os)[blk]?=_;rw[Array.getElem?_append_left (by simpa using hk),Array.getElem?_modify,Ya rfl,hg];rfl
def ZUi(w:World)(g size:Nat):CmpLays1 Tryz.prog 361 #[] (El.enc (w:=w) (g:=g)) cfE g 0 size w:=by
 intro m os dk hs x y;have hx:=ZlV (W:=sortWorld El.enc w g 0 m dk os) x.2.1 λk hk=>Zqx _ _ _ _ _ _ _ (x.2.1.lt k hk) (x.2.2.1 k hk)
 have hy:=ZlV (W:=sortWorld El.enc w g 0 m dk os) y.2.1 λk hk=>Zqx _ _ _ _ _ _ _ (y.2.1.lt k hk) (y.2.2.1 k hk)
 have h4:=x.2.2.2;have h5:=y.2.2.2;refine(ZUf x.enc y.enc x.row y.row _ hx hy (by unfold El.row;omega) (by unfold El.row;omega)).mono ?_;rintro e w' ⟨rfl,rfl⟩;exact⟨rfl,0,#[],by simp[grow,World.drewN]⟩
end Go.Proofs.YthpdbpfamhcgiaaGreat
namespace Go.Proofs.YthpdbpfamhcgiaaGreat
open Go.RowKit Go.AM Go.Lib Go.Sort
def ZDG{w:World}{g:Nat}{r:V6}{z:KI}{f:V8}(h:TRs w (isc r) z f)(hf:∀x∈f,x≠g)(hr:r.length<=4):∃q:El w g,q.t3=(isc r,z,f):=by
 unfold isc at h
 cases h with
 |@cons t v fp ts vs fq h hs =>
  cases hs;rw[Y9]at hf|-;exact⟨⟨(r,v,fp),h,hf,hr⟩,rfl⟩
def ZDH{a b:V6}(h:isc a=isc b):a=b:=by
 unfold isc at h;simp only[Yc0,T.lst.injEq,true_and,and_true]at h;exact(Ydo (f:=ic) (by intro x y hxy;simpa[ic]using hxy)).1 h
def Zqy{α:Type}[Inhabited α](enc:α->Value)(d:Array α)(c:Array Value)(h:d.size<=c.size):(putCells enc 0 d c).toList=d.toList.map enc++c.toList.drop d.size:=by
 refine Ybz (by simp[putCells];omega) λi h1 h2=>?_
 have hi:i<c.size:=by simpa[putCells]using h1
 simp only[putCells,Ydn,Array.getElem_mapIdx]
 grind
def Zqz{w:World}{g:Nat}:∀L:List (El w g),((L.map El.t3).map (·.2.1)).flatten=L.map El.enc
 |[]=>rfl
 |x::L=>by
  have ih:=Zqz L;simp only[Y0,Ybc]at ih|-;rw[ih];rfl
def ZDI{w:World}{g:Nat}(L:List (El w g)):(L.map El.t3).map (·.1)=(L.map El.row).map isc:=by simp[El.t3]
def ZUj(K:ZDD)(K0:ZDE){fr:Bool}{rows:V4}(cd:rows.length<=4096)(cc:∀r∈rows,r.length<=4) :
  Wr Tryz.prog 360 [.own 0,.fn 361 []] [.arr 40 1 fr (rows.map isc)] (.tup []) [.arr 40 1 fr ((VF rows).map isc)]:=by
 refine⟨by decide +kernel,?_⟩;intro N base w ρ vs R hdom hv hz;obtain⟨l⟩:=vs;simp only at hv
 cases hv with|cons q0 hv =>
 cases hv with|cons q1 hv =>
 cases hv
 cases q0 with|own hr h1 =>
 rename_i r
 cases q1 with|fn q1 =>
 rename_i c;obtain⟨c⟩:=c;simp only at q1;cases q1;have hb:gt [Blk.arr 40 1 fr (rows.map isc)] 0=.arr 40 1 fr (rows.map isc):=by simp[gt]
 have hd0:gt [Blk.arr 40 1 fr (rows.map isc)] 0≠.dead:=by rw[hb];intro hc;cases hc
 obtain⟨r2,e1,e2⟩:=R.blk 0 hd0;rw[hr]at e1;cases e1;rw[hb]at e2;obtain⟨e',xs,hel,ho,hsz,hlen1,htr,hfree,hfr⟩:=e2;obtain⟨hxl,ho⟩:=ho;rcases ho with⟨hrv,hn⟩|⟨g,cap,cur,hrv,hbg,hg,hcap,hcm,hcur,htake⟩
 .have hn:rows=[]:=by simpa using hn
  subst hn;rw[hrv];refine(K0 none 0 w).mono ?_;rintro e w' ⟨rfl,rfl⟩;exact⟨_,ρ,rfl,Below.refl _ _,by simpa[VF]using R,.tup .nil,hdom,by simp,λ_ _ _=>rfl,λg hg hzz=>⟨by simpa[VF]using hz g hzz,rfl⟩,λb r0 _ h=>⟨r0,h,rfl⟩⟩
 obtain⟨zs,hzx,hch⟩:=Ch.of htr;obtain⟨l,p1,p2,p3,p4⟩:=hch.zip;have hblk:X6 r.v=some g:=by rw[hrv];rfl
 have hfg:∀x∈r.fp,x≠g:=λx hx e=>by
  subst e;exact(hfree x hx).2 0 r hr hd0 hblk
 have hgs:g<w.heap.size:=(Ycd.1 hg).1
 obtain⟨L,hL⟩:=El.list (w:=w) (g:=g) l (by
  intro p hp;have hm:p.1∈rows.map isc:=by rw[<-p1];exact Yt.2 ⟨p,hp,rfl⟩
  obtain⟨r0,hr0,e0⟩:=Yt.1 hm;have ht:=p4 p hp;rw[<-e0]at ht;obtain⟨q,hq⟩:=ZDG (g:=g) ht (λx hx=>hfg x (by rw[<-p3];exact Yc9.2 ⟨p.2.2,Yt.2 ⟨p,hp,rfl⟩,hx⟩)) (cc r0 hr0)
  exact⟨q,by rw[hq,e0]⟩)
 subst hL;have hrows:L.map El.row=rows:=by
  have:(L.map El.row).map isc=rows.map isc:=by rw[<-p1];simp[El.t3]
  exact(Ydo (λa b h=>ZDH h)).1 this
 have hLl:L.length=rows.length:=by rw[<-hrows,Y1]
 have henc:L.map El.enc=cur.toList.take ((rows.map isc).length*1):=by
  rw[htake,<-hzx,<-p2];simp[El.t3];clear p1 p2 p3 p4 hrows hLl
  induction L with
  |nil=>rfl
  |cons x L ih=>simp[ih];rfl
 have hcell:Holds El.enc w g 0 L.toArray:=by
  intro j hj;have hj':j<L.length:=by simpa using hj
  have h2:cur[j]?=some (L[j].enc):=by
   have h3:(cur.toList.take ((rows.map isc).length*1))[j]?=some (L[j].enc):=by rw[<-henc,Yds,Yf hj'];rfl
   rw[Ydb,Ya (by simp;omega)]at h3;simpa using h3
  refine⟨?_,?_⟩
  .unfold World.cell?;rw[hg];simp[h2,hj']
  .simp[World.frozen?,hg]
 have hcall:=K (El w g) El.enc (λx=>x.2.1.one) cfE swoE g 0 cap L.toArray w (ZUi w g _) hcell hgs (by simp;omega);rw[hrv,show(rows.map isc).length=L.toArray.size by simp[hLl]];refine hcall.mono ?_;rintro e w' ⟨rfl,d',n,os,hP,hS,rfl⟩;have hds:d'.size=L.length:=by have:=hP.1;simpa using this
 have hperm:d'.toList.Perm L:=by
  have:=hP.2.2;rw[show L.toArray.size=d'.size from hP.1.symm,Array.extract_size]at this;rw[hP.1,Array.extract_size]at this;simpa using this
 have hgr:w.grownBy (sortWorld El.enc w g 0 n d' os) (some g):=⟨rfl,rfl,rfl,by show w.heap.size<=((w.heap.modify g _)++os).size;simp,λk hk hne=>Zqx _ _ _ _ _ _ _ hk (by intro e;exact hne (by rw[e]))⟩;have hpl:(d'.toList.map El.t3).Perm (L.map El.t3):=hperm.map _
 obtain⟨P1,P2,P3⟩:=Z3d R hr (by intro b hb;exact hdom b (by simpa using hb)) hrv hg p1 (by rw[p2,hzx,htake]) p3 p4 hpl ⟨_,ZDF _ _ _ _ _ _ _ hg,by
  rw[Zqy _ _ _ (by simp at hcap;omega),Zqz,hds,hLl];simp⟩ hgr
 have hsd:(d'.toList.map El.row)=VF rows:=by
  refine Z0r (by rw[<-hrows];exact hperm.map _) ?_;rw[List.pairwise_map,Ybv];intro i j hi hj hij;have h:=hS i j (Yc _) hij (by simp at hj|-;omega);rw[getElem!_pos d' j (by simpa using hj),getElem!_pos d' i (by simpa using hi)]at h;unfold ltOf cfE at h;unfold leR;simp only[decide_eq_false_iff_not,decide_eq_true_eq,Ydn]at h|-;have:=JP d'[i].row d'[j].row;omega
 rw[ZDI,hsd]at P1 P2;refine⟨_,_,rfl,⟨hgr.os,hgr.tape,hgr.output,hgr.size,λk hk=>hgr.block k (Yb0 hk R.hb) (by intro e;cases e;omega)⟩,P1,.tup .nil,λb hb=>?_,by simp,P3,λk hk hzz=>P2.free k hk (hz k hzz),λb r0 hb h0=>P2.root b r0 h0⟩;simp only[updM];rw[Yb (by simp at hb;omega)];exact hdom b (by simpa using hb)
end Go.Proofs.YthpdbpfamhcgiaaGreat
namespace Go.Proofs.YthpdbpfamhcgiaaGreat
open Go.Sort
section
variable{α β:Type}[Inhabited α][DecidableEq β](f:α->β)
def nbk(p:α):List α->List α
 |[]=>[]
 |x::l=>if f x=f p then nbk x l else x::nbk x l
def nb:List α->List α
 |[]=>[]
 |x::l=>x::nbk f x l
omit [Inhabited α] in
theorem ZDJ:∀(l:List α) (p y:α),nbk f p (l++[y])=nbk f p l++if f y=f (l.getLastD p)then[]else[y]
 |[],p,y=>by by_cases h:f y=f p<;>simp[nbk,h]
 |x::l,p,y=>by
  rw[List.cons_append,nbk,nbk,ZDJ l x y,List.getLastD_cons];split<;>rfl
omit [Inhabited α] in
theorem ZUk:∀(l:List α) (p y:α),l≠[]->nb f (l++[y])=nb f l++if f y=f (l.getLastD p)then[]else[y]
 |[],p,y,h=>absurd rfl h
 |x::l,p,y,_=>by
  rw[List.cons_append,nb,nb,ZDJ,List.getLastD_cons];rfl
omit [Inhabited α] in
theorem Z11:∀(l:List α) (p:α),(nbk f p l).Sublist l
 |[],p=>.slnil
 |x::l,p=>by
  rw[nbk];split
  .exact(Z11 l x).cons _
  .exact(Z11 l x).cons_cons _
omit [Inhabited α] in
theorem nb_sub:∀l:List α,(nb f l).Sublist l
 |[]=>.slnil
 |x::l=>(Z11 f l x).cons_cons _
theorem Zq0{l:List α}{m:Nat}(h0:0<m)(h:m<l.length):nb f (l.take (m+1))=nb f (l.take m)++if f l[m]! = f l[m-1]! then[]else[l[m]!]:=by
 have hl:(l.take m).getLastD default=l[m-1]:=by
  grind
 grind [List.take_succ_eq_append_getElem,ZUk,List.length,List.length_take,List.length_nil]
structure Uw (d:Array α) (m k:Nat) (e:Array α):Prop where
 len:(nb f (d.toList.take m)).length=k
 lt:k<m
 row:e.toList=nb f (d.toList.take m)++d.toList.drop k
omit [Inhabited α] in
theorem Uw.size{d e:Array α}{m k:Nat}(I:Uw f d m k e)(hm:m<=d.size):e.size=d.size:=by
 have h1:=I.lt;rw[<-Array.length_toList,I.row,List.length_append,I.len,List.length_drop,Array.length_toList];omega
theorem Uw.read{d e:Array α}{m k:Nat}(I:Uw f d m k e)(hm:m<=d.size){j:Nat}(hj:k<=j)(hd:j<d.size):e[j]! = d[j]!:=by
 have hs:=I.size f hm;have h:=I.len;have h2:e.toList[j]?=d.toList[j]?:=by
  rw[I.row,List.getElem?_append_right (by omega),List.getElem?_drop,h];congr 1;omega
 simp_all
theorem Ze2(d:Array α)(j:Nat):d.toList[j]! = d[j]!:=by simp[Array.getElem!_eq_getD,Array.getD_eq_getD_getElem?]
theorem Uw.start{d:Array α}{k:Nat}(h0:0<k)(hk:k<d.size)(ha:nb f (d.toList.take k)=d.toList.take k)(he:f d[k]! = f d[k-1]!):Uw f d (k+1) k d:=by
 have h:=Zq0 f h0 (show k<d.toList.length from hk);rw[Ze2,Ze2,if_pos he,List.append_nil,ha]at h;refine⟨?_,Nat.lt_succ_self _,?_⟩
 .grind
 .simp_all
theorem Uw.skip{d e:Array α}{m k:Nat}(I:Uw f d m k e)(hm:m<d.size)(he:f d[m]! = f d[m-1]!):Uw f d (m+1) k e:=by
 have hl:=I.lt;have h:=Zq0 f (show 0<m by omega) (show m<d.toList.length from hm);rw[Ze2,Ze2,if_pos he,List.append_nil]at h;exact⟨by rw[h];exact I.len,by omega,by rw[h];exact I.row⟩
theorem Uw.keep{d e:Array α}{m k:Nat}(I:Uw f d m k e)(hm:m<d.size)(he:¬f d[m]! = f d[m-1]!):Uw f d (m+1) (k+1) (e.setIfInBounds k d[m]!):=by
 have hl:=I.lt;have hn:=I.len;have h:=Zq0 f (show 0<m by omega) (show m<d.toList.length from hm);rw[Ze2,Ze2,if_neg he]at h;refine⟨by rw[h,List.length_append,hn];rfl,by omega,?_⟩;rw[Array.toList_setIfInBounds,I.row,h,List.set_append_right _ _ (by omega),hn,Nat.sub_self,List.drop_eq_getElem_cons (show k<d.toList.length by rw[Array.length_toList];omega),List.set_cons_zero];simp
omit [Inhabited α] in
theorem Uw.fill{d e:Array α}{k:Nat}(I:Uw f d d.size k e)(z:α):(Lib.lay e k (List.replicate (d.size-k) z)).toList=nb f d.toList++List.replicate (d.size-k) z:=by
 have hs:=I.size f (Nat.le_refl _);have hl:=I.lt;have hr:=I.row;have hn:=I.len;rw[show d.toList.take d.size=d.toList from List.take_of_length_le (by simp)]at hr hn;apply List.ext_getElem?;intro j;rw[Array.getElem?_toList,Lib.lay_get? _ _ _ _ (by simp;omega),List.length_replicate];by_cases h1:j<k
 .rw[if_neg (by omega),List.getElem?_append_left (by omega),<-Array.getElem?_toList,hr,List.getElem?_append_left (by omega)]
 .grind
theorem ZUl{d:Array α}{k:Nat}(h0:0<k)(hk:k<d.size)(ha:nb f (d.toList.take k)=d.toList.take k)(he:¬f d[k]! = f d[k-1]!):nb f (d.toList.take (k+1))=d.toList.take (k+1):=by
 grind [Zq0,Ze2,List.take_succ_eq_append_getElem]
omit [Inhabited α] in
theorem nb_one{d:Array α}(h:d.size<=1):nb f d.toList=d.toList:=by
 obtain⟨l⟩:=d
 match l with
 |[]=>rfl
 |[a]=>rfl
 |a::b::l=>simp at h
omit [Inhabited α] in
theorem ZUm(d:Array α):nb f (d.toList.take 1)=d.toList.take 1:=by
 obtain⟨l⟩:=d
 cases l with
 |nil=>rfl
 |cons a l=>simp[nb,nbk]
end
def ZDK{α:Type}(f:α->List Int):∀l:List α,(nb f l).map f=WV (l.map f)
 |[]=>rfl
 |[a]=>rfl
 |a::b::l=>by
  have ih:=ZDK f (b::l);rw[nb]at ih;rw[nb,nbk,List.map_cons,List.map_cons,List.map_cons,WV]
  grind
end Go.Proofs.YthpdbpfamhcgiaaGreat
namespace Go.Proofs.YthpdbpfamhcgiaaGreat
open Go.RowKit Go.AM Go.Lib Go.Sort
def ZDL{α:Type}[Inhabited α](enc:α->Value)(w:World)(c off n:Nat)(d:Array α){k:Nat}(cc:k≠c):(putRow enc (Sort.ahead w n) c off d).heap[k]?=w.heap[k]?:=by
 show(w.heap.modify c (onCells (putCells enc off d)))[k]?=_
 grind
def Zq1{w:World}{g q n:Nat}{d:Array (El w g)}:(putRow El.enc (Sort.ahead w q) g 0 d).drewN n=putRow El.enc (Sort.ahead w (q+n)) g 0 d:=by
 simp[putRow,mapBlock,Sort.ahead,World.drewN,Ycw]
def ZDM{w wr:World}{g:Nat}(c:∀k,k≠g->wr.heap[k]?=w.heap[k]?)(x y:El w g)(n:Nat) :
  Calls Tryz.prog 363 #[x.enc,y.enc] (wr.drewN n) λr w'=>r=.returned (.bool (decide (x.row=y.row)))/\∃p,w'=(wr.drewN n).drewN p:=by
 have hx:=ZlV (W:=wr.drewN n) x.2.1 λk hk=>c k (x.2.2.1 k hk)
 have hy:=ZlV (W:=wr.drewN n) y.2.1 λk hk=>c k (y.2.2.1 k hk)
 have h4:=x.2.2.2;have h5:=y.2.2.2;exact ZUh x.enc y.enc x.row y.row _ hx hy (by unfold El.row;omega) (by unfold El.row;omega)
def El.one{w:World}{g:Nat}(x:El w g):x.enc.oneCell'=true:=x.2.1.one
def put_at{w w':World}{g q kk:Nat}{dk:Array (El w g)}{z:El w g}{x:Value}(hk:kk<dk.size)(hw:w'=putRow El.enc (Sort.ahead w q) g 0 dk)(hx:El.enc z=x):w'.setCell ⟨g,kk,none⟩ x=putRow El.enc (Sort.ahead w q) g 0 (dk.setIfInBounds kk z):=by
 subst hw;subst hx;have:=putRow_set El.enc (Sort.ahead w q) g 0 dk kk z hk
 rwa [Yv]at this
def ZUn{w wr:World}{g q kk:Nat}{d dk:Array (El w g)}(f:El w g->V6)(I:Uw f d d.size kk dk)(z:El w g)(hw:wr=putRow El.enc (Sort.ahead w q) g 0 dk):wr.setCells g kk (List.replicate (d.size-kk) z.enc)=putRow El.enc (Sort.ahead w q) g 0 (nb f d.toList++List.replicate (d.size-kk) z).toArray:=by
 subst hw;have hs:=I.size f (Yj _);have hl:=I.lt;have:=putRow_setCells El.enc (Sort.ahead w q) g 0 (List.replicate (d.size-kk) z) dk kk (by simp;omega);rw[Yv,Ydk]at this;rw[this];congr 1;rw[<-I.fill f z]
def ZUo(w:World):Calls Tryz.prog 362 #[.slice none 0 0,.func (.func 363) #[] #[]] w λe w'=>e=.returned (.slice none 0 0)/\w'=w:=by
 have mixed:Tryz.prog.follows Departure.mixedOrders=true:=by kernel_rfl
 go_enter Tryz.func362,Tryz.ntmps362
 go_wp2
 go_ret
 exact⟨rfl,rfl⟩
def ZUp{w:World}{g:Nat}(cap:Nat)(d:Array (El w g))(hH:Holds El.enc w g 0 d)(cc:d.size<=4096)(c:d.size<=cap) :
  Calls Tryz.prog 362 #[.slice (some ⟨g,0,none⟩) d.size cap,.func (.func 363) #[] #[]] w λe w'=>e=.returned (.slice (some ⟨g,0,none⟩) (nb El.row d.toList).length cap)/\
   ∃q,w'=putRow El.enc (Sort.ahead w q) g 0 (nb El.row d.toList++List.replicate (d.size-(nb El.row d.toList).length) default).toArray:=by
 have mixed:Tryz.prog.follows Departure.mixedOrders=true:=by kernel_rfl
 have HS:Aside (∀q,nb El.row d.toList=d.toList->(nb El.row d.toList).length=d.size/\putRow El.enc (Sort.ahead w q) g 0 d=putRow El.enc (Sort.ahead w q) g 0 (nb El.row d.toList++List.replicate (d.size-(nb El.row d.toList).length) default).toArray):=by
  intro q e;rw[e];simp
 have HH:Aside (Holds El.enc w g 0 d):=hH;clear hH;by_cases h2:d.size<2
 .go_enter Tryz.func362,Tryz.ntmps362
  go_wp2
  go_ret
  obtain⟨e1,e2⟩:=HS.out 0 (nb_one El.row (by omega));refine⟨by rw[e1];rfl,0,?_⟩;rw[<-e2];exact(putRow_self El.enc w g 0 d HH.out).symm
 .go_enter Tryz.func362,Tryz.ntmps362
  go_wp2
  go_loopg [5] d.size (λgg s5 wr=>∃k q:Nat,1<=k/\k<=d.size/\d.size-k<=gg/\s5=.int .i64 k/\Aside (wr=putRow El.enc (Sort.ahead w q) g 0 d)/\Aside (nb El.row (d.toList.take k)=d.toList.take k))
  case atStart=>exact⟨1,0,Yj _,by omega,by omega,rfl,(putRow_self El.enc w g 0 d HH.out).symm,ZUm El.row d⟩
  case round =>
   obtain⟨k,q,hk1,hk,hg,rfl,W,A⟩:=hrel;by_cases hlt:k<d.size
   .have hHk:Holds El.enc wr g 0 d:=by rw[W.out];exact holds_putRow El.enc _ g 0 d d (holds_ahead El.enc w q g 0 d HH.out) rfl
    obtain⟨kp,rfl⟩:∃kp,k=kp+1:=⟨k-1,by omega⟩;obtain⟨c1,f1⟩:=hHk (kp+1) hlt;obtain⟨c0,f0⟩:=hHk kp (by omega);have hcall:=ZDM (w:=w) (wr:=wr) (g:=g) (λk hk=>by rw[W.out];exact ZDL _ _ _ _ _ _ hk) d[kp+1]! d[kp]!;simp only[Yv]at c1 c0 f1 f0;clear hHk;have hwp:IntKind.i64.wrap (kp:Int)=(kp:Int):=by rw[IntKind.wrap_i64];omega
    have jz:(kp:Int)+1<(d.size:Int):=by omega
    have jz1:(kp:Int)<(d.size:Int):=by omega
    have p0:(0:Int)<=(kp:Int)+1:=by omega
    have e0:((kp:Int)+1).toNat=kp+1:=by omega
    generalize El.enc d[kp+1]! = x at c1 hcall;generalize El.enc d[kp]! = y at c0 hcall;by_cases hdup:El.row d[kp+1]! = El.row d[kp]!
    .rw[decide_eq_true hdup]at hcall;have DD:Aside (El.row d[kp+1]! = El.row d[kp]!):=hdup;clear hdup
     go_wp2_with fail
     go_quiet (refine Calls.quiet_of (hcall _))
     go_wp2_with fail
     have W3:Aside (wr.drewN nq=putRow El.enc (Sort.ahead w (q+nq)) g 0 d):=by show _=_;rw[W.out,Zq1]
     clear hcall c0 c1 f0 f1;generalize wr.drewN nq=wz at W3|-
     go_loopg [5,7] d.size (λgg s5 s7 wr=>∃(kk k2 q2:Nat) (dk:Array (El w g)),s5=.int .i64 kk/\s7=.int .i64 k2/\1<=k2/\kp+1+k2<=d.size/\d.size-(kp+1+k2)<=gg/\Aside (wr=putRow El.enc (Sort.ahead w q2) g 0 dk)/\Aside (Uw El.row d (kp+1+k2) kk dk))
     case atStart=>exact⟨kp+1,1,q+nq,d,rfl,rfl,Yj _,by omega,by omega,W3,Uw.start El.row (by omega) hlt A.out DD.out⟩
     case round =>
      clear W W3;obtain⟨kk,k2,q2,dk,rfl,rfl,h1,hle,hg2,W2,I2⟩:=hrel;have hkk:=I2.out.lt;have hds:=I2.out.size El.row hle;have hHk:Holds El.enc wr g 0 dk:=by rw[W2.out];exact holds_putRow El.enc _ g 0 d dk (holds_ahead El.enc w q2 g 0 d HH.out) hds
      obtain⟨kz,rfl⟩:∃kz,k2=kz+1:=⟨k2-1,by omega⟩;by_cases hlt2:kp+1+(kz+1)<d.size
      .obtain⟨cm,_⟩:=hHk (kp+1+(kz+1)) (by omega);obtain⟨cp,_⟩:=hHk (kp+1+kz) (by omega);obtain⟨ck,fk⟩:=hHk kk (by omega);rw[I2.out.read El.row hle (by omega) hlt2,Yv]at cm;rw[I2.out.read El.row hle (by omega) (by omega),Yv]at cp;rw[Yv]at ck fk;clear hHk;have hcall:=ZDM (w:=w) (wr:=wr) (g:=g) (λk hk=>by rw[W2.out];exact ZDL _ _ _ _ _ _ hk) d[kp+1+(kz+1)]! d[kp+1+kz]!;have st:∀a m w1,_:=λa m w1=>run_store Tryz.prog w1 a (El.enc d[kp+1+(kz+1)]!) m (El.one _)
       obtain⟨x,hx⟩:∃x,El.enc d[kp+1+(kz+1)]! = x:=⟨_,rfl⟩;have cl:=OneCell.cells (enc:=El.enc) El.one d[kp+1+(kz+1)]!;rw[hx]at cm hcall st cl;simp only[Value.cells]at cl;have XE:Aside (El.enc d[kp+1+(kz+1)]! = x):=hx;clear hx;generalize El.enc d[kp+1+kz]! = y at cp hcall;generalize El.enc dk[kk]! = old at ck;have jz:(kz:Int)+1<((d.size-(kp+1):Nat):Int):=by omega
       have jz1:(kz:Int)<((d.size-(kp+1):Nat):Int):=by omega
       have hwz:IntKind.i64.wrap (kz:Int)=(kz:Int):=by rw[IntKind.wrap_i64];omega
       have q0:(0:Int)<=(kz:Int)+1:=by omega
       have r0:((kz:Int)+1).toNat=kz+1:=by omega
       have kkz:(kk:Int)<(d.size:Int):=by omega
       by_cases hdup2:El.row d[kp+1+(kz+1)]! = El.row d[kp+1+kz]!
       .rw[decide_eq_true hdup2]at hcall;have D2:Aside (El.row d[kp+1+(kz+1)]! = El.row d[kp+1+kz]!):=hdup2;clear hdup2
        go_wp2_with fail
        go_quiet (refine Calls.quiet_of (hcall _))
        go_wp2
        go_roundg (d.size-(kp+1+(kz+1+1)))
        case measure=>omega
        case rel=>exact⟨kk,kz+1+1,q2+nq,dk,rfl,by go_num,by omega,by omega,Yj _,(show Aside _ from by show _=_;rw[W2.out,Zq1]),I2.out.skip El.row hlt2 D2.out⟩
       .rw[decide_eq_false hdup2]at hcall;have D2:Aside (¬El.row d[kp+1+(kz+1)]! = El.row d[kp+1+kz]!):=hdup2;clear hdup2
        go_wp2_with fail
        go_quiet (refine Calls.quiet_of (hcall _))
        go_wp2_with fail
        have W4:Aside (wr.drewN nq=putRow El.enc (Sort.ahead w (q2+nq)) g 0 dk):=by show _=_;rw[W2.out,Zq1]
        clear hcall cm cp ck fk;generalize wr.drewN nq=wq at W4|-
        go_roundg (d.size-(kp+1+(kz+1+1)))
        case measure=>omega
        case rel=>exact⟨kk+1,kz+1+1,q2+nq,dk.setIfInBounds kk d[kp+1+(kz+1)]!,by go_num,by go_num,by omega,by omega,Yj _,(show Aside _ from put_at (by omega) W4.out XE.out),I2.out.keep El.row hlt2 D2.out⟩
      .have hend:kp+1+(kz+1)=d.size:=by omega
       have jz:¬(kz:Int)+1<((d.size-(kp+1):Nat):Int):=by omega
       have kkz:(kk:Int)<=(d.size:Int):=by omega
       have hcl:∀ty,(Builtin.clear_ #[44] ty #[.slice (some ⟨g,kk,none⟩) (d.size-kk) (cap-kk)]).run Tryz.prog wr=.ok (.tuple #[]) (wr.setCells g kk (List.replicate (d.size-kk) (.slice none 0 0))) :=
        λty=>Lib.run_clear_slice wr _ _ ty _ Tryz.underlying44 Tryz.zeroValue40 rfl rfl g kk _ _ (by omega) (λj hj=>by have:=(hHk (kk+j) (by omega)).1;rw[Yv]at this;rw[this];rfl) (λj hj=>by have:=(hHk (kk+j) (by omega)).2;rw[Yv]at this;exact this)
       clear hHk
       go_wp2
       go_ret
       have hI:=I2.out;rw[hend]at hI;have hlen:=hI.len;rw[show d.toList.take d.size=d.toList from Ybp (by simp)]at hlen;exact⟨by rw[hlen];rfl,q2,by rw[hlen];exact ZUn El.row hI default W2.out⟩
    .rw[decide_eq_false hdup]at hcall;have DD:Aside (¬El.row d[kp+1]! = El.row d[kp]!):=hdup;clear hdup
     go_wp2_with fail
     go_quiet (refine Calls.quiet_of (hcall _))
     go_wp2
     go_roundg (d.size-(kp+1+1))
     case measure=>omega
     case rel=>exact⟨kp+1+1,q+nq,by omega,by omega,Yj _,by go_num,(show Aside _ from by show _=_;rw[W.out,Zq1]),ZUl El.row (by omega) hlt A.out DD.out⟩
   .have hk2:k=d.size:=by omega
    have hltz:¬(k:Int)<(d.size:Int):=by omega
    go_wp2
    go_ret
    obtain⟨e1,e2⟩:=HS.out q (by have:=A.out;rw[hk2,show d.toList.take d.size=d.toList from Ybp (by simp)]at this;exact this);exact⟨by rw[e1];rfl,q,by rw[<-e2];exact W.out⟩
end Go.Proofs.YthpdbpfamhcgiaaGreat
namespace Go.Proofs.YthpdbpfamhcgiaaGreat
open Go.RowKit Go.AM Go.Lib Go.Sort
def ZDN{N:Par}{base:Nat}{ρ:Map}{w w':World}{el sz:Nat}{fr:Bool}(R:Rel N base ρ [.arr el sz fr []] w){r:Root}(hr:ρ 0=some r)(c:∀b,1<=b->ρ b=none)(cc:w.grownBy w' none) :
  Rel N base (updM ρ 1 ⟨.slice none 0 0,[]⟩) [.dead,.arr el sz fr []] w'/\
   WD ρ w (Free N ρ [.arr el sz fr []]) (updM ρ 1 ⟨.slice none 0 0,[]⟩) w' (Free N (updM ρ 1 ⟨.slice none 0 0,[]⟩) [.dead,.arr el sz fr []])/\
   ∀g,g<w.heap.size->¬N.a g->w'.heap[g]?=w.heap[g]?:=by
 have hb:gt [Blk.arr el sz fr []] 0=.arr el sz fr []:=by simp[gt]
 have hd:gt [Blk.arr el sz fr []] 0≠.dead:=by rw[hb];intro hc;cases hc
 obtain⟨r1,h1,h2⟩:=R.blk 0 hd;rw[hr]at h1;cases h1;rw[hb]at h2;obtain⟨e2,xs,hel,ho,hsz,hlen,htr,hfree,hfr⟩:=h2;have hup:upd [Blk.arr el sz fr []] (kill [0]++[(1,.arr el sz fr [])])=[.dead,.arr el sz fr []]:=by simp[upd,kill,stB]
 have hp:=K9 R (n:=1) (ks:=[0]) (x:=.arr el sz fr []) (r:=⟨.slice none 0 0,[]⟩) (row:=none) (w':=w')
  (by intro r0 h0;rw[c 1 (Yj _)]at h0;cases h0) cc
  (by intro g' hg';cases hg') (by intro g' hg';cases hg')
  (λhk=>⟨e2,[],hel,⟨by simp,.inl ⟨rfl,rfl⟩⟩,hsz,(by intro x hx;cases hx),.nil,(by intro x hx;cases hx),λ_=>⟨.nil,by intro x hx;cases hx⟩⟩)
  (by intro _ x hx;cases hx)
 rw[hup]at hp;exact hp
def ZDO{α:Type}[Inhabited α](enc:α->Value)(w:World)(c off n:Nat)(d:Array α){k:Nat}(cc:k≠c):(putRow enc (Sort.ahead w n) c off d).heap[k]?=w.heap[k]?:=by
 show(w.heap.modify c (onCells (putCells enc off d)))[k]?=_
 grind
def ZDP{α:Type}[Inhabited α](enc:α->Value)(w:World)(cc off n:Nat)(d:Array α){c:Array Value}{e:TypeId}{fz:Nat×Nat}(hg:w.heap[cc]?=some (.cells c e fz)):(putRow enc (Sort.ahead w n) cc off d).heap[cc]?=some (.cells (putCells enc off d c) e fz):=by
 show(w.heap.modify cc (onCells (putCells enc off d)))[cc]?=_;rw[Array.getElem?_modify,Ya rfl,hg];rfl
def ZUq{fr:Bool}{rows:V4}(cd:rows.length<=4096)(cc:∀r∈rows,r.length<=4) :
  Wr Tryz.prog 362 [.own 0,.fn 363 []] [.arr 40 1 fr (rows.map isc)] (.own 1) [.dead,.arr 40 1 fr ((WV rows).map isc)]:=by
 refine⟨by decide +kernel,?_⟩;intro N base w ρ vs R hdom hv hz;obtain⟨l⟩:=vs;simp only at hv
 cases hv with|cons q0 hv =>
 cases hv with|cons q1 hv =>
 cases hv
 cases q0 with|own hr h1 =>
 rename_i r
 cases q1 with|fn q1 =>
 rename_i c;obtain⟨c⟩:=c;simp only at q1;cases q1;have hb:gt [Blk.arr 40 1 fr (rows.map isc)] 0=.arr 40 1 fr (rows.map isc):=by simp[gt]
 have hd0:gt [Blk.arr 40 1 fr (rows.map isc)] 0≠.dead:=by rw[hb];intro hc;cases hc
 obtain⟨r2,e1,e2⟩:=R.blk 0 hd0;rw[hr]at e1;cases e1;rw[hb]at e2;obtain⟨e',xs,hel,ho,hsz,hlen1,htr,hfree,hfr⟩:=e2;obtain⟨hxl,ho⟩:=ho;have hdom1:∀b,1<=b->ρ b=none:=by intro b hb;exact hdom b (by simpa using hb)
 rcases ho with⟨hrv,hn⟩|⟨g,cap,cur,hrv,hbg,hg,hcap,hcm,hcur,htake⟩
 .have hn:rows=[]:=by simpa using hn
  subst hn;rw[hrv];refine(ZUo w).mono ?_;rintro e w' ⟨rfl,rfl⟩;obtain⟨p1,p2,p3⟩:=ZDN R hr hdom1 (w':=w') ⟨rfl,rfl,rfl,Yj _,λ_ _ _=>rfl⟩;refine⟨_,_,rfl,Below.refl _ _,p1,.own (b:=1) (r:=⟨.slice none 0 0,[]⟩) (by simp[updM]) rfl,λb hb=>?_,by simp,p3,λk hk hzz=>p2.free k hk (hz k hzz),λb r0 hb h0=>p2.root b r0 h0⟩;simp only[updM];rw[Yb (by simp at hb;omega)];exact hdom1 b (by simp at hb;omega)
 obtain⟨zs,hzx,hch⟩:=Ch.of htr;obtain⟨l,p1,p2,p3,p4⟩:=hch.zip;have hblk:X6 r.v=some g:=by rw[hrv];rfl
 have hfg:∀x∈r.fp,x≠g:=λx hx e=>by
  subst e;exact(hfree x hx).2 0 r hr hd0 hblk
 have hgs:g<w.heap.size:=(Ycd.1 hg).1
 obtain⟨L,hL⟩:=El.list (w:=w) (g:=g) l (by
  intro p hp;have hm:p.1∈rows.map isc:=by rw[<-p1];exact Yt.2 ⟨p,hp,rfl⟩
  obtain⟨r0,hr0,e0⟩:=Yt.1 hm;have ht:=p4 p hp;rw[<-e0]at ht;obtain⟨q,hq⟩:=ZDG (g:=g) ht (λx hx=>hfg x (by rw[<-p3];exact Yc9.2 ⟨p.2.2,Yt.2 ⟨p,hp,rfl⟩,hx⟩)) (cc r0 hr0)
  exact⟨q,by rw[hq,e0]⟩)
 subst hL;have hrows:L.map El.row=rows:=by
  have:(L.map El.row).map isc=rows.map isc:=by rw[<-p1];simp[El.t3]
  exact(Ydo (λa b h=>ZDH h)).1 this
 have hLl:L.length=rows.length:=by rw[<-hrows,Y1]
 have henc:L.map El.enc=cur.toList.take ((rows.map isc).length*1):=by
  rw[htake,<-hzx,<-p2,Zqz]
 have hcell:Holds El.enc w g 0 L.toArray:=by
  intro j hj;have hj':j<L.length:=by simpa using hj
  have h2:cur[j]?=some (L[j].enc):=by
   have h3:(cur.toList.take ((rows.map isc).length*1))[j]?=some (L[j].enc):=by rw[<-henc,Yds,Yf hj'];rfl
   rw[Ydb,Ya (by simp;omega)]at h3;simpa using h3
  refine⟨?_,?_⟩
  .unfold World.cell?;rw[hg];simp[h2,hj']
  .simp[World.frozen?,hg]
 have hcall:=ZUp (w:=w) (g:=g) cap L.toArray hcell (by simp;omega) (by simp at hcap|-;omega);rw[hrv,show(rows.map isc).length=L.toArray.size by simp[hLl]];refine hcall.mono ?_;rintro e w' ⟨rfl,q,rfl⟩;have hsub:=nb_sub El.row L;have hnl:(nb El.row L).length<=L.length:=hsub.length_le;have hgr:w.grownBy (putRow El.enc (Sort.ahead w q) g 0 (nb El.row L++List.replicate (L.length-(nb El.row L).length) default).toArray) (some g) :=
  ⟨rfl,rfl,rfl,by show w.heap.size<=(w.heap.modify g _).size;simp,λk hk hne=>ZDO _ _ _ _ _ _ (by intro e;exact hne (by rw[e]))⟩
 obtain⟨P1,P2,P3⟩:=Z3e R hr hdom1 hrv hg p1 (by rw[p2,hzx,htake]) p3 p4 (hsub.map El.t3) (zr:=List.replicate (L.length-(nb El.row L).length) (El.enc (default:El w g))) (by simp[hLl]) ⟨_,ZDP _ _ _ _ _ _ hg,by
  rw[Zqy _ _ _ (by simp at hcap|-;omega),Zqz];simp only[Y3,Ydk,Ydh,Yq,Yci,Y1]
  rw[show(nb El.row L).length+(L.length-(nb El.row L).length)=rows.length*1 by omega]⟩ hgr
 rw[ZDI,ZDK,hrows,Y1]at P1 P2;have hln:(nb El.row L.toArray.toList).length=(nb El.row L).length:=rfl;refine⟨_,_,rfl,⟨hgr.os,hgr.tape,hgr.output,hgr.size,λk hk=>hgr.block k (Yb0 hk R.hb) (by intro e;cases e;omega)⟩,P1,.own (b:=1) (r:=⟨.slice (some ⟨g,0,none⟩) (nb El.row L).length cap,(((nb El.row L).map El.t3).map (·.2.2)).flatten⟩) (by unfold updM;rw[Ya rfl]) rfl,λb hb=>?_,by simp,P3,λk hk hzz=>P2.free k hk (hz k hzz),λb r0 hb h0=>P2.root b r0 h0⟩;simp only[updM];rw[Yb (by simp at hb;omega)];exact hdom1 b (by simp at hb;omega)
