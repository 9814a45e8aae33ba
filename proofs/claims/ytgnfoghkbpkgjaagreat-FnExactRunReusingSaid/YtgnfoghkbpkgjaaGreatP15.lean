/-
  Parts of the proofs for this seat: SO1 SE1 CM SO2 SO3 CPL CPW CPS SI KI KS SX SA SB SC SD.
-/
import Derived.BigQuiet
import Derived.BigRegion
import Derived.Deep.QuietTactic
import Derived.Lib.SlicesCompact
import Derived.Shelf.SlSortCmp.Kit1
import Derived.Shelf.SlSortCmp.NoneTotal
import Derived.Shelf.Slices.CompactI
import Derived.Shelf.Slices.In.SortNone
import Derived.Shelf.Sort.Plain
import Derived.Test.YtgnfoghkbpkgjaaGreatP3
import Derived.Test.YtgnfoghkbpkgjaaGreatP7
import Derived.Test.YtgnfoghkbpkgjaaGreatP13
import Derived.Test.YtgnfoghkbpkgjaaGreatP14
set_option linter.unusedSimpArgs false
set_option linter.unusedVariables false
set_option maxRecDepth 100000
set_option maxHeartbeats 4000000
namespace Go.Proofs.YtgnfoghkbpkgjaaGreat
open Go.RowKit Go.AM
theorem Zbi7{w:World}:∀{r:List Int} {vs:List Value} {fp:List Nat},TRs w (r.map ic).flatten vs fp->vs=r.map (Value.int .i64)
 |[],vs,fp,h=>by cases h;rfl
 |x::r,vs,fp,h=>by
  rw[Yv,Y1]at h;change TRs w (T.int .i64 x::(r.map ic).flatten) vs fp at h
  cases h with
  |cons h hs =>
   cases h;rw[Yv,<-Zbi7 hs]
theorem Zwm{w W:World}{r:List Int}{v:Value}{fp:List Nat}(h:TR w (.lst 1 (r.map ic)) v fp)(hW:∀g∈fp,W.heap[g]?=w.heap[g]?):Zhr W v r:=by
 have h:=h.frame hW;generalize he:r.map ic=es at h
 cases h with
 |lst0 sz a cap =>
  have:r=[]:=List.map_eq_nil_iff.1 he;subst this
  exact⟨a,cap,rfl,λj hj=>absurd hj (Nat.not_lt_zero _)⟩
 |@lst sz es g off cap c e fz fp hne hsz hcap hg hlen hc =>
  subst he;have hv:=Zbi7 hc;refine⟨some ⟨g,off,none⟩,cap,by rw[Ybf],λj hj=>⟨g,off,rfl,?_⟩⟩;have h1:((c.toList.drop off).take ((r.map ic).length*1))[j]?=some (.int .i64 r[j]):=by
   rw[hv,Ycg,Yg hj];rfl
  rw[Ybc,if_pos (by rw[Ybf];omega),Yc9]at h1;unfold World.cell?;rw[hg];simpa using h1
end Go.Proofs.YtgnfoghkbpkgjaaGreat
namespace Go.Proofs.YtgnfoghkbpkgjaaGreat
open Go.RowKit Go.Lib
theorem dropEq{a b:List Int}{k:Nat}(h1:k<a.length)(h2:k<b.length):decide (a.drop k=b.drop k)=(decide (a[k]=b[k]) && decide (a.drop (k+1)=b.drop (k+1))):=by
 rw[Bool.eq_iff_iff];simp only[Bool.and_eq_true,decide_eq_true_eq];rw[List.drop_eq_getElem_cons h1,List.drop_eq_getElem_cons h2,List.cons.injEq]
theorem eq_walk(v1 v2:Value)(a b:List Int)(w:World)(h1:Zhr w v1 a)(h2:Zhr w v2 b)(hl1:a.length<2305843009213693952)(hl2:b.length<2305843009213693952) :
  Calls Tryz.prog 334 #[v1,v2] w λe w'=>e=.returned (.bool (decide (a=b)))/\∃q,w'=w.drewN q:=by
 obtain⟨p1,c1,rfl,r1⟩:=h1;obtain⟨p2,c2,rfl,r2⟩:=h2;have mixed:Tryz.prog.follows Departure.mixedOrders=true:=by kernel_rfl
 by_cases hlen:a.length=b.length
 .obtain⟨n,hna⟩:∃n:Nat,a.length=n:=⟨_,rfl⟩;have hnb:b.length=n:=by omega
  rw[hna,hnb];have HN:Aside (a.length=n/\b.length=n):=⟨hna,hnb⟩;have hln:n<2305843009213693952:=by omega
  clear hna hnb hlen hl1 hl2;generalize hR:decide (a=b)=R;have HR:Aside (decide (a.drop 0=b.drop 0)=R):=hR;clear hR
  go_enter Tryz.func334,Tryz.ntmps334
  go_wp2
  go_loopg [5,13] n (λgg _ s13 wr=>∃kk q:Nat,kk<=n/\n-kk<=gg/\s13=.int .i64 kk/\wr=w.drewN q/\Aside (a.length=n/\b.length=n)/\Aside (decide (a.drop kk=b.drop kk)=R))
  case atStart=>exact⟨0,0,Nat.zero_le _,by omega,rfl,rfl,HN,HR⟩
  case round =>
   obtain⟨kk,q,hkk,hg,rfl,rfl,A,B⟩:=hrel;have hA:=A.out;obtain⟨hA1,hA2⟩:=hA;by_cases hltn:kk<n
   .have hltz:(kk:Int)<(n:Int):=by omega
    have hlta:kk<a.length:=by omega
    have hlt:kk<b.length:=by omega
    obtain⟨g1,o1,rfl,d1⟩:=r1 kk hlta;obtain⟨g2,o2,rfl,d2⟩:=r2 kk hlt;have S:Aside (decide (a.drop kk=b.drop kk)=(decide (a[kk]=b[kk]) && decide (a.drop (kk+1)=b.drop (kk+1)))):=by
     exact dropEq hlta hlt
    clear r1 r2 hA1 hA2;generalize a[kk]=x at d1 S;generalize b[kk]=y at d2 S;by_cases hz:x=y
    .subst hz
     go_wp2_with fail
     go_region_o
     go_wp2
     go_roundg (n-(kk+1))
     case measure=>omega
     case rel =>
      refine⟨kk+1,q+1,by omega,by omega,by go_num,rfl,A,(show Aside _ from ?_)⟩;have:=S.out;rw[B.out]at this;show decide (a.drop (kk+1)=b.drop (kk+1))=R;simpa using this.symm
    .have hr:R=false:=by rw[<-B.out,S.out];simp[hz]
     go_wp2_with fail
     go_region_o
     go_wp2
     go_ret
     exact⟨by subst hr;rfl,q+1,rfl⟩
   .have hltz:¬(kk:Int)<(n:Int):=by omega
    have hr:R=true:=by
     rw[<-B.out,show b.drop kk=[]from List.drop_of_length_le (by omega),show a.drop kk=[]from List.drop_of_length_le (by omega)];simp
    clear r1 r2 hA1 hA2
    go_wp2
    go_ret
    exact⟨by subst hr;rfl,q,rfl⟩
 .have hne:decide (a=b)=false:=by
   rw[decide_eq_false_iff_not];intro e;exact hlen (by rw[e])
  have hlz:¬(a.length:Int)=(b.length:Int):=by omega
  rw[hne];clear hne r1 r2
  go_enter Tryz.func334,Tryz.ntmps334
  go_wp2
  go_ret
  exact⟨rfl,0,rfl⟩
theorem eqf_walk(v1 v2:Value)(a b:List Int)(w:World)(h1:Zhr w v1 a)(h2:Zhr w v2 b)(hl1:a.length<2305843009213693952)(hl2:b.length<2305843009213693952) :
  Calls Tryz.prog 333 #[v1,v2] w λe w'=>e=.returned (.bool (decide (a=b)))/\∃q,w'=w.drewN q:=by
 have hc:=eq_walk v1 v2 a b w h1 h2 hl1 hl2;generalize decide (a=b)=R at hc|-;obtain⟨p1,c1,rfl,r1⟩:=h1;obtain⟨p2,c2,rfl,r2⟩:=h2;clear r1 r2
 go_enter Tryz.func333,Tryz.ntmps333
 go_wp2_with (refine hc.mono ?_;rintro e w' ⟨rfl,q,rfl⟩)
 go_ret
 exact⟨rfl,q,rfl⟩
end Go.Proofs.YtgnfoghkbpkgjaaGreat
namespace Go.Proofs.YtgnfoghkbpkgjaaGreat
theorem Zd7:∀a b:List Int,cmpR b a=- cmpR a b
 |[],[]=>rfl
 |[],_::_=>rfl
 |_::_,[]=>rfl
 |x::a,y::b=>by
  have ih:=Zd7 a b;simp only[cmpR];by_cases h1:x<y
  .rw[if_neg (by omega),if_pos h1,if_pos h1];rfl
  .by_cases h2:y<x
   .rw[if_pos h2,if_neg h1,if_pos h2]
   .rw[if_neg h2,if_neg h1,if_neg h1,if_neg h2];exact ih
theorem Zli:∀a b:List Int,cmpR a b=0->a=b
 |[],[],_=>rfl
 |[],_::_,h=>by simp[cmpR]at h
 |_::_,[],h=>by simp[cmpR]at h
 |x::a,y::b,h=>by
  simp only[cmpR]at h;by_cases h1:x<y
  .rw[if_pos h1]at h;cases h
  .rw[if_neg h1]at h;by_cases h2:y<x
   .rw[if_pos h2]at h;cases h
   .rw[if_neg h2]at h;rw[Zli a b h,show x=y by omega]
theorem Z5o(a:List Int):cmpR a a=0:=by have:=Zd7 a a;omega
theorem Zon:∀a b c:List Int,cmpR a b<=0->cmpR b c<=0->cmpR a c<=0
 |[],_,[],_,_=>by simp[cmpR]
 |[],_,_::_,_,_=>by simp[cmpR]
 |_::_,[],_,h,_=>by simp[cmpR]at h
 |_::_,_::_,[],_,h=>by simp[cmpR]at h
 |x::a,y::b,z::c,h1,h2=>by
  simp only[cmpR]at h1 h2|-;by_cases e1:x<y
  .by_cases e2:y<z
   .rw[if_pos (by omega)];decide
   .rw[if_neg e2]at h2;by_cases e3:z<y
    .rw[if_pos e3]at h2;exact absurd h2 (by decide)
    .rw[if_pos (by omega)];decide
  .rw[if_neg e1]at h1;by_cases e2:y<x
   .rw[if_pos e2]at h1;exact absurd h1 (by decide)
   .rw[if_neg e2]at h1;have:x=y:=by omega
    subst this;by_cases e3:x<z
    .rw[if_pos e3];decide
    .rw[if_neg e3]at h2|-;by_cases e4:z<x
     .rw[if_pos e4]at h2;exact absurd h2 (by decide)
     .rw[if_neg e4]at h2|-;exact Zon a b c h1 h2
theorem Zb01(a b c:List Int)(h1:leR a b=true)(h2:leR b c=true):leR a c=true:=by
 unfold leR at *
 simp only[decide_eq_true_eq]at *
 exact Zon a b c h1 h2
theorem Zb02(a b:List Int):(leR a b || leR b a)=true:=by
 unfold leR;have:=Zd7 a b;simp only[Bool.or_eq_true,decide_eq_true_eq];omega
theorem leR_anti(a b:List Int)(h1:leR a b=true)(h2:leR b a=true):a=b:=by
 unfold leR at *
 simp only[decide_eq_true_eq]at *
 have:=Zd7 a b;exact Zli a b (by omega)
theorem Zsb(rows:List (List Int)):(srtR rows).Perm rows:=List.mergeSort_perm _ _
theorem Zbi8(rows:List (List Int)):(srtR rows).Pairwise λa b=>leR a b=true:=List.pairwise_mergeSort Zb01 Zb02 rows
theorem Zb03{rows l:List (List Int)}(hp:l.Perm rows)(hs:l.Pairwise λa b=>leR a b=true):l=srtR rows :=
 List.Perm.eq_of_pairwise (λa b _ _=>leR_anti a b) hs (Zbi8 rows) (hp.trans (Zsb rows).symm)
theorem Z5p:∀(l:List (List Int)) (y:List Int),y∈cptR l↔y∈l
 |[],y=>by simp[cptR]
 |[a],y=>by simp[cptR]
 |a::b::l,y=>by
  unfold cptR;have ih:=Z5p (b::l) y;split
  .rename_i e;subst e;rw[ih];simp
  .rw[List.mem_cons,ih];simp
theorem Zbi9:∀l:List (List Int),(cptR l).length<=l.length
 |[]=>Nat.le_refl _
 |[a]=>Nat.le_refl _
 |a::b::l=>by
  unfold cptR;have:=Zbi9 (b::l);split
  .exact Nat.le_trans this (Nat.le_succ _)
  .exact Nat.succ_le_succ this
end Go.Proofs.YtgnfoghkbpkgjaaGreat
namespace Go.Proofs.YtgnfoghkbpkgjaaGreat
open Go.RowKit Go.AM Go.Lib Go.Sort
def Zbja:Prop:=∀(α:Type) [Inhabited α] (enc:α->Value) (_:OneCell enc) (cf:α->α->Int) (_:SWO (ltOf cf)) (blk off cap:Nat) (d:Array α) (w:World),CmpLays1 Tryz.prog 331 #[] enc cf blk off d.size w->Holds enc w blk off d->blk<w.heap.size->d.size<4611686018427387904->
 Calls Tryz.prog 330 #[.slice (some ⟨blk,off,none⟩) d.size cap,.func (.func 331) #[] #[]] w λe w'=>e=.returned (.tuple #[])/\∃d' n os,PermIn 0 d.size d d'/\SortedIn (ltOf cf) 0 d.size d'/\w'=sortWorld enc w blk off n d' os
def Zbjb:Prop:=∀(p:Option Addr) (cap:Nat) (w:World),Calls Tryz.prog 330 #[.slice p 0 cap,.func (.func 331) #[] #[]] w λe w'=>e=.returned (.tuple #[])/\w'=w
def El(w:World)(g:Nat):Type:={p:List Int×Value×List Nat // TR w (.lst 1 (p.1.map ic)) p.2.1 p.2.2/\(∀x∈p.2.2,x≠g)/\p.1.length<=4}
instance (w:World) (g:Nat):Inhabited (El w g):=⟨⟨([],.slice none 0 0,[]),.lst0 1 none 0,by simp,by simp⟩⟩
def El.enc{w:World}{g:Nat}(x:El w g):Value:=x.1.2.1
def El.row{w:World}{g:Nat}(x:El w g):List Int:=x.1.1
def El.tri{w:World}{g:Nat}(x:El w g):List (List Int)×Value×List Nat:=([x.1.1],x.1.2.1,x.1.2.2)
def El.t3{w:World}{g:Nat}(x:El w g):List T×List Value×List Nat:=(isc x.row,[x.enc],x.1.2.2)
theorem El.list{w:World}{g:Nat}:∀l:List (List T×List Value×List Nat),(∀p∈l,∃q:El w g,q.t3=p)->∃L:List (El w g),L.map El.t3=l
 |[],_=>⟨[],rfl⟩
 |p::l,h=>by
  obtain⟨q,hq⟩:=h p (by simp);obtain⟨L,hL⟩:=El.list l λp hp=>h p (by simp[hp])
  exact⟨q::L,by simp[hq,hL]⟩
def cfE{w:World}{g:Nat}(x y:El w g):Int:=cmpR x.row y.row
theorem swoE{w:World}{g:Nat}:SWO (ltOf (cfE (w:=w) (g:=g))) where
 irrefl x:=by unfold ltOf cfE;rw[Z5o];rfl
 trans x y z h1 h2:=by
  unfold ltOf cfE at *
  simp only[decide_eq_true_eq]at *
  have h3:=Zon _ _ _ (Int.le_of_lt h1) (Int.le_of_lt h2);have h4:=Zd7 x.row z.row;have h5:=Zd7 y.row z.row;rcases Yd6 h3 with h|h
  .exact h
  .have:=Zli _ _ h;rw[this]at h1;omega
 ntrans x y z h1 h2:=by
  unfold ltOf cfE at *
  simp only[decide_eq_false_iff_not]at *
  have h3:=Zd7 x.row y.row;have h4:=Zd7 y.row z.row;have h5:=Zd7 x.row z.row;have:=Zon z.row y.row x.row (by omega) (by omega);omega
theorem Zwn{α:Type}[Inhabited α](enc:α->Value)(w:World)(blk off n:Nat)(d:Array α)(os:Array Obj){k:Nat}(hk:k<w.heap.size)(hne:k≠blk):(sortWorld enc w blk off n d os).heap[k]?=w.heap[k]?:=by
 show((w.heap.modify blk (onCells (putCells enc off d)))++os)[k]?=_;rw[Yec (by simpa using hk),Ydp,if_neg (Ne.symm hne)]
theorem Zbjc{α:Type}[Inhabited α](enc:α->Value)(w:World)(blk off n:Nat)(d:Array α)(os:Array Obj){c:Array Value}{e:TypeId}{fz:Nat×Nat}(hg:w.heap[blk]?=some (.cells c e fz)):(sortWorld enc w blk off n d os).heap[blk]?=some (.cells (putCells enc off d c) e fz):=by
 have hk:blk<w.heap.size:=(Yb0.1 hg).1;show((w.heap.modify blk (onCells (putCells enc off d)))++os)[blk]?=_;rw[Yec (by simpa using hk),Ydp,if_pos rfl,hg];rfl
theorem cmp_lays(w:World)(g size:Nat):CmpLays1 Tryz.prog 331 #[] (El.enc (w:=w) (g:=g)) cfE g 0 size w:=by
 intro m os dk hs x y;have hx:=Zwm (W:=sortWorld El.enc w g 0 m dk os) x.2.1 λk hk=>Zwn _ _ _ _ _ _ _ (x.2.1.lt k hk) (x.2.2.1 k hk)
 have hy:=Zwm (W:=sortWorld El.enc w g 0 m dk os) y.2.1 λk hk=>Zwn _ _ _ _ _ _ _ (y.2.1.lt k hk) (y.2.2.1 k hk)
 have h4:=x.2.2.2;have h5:=y.2.2.2;refine(Zb00 x.enc y.enc x.row y.row _ hx hy (by unfold El.row;omega) (by unfold El.row;omega)).mono ?_;rintro e w' ⟨rfl,rfl⟩;exact⟨rfl,0,#[],by simp[grow,World.drewN]⟩
end Go.Proofs.YtgnfoghkbpkgjaaGreat
namespace Go.Proofs.YtgnfoghkbpkgjaaGreat
open Go.RowKit Go.AM Go.Lib Go.Sort
theorem el_of{w:World}{g:Nat}{r:List Int}{z:List Value}{f:List Nat}(h:TRs w (isc r) z f)(hf:∀x∈f,x≠g)(hr:r.length<=4):∃q:El w g,q.t3=(isc r,z,f):=by
 unfold isc at h
 cases h with
 |@cons t v fp ts vs fq h hs =>
  cases hs;rw[Y6]at hf|-;exact⟨⟨(r,v,fp),h,hf,hr⟩,rfl⟩
theorem Z5q{a b:List Int}(h:isc a=isc b):a=b:=by
 unfold isc at h;simp only[Ydz,T.lst.injEq,true_and,and_true]at h;exact(Ydq (f:=ic) (by intro x y hxy;simpa[ic]using hxy)).1 h
theorem Zwo{α:Type}[Inhabited α](enc:α->Value)(d:Array α)(c:Array Value)(h:d.size<=c.size):(putCells enc 0 d c).toList=d.toList.map enc++c.toList.drop d.size:=by
 refine Ycz (by simp[putCells];omega) λi h1 h2=>?_
 have hi:i<c.size:=by simpa[putCells]using h1
 simp only[putCells,Yd4,Array.getElem_mapIdx];by_cases e:i<d.size
 .rw[if_pos (by omega),List.getElem_append_left (by simpa using e)];simp[e]
 .rw[if_neg (by omega),List.getElem_append_right (by simp;omega)];simp;congr 1;omega
theorem Zwp{w:World}{g:Nat}:∀L:List (El w g),((L.map El.t3).map (·.2.1)).flatten=L.map El.enc
 |[]=>rfl
 |x::L=>by
  have ih:=Zwp L;simp only[Yv,Y1]at ih|-;rw[ih];rfl
theorem Zbjd{w:World}{g:Nat}(L:List (El w g)):(L.map El.t3).map (·.1)=(L.map El.row).map isc:=by simp[El.t3]
theorem Zb04(K:Zbja)(K0:Zbjb){fr:Bool}{rows:List (List Int)}(hlen:rows.length<=4096)(hr4:∀r∈rows,r.length<=4) :
  Zbt Tryz.prog 330 [.own 0,.fn 331 []] [.arr 30 1 fr (rows.map isc)] (.tup []) [.arr 30 1 fr ((srtR rows).map isc)]:=by
 refine⟨by decide +kernel,?_⟩;intro N base w ρ vs R hdom hv hz;obtain⟨l⟩:=vs;simp only at hv
 cases hv with|cons q0 hv =>
 cases hv with|cons q1 hv =>
 cases hv
 cases q0 with|own hr h1 =>
 rename_i r
 cases q1 with|fn q1 =>
 rename_i c;obtain⟨c⟩:=c;simp only at q1;cases q1;have hb:gt [Blk.arr 30 1 fr (rows.map isc)] 0=.arr 30 1 fr (rows.map isc):=by simp[gt]
 have hd0:gt [Blk.arr 30 1 fr (rows.map isc)] 0≠.dead:=by rw[hb];intro hc;cases hc
 obtain⟨r2,e1,e2⟩:=R.blk 0 hd0;rw[hr]at e1;cases e1;rw[hb]at e2;obtain⟨hex,e',xs,hel,ho,hsz,hlen1,htr,hfree,hfr,how⟩:=e2;obtain⟨hxl,ho⟩:=ho;rcases ho with⟨hrv,hn⟩|⟨g,cap,cur,hrv,hbg,hg,hcap,hcm,hcur,htake⟩
 .have hn:rows=[]:=by simpa using hn
  subst hn;rw[hrv];refine(K0 none 0 w).mono ?_;rintro e w' ⟨rfl,rfl⟩;exact⟨_,ρ,rfl,Below.refl _ _,by simpa[srtR]using R,.tup .nil,hdom,by simp,λ_ _ _=>rfl,λg hg hzz=>⟨by simpa[srtR]using hz g hzz,rfl⟩,λb r0 _ h=>⟨r0,h,rfl⟩⟩
 obtain⟨zs,hzx,hch⟩:=Ch.of htr;obtain⟨l,p1,p2,p3,p4⟩:=hch.zip;have hblk:Zbg r.v=some g:=by rw[hrv];rfl
 have hfg:∀x∈r.fp,x≠g:=λx hx e=>by
  subst e;exact(hfree x hx).2 0 r hr hd0 (.inl hblk)
 have hgs:g<w.heap.size:=(Yb0.1 hg).1
 obtain⟨L,hL⟩:=El.list (w:=w) (g:=g) l (by
  intro p hp;have hm:p.1∈rows.map isc:=by rw[<-p1];exact Y3.2 ⟨p,hp,rfl⟩
  obtain⟨r0,hr0,e0⟩:=Y3.1 hm;have ht:=p4 p hp;rw[<-e0]at ht;obtain⟨q,hq⟩:=el_of (g:=g) ht (λx hx=>hfg x (by rw[<-p3];exact Ycx.2 ⟨p.2.2,Y3.2 ⟨p,hp,rfl⟩,hx⟩)) (hr4 r0 hr0)
  exact⟨q,by rw[hq,e0]⟩)
 subst hL;have hrows:L.map El.row=rows:=by
  have:(L.map El.row).map isc=rows.map isc:=by rw[<-p1];simp[El.t3]
  exact(Ydq (λa b h=>Z5q h)).1 this
 have hLl:L.length=rows.length:=by rw[<-hrows,Ybf]
 have henc:L.map El.enc=cur.toList.take ((rows.map isc).length*1):=by
  rw[htake,<-hzx,<-p2];simp[El.t3];clear p1 p2 p3 p4 hrows hLl
  induction L with
  |nil=>rfl
  |cons x L ih=>simp[ih];rfl
 have hcell:Holds El.enc w g 0 L.toArray:=by
  intro j hj;have hj':j<L.length:=by simpa using hj
  have h2:cur[j]?=some (L[j].enc):=by
   have h3:(cur.toList.take ((rows.map isc).length*1))[j]?=some (L[j].enc):=by rw[<-henc,Ycg,Yg hj'];rfl
   rw[Ybc,if_pos (by simp;omega)]at h3;simpa using h3
  refine⟨?_,?_⟩
  .unfold World.cell?;rw[hg];simp[h2,hj']
  .simp[World.frozen?,hg]
 have hcall:=K (El w g) El.enc (λx=>x.2.1.one) cfE swoE g 0 cap L.toArray w (cmp_lays w g _) hcell hgs (by simp;omega);rw[hrv,show(rows.map isc).length=L.toArray.size by simp[hLl]];refine hcall.mono ?_;rintro e w' ⟨rfl,d',n,os,hP,hS,rfl⟩;have hds:d'.size=L.length:=by have:=hP.1;simpa using this
 have hperm:d'.toList.Perm L:=by
  have:=hP.2.2;rw[show L.toArray.size=d'.size from hP.1.symm,Array.extract_size]at this;rw[hP.1,Array.extract_size]at this;simpa using this
 have hgr:w.grownBy (sortWorld El.enc w g 0 n d' os) (some g):=⟨rfl,rfl,rfl,by show w.heap.size<=((w.heap.modify g _)++os).size;simp,λk hk hne=>Zwn _ _ _ _ _ _ _ hk (by intro e;exact hne (by rw[e]))⟩;have hpl:(d'.toList.map El.t3).Perm (L.map El.t3):=hperm.map _
 obtain⟨P1,P2,P3⟩:=Zbi5 R hr (by intro b hb;exact hdom b (by simpa using hb)) hrv hg p1 (by rw[p2,hzx,htake]) p3 p4 hpl ⟨_,Zbjc _ _ _ _ _ _ _ hg,by
  rw[Zwo _ _ _ (by simp at hcap;omega),Zwp,hds,hLl];simp⟩ hgr
 have hsd:(d'.toList.map El.row)=srtR rows:=by
  refine Zb03 (by rw[<-hrows];exact hperm.map _) ?_;rw[List.pairwise_map,Yb6];intro i j hi hj hij;have h:=hS i j (Yb _) hij (by simp at hj|-;omega);rw[getElem!_pos d' j (by simpa using hj),getElem!_pos d' i (by simpa using hi)]at h;unfold ltOf cfE at h;unfold leR;simp only[decide_eq_false_iff_not,decide_eq_true_eq,Yd4]at h|-;have:=Zd7 d'[i].row d'[j].row;omega
 rw[Zbjd,hsd]at P1 P2;refine⟨_,_,rfl,⟨hgr.os,hgr.tape,hgr.output,hgr.size,λk hk=>hgr.block k (Ych hk R.hb) (by intro e;cases e;omega)⟩,P1,.tup .nil,λb hb=>?_,by simp,P3,λk hk hzz=>P2.free k hk (hz k hzz),λb r0 hb h0=>P2.root b r0 h0⟩;simp only[updM];rw[if_neg (by simp at hb;omega)];exact hdom b (by simpa using hb)
end Go.Proofs.YtgnfoghkbpkgjaaGreat
namespace Go.Proofs.YtgnfoghkbpkgjaaGreat
open Go.Sort
section
variable{α β:Type}[Inhabited α][DecidableEq β](f:α->β)
def nbk(p:α):List α->List α
 |[]=>[]
 |x::l=>if f x=f p then nbk x l else x::nbk x l
def nb:List α->List α
 |[]=>[]
 |x::l=>x::nbk f x l
omit [Inhabited α] in
theorem Zbje:∀(l:List α) (p y:α),nbk f p (l++[y])=nbk f p l++if f y=f (l.getLastD p)then[]else[y]
 |[],p,y=>by by_cases h:f y=f p<;>simp[nbk,h]
 |x::l,p,y=>by
  rw[List.cons_append,nbk,nbk,Zbje l x y,List.getLastD_cons];split<;>rfl
omit [Inhabited α] in
theorem nb_snoc:∀(l:List α) (p y:α),l≠[]->nb f (l++[y])=nb f l++if f y=f (l.getLastD p)then[]else[y]
 |[],p,y,h=>absurd rfl h
 |x::l,p,y,_=>by
  rw[List.cons_append,nb,nb,Zbje,List.getLastD_cons];rfl
omit [Inhabited α] in
theorem Z5r:∀(l:List α) (p:α),(nbk f p l).Sublist l
 |[],p=>.slnil
 |x::l,p=>by
  rw[nbk];split
  .exact(Z5r l x).cons _
  .exact(Z5r l x).cons_cons _
omit [Inhabited α] in
theorem nb_sub:∀l:List α,(nb f l).Sublist l
 |[]=>.slnil
 |x::l=>(Z5r f l x).cons_cons _
theorem Zwq{l:List α}{m:Nat}(h0:0<m)(h:m<l.length):nb f (l.take (m+1))=nb f (l.take m)++if f l[m]! = f l[m-1]! then[]else[l[m]!]:=by
 have hl:(l.take m).getLastD default=l[m-1]:=by
  rw[List.getLastD_eq_getLast?,List.getLast?_take,if_neg (by omega),List.getElem?_eq_getElem (show m-1<l.length by omega)];rfl
 rw[List.take_succ_eq_append_getElem h,nb_snoc f _ default _ (by intro e;have:=congrArg List.length e;rw[List.length_take,List.length_nil]at this;omega),hl,getElem!_pos l m h,getElem!_pos l (m-1) (by omega)]
structure CInv (d:Array α) (m k:Nat) (e:Array α):Prop where
 len:(nb f (d.toList.take m)).length=k
 lt:k<m
 row:e.toList=nb f (d.toList.take m)++d.toList.drop k
omit [Inhabited α] in
theorem CInv.size{d e:Array α}{m k:Nat}(I:CInv f d m k e)(hm:m<=d.size):e.size=d.size:=by
 have h1:=I.lt;rw[<-Array.length_toList,I.row,List.length_append,I.len,List.length_drop,Array.length_toList];omega
theorem CInv.read{d e:Array α}{m k:Nat}(I:CInv f d m k e)(hm:m<=d.size){j:Nat}(hj:k<=j)(hd:j<d.size):e[j]! = d[j]!:=by
 have hs:=I.size f hm;have h:=I.len;have h2:e.toList[j]?=d.toList[j]?:=by
  rw[I.row,List.getElem?_append_right (by omega),List.getElem?_drop,h];congr 1;omega
 rw[getElem!_pos e j (by omega),getElem!_pos d j hd];rw[Array.getElem?_toList,Array.getElem?_toList,Array.getElem?_eq_getElem (by omega),Array.getElem?_eq_getElem hd]at h2;exact Option.some.inj h2
theorem Zi8(d:Array α)(j:Nat):d.toList[j]! = d[j]!:=by simp[Array.getElem!_eq_getD,Array.getD_eq_getD_getElem?]
theorem CInv.start{d:Array α}{k:Nat}(h0:0<k)(hk:k<d.size)(ha:nb f (d.toList.take k)=d.toList.take k)(he:f d[k]! = f d[k-1]!):CInv f d (k+1) k d:=by
 have h:=Zwq f h0 (show k<d.toList.length from hk);rw[Zi8,Zi8,if_pos he,List.append_nil,ha]at h;refine⟨?_,Nat.lt_succ_self _,?_⟩
 .rw[h,List.length_take,Array.length_toList];omega
 .rw[h,List.take_append_drop]
theorem CInv.skip{d e:Array α}{m k:Nat}(I:CInv f d m k e)(hm:m<d.size)(he:f d[m]! = f d[m-1]!):CInv f d (m+1) k e:=by
 have hl:=I.lt;have h:=Zwq f (show 0<m by omega) (show m<d.toList.length from hm);rw[Zi8,Zi8,if_pos he,List.append_nil]at h;exact⟨by rw[h];exact I.len,by omega,by rw[h];exact I.row⟩
theorem CInv.keep{d e:Array α}{m k:Nat}(I:CInv f d m k e)(hm:m<d.size)(he:¬f d[m]! = f d[m-1]!):CInv f d (m+1) (k+1) (e.setIfInBounds k d[m]!):=by
 have hl:=I.lt;have hn:=I.len;have h:=Zwq f (show 0<m by omega) (show m<d.toList.length from hm);rw[Zi8,Zi8,if_neg he]at h;refine⟨by rw[h,List.length_append,hn];rfl,by omega,?_⟩;rw[Array.toList_setIfInBounds,I.row,h,List.set_append_right _ _ (by omega),hn,Nat.sub_self,List.drop_eq_getElem_cons (show k<d.toList.length by rw[Array.length_toList];omega),List.set_cons_zero];simp
omit [Inhabited α] in
theorem CInv.fill{d e:Array α}{k:Nat}(I:CInv f d d.size k e)(z:α):(Lib.lay e k (List.replicate (d.size-k) z)).toList=nb f d.toList++List.replicate (d.size-k) z:=by
 have hs:=I.size f (Nat.le_refl _);have hl:=I.lt;have hr:=I.row;have hn:=I.len;rw[show d.toList.take d.size=d.toList from List.take_of_length_le (by simp)]at hr hn;apply List.ext_getElem?;intro j;rw[Array.getElem?_toList,Lib.lay_get? _ _ _ _ (by simp;omega),List.length_replicate];by_cases h1:j<k
 .rw[if_neg (by omega),List.getElem?_append_left (by omega),<-Array.getElem?_toList,hr,List.getElem?_append_left (by omega)]
 .rw[List.getElem?_append_right (by omega),hn];by_cases h2:j<d.size
  .rw[if_pos (by omega)]
  .rw[if_neg (by omega),Array.getElem?_eq_none (by omega),List.getElem?_eq_none (by simp;omega)]
theorem nb_next{d:Array α}{k:Nat}(h0:0<k)(hk:k<d.size)(ha:nb f (d.toList.take k)=d.toList.take k)(he:¬f d[k]! = f d[k-1]!):nb f (d.toList.take (k+1))=d.toList.take (k+1):=by
 have h:=Zwq f h0 (show k<d.toList.length from hk);rw[Zi8,Zi8,if_neg he,ha]at h;rw[h,List.take_succ_eq_append_getElem (show k<d.toList.length from hk)];simp[getElem!_pos,hk]
omit [Inhabited α] in
theorem nb_one{d:Array α}(h:d.size<=1):nb f d.toList=d.toList:=by
 obtain⟨l⟩:=d
 match l with
 |[]=>rfl
 |[a]=>rfl
 |a::b::l=>simp at h
omit [Inhabited α] in
theorem nb_one1(d:Array α):nb f (d.toList.take 1)=d.toList.take 1:=by
 obtain⟨l⟩:=d
 cases l with
 |nil=>rfl
 |cons a l=>simp[nb,nbk]
end
theorem nb_cpt{α:Type}(f:α->List Int):∀l:List α,(nb f l).map f=cptR (l.map f)
 |[]=>rfl
 |[a]=>rfl
 |a::b::l=>by
  have ih:=nb_cpt f (b::l);rw[nb]at ih;rw[nb,nbk,List.map_cons,List.map_cons,List.map_cons,cptR];rw[List.map_cons,List.map_cons]at ih;by_cases e:f b=f a
  .rw[if_pos e,if_pos e.symm,<-ih,e]
  .rw[if_neg e,if_neg (λh=>e h.symm),<-ih];rfl
end Go.Proofs.YtgnfoghkbpkgjaaGreat
namespace Go.Proofs.YtgnfoghkbpkgjaaGreat
open Go.RowKit Go.AM Go.Lib Go.Sort
theorem Zbjf{α:Type}[Inhabited α](enc:α->Value)(w:World)(blk off n:Nat)(d:Array α){k:Nat}(hne:k≠blk):(putRow enc (Sort.ahead w n) blk off d).heap[k]?=w.heap[k]?:=by
 show(w.heap.modify blk (onCells (putCells enc off d)))[k]?=_;rw[Ydp,if_neg (Ne.symm hne)]
theorem Zwr{w:World}{g q n:Nat}{d:Array (El w g)}:(putRow El.enc (Sort.ahead w q) g 0 d).drewN n=putRow El.enc (Sort.ahead w (q+n)) g 0 d:=by
 simp[putRow,mapBlock,Sort.ahead,World.drewN,Yde]
theorem Zbjg{w wr:World}{g:Nat}(hwr:∀k,k≠g->wr.heap[k]?=w.heap[k]?)(x y:El w g)(n:Nat) :
  Calls Tryz.prog 333 #[x.enc,y.enc] (wr.drewN n) λr w'=>r=.returned (.bool (decide (x.row=y.row)))/\∃p,w'=(wr.drewN n).drewN p:=by
 have hx:=Zwm (W:=wr.drewN n) x.2.1 λk hk=>hwr k (x.2.2.1 k hk)
 have hy:=Zwm (W:=wr.drewN n) y.2.1 λk hk=>hwr k (y.2.2.1 k hk)
 have h4:=x.2.2.2;have h5:=y.2.2.2;exact eqf_walk x.enc y.enc x.row y.row _ hx hy (by unfold El.row;omega) (by unfold El.row;omega)
theorem El.one{w:World}{g:Nat}(x:El w g):x.enc.oneCell'=true:=x.2.1.one
theorem put_at{w w':World}{g q kk:Nat}{dk:Array (El w g)}{z:El w g}{x:Value}(hk:kk<dk.size)(hw:w'=putRow El.enc (Sort.ahead w q) g 0 dk)(hx:El.enc z=x):w'.setCell ⟨g,kk,none⟩ x=putRow El.enc (Sort.ahead w q) g 0 (dk.setIfInBounds kk z):=by
 subst hw;subst hx;have:=putRow_set El.enc (Sort.ahead w q) g 0 dk kk z hk
 rwa [Ys]at this
theorem put_end{w wr:World}{g q kk:Nat}{d dk:Array (El w g)}(f:El w g->List Int)(I:CInv f d d.size kk dk)(z:El w g)(hw:wr=putRow El.enc (Sort.ahead w q) g 0 dk):wr.setCells g kk (List.replicate (d.size-kk) z.enc)=putRow El.enc (Sort.ahead w q) g 0 (nb f d.toList++List.replicate (d.size-kk) z).toArray:=by
 subst hw;have hs:=I.size f (Yc _);have hl:=I.lt;have:=putRow_setCells El.enc (Sort.ahead w q) g 0 (List.replicate (d.size-kk) z) dk kk (by simp;omega);rw[Ys,Yd0]at this;rw[this];congr 1;rw[<-I.fill f z]
theorem cpt_nil(w:World):Calls Tryz.prog 332 #[.slice none 0 0,.func (.func 333) #[] #[]] w λe w'=>e=.returned (.slice none 0 0)/\w'=w:=by
 have mixed:Tryz.prog.follows Departure.mixedOrders=true:=by kernel_rfl
 go_enter Tryz.func332,Tryz.ntmps332
 go_wp2
 go_ret
 exact⟨rfl,rfl⟩
theorem cpt_walk{w:World}{g:Nat}(cap:Nat)(d:Array (El w g))(hH:Holds El.enc w g 0 d)(hsz:d.size<=4096)(hcap:d.size<=cap) :
  Calls Tryz.prog 332 #[.slice (some ⟨g,0,none⟩) d.size cap,.func (.func 333) #[] #[]] w λe w'=>e=.returned (.slice (some ⟨g,0,none⟩) (nb El.row d.toList).length cap)/\
   ∃q,w'=putRow El.enc (Sort.ahead w q) g 0 (nb El.row d.toList++List.replicate (d.size-(nb El.row d.toList).length) default).toArray:=by
 have mixed:Tryz.prog.follows Departure.mixedOrders=true:=by kernel_rfl
 have HS:Aside (∀q,nb El.row d.toList=d.toList->(nb El.row d.toList).length=d.size/\putRow El.enc (Sort.ahead w q) g 0 d=putRow El.enc (Sort.ahead w q) g 0 (nb El.row d.toList++List.replicate (d.size-(nb El.row d.toList).length) default).toArray):=by
  intro q e;rw[e];simp
 have HH:Aside (Holds El.enc w g 0 d):=hH;clear hH;by_cases h2:d.size<2
 .go_enter Tryz.func332,Tryz.ntmps332
  go_wp2
  go_ret
  obtain⟨e1,e2⟩:=HS.out 0 (nb_one El.row (by omega));refine⟨by rw[e1];rfl,0,?_⟩;rw[<-e2];exact(putRow_self El.enc w g 0 d HH.out).symm
 .go_enter Tryz.func332,Tryz.ntmps332
  go_wp2
  go_loopg [5] d.size (λgg s5 wr=>∃k q:Nat,1<=k/\k<=d.size/\d.size-k<=gg/\s5=.int .i64 k/\Aside (wr=putRow El.enc (Sort.ahead w q) g 0 d)/\Aside (nb El.row (d.toList.take k)=d.toList.take k))
  case atStart=>exact⟨1,0,Yc _,by omega,by omega,rfl,(putRow_self El.enc w g 0 d HH.out).symm,nb_one1 El.row d⟩
  case round =>
   obtain⟨k,q,hk1,hk,hg,rfl,W,A⟩:=hrel;by_cases hlt:k<d.size
   .have hHk:Holds El.enc wr g 0 d:=by rw[W.out];exact holds_putRow El.enc _ g 0 d d (holds_ahead El.enc w q g 0 d HH.out) rfl
    obtain⟨kp,rfl⟩:∃kp,k=kp+1:=⟨k-1,by omega⟩;obtain⟨c1,f1⟩:=hHk (kp+1) hlt;obtain⟨c0,f0⟩:=hHk kp (by omega);have hcall:=Zbjg (w:=w) (wr:=wr) (g:=g) (λk hk=>by rw[W.out];exact Zbjf _ _ _ _ _ _ hk) d[kp+1]! d[kp]!;simp only[Ys]at c1 c0 f1 f0;clear hHk;have hwp:IntKind.i64.wrap (kp:Int)=(kp:Int):=by rw[IntKind.wrap_i64];omega
    have jz:(kp:Int)+1<(d.size:Int):=by omega
    have jz1:(kp:Int)<(d.size:Int):=by omega
    have p0:(0:Int)<=(kp:Int)+1:=by omega
    have e0:((kp:Int)+1).toNat=kp+1:=by omega
    generalize El.enc d[kp+1]! = x at c1 hcall;generalize El.enc d[kp]! = y at c0 hcall;by_cases hdup:El.row d[kp+1]! = El.row d[kp]!
    .rw[decide_eq_true hdup]at hcall;have DD:Aside (El.row d[kp+1]! = El.row d[kp]!):=hdup;clear hdup
     go_wp2_with fail
     go_quiet (refine Calls.quiet_of (hcall _))
     go_wp2_with fail
     have W3:Aside (wr.drewN nq=putRow El.enc (Sort.ahead w (q+nq)) g 0 d):=by show _=_;rw[W.out,Zwr]
     clear hcall c0 c1 f0 f1;generalize wr.drewN nq=wz at W3|-
     go_loopg [5,7] d.size (λgg s5 s7 wr=>∃(kk k2 q2:Nat) (dk:Array (El w g)),s5=.int .i64 kk/\s7=.int .i64 k2/\1<=k2/\kp+1+k2<=d.size/\d.size-(kp+1+k2)<=gg/\Aside (wr=putRow El.enc (Sort.ahead w q2) g 0 dk)/\Aside (CInv El.row d (kp+1+k2) kk dk))
     case atStart=>exact⟨kp+1,1,q+nq,d,rfl,rfl,Yc _,by omega,by omega,W3,CInv.start El.row (by omega) hlt A.out DD.out⟩
     case round =>
      clear W W3;obtain⟨kk,k2,q2,dk,rfl,rfl,h1,hle,hg2,W2,I2⟩:=hrel;have hkk:=I2.out.lt;have hds:=I2.out.size El.row hle;have hHk:Holds El.enc wr g 0 dk:=by rw[W2.out];exact holds_putRow El.enc _ g 0 d dk (holds_ahead El.enc w q2 g 0 d HH.out) hds
      obtain⟨kz,rfl⟩:∃kz,k2=kz+1:=⟨k2-1,by omega⟩;by_cases hlt2:kp+1+(kz+1)<d.size
      .obtain⟨cm,_⟩:=hHk (kp+1+(kz+1)) (by omega);obtain⟨cp,_⟩:=hHk (kp+1+kz) (by omega);obtain⟨ck,fk⟩:=hHk kk (by omega);rw[I2.out.read El.row hle (by omega) hlt2,Ys]at cm;rw[I2.out.read El.row hle (by omega) (by omega),Ys]at cp;rw[Ys]at ck fk;clear hHk;have hcall:=Zbjg (w:=w) (wr:=wr) (g:=g) (λk hk=>by rw[W2.out];exact Zbjf _ _ _ _ _ _ hk) d[kp+1+(kz+1)]! d[kp+1+kz]!;have st:∀a m w1,_:=λa m w1=>run_store Tryz.prog w1 a (El.enc d[kp+1+(kz+1)]!) m (El.one _)
       obtain⟨x,hx⟩:∃x,El.enc d[kp+1+(kz+1)]! = x:=⟨_,rfl⟩;have cl:=OneCell.cells (enc:=El.enc) El.one d[kp+1+(kz+1)]!;rw[hx]at cm hcall st cl;simp only[Value.cells]at cl;have XE:Aside (El.enc d[kp+1+(kz+1)]! = x):=hx;clear hx;generalize El.enc d[kp+1+kz]! = y at cp hcall;generalize El.enc dk[kk]! = old at ck;have jz:(kz:Int)+1<((d.size-(kp+1):Nat):Int):=by omega
       have jz1:(kz:Int)<((d.size-(kp+1):Nat):Int):=by omega
       have hwz:IntKind.i64.wrap (kz:Int)=(kz:Int):=by rw[IntKind.wrap_i64];omega
       have q0:(0:Int)<=(kz:Int)+1:=by omega
       have r0:((kz:Int)+1).toNat=kz+1:=by omega
       have kkz:(kk:Int)<(d.size:Int):=by omega
       by_cases hdup2:El.row d[kp+1+(kz+1)]! = El.row d[kp+1+kz]!
       .rw[decide_eq_true hdup2]at hcall;have D2:Aside (El.row d[kp+1+(kz+1)]! = El.row d[kp+1+kz]!):=hdup2;clear hdup2
        go_wp2_with fail
        go_quiet (refine Calls.quiet_of (hcall _))
        go_wp2
        go_roundg (d.size-(kp+1+(kz+1+1)))
        case measure=>omega
        case rel=>exact⟨kk,kz+1+1,q2+nq,dk,rfl,by go_num,by omega,by omega,Yc _,(show Aside _ from by show _=_;rw[W2.out,Zwr]),I2.out.skip El.row hlt2 D2.out⟩
       .rw[decide_eq_false hdup2]at hcall;have D2:Aside (¬El.row d[kp+1+(kz+1)]! = El.row d[kp+1+kz]!):=hdup2;clear hdup2
        go_wp2_with fail
        go_quiet (refine Calls.quiet_of (hcall _))
        go_wp2_with fail
        have W4:Aside (wr.drewN nq=putRow El.enc (Sort.ahead w (q2+nq)) g 0 dk):=by show _=_;rw[W2.out,Zwr]
        clear hcall cm cp ck fk;generalize wr.drewN nq=wq at W4|-
        go_roundg (d.size-(kp+1+(kz+1+1)))
        case measure=>omega
        case rel=>exact⟨kk+1,kz+1+1,q2+nq,dk.setIfInBounds kk d[kp+1+(kz+1)]!,by go_num,by go_num,by omega,by omega,Yc _,(show Aside _ from put_at (by omega) W4.out XE.out),I2.out.keep El.row hlt2 D2.out⟩
      .have hend:kp+1+(kz+1)=d.size:=by omega
       have jz:¬(kz:Int)+1<((d.size-(kp+1):Nat):Int):=by omega
       have kkz:(kk:Int)<=(d.size:Int):=by omega
       have hcl:∀ty,(Builtin.clear_ #[34] ty #[.slice (some ⟨g,kk,none⟩) (d.size-kk) (cap-kk)]).run Tryz.prog wr=.ok (.tuple #[]) (wr.setCells g kk (List.replicate (d.size-kk) (.slice none 0 0))) :=
        λty=>Lib.run_clear_slice wr _ _ ty _ Tryz.underlying34 Tryz.zeroValue30 rfl rfl g kk _ _ (by omega) (λj hj=>by have:=(hHk (kk+j) (by omega)).1;rw[Ys]at this;rw[this];rfl) (λj hj=>by have:=(hHk (kk+j) (by omega)).2;rw[Ys]at this;exact this)
       clear hHk
       go_wp2
       go_ret
       have hI:=I2.out;rw[hend]at hI;have hlen:=hI.len;rw[show d.toList.take d.size=d.toList from Yb3 (by simp)]at hlen;exact⟨by rw[hlen];rfl,q2,by rw[hlen];exact put_end El.row hI default W2.out⟩
    .rw[decide_eq_false hdup]at hcall;have DD:Aside (¬El.row d[kp+1]! = El.row d[kp]!):=hdup;clear hdup
     go_wp2_with fail
     go_quiet (refine Calls.quiet_of (hcall _))
     go_wp2
     go_roundg (d.size-(kp+1+1))
     case measure=>omega
     case rel=>exact⟨kp+1+1,q+nq,by omega,by omega,Yc _,by go_num,(show Aside _ from by show _=_;rw[W.out,Zwr]),nb_next El.row (by omega) hlt A.out DD.out⟩
   .have hk2:k=d.size:=by omega
    have hltz:¬(k:Int)<(d.size:Int):=by omega
    go_wp2
    go_ret
    obtain⟨e1,e2⟩:=HS.out q (by have:=A.out;rw[hk2,show d.toList.take d.size=d.toList from Yb3 (by simp)]at this;exact this);exact⟨by rw[e1];rfl,q,by rw[<-e2];exact W.out⟩
end Go.Proofs.YtgnfoghkbpkgjaaGreat
namespace Go.Proofs.YtgnfoghkbpkgjaaGreat
open Go.RowKit Go.AM Go.Lib Go.Sort
theorem Zbjh{N:Par}{base:Nat}{ρ:Map}{w w':World}{el sz:Nat}{fr:Bool}(R:Rel N base ρ [.arr el sz fr []] w){r:Root}(hr:ρ 0=some r)(hdom:∀b,1<=b->ρ b=none)(hgr:w.grownBy w' none) :
  Rel N base (updM ρ 1 ⟨.slice none 0 0,[],[]⟩) [.dead,.arr el sz fr []] w'/\
   Keeps ρ w (Free N ρ [.arr el sz fr []]) (updM ρ 1 ⟨.slice none 0 0,[],[]⟩) w' (Free N (updM ρ 1 ⟨.slice none 0 0,[],[]⟩) [.dead,.arr el sz fr []])/\
   ∀g,g<w.heap.size->¬N.a g->w'.heap[g]?=w.heap[g]?:=by
 have hb:gt [Blk.arr el sz fr []] 0=.arr el sz fr []:=by simp[gt]
 have hd:gt [Blk.arr el sz fr []] 0≠.dead:=by rw[hb];intro hc;cases hc
 obtain⟨r1,h1,h2⟩:=R.blk 0 hd;rw[hr]at h1;cases h1;rw[hb]at h2;obtain⟨hex,e2,xs,hel,ho,hsz,hlen,htr,hfree,hfr,how⟩:=h2;have hup:upd [Blk.arr el sz fr []] (kill [0]++[(1,.arr el sz fr [])])=[.dead,.arr el sz fr []]:=by simp[upd,kill,stB]
 have hp:=Zg4 R (n:=1) (ks:=[0]) (x:=.arr el sz fr []) (r:=⟨.slice none 0 0,[],[]⟩) (row:=none) (w':=w')
  (by intro r0 h0;rw[hdom 1 (Yc _)]at h0;cases h0) hgr
  (by intro g' hg';cases hg') (by intro g' hg';cases hg')
  (λhk=>⟨rfl,e2,[],hel,⟨by simp,.inl ⟨rfl,rfl⟩⟩,hsz,(by intro x hx;cases hx),.nil,(by intro x hx;cases hx),λ_=>⟨.nil,by intro x hx;cases hx⟩,λ_=>.nil⟩)
  (by intro _ x hx;cases hx)
 rw[hup]at hp;exact hp
theorem Zbji{α:Type}[Inhabited α](enc:α->Value)(w:World)(blk off n:Nat)(d:Array α){k:Nat}(hne:k≠blk):(putRow enc (Sort.ahead w n) blk off d).heap[k]?=w.heap[k]?:=by
 show(w.heap.modify blk (onCells (putCells enc off d)))[k]?=_;rw[Ydp,if_neg (Ne.symm hne)]
theorem Zbjj{α:Type}[Inhabited α](enc:α->Value)(w:World)(blk off n:Nat)(d:Array α){c:Array Value}{e:TypeId}{fz:Nat×Nat}(hg:w.heap[blk]?=some (.cells c e fz)):(putRow enc (Sort.ahead w n) blk off d).heap[blk]?=some (.cells (putCells enc off d c) e fz):=by
 show(w.heap.modify blk (onCells (putCells enc off d)))[blk]?=_;rw[Ydp,if_pos rfl,hg];rfl
theorem Zb05{fr:Bool}{rows:List (List Int)}(hlen:rows.length<=4096)(hr4:∀r∈rows,r.length<=4) :
  Zbt Tryz.prog 332 [.own 0,.fn 333 []] [.arr 30 1 fr (rows.map isc)] (.own 1) [.dead,.arr 30 1 fr ((cptR rows).map isc)]:=by
 refine⟨by decide +kernel,?_⟩;intro N base w ρ vs R hdom hv hz;obtain⟨l⟩:=vs;simp only at hv
 cases hv with|cons q0 hv =>
 cases hv with|cons q1 hv =>
 cases hv
 cases q0 with|own hr h1 =>
 rename_i r
 cases q1 with|fn q1 =>
 rename_i c;obtain⟨c⟩:=c;simp only at q1;cases q1;have hb:gt [Blk.arr 30 1 fr (rows.map isc)] 0=.arr 30 1 fr (rows.map isc):=by simp[gt]
 have hd0:gt [Blk.arr 30 1 fr (rows.map isc)] 0≠.dead:=by rw[hb];intro hc;cases hc
 obtain⟨r2,e1,e2⟩:=R.blk 0 hd0;rw[hr]at e1;cases e1;rw[hb]at e2;obtain⟨hex,e',xs,hel,ho,hsz,hlen1,htr,hfree,hfr,how⟩:=e2;obtain⟨hxl,ho⟩:=ho;have hdom1:∀b,1<=b->ρ b=none:=by intro b hb;exact hdom b (by simpa using hb)
 rcases ho with⟨hrv,hn⟩|⟨g,cap,cur,hrv,hbg,hg,hcap,hcm,hcur,htake⟩
 .have hn:rows=[]:=by simpa using hn
  subst hn;rw[hrv];refine(cpt_nil w).mono ?_;rintro e w' ⟨rfl,rfl⟩;obtain⟨p1,p2,p3⟩:=Zbjh R hr hdom1 (w':=w') ⟨rfl,rfl,rfl,Yc _,λ_ _ _=>rfl⟩;refine⟨_,_,rfl,Below.refl _ _,p1,.own (b:=1) (r:=⟨.slice none 0 0,[],[]⟩) (by simp[updM]) rfl,λb hb=>?_,by simp,p3,λk hk hzz=>p2.free k hk (hz k hzz),λb r0 hb h0=>p2.root b r0 h0⟩;simp only[updM];rw[if_neg (by simp at hb;omega)];exact hdom1 b (by simp at hb;omega)
 obtain⟨zs,hzx,hch⟩:=Ch.of htr;obtain⟨l,p1,p2,p3,p4⟩:=hch.zip;have hblk:Zbg r.v=some g:=by rw[hrv];rfl
 have hfg:∀x∈r.fp,x≠g:=λx hx e=>by
  subst e;exact(hfree x hx).2 0 r hr hd0 (.inl hblk)
 have hgs:g<w.heap.size:=(Yb0.1 hg).1
 obtain⟨L,hL⟩:=El.list (w:=w) (g:=g) l (by
  intro p hp;have hm:p.1∈rows.map isc:=by rw[<-p1];exact Y3.2 ⟨p,hp,rfl⟩
  obtain⟨r0,hr0,e0⟩:=Y3.1 hm;have ht:=p4 p hp;rw[<-e0]at ht;obtain⟨q,hq⟩:=el_of (g:=g) ht (λx hx=>hfg x (by rw[<-p3];exact Ycx.2 ⟨p.2.2,Y3.2 ⟨p,hp,rfl⟩,hx⟩)) (hr4 r0 hr0)
  exact⟨q,by rw[hq,e0]⟩)
 subst hL;have hrows:L.map El.row=rows:=by
  have:(L.map El.row).map isc=rows.map isc:=by rw[<-p1];simp[El.t3]
  exact(Ydq (λa b h=>Z5q h)).1 this
 have hLl:L.length=rows.length:=by rw[<-hrows,Ybf]
 have henc:L.map El.enc=cur.toList.take ((rows.map isc).length*1):=by
  rw[htake,<-hzx,<-p2,Zwp]
 have hcell:Holds El.enc w g 0 L.toArray:=by
  intro j hj;have hj':j<L.length:=by simpa using hj
  have h2:cur[j]?=some (L[j].enc):=by
   have h3:(cur.toList.take ((rows.map isc).length*1))[j]?=some (L[j].enc):=by rw[<-henc,Ycg,Yg hj'];rfl
   rw[Ybc,if_pos (by simp;omega)]at h3;simpa using h3
  refine⟨?_,?_⟩
  .unfold World.cell?;rw[hg];simp[h2,hj']
  .simp[World.frozen?,hg]
 have hcall:=cpt_walk (w:=w) (g:=g) cap L.toArray hcell (by simp;omega) (by simp at hcap|-;omega);rw[hrv,show(rows.map isc).length=L.toArray.size by simp[hLl]];refine hcall.mono ?_;rintro e w' ⟨rfl,q,rfl⟩;have hsub:=nb_sub El.row L;have hnl:(nb El.row L).length<=L.length:=hsub.length_le;have hgr:w.grownBy (putRow El.enc (Sort.ahead w q) g 0 (nb El.row L++List.replicate (L.length-(nb El.row L).length) default).toArray) (some g) :=
  ⟨rfl,rfl,rfl,by show w.heap.size<=(w.heap.modify g _).size;simp,λk hk hne=>Zbji _ _ _ _ _ _ (by intro e;exact hne (by rw[e]))⟩
 obtain⟨P1,P2,P3⟩:=Zbi6 R hr hdom1 hrv hg p1 (by rw[p2,hzx,htake]) p3 p4 (hsub.map El.t3) (zr:=List.replicate (L.length-(nb El.row L).length) (El.enc (default:El w g))) (by simp[hLl]) ⟨_,Zbjj _ _ _ _ _ _ hg,by
  rw[Zwo _ _ _ (by simp at hcap|-;omega),Zwp];simp only[Ybm,Yd0,Ydc,Yp,Ydu,Ybf]
  rw[show(nb El.row L).length+(L.length-(nb El.row L).length)=rows.length*1 by omega]⟩ hgr
 rw[Zbjd,nb_cpt,hrows,Ybf]at P1 P2;have hln:(nb El.row L.toArray.toList).length=(nb El.row L).length:=rfl;refine⟨_,_,rfl,⟨hgr.os,hgr.tape,hgr.output,hgr.size,λk hk=>hgr.block k (Ych hk R.hb) (by intro e;cases e;omega)⟩,P1,.own (b:=1) (r:=⟨.slice (some ⟨g,0,none⟩) (nb El.row L).length cap,(((nb El.row L).map El.t3).map (·.2.2)).flatten,[]⟩) (by unfold updM;rw[if_pos rfl]) rfl,λb hb=>?_,by simp,P3,λk hk hzz=>P2.free k hk (hz k hzz),λb r0 hb h0=>P2.root b r0 h0⟩;simp only[updM];rw[if_neg (by simp at hb;omega)];exact hdom1 b (by simp at hb;omega)
end Go.Proofs.YtgnfoghkbpkgjaaGreat
namespace Go.Proofs.YtgnfoghkbpkgjaaGreat
open Go.RowKit Go.AM Go.Lib Go.Sort
def Zbjk:Prop:=∀(blk off cap:Nat) (zs:List Int) (w:World),Holds (Value.int .i64) w blk off zs.toArray->blk<w.heap.size->zs.length<4611686018427387904->
 Calls Tryz.prog 316 #[.slice (some ⟨blk,off,none⟩) zs.length cap] w λe w'=>e=.returned (.tuple #[])/\∃n os,w'=grow (putRow (Value.int .i64) (Sort.ahead w n) blk off (zs.mergeSort λx y=>decide (x<=y)).toArray) os
def Zbjl:Prop:=∀(p:Option Addr) (cap:Nat) (w:World),Calls Tryz.prog 316 #[.slice p 0 cap] w λe w'=>e=.returned (.tuple #[])/\w'=w
def Zbjm:Prop:=∀(blk off cap:Nat) (zs:List Int) (w:World),Holds (Value.int .i64) w blk off zs.toArray->zs.length<=9223372036854775807->zs.length<=cap->
 Calls Tryz.prog 388 #[.slice (some ⟨blk,off,none⟩) zs.length cap] w λe w'=>e=.returned (.slice (some ⟨blk,off,none⟩) (Lib.compact zs).length cap)/\∃q,w'=putRow (Value.int .i64) (Sort.ahead w q) blk off (Lib.compact zs++List.replicate (zs.length-(Lib.compact zs).length) 0).toArray
def Zbjn:Prop:=∀(a:Option Addr) (cap:Nat) (w:World),Calls Tryz.prog 388 #[.slice a 0 cap] w λe w'=>e=.returned (.slice a 0 cap)/\w'=w
def tri(z:Int):List T×List Value×List Nat:=(ic z,[Value.int .i64 z],[])
theorem Z5s{w:World}:∀{r:List Int} {vs:List Value} {fp:List Nat},TRs w (r.map ic).flatten vs fp->vs=r.map (Value.int .i64)/\fp=[]
 |[],vs,fp,h=>by cases h;exact⟨rfl,rfl⟩
 |x::r,vs,fp,h=>by
  rw[Yv,Y1]at h;change TRs w (T.int .i64 x::(r.map ic).flatten) vs fp at h
  cases h with
  |cons h hs =>
   cases h;obtain⟨e1,e2⟩:=Z5s hs;subst e1;subst e2;exact⟨rfl,rfl⟩
theorem tri1(l:List Int):(l.map tri).map (·.1)=l.map ic:=by simp[tri]
theorem tri2(l:List Int):((l.map tri).map (·.2.1)).flatten=l.map (Value.int .i64):=by
 induction l with
 |nil=>rfl
 |cons x l ih=>simp only[Yv,Y1];rw[ih];rfl
theorem tri3(l:List Int):((l.map tri).map (·.2.2)).flatten=[]:=by
 induction l with
 |nil=>rfl
 |cons x l ih=>simp only[Yv,Y1];rw[ih];rfl
theorem tri4{w:World}(l:List Int):∀p∈l.map tri,TRs w p.1 p.2.1 p.2.2:=by
 intro p hp;obtain⟨z,-,rfl⟩:=Y3.1 hp;exact TRs.cons (TR.int _ _) TRs.nil
theorem kp_cons{a b:Int}{l:List Int}(j:Nat):keeps (a::b::l).toArray (j+2)=keeps (b::l).toArray (j+1):=by
 unfold keeps;simp
theorem Zbjo:∀l:List Int,Lib.compact l=cptI l
 |[]=>rfl
 |[a]=>by simp[Lib.compact,compactUpTo,keeps,cptI,Yca]
 |a::b::l=>by
  have ih:=Zbjo (b::l);have e:∀(c:Int) (m:List Int),Lib.compact (c::m)=c::((List.range m.length).filter λj=>keeps (c::m).toArray (j+1)).map λj=>(c::m).toArray[j+1]!:=by
   intro c m;unfold Lib.compact compactUpTo;rw[Yr,List.range_succ_eq_map,Ycw,if_pos (by simp[keeps]),Yv,List.filter_map,List.map_map];rfl
  rw[e,Yr,List.range_succ_eq_map,Ycw,cptI];rw[e]at ih;have h0:keeps (a::b::l).toArray (0+1)=decide (¬a=b):=by
   unfold keeps;by_cases h:a=b
   .simp[h]
   .simp[h,Ne.symm h]
  have hf:(List.map Nat.succ (List.range l.length)).filter (λj=>keeps (a::b::l).toArray (j+1))=((List.range l.length).filter λj=>keeps (b::l).toArray (j+1)).map Nat.succ:=by
   rw[List.filter_map];congr 1;exact List.filter_congr λj _=>kp_cons j
  have hm:((List.map Nat.succ (List.range l.length)).filter (λj=>keeps (a::b::l).toArray (j+1))).map (λj=>(a::b::l).toArray[j+1]!)=((List.range l.length).filter λj=>keeps (b::l).toArray (j+1)).map λj=>(b::l).toArray[j+1]!:=by
   rw[hf,List.map_map];refine Yb7 λj _=>?_
   simp
  by_cases h:a=b
  .rw[if_pos h,if_neg (by rw[h0];simp[h]),hm,<-ih,h]
  .rw[if_neg h,if_pos (by rw[h0];simp[h]),Yv,hm,<-ih];rfl
theorem Z5t:∀l:List Int,(cptI l).Sublist l
 |[]=>.slnil
 |[a]=>List.Sublist.refl _
 |a::b::l=>by
  unfold cptI;split
  .exact(Z5t (b::l)).cons _
  .exact(Z5t (b::l)).cons_cons _
theorem Zbjp{w:World}{g:Nat}{zs:List Int}{cur:Array Value}{e:TypeId}(hg:w.heap[g]?=some (.cells cur e (0,0)))(ht:cur.toList.take zs.length=zs.map (Value.int .i64)):Holds (Value.int .i64) w g 0 zs.toArray:=by
 intro j hj;have hj':j<zs.length:=by simpa using hj
 have h2:cur[j]?=some (.int .i64 zs[j]):=by
  have h3:(cur.toList.take zs.length)[j]?=some (.int .i64 zs[j]):=by rw[ht,Ycg,Yg hj'];rfl
  rw[Ybc,if_pos hj']at h3;simpa using h3
 refine⟨?_,?_⟩
 .unfold World.cell?;rw[hg];simp[h2,hj']
 .simp[World.frozen?,hg]
theorem Zb06(K:Zbjk)(K0:Zbjl){fr:Bool}{zs:List Int}(hlen:zs.length<=4096) :
  Zbt Tryz.prog 316 [.own 0] [.arr 3 1 fr (zs.map ic)] (.tup []) [.arr 3 1 fr ((srtI zs).map ic)]:=by
 refine⟨by decide +kernel,?_⟩;intro N base w ρ vs R hdom hv hz;obtain⟨l⟩:=vs;simp only at hv
 cases hv with|cons q0 hv =>
 cases hv
 cases q0 with|own hr h1 =>
 rename_i r;have hb:gt [Blk.arr 3 1 fr (zs.map ic)] 0=.arr 3 1 fr (zs.map ic):=by simp[gt]
 have hd0:gt [Blk.arr 3 1 fr (zs.map ic)] 0≠.dead:=by rw[hb];intro hc;cases hc
 obtain⟨r2,e1,e2⟩:=R.blk 0 hd0;rw[hr]at e1;cases e1;rw[hb]at e2;obtain⟨hex,e',xs,hel,ho,hsz,hlen1,htr,hfree,hfr,how⟩:=e2;obtain⟨hxl,ho⟩:=ho;rcases ho with⟨hrv,hn⟩|⟨g,cap,cur,hrv,hbg,hg,hcap,hcm,hcur,htake⟩
 .have hn:zs=[]:=by simpa using hn
  subst hn;rw[hrv];refine(K0 none 0 w).mono ?_;rintro e w' ⟨rfl,rfl⟩;exact⟨_,ρ,rfl,Below.refl _ _,by simpa[srtI]using R,.tup .nil,hdom,by simp,λ_ _ _=>rfl,λg hg hzz=>⟨by simpa[srtI]using hz g hzz,rfl⟩,λb r0 _ h=>⟨r0,h,rfl⟩⟩
 obtain⟨hx1,hx2⟩:=Z5s htr;have hgs:g<w.heap.size:=(Yb0.1 hg).1;have hzl:(zs.map ic).length*1=zs.length:=by simp
 have htk:cur.toList.take zs.length=zs.map (Value.int .i64):=by rw[<-hzl,htake,hx1]
 have hcall:=K g 0 cap zs w (Zbjp hg htk) hgs (by omega);rw[hrv,show(zs.map ic).length=zs.length by simp];refine hcall.mono ?_;rintro e w' ⟨rfl,n,os,rfl⟩;have hgr:w.grownBy (sortWorld (Value.int .i64) w g 0 n (srtI zs).toArray os) (some g):=⟨rfl,rfl,rfl,by show w.heap.size<=((w.heap.modify g _)++os).size;simp,λk hk hne=>Zwn _ _ _ _ _ _ _ hk (by intro e;exact hne (by rw[e]))⟩;have hperm:(srtI zs).Perm zs:=Yef _ _;have hsl:(srtI zs).length=zs.length:=hperm.length_eq
 obtain⟨P1,P2,P3⟩:=Zbi5 R hr (by intro b hb;exact hdom b (by simpa using hb)) hrv hg (tri1 zs) (by rw[tri2,hzl,htk]) (by rw[tri3,hx2]) (tri4 zs) (hperm.map tri) ⟨_,Zbjc _ _ _ _ _ _ _ hg,by
  rw[Zwo _ _ _ (by simp at hcap;simp;omega),tri2];simp[hsl]⟩ hgr
 rw[tri1]at P1 P2;refine⟨_,_,rfl,⟨hgr.os,hgr.tape,hgr.output,hgr.size,λk hk=>hgr.block k (Ych hk R.hb) (by intro e;cases e;omega)⟩,P1,.tup .nil,λb hb=>?_,by simp,P3,λk hk hzz=>P2.free k hk (hz k hzz),λb r0 hb h0=>P2.root b r0 h0⟩;simp only[updM];rw[if_neg (by simp at hb;omega)];exact hdom b (by simpa using hb)
theorem Zb07(K:Zbjm)(K0:Zbjn){fr:Bool}{zs:List Int}(hlen:zs.length<=4096) :
  Zbt Tryz.prog 388 [.own 0] [.arr 3 1 fr (zs.map ic)] (.own 1) [.dead,.arr 3 1 fr ((cptI zs).map ic)]:=by
 refine⟨by decide +kernel,?_⟩;intro N base w ρ vs R hdom hv hz;obtain⟨l⟩:=vs;simp only at hv
 cases hv with|cons q0 hv =>
 cases hv
 cases q0 with|own hr h1 =>
 rename_i r;have hb:gt [Blk.arr 3 1 fr (zs.map ic)] 0=.arr 3 1 fr (zs.map ic):=by simp[gt]
 have hd0:gt [Blk.arr 3 1 fr (zs.map ic)] 0≠.dead:=by rw[hb];intro hc;cases hc
 obtain⟨r2,e1,e2⟩:=R.blk 0 hd0;rw[hr]at e1;cases e1;rw[hb]at e2;obtain⟨hex,e',xs,hel,ho,hsz,hlen1,htr,hfree,hfr,how⟩:=e2;obtain⟨hxl,ho⟩:=ho;have hdom1:∀b,1<=b->ρ b=none:=by intro b hb;exact hdom b (by simpa using hb)
 rcases ho with⟨hrv,hn⟩|⟨g,cap,cur,hrv,hbg,hg,hcap,hcm,hcur,htake⟩
 .have hn:zs=[]:=by simpa using hn
  subst hn;rw[hrv];refine(K0 none 0 w).mono ?_;rintro e w' ⟨rfl,rfl⟩;obtain⟨p1,p2,p3⟩:=Zbjh R hr hdom1 (w':=w') ⟨rfl,rfl,rfl,Yc _,λ_ _ _=>rfl⟩;refine⟨_,_,rfl,Below.refl _ _,p1,.own (b:=1) (r:=⟨.slice none 0 0,[],[]⟩) (by simp[updM]) rfl,λb hb=>?_,by simp,p3,λk hk hzz=>p2.free k hk (hz k hzz),λb r0 hb h0=>p2.root b r0 h0⟩;simp only[updM];rw[if_neg (by simp at hb;omega)];exact hdom1 b (by simp at hb;omega)
 obtain⟨hx1,hx2⟩:=Z5s htr;have hgs:g<w.heap.size:=(Yb0.1 hg).1;have hzl:(zs.map ic).length*1=zs.length:=by simp
 have htk:cur.toList.take zs.length=zs.map (Value.int .i64):=by rw[<-hzl,htake,hx1]
 have hcall:=K g 0 cap zs w (Zbjp hg htk) (by omega) (by simpa using hcap);rw[Zbjo]at hcall;rw[hrv,show(zs.map ic).length=zs.length by simp];refine hcall.mono ?_;rintro e w' ⟨rfl,q,rfl⟩;have hsub:=Z5t zs;have hnl:(cptI zs).length<=zs.length:=hsub.length_le;have hgr:w.grownBy (putRow (Value.int .i64) (Sort.ahead w q) g 0 (cptI zs++List.replicate (zs.length-(cptI zs).length) 0).toArray) (some g) :=
  ⟨rfl,rfl,rfl,by show w.heap.size<=(w.heap.modify g _).size;simp,λk hk hne=>Zbji _ _ _ _ _ _ (by intro e;exact hne (by rw[e]))⟩
 obtain⟨P1,P2,P3⟩:=Zbi6 R hr hdom1 hrv hg (tri1 zs) (by rw[tri2,hzl,htk]) (by rw[tri3,hx2]) (tri4 zs) (hsub.map tri) (zr:=List.replicate (zs.length-(cptI zs).length) (Value.int .i64 0)) (by simp) ⟨_,Zbjj _ _ _ _ _ _ hg,by
  rw[Zwo _ _ _ (by simp at hcap|-;omega),tri2];simp only[Ybm,Yd0,Ydc,Yp,Ydu,Ybf]
  rw[show(cptI zs).length+(zs.length-(cptI zs).length)=zs.length*1 by omega]⟩ hgr
 rw[tri1,Ybf]at P1 P2;refine⟨_,_,rfl,⟨hgr.os,hgr.tape,hgr.output,hgr.size,λk hk=>hgr.block k (Ych hk R.hb) (by intro e;cases e;omega)⟩,P1,.own (b:=1) (r:=⟨.slice (some ⟨g,0,none⟩) (cptI zs).length cap,(((cptI zs).map tri).map (·.2.2)).flatten,[]⟩) (by unfold updM;rw[if_pos rfl]) rfl,λb hb=>?_,by simp,P3,λk hk hzz=>P2.free k hk (hz k hzz),λb r0 hb h0=>P2.root b r0 h0⟩;simp only[updM];rw[if_neg (by simp at hb;omega)];exact hdom1 b (by simp at hb;omega)
end Go.Proofs.YtgnfoghkbpkgjaaGreat
namespace Go.Proofs.YtgnfoghkbpkgjaaGreat
open Go.RowKit Go.AM Go.Lib Go.Sort Go.Shelf
def sI_ren:Go.Shelf.Ren:=⟨λ|189=>316|125=>386|257=>385|128=>417|129=>418|294=>408|295=>409|296=>410|297=>411|298=>412|299=>413|216=>414|300=>415|301=>416|328=>433|329=>434|330=>435|331=>436|332=>437|215=>438|343=>443|n=>n,λ|28=>30|3=>3|46=>382|0=>0|51=>407|53=>409|4=>4|183=>401|182=>400|131=>157|5=>5|9=>9|218=>421|222=>389|228=>428|229=>429|n=>n,λ|n=>n⟩
theorem sI:Go.Proofs.Lays.n189 Tryz.prog sI_ren:={ mixed:=by kernel_rfl,f125:=Tryz.func386.trans (congrArg some (by kernel_rfl)),f128:=Tryz.func417.trans (congrArg some (by kernel_rfl)),f129:=Tryz.func418.trans (congrArg some (by kernel_rfl)),f189:=Tryz.func316.trans (congrArg some (by kernel_rfl)),f215:=Tryz.func438.trans (congrArg some (by kernel_rfl)),f216:=Tryz.func414.trans (congrArg some (by kernel_rfl)),f257:=Tryz.func385.trans (congrArg some (by kernel_rfl)),f294:=Tryz.func408.trans (congrArg some (by kernel_rfl)),f295:=Tryz.func409.trans (congrArg some (by kernel_rfl)),f296:=Tryz.func410.trans (congrArg some (by kernel_rfl)),f297:=Tryz.func411.trans (congrArg some (by kernel_rfl)),f298:=Tryz.func412.trans (congrArg some (by kernel_rfl)),f299:=Tryz.func413.trans (congrArg some (by kernel_rfl)),f300:=Tryz.func415.trans (congrArg some (by kernel_rfl)),f301:=Tryz.func416.trans (congrArg some (by kernel_rfl)),f328:=Tryz.func433.trans (congrArg some (by kernel_rfl)),f329:=Tryz.func434.trans (congrArg some (by kernel_rfl)),f330:=Tryz.func435.trans (congrArg some (by kernel_rfl)),f331:=Tryz.func436.trans (congrArg some (by kernel_rfl)),f332:=Tryz.func437.trans (congrArg some (by kernel_rfl)),f343:=Tryz.func443.trans (congrArg some (by kernel_rfl)),t0:=Tryz.underlying0,a0:=Tryz.isAgg0,z0:=Tryz.sizeOf0,v0:=Tryz.zeroValue0,t3:=Tryz.underlying3,a3:=Tryz.isAgg3,z3:=Tryz.sizeOf3,v3:=Tryz.zeroValue3,t4:=Tryz.underlying4,a4:=Tryz.isAgg4,z4:=Tryz.sizeOf4,v4:=Tryz.zeroValue4,t5:=Tryz.underlying5,a5:=Tryz.isAgg5,z5:=Tryz.sizeOf5,v5:=Tryz.zeroValue5,t9:=Tryz.underlying9,a9:=Tryz.isAgg9,z9:=Tryz.sizeOf9,v9:=Tryz.zeroValue9,t28:=Tryz.underlying30,a28:=Tryz.isAgg30,z28:=Tryz.sizeOf30,v28:=Tryz.zeroValue30,t46:=Tryz.underlying382,a46:=Tryz.isAgg382,z46:=Tryz.sizeOf382,v46:=Tryz.zeroValue382,t51:=Tryz.underlying407,a51:=Tryz.isAgg407,z51:=Tryz.sizeOf407,v51:=Tryz.zeroValue407,t53:=Tryz.underlying409,a53:=Tryz.isAgg409,z53:=Tryz.sizeOf409,v53:=Tryz.zeroValue409,t131:=Tryz.underlying157,a131:=Tryz.isAgg157,z131:=Tryz.sizeOf157,v131:=Tryz.zeroValue157,t182:=Tryz.underlying400,a182:=Tryz.isAgg400,z182:=Tryz.sizeOf400,v182:=Tryz.zeroValue400,t183:=Tryz.underlying401,a183:=Tryz.isAgg401,z183:=Tryz.sizeOf401,v183:=Tryz.zeroValue401,t218:=Tryz.underlying421,a218:=Tryz.isAgg421,z218:=Tryz.sizeOf421,v218:=Tryz.zeroValue421,t222:=Tryz.underlying389,a222:=Tryz.isAgg389,z222:=Tryz.sizeOf389,v222:=Tryz.zeroValue389,t228:=Tryz.underlying428,a228:=Tryz.isAgg428,z228:=Tryz.sizeOf428,v228:=Tryz.zeroValue428,t229:=Tryz.underlying429,a229:=Tryz.isAgg429,z229:=Tryz.sizeOf429,v229:=Tryz.zeroValue429 }
def cI_ren:Go.Shelf.Ren:=⟨λ|20=>388|n=>n,λ|22=>30|3=>3|4=>4|0=>0|n=>n,λ|n=>n⟩
theorem cI:Go.Proofs.Lays2.n20 Tryz.prog cI_ren:={ mixed:=by kernel_rfl,f20:=Tryz.func388.trans (congrArg some (by kernel_rfl)),t0:=Tryz.underlying0,a0:=Tryz.isAgg0,z0:=Tryz.sizeOf0,v0:=Tryz.zeroValue0,t3:=Tryz.underlying3,a3:=Tryz.isAgg3,z3:=Tryz.sizeOf3,v3:=Tryz.zeroValue3,t4:=Tryz.underlying4,a4:=Tryz.isAgg4,z4:=Tryz.sizeOf4,v4:=Tryz.zeroValue4,t22:=Tryz.underlying30,a22:=Tryz.isAgg30,z22:=Tryz.sizeOf30,v22:=Tryz.zeroValue30,i3:=by kernel_rfl }
theorem kitSortI:Zbjk:=λblk off cap zs w hH hb hz=>Any.slices_Sort_int sI blk off cap zs w hH hb hz
theorem Zb08:Zbjl:=λp cap w=>Any.slices_Sort_int_none sI p cap w
theorem kitCptI:Zbjm:=λblk off cap zs w hH hz hc=>Any.slices_Compact_int cI blk off cap zs w hH hz hc
theorem kitCptI0:Zbjn:=λa cap w=>Any.slices_Compact_int_empty cI a cap w
end Go.Proofs.YtgnfoghkbpkgjaaGreat
namespace Go.Proofs.YtgnfoghkbpkgjaaGreat
open Go.RowKit Go.AM Go.Lib Go.Sort Go.Shelf
def Zb09:Go.Shelf.Ren:=⟨λ|6=>330|15=>386|14=>393|28=>417|29=>418|20=>419|21=>421|22=>422|23=>423|24=>424|25=>425|26=>426|27=>427|46=>440|47=>434|48=>435|49=>441|50=>442|57=>445|n=>n,λ|22=>34|24=>30|25=>230|3=>3|39=>382|0=>0|53=>407|55=>409|4=>4|46=>401|45=>400|50=>157|5=>5|9=>9|66=>421|70=>389|76=>428|77=>429|n=>n,λ|n=>n⟩
theorem sortR:Go.Proofs.SlLaysF.n6 Tryz.prog Zb09:={ mixed:=by kernel_rfl,f6:=⟨Tryz.f330.name,by decide,Tryz.func330.trans (congrArg some (by kernel_rfl))⟩,f14:=⟨Tryz.f393.name,by decide,Tryz.func393.trans (congrArg some (by kernel_rfl))⟩,f15:=Tryz.func386.trans (congrArg some (by kernel_rfl)),f20:=⟨Tryz.f419.name,by decide,Tryz.func419.trans (congrArg some (by kernel_rfl))⟩,f21:=⟨Tryz.f421.name,by decide,Tryz.func421.trans (congrArg some (by kernel_rfl))⟩,f22:=⟨Tryz.f422.name,by decide,Tryz.func422.trans (congrArg some (by kernel_rfl))⟩,f23:=⟨Tryz.f423.name,by decide,Tryz.func423.trans (congrArg some (by kernel_rfl))⟩,f24:=⟨Tryz.f424.name,by decide,Tryz.func424.trans (congrArg some (by kernel_rfl))⟩,f25:=⟨Tryz.f425.name,by decide,Tryz.func425.trans (congrArg some (by kernel_rfl))⟩,f26:=⟨Tryz.f426.name,by decide,Tryz.func426.trans (congrArg some (by kernel_rfl))⟩,f27:=⟨Tryz.f427.name,by decide,Tryz.func427.trans (congrArg some (by kernel_rfl))⟩,f28:=Tryz.func417.trans (congrArg some (by kernel_rfl)),f29:=Tryz.func418.trans (congrArg some (by kernel_rfl)),f46:=⟨Tryz.f440.name,by decide,Tryz.func440.trans (congrArg some (by kernel_rfl))⟩,f47:=Tryz.func434.trans (congrArg some (by kernel_rfl)),f48:=Tryz.func435.trans (congrArg some (by kernel_rfl)),f49:=⟨Tryz.f441.name,by decide,Tryz.func441.trans (congrArg some (by kernel_rfl))⟩,f50:=⟨Tryz.f442.name,by decide,Tryz.func442.trans (congrArg some (by kernel_rfl))⟩,f57:=⟨Tryz.f445.name,by decide,Tryz.func445.trans (congrArg some (by kernel_rfl))⟩,t0:=Tryz.underlying0,a0:=Tryz.isAgg0,z0:=Tryz.sizeOf0,v0:=Tryz.zeroValue0,t3:=Tryz.underlying3,a3:=Tryz.isAgg3,z3:=Tryz.sizeOf3,v3:=Tryz.zeroValue3,t4:=Tryz.underlying4,a4:=Tryz.isAgg4,z4:=Tryz.sizeOf4,v4:=Tryz.zeroValue4,t5:=Tryz.underlying5,a5:=Tryz.isAgg5,z5:=Tryz.sizeOf5,v5:=Tryz.zeroValue5,t9:=Tryz.underlying9,a9:=Tryz.isAgg9,z9:=Tryz.sizeOf9,v9:=Tryz.zeroValue9,t22:=Tryz.underlying34,a22:=Tryz.isAgg34,z22:=Tryz.sizeOf34,v22:=Tryz.zeroValue34,a24:=Tryz.isAgg30,z24:=Tryz.sizeOf30,t25:=Tryz.underlying230,a25:=Tryz.isAgg230,z25:=Tryz.sizeOf230,v25:=Tryz.zeroValue230,t39:=Tryz.underlying382,a39:=Tryz.isAgg382,z39:=Tryz.sizeOf382,v39:=Tryz.zeroValue382,t45:=Tryz.underlying400,a45:=Tryz.isAgg400,z45:=Tryz.sizeOf400,v45:=Tryz.zeroValue400,t46:=Tryz.underlying401,a46:=Tryz.isAgg401,z46:=Tryz.sizeOf401,v46:=Tryz.zeroValue401,t50:=Tryz.underlying157,a50:=Tryz.isAgg157,z50:=Tryz.sizeOf157,v50:=Tryz.zeroValue157,t53:=Tryz.underlying407,a53:=Tryz.isAgg407,z53:=Tryz.sizeOf407,v53:=Tryz.zeroValue407,t55:=Tryz.underlying409,a55:=Tryz.isAgg409,z55:=Tryz.sizeOf409,v55:=Tryz.zeroValue409,t66:=Tryz.underlying421,a66:=Tryz.isAgg421,z66:=Tryz.sizeOf421,v66:=Tryz.zeroValue421,t70:=Tryz.underlying389,a70:=Tryz.isAgg389,z70:=Tryz.sizeOf389,v70:=Tryz.zeroValue389,t76:=Tryz.underlying428,a76:=Tryz.isAgg428,z76:=Tryz.sizeOf428,v76:=Tryz.zeroValue428,t77:=Tryz.underlying429,a77:=Tryz.isAgg429,z77:=Tryz.sizeOf429,v77:=Tryz.zeroValue429 }
theorem kitSort:Zbja:=by
 intro α _ enc h1 cf hO blk off cap d w hcmp hH hblk hsz;have eg:∀args w,(callFunc 331 args).run Tryz.prog w=.ok (.enter 331 args) w:=enters_of Tryz.func331 (by kernel_rfl) rfl;exact Any.slices_SortFunc sortR enc h1 cf hO 331 #[] blk off cap d w eg hcmp hH hblk hsz
theorem kitSort0:Zbjb:=λp cap w=>AnyF.slices_SortFunc_none { sortR with } p cap _ w
theorem Zb1a{a b:List (List Int)}(h:a.map isc=b.map isc):a=b:=(Ydq (λ_ _ h=>Z5q h)).1 h
theorem ic_inj{a b:List Int}(h:a.map ic=b.map ic):a=b:=(Ydq (f:=ic) (by intro x y hxy;simpa[ic]using hxy)).1 h
theorem Zbjq{rows:List (List Int)}(h1:rows.length<=4096)(h2:∀r∈rows,r.length<=4)(k:List (List Int)->AV×List Blk):extS (rows.map isc) k=some (k rows):=by
 have h:∃r,Z9m (rows.map isc) r:=⟨rows,rfl,h1,h2⟩;unfold extS;rw[dif_pos h,Zb1a h.choose_spec.1.symm]
theorem Zbjr{l:List Int}(h1:l.length<=4096)(k:List Int->AV×List Blk):extI (l.map ic) k=some (k l):=by
 have h:∃r,Z9n (l.map ic) r:=⟨l,rfl,h1⟩;unfold extI;rw[dif_pos h,ic_inj h.choose_spec.1.symm]
theorem Zb1b(f:Nat)(xs:List AV)(h0:List Blk)(r:AV)(hr:List Blk)(h:ext f xs h0=some (r,hr)):Zbt Tryz.prog f xs h0 r hr:=by
 unfold ext at h;split at h
 .split at h
  .subst f;unfold extS at h;split at h
   .rename_i hc;obtain⟨h1,h2,h3⟩:=hc.choose_spec;generalize hc.choose=rows at h h1 h2 h3;subst h1;cases h;exact Zb04 kitSort kitSort0 h2 h3
   .cases h
  .cases h
 .split at h
  .subst f;unfold extS at h;split at h
   .rename_i hc;obtain⟨h1,h2,h3⟩:=hc.choose_spec;generalize hc.choose=rows at h h1 h2 h3;subst h1;cases h;exact Zb05 h2 h3
   .cases h
  .cases h
 .split at h
  .subst f;unfold extI at h;split at h
   .rename_i hc;obtain⟨h1,h2⟩:=hc.choose_spec;generalize hc.choose=l at h h1 h2;subst h1;cases h;exact Zb06 kitSortI Zb08 h2
   .cases h
  .split at h
   .subst f;unfold extI at h;split at h
    .rename_i hc;obtain⟨h1,h2⟩:=hc.choose_spec;generalize hc.choose=l at h h1 h2;subst h1;cases h;exact Zb07 kitCptI kitCptI0 h2
    .cases h
   .cases h
 .cases h
theorem sound{f:Nat}{xs:List AV}{h0:List Blk}{r:AV}{hr:List Blk}(h:C f xs h0=some (r,hr)):Zbt Tryz.prog f xs h0 r hr:=Zbph tbl_ok Zb1b h
theorem t330:tbl 330=none:=by kernel_rfl
theorem t332:tbl 332=none:=by kernel_rfl
theorem t316:tbl 316=none:=by kernel_rfl
theorem t388:tbl 388=none:=by kernel_rfl
theorem c_sort{fr:Bool}{rows:List (List Int)}(h1:rows.length<=4096)(h2:∀r∈rows,r.length<=4):C 330 [.own 0,.fn 331 []] [.arr 30 1 fr (rows.map isc)]=some (.tup [],[.arr 30 1 fr ((srtR rows).map isc)]) :=
 Ztn t330 (by simp only[ext,if_pos];exact Zbjq h1 h2 _)
theorem c_cpt{fr:Bool}{rows:List (List Int)}(h1:rows.length<=4096)(h2:∀r∈rows,r.length<=4):C 332 [.own 0,.fn 333 []] [.arr 30 1 fr (rows.map isc)]=some (.own 1,[.dead,.arr 30 1 fr ((cptR rows).map isc)]) :=
 Ztn t332 (by simp only[ext,if_pos];exact Zbjq h1 h2 _)
theorem c_sortI{fr:Bool}{l:List Int}(h1:l.length<=4096):C 316 [.own 0] [.arr 3 1 fr (l.map ic)]=some (.tup [],[.arr 3 1 fr ((srtI l).map ic)]) :=
 Ztn t316 (by simp only[ext,if_pos];exact Zbjr h1 _)
theorem c_cptI{fr:Bool}{l:List Int}(h1:l.length<=4096):C 388 [.own 0] [.arr 3 1 fr (l.map ic)]=some (.own 1,[.dead,.arr 3 1 fr ((cptI l).map ic)]) :=
 Ztn t388 (by unfold ext;simp only[show ¬(388:Nat)=316 by decide,if_false,if_true];exact Zbjr h1 _)
structure VS (s:Zb):Prop where
 rows:∀r∈s.Rows,rwB s.Vars.length r=true
 vars:ascV none s.Vars=true
 len:s.Rows.length<=4096
 four:s.Vars.length<=4
theorem Z5u:∀{l:List Int} {p:Option Int},ascV p l=true->∀x∈l,inR x 0 3=true
 |[],_,_,x,hx=>by cases hx
 |y::l,p,h,x,hx=>by
  unfold ascV at h;simp only[Yf]at h;rcases Yt.1 hx with rfl|hx
  .exact h.1.1
  .exact Z5u h.2 x hx
theorem Zbjs:∀{l:List Int} {p:Option Int},ascV p l=true->Asc l/\∀q,p=some q->∀x∈l,q<x
 |[],_,_=>⟨.nil,by simp⟩
 |y::l,p,h=>by
  unfold ascV at h;simp only[Yf]at h;obtain⟨i1,i2⟩:=Zbjs h.2;refine⟨Ybe.2 ⟨i2 y rfl,i1⟩,λq hq x hx=>?_⟩;subst hq;have h1:q<y:=by simpa[nxt]using h.1.2
  rcases Yt.1 hx with rfl|hx
  .exact h1
  .have:=i2 y rfl x hx;omega
theorem GS.vs{q:Ze}{y:Za}{s:Zb}(h:GS q y s)(hq:Zw q.Zm q.Atoms=true):VS s:=by
 refine⟨h.rows,?_,by have:=h.len;have:=Zwj y.Mask;omega,?_⟩
 .rw[h.vars];exact Z5k _ _ (Zoj _ _ _) (Zol hq _) (by simp)
 .rw[h.vars];have:=Zl8 y.Mask q.Atoms q.Zm.toNat;have:=Zjr hq;omega
theorem VS.row4{s:Zb}(h:VS s){r:List Int}(hr:r∈s.Rows):r.length=s.Vars.length/\r.length<=4:=by
 have:=Zwk (h.rows r hr);have:=h.four;omega
theorem l_cols(vs:List Int)(hl:vs.length<=100):∀i,i<=vs.length->Zmj vs 4 vs vs.length i=some (Bo (ascV (pvA vs i) (vs.drop i)),[]):=by
 refine down _ ?_ ?_
 .refine Zbe4 ?_;rw[if_neg (by omega),Ym];rfl
 .intro i hi ih;refine Zbe4 ?_;rw[if_pos (by omega),Yh hi,ascV,wS hi (by omega),show w ((4:Int)-1)=3 by decide];refine⟨by omega,_,gE hi,_,Zc2 _ _ _,?_⟩;rw[show pvA vs (i+1)=some vs[i]from Yg hi]at ih;rcases tf (inR vs[i] 0 3)with e|e
  .rw[e];simp
  .rw[e,if_pos rfl,ih];by_cases h0:(0:Int)<(i:Int)
   .rw[if_pos h0,wP (by omega) hi (by omega),Zoi (by omega) (by omega)];refine⟨by omega,_,gE (by omega),?_⟩;by_cases h2:vs[i]<=vs[i-1]
    .rw[if_pos h2];simp[nxt];omega
    .rw[if_neg h2];simp[nxt,show vs[i-1]<vs[i] by omega]
   .obtain rfl:i=0:=by omega
    rw[if_neg h0];simp[nxt,pvA]
theorem Zb1c{s:Zb}(h:VS s):∀i,i<=s.Rows.length->Zp8 s s.Rows s.Rows.length i=some (Bo true,[]):=by
 have hl:=h.len;refine down _ ?_ ?_
 .refine Zbe5 ?_;rw[if_neg (by omega)];refine⟨_,Zbv5 ⟨_,Zbv4 (by simpa using l_cols s.Vars (by have:=h.four;omega) 0 (Yb _)),rfl⟩,?_⟩;have:ascV (pvA s.Vars 0) s.Vars=true:=h.vars;rw[this,if_pos rfl];simp;omega
 .intro i hi ih;refine Zbe5 ?_;have hm:=Yd hi;have:=h.row4 hm;rw[if_pos (by omega),wS hi (by omega)];refine⟨by omega,_,gE hi,_,Zbh8 _ _ (by omega),?_⟩;rw[h.rows _ hm,if_pos rfl];exact ih
theorem Zlj{s:Zb}(h:VS s):Zd0 s=some (Bo true,[]):=Zbv6 (Zb1c h 0 (Yb _))
theorem Zb1d{s:Zb}(h:VS s):∀i,i<=s.Rows.length->Zq6 s i=some (Bo true,[]):=by
 have hl:=h.len;refine down _ ?_ ?_
 .refine Zbgp ?_;rw[if_neg (by omega)];simp;omega
 .intro i hi ih;refine Zbgp ?_;have hm:=Yd hi;have:=h.row4 hm;rw[if_pos (by omega),wS hi (by omega)];refine⟨by omega,_,gE hi,_,Zbh9 _ _ (by omega),?_⟩;rw[h.rows _ hm,if_pos rfl];exact ih
theorem Zb1e{s:Zb}(h:VS s):∀i,i<=s.Vars.length->ascV (pvA s.Vars i) (s.Vars.drop i)=true->Zna s i=some (Bo true,[]):=by
 have h4:=h.four;refine down _ ?_ ?_
 .intro _;refine Zbgo ?_;rw[if_neg (by omega)];exact Zb1d h 0 (Yb _)
 .intro i hi ih ha;refine Zbgo ?_;rw[Yh hi,ascV]at ha;simp only[Yf]at ha;have ih:=ih (by rw[show pvA s.Vars (i+1)=some s.Vars[i]from Yg hi];exact ha.2);rw[if_pos (by omega),wS hi (by omega)];refine⟨by omega,_,gE hi,_,Zdd _ _ _,?_⟩;rw[ha.1.1,if_pos rfl,ih];by_cases h0:(0:Int)<(i:Int)
  .have h2:=ha.1.2;rw[Zoi (by omega) (by omega)]at h2;rw[if_pos h0,wP (by omega) hi (by omega)];refine⟨by omega,_,gE (by omega),?_⟩;have h3:s.Vars[i-1]<s.Vars[i]:=by simpa[nxt]using h2
   rw[if_neg (by omega)]
  .rw[if_neg h0]
theorem Zlk{s:Zb}(h:VS s):Zej s=some (Bo true,[]):=Zbxv (Zb1e h 0 (Yb _) h.vars)
theorem xIx{vs:List Int}(h:vs.length<=4)(v:Int):Zda vs v=some (I (cix vs v),[]):=xIndexI vs v (by omega)
theorem xFd{vs:List Int}(h:vs.length<=4)(v:Int):Zd4 vs v=some (I (cix vs v),[]):=Zbzx vs v (by omega)
theorem VS.ok{s:Zb}(h:VS s){v:Int}(hv:has s.Vars v=true):∀r∈s.Rows,okC (cix s.Vars v).toNat r:=λr hr=>rw_get (h.rows r hr) (Zbw hv).2.1
theorem Zb1f{s:Zb}(h:VS s){v:Int}(hv:has s.Vars v=true):∃fr,Zmm s v=some (.tup [.agg [.own 0,.own 1],Bo true],[.arr 3 1 true ((sortS s v).Vars.map ic),.arr 30 1 fr ((sortS s v).Rows.map isc)]):=by
 obtain⟨c1,c2,c3⟩:=Zbw hv;obtain⟨fr,hs⟩:=x_stable (x:=(cix s.Vars v).toNat) h.len (h.ok hv);have h4:=h.four;refine⟨fr,Zbwd ⟨_,xIx h4 v,?_⟩⟩;rw[if_neg (by omega)];refine⟨_,Zlj h,?_⟩;rw[if_pos rfl];rw[show((cix s.Vars v).toNat:Int)=cix s.Vars v by omega]at hs;exact⟨_,Zoh _ (by omega),_,Z49 _ (λr hr=>(h.row4 hr).2) (by have:=h.len;omega),_,_,_,hs,rfl⟩
theorem Zbjt{rows:List (List Int)}{x:Nat}(hl:rows.length<=4096)(hk:∀r∈rows,okC x r)(hs:rows.Pairwise λa b=>kx x a<=kx x b):∀i,i<rows.length->Zqg rows x i=some (Bo true,[])
 |0,h=>by
  refine Z4o ?_
  rw[if_neg (by omega)]
 |i+1,h=>by
  have ih:=Zbjt hl hk hs i (by omega);refine Z4o ?_;have hw:w (((i+1:Nat):Int)-1)=(i:Int):=by rw[wA (by omega) (by omega)];omega
  obtain⟨p1,p2,p3⟩:=hk _ (Yd h);obtain⟨q1,q2,q3⟩:=hk _ (Yd (show i<rows.length by omega));have hlt:=(Yb6.1 hs) i (i+1) (by omega) h (by omega);have e1:rows[i+1][x]=kx x rows[i+1]:=(getElem!_pos rows[i+1] x p1).symm;have e2:rows[i][x]=kx x rows[i]:=(getElem!_pos rows[i] x q1).symm;rw[if_pos (by omega),hw];refine⟨by omega,_,gE h,by omega,_,gE (by omega),_,Zbwi ⟨by omega,_,gE p1,_,gE q1,rfl⟩,?_⟩;rw[e1,e2,wA (by omega) (by omega),if_neg (by omega)];exact ih
theorem Zbju{s:Zb}(h:VS s){v:Int}(hv:has s.Vars v=true)(hs:s.Rows.Pairwise λa b=>kx (cix s.Vars v).toNat a<=kx (cix s.Vars v).toNat b):Zmq s v=some (Bo true,[]):=by
 obtain⟨c1,c2,c3⟩:=Zbw hv;refine Zbwk ⟨_,xIx h.four v,?_⟩;rw[if_neg (by omega)];refine⟨_,Zlj h,?_⟩;rw[if_pos rfl];refine⟨_,Zbwj _ _ (Bo true,[]) ?_,rfl⟩;have hl:=h.len
 cases hc:s.Rows with
 |nil =>
  refine Z4o ?_
  rw[if_neg (by decide)]
 |cons r rs =>
  rw[hc]at hl;have:=Zbjt (rows:=r::rs) hl (by rw[<-hc];exact h.ok hv) (by rw[<-hc];exact hs) rs.length (by simp);rw[show w (((r::rs).length:Int)-1)=(rs.length:Int) by simp only[Yr]at hl|-;rw[wA (by omega) (by omega)];omega];rw[show((cix s.Vars v).toNat:Int)=cix s.Vars v by omega]at this;exact this
theorem Zb1g{s:Zb}(h:VS s){x:Nat}(hk:∀r∈s.Rows,okC x r)(hs:s.Rows.Pairwise λa b=>kx x a<=kx x b):∀i,i<=s.Rows.length->0<i->Zq7 s x i=some (Bo true,[]):=by
 have hl:=h.len;refine down _ ?_ ?_
 .intro h0;refine Z4v ?_;rw[if_neg (by omega)]
 .intro i hi ih h0;have ih:=ih (by omega);obtain⟨j,rfl⟩:∃j,i=j+1:=⟨i-1,by omega⟩;refine Z4v ?_;have hw:w (((j+1:Nat):Int)-1)=(j:Int):=by rw[wA (by omega) (by omega)];omega
  obtain⟨p1,p2,p3⟩:=hk _ (Yd hi);obtain⟨q1,q2,q3⟩:=hk _ (Yd (show j<s.Rows.length by omega));have hlt:=(Yb6.1 hs) j (j+1) (by omega) hi (by omega);have e1:s.Rows[j+1][x]=kx x s.Rows[j+1]:=(getElem!_pos s.Rows[j+1] x p1).symm;have e2:s.Rows[j][x]=kx x s.Rows[j]:=(getElem!_pos s.Rows[j] x q1).symm;rw[if_pos (by omega),hw,wS hi (by omega)];refine⟨by omega,_,gE (by omega),by omega,_,gE q1,by omega,_,gE hi,_,gE p1,?_⟩;rw[e1,e2,if_neg (by omega)];exact ih
theorem Zbjv{s:Zb}(h:VS s){v:Int}(hv:has s.Vars v=true)(hs:s.Rows.Pairwise λa b=>kx (cix s.Vars v).toNat a<=kx (cix s.Vars v).toNat b):Zni s v=some (Bo true,[]):=by
 obtain⟨c1,c2,c3⟩:=Zbw hv;have hl:=h.len;refine Zbx3 ⟨_,xFd h.four v,_,Zlk h,?_⟩;rw[if_pos rfl,if_neg (by omega)]
 cases hc:s.Rows with
 |nil =>
  refine Z4v ?_
  rw[hc,if_neg (by simp)]
 |cons r rs =>
  have:=Zb1g h (h.ok hv) hs 1 (by rw[hc];simp) (by omega);rw[show((cix s.Vars v).toNat:Int)=cix s.Vars v by omega]at this;exact this
def Zbc(s:Zb):AV×List Blk:=if s.Rows=[]then(.tup [.agg [.own 0,.t .nil],Bo true],[.arr 3 1 true (s.Vars.map ic)])else(.tup [.agg [.own 0,.own 1],Bo true],[.arr 3 1 true (s.Vars.map ic),.arr 30 1 true (s.Rows.map isc)])
theorem Zi9{vs:List Int}{rows:List (List Int)}(h:rows≠[]):Zbc ⟨vs,rows⟩=(.tup [.agg [.own 0,.own 1],Bo true],[.arr 3 1 true (vs.map ic),.arr 30 1 true (rows.map isc)]):=by unfold Zbc;rw[if_neg h]
theorem Zja{vs:List Int}:Zbc ⟨vs,[]⟩=(.tup [.agg [.own 0,.t .nil],Bo true],[.arr 3 1 true (vs.map ic)]):=by unfold Zbc;rw[if_pos rfl]
def clsF(x:Nat)(rows:List (List Int))(c:Nat):List (List Int):=(List.range' c (10-c)).flatMap λi:Nat=>rows.filter λr=>decide (kx x r=(i:Int))
theorem clsF_0(x:Nat)(rows:List (List Int)):clsF x rows 0=stbR x rows:=by unfold clsF stbR;rw[Yeg]
theorem Zbjw{x:Nat}{rows:List (List Int)}{c:Nat}(h:c<10):clsF x rows c=(rows.filter λr=>decide (kx x r=(c:Int)))++clsF x rows (c+1):=by
 unfold clsF;rw[show 10-c=(10-(c+1))+1 by omega,Yc7,Ybr]
theorem Zbjx(x:Nat)(rows:List (List Int)):clsF x rows 10=[]:=rfl
section
variable{s:Zb}(h:VS s){x:Nat}(hk:∀r∈s.Rows,okC x r)
include h hk
theorem Zb1h(vs:List Int):∀c:Nat,c<=10->(∀acc:List (List Int),acc≠[]->acc.length<=50000-4096*(10-c)->Zvh s vs acc x c=some (Zbc ⟨vs,acc++clsF x s.Rows c⟩)):=by
 have hl:=h.len;refine down 10 ?_ ?_
 .intro acc ha hb;refine Zbgs ?_;rw[if_neg (by decide),Zbjx,Y6,Zi9 ha]
 .intro c hc ih acc ha hb;refine Zbgs ?_;rw[if_pos (by omega),Zbjw hc];have inner:∀i,i<=s.Rows.length->∀acc:List (List Int),acc≠[]->acc.length+(s.Rows.length-i)<=50000-4096*(10-(c+1))->Zix s vs acc x c i=some (Zbc ⟨vs,acc++(((s.Rows.drop i).filter λr=>decide (kx x r=(c:Int)))++clsF x s.Rows (c+1))⟩):=by
   refine down _ ?_ ?_
   .intro acc ha hb;refine Zv8 ?_;rw[if_neg (by omega),Ym,wA (by omega) (by omega)]
    exact_mod_cast ih acc ha (by omega)
   .intro i hi ih2 acc ha hb;refine Zv8 ?_;obtain⟨p1,p2,p3⟩:=hk _ (Yd hi);have e1:s.Rows[i][x]=kx x s.Rows[i]:=(getElem!_pos s.Rows[i] x p1).symm;have h4:=h.row4 (Yd hi);rw[if_pos (by omega),wS hi (by omega),Yh hi];refine⟨by omega,_,gE hi,by omega,_,gE p1,?_⟩;rw[e1];by_cases e:kx x s.Rows[i]=(c:Int)
    .rw[if_pos e,Ycp (by simpa using e)];refine⟨by omega,by omega,?_⟩;rw[ih2 _ (by simp) (by simp;omega)];simp
    .rw[if_neg e,Ycq (by simpa using e)];exact ih2 acc ha (by omega)
  simpa using inner 0 (Yb _) acc ha (by omega)
theorem Zb1i(vs:List Int):∀c:Nat,c<=10->Znb s vs x c=some (Zbc ⟨vs,clsF x s.Rows c⟩):=by
 have hl:=h.len;refine down 10 ?_ ?_
 .refine Zbgq ?_;rw[if_neg (by decide),Zbjx,Zja]
 .intro c hc ih;refine Zbgq ?_;rw[if_pos (by omega),Zbjw hc];have inner:∀i,i<=s.Rows.length->Znc s vs x c i=some (Zbc ⟨vs,((s.Rows.drop i).filter λr=>decide (kx x r=(c:Int)))++clsF x s.Rows (c+1)⟩):=by
   refine down _ ?_ ?_
   .refine Zbgr ?_;rw[if_neg (by omega),Ym,wA (by omega) (by omega)]
    exact_mod_cast ih
   .intro i hi ih2;refine Zbgr ?_;obtain⟨p1,p2,p3⟩:=hk _ (Yd hi);have e1:s.Rows[i][x]=kx x s.Rows[i]:=(getElem!_pos s.Rows[i] x p1).symm;have h4:=h.row4 (Yd hi);rw[if_pos (by omega),wS hi (by omega),Yh hi];refine⟨by omega,_,gE hi,by omega,_,gE p1,?_⟩;rw[e1];by_cases e:kx x s.Rows[i]=(c:Int)
    .rw[if_pos e,Ycp (by simpa using e)];refine⟨by omega,?_⟩
     -- the first row: the rest of this round,then the further classes
     have rest:∀k,k<=s.Rows.length->∀acc:List (List Int),acc≠[]->acc.length+(s.Rows.length-k)<=5000->Zix s vs acc x c k=some (Zbc ⟨vs,acc++(((s.Rows.drop k).filter λr=>decide (kx x r=(c:Int)))++clsF x s.Rows (c+1))⟩):=by
      refine down _ ?_ ?_
      .intro acc ha hb;refine Zv8 ?_;rw[if_neg (by omega),Ym,wA (by omega) (by omega)]
       exact_mod_cast Zb1h h hk vs (c+1) (by omega) acc ha (by omega)
      .intro k hk2 ih3 acc ha hb;refine Zv8 ?_;obtain⟨p1,p2,p3⟩:=hk _ (Yd hk2);have e1:s.Rows[k][x]=kx x s.Rows[k]:=(getElem!_pos s.Rows[k] x p1).symm;have h4:=h.row4 (Yd hk2);rw[if_pos (by omega),wS hk2 (by omega),Yh hk2];refine⟨by omega,_,gE hk2,by omega,_,gE p1,?_⟩;rw[e1];by_cases e:kx x s.Rows[k]=(c:Int)
       .rw[if_pos e,Ycp (by simpa using e)];refine⟨by omega,by omega,?_⟩;rw[ih3 _ (by simp) (by simp;omega)];simp
       .rw[if_neg e,Ycq (by simpa using e)];exact ih3 acc ha (by omega)
     rw[rest (i+1) (by omega) [s.Rows[i]] (by simp) (by simp;omega)];simp
    .rw[if_neg e,Ycq (by simpa using e)];exact ih2
  simpa using inner 0 (Yb _)
end
theorem Zb1j{s:Zb}(h:VS s){v:Int}(hv:has s.Vars v=true):Zky s v=some (Zbc (sortS s v)):=by
 obtain⟨c1,c2,c3⟩:=Zbw hv;refine Zbxw ⟨_,xFd h.four v,_,Zlk h,?_⟩;rw[if_pos rfl,if_neg (by omega)];refine⟨by have:=h.four;omega,?_⟩;have:=Zb1i h (h.ok hv) s.Vars 0 (by omega);rw[clsF_0,show((cix s.Vars v).toNat:Int)=cix s.Vars v by omega]at this;exact this
theorem Zbjy{l:List Int}(h:l.length<=4096):Zj0 l=some (.tup [],[.arr 3 1 true ((srtI l).map ic)]):=by unfold Zj0;exact c_sortI h
theorem x_cptI{l:List Int}(h:l.length<=4096):Zut l=some (.own 1,[.dead,.arr 3 1 true ((cptI l).map ic)]):=by unfold Zut;exact c_cptI h
theorem celG{r:List Int}{i:Int}(h0:0<=i)(h:i.toNat<r.length):r[i.toNat]?=some (celI r i):=by unfold celI;rw[Ybo,Yg h];rfl
def scR(a:Atom)(r:List Int):List Int:=(srtI a.Vars).map λv=>celI r (cix a.Vars v)
section
variable{a:Atom}(ha:a.Vars.length<=4)
include ha
omit ha in
theorem srt4:(srtI a.Vars).length=a.Vars.length:=(Zwh _).length_eq
theorem Zb1k{r:List Int}(hr:r.length=a.Vars.length)(rows:List (List Int))(n i:Int)(R:AV×List Blk):∀j,j<=(srtI a.Vars).length->
  Zj2 a (srtI a.Vars) [scR a r] rows n (w (i+1))=some R->Zmi a (srtI a.Vars) ((scR a r).take j) rows r n i (srtI a.Vars).length j=some R:=by
 have h4:=srt4 (a:=a);refine down _ ?_ ?_
 .intro h;refine Zbe1 ?_;rw[if_neg (by omega),Yb3 (by simp[scR])];exact h
 .intro j hj ih h;refine Zbe1 ?_;have hh:has a.Vars (srtI a.Vars)[j]=true:=Zcv.2 ((Zi6 _ _).1 (Yd hj));obtain⟨c1,c2,c3⟩:=Zbw hh;rw[if_pos (by omega),wS hj (by omega)];refine⟨by omega,_,gE hj,_,xIx ha _,c1,_,celG c1 (by omega),by simp;omega,?_⟩;have hl:j<(scR a r).length:=by simp[scR];omega
  have:=ih h;rw[Ybn hl]at this;simpa[scR]using this
theorem Zb1l{r:List Int}(hr:r.length=a.Vars.length)(acc rows:List (List Int))(hacc:acc.length<=1000)(n i:Int)(R:AV×List Blk):∀j,j<=(srtI a.Vars).length->
  Zj2 a (srtI a.Vars) (acc++[scR a r]) rows n (w (i+1))=some R->Zp7 a (srtI a.Vars) acc ((scR a r).take j) rows r n i (srtI a.Vars).length j=some R:=by
 have h4:=srt4 (a:=a);refine down _ ?_ ?_
 .intro h;refine Zbe3 ?_;rw[if_neg (by omega),Yb3 (by simp[scR])];exact⟨by omega,h⟩
 .intro j hj ih h;refine Zbe3 ?_;have hh:has a.Vars (srtI a.Vars)[j]=true:=Zcv.2 ((Zi6 _ _).1 (Yd hj));obtain⟨c1,c2,c3⟩:=Zbw hh;rw[if_pos (by omega),wS hj (by omega)];refine⟨by omega,_,gE hj,_,xIx ha _,c1,_,celG c1 (by omega),by simp;omega,?_⟩;have hl:j<(scR a r).length:=by simp[scR];omega
  have:=ih h;rw[Ybn hl]at this;simpa[scR]using this
theorem Zb1m{rows:List (List Int)}(hn:rows.length<=8)(hr:∀r∈rows,r.length=a.Vars.length):∀i,i<=rows.length->∀acc:List (List Int),acc≠[]->acc.length<=i->
  Zj2 a (srtI a.Vars) acc rows rows.length i=some (Zbc ⟨srtI a.Vars,acc++(rows.drop i).map (scR a)⟩):=by
 refine down _ ?_ ?_
 .intro acc h0 hl;refine Zbe2 ?_;rw[if_neg (by omega),Ym,Yci,Y6,Zi9 h0]
 .intro i hi ih acc h0 hl;refine Zbe2 ?_;rw[if_pos (by omega)];refine⟨by omega,_,gE hi,?_⟩;have:=Zb1l ha (hr _ (Yd hi)) acc rows (by omega) rows.length i _ 0 (Yb _) (by rw[wS hi (by omega)];exact ih (acc++[scR a rows[i]]) (by simp) (by simp;omega));rw[Ycc,Yn]at this;rw[Yh hi,Yv];exact this
end
theorem Zb1n{d:Zl}(hd:LeD d){q:Ze}(hq:LeQ q)(h:qFor d q=true){i:Int}(hi:inR i 0 (q.Atoms.length-1)=true):Zj1 d q i=some (Zbc (Zfe d q i)):=by
 have hv:Zw q.Zm q.Atoms=true:=by unfold qFor at h;simp only[Yf]at h;exact h.1
 have hl:=Zgd hv;have hi':=hi;simp[inR]at hi';have hlt:i.toNat<q.Atoms.length:=by omega
 have he:q.Atoms[i.toNat]?=some q.Atoms[i.toNat]:=Yg hlt;have hm:q.Atoms[i.toNat]∈q.Atoms:=Yd hlt;generalize q.Atoms[i.toNat]=a at he hm;obtain⟨t,t1,t2,t3,t4,t5,t6⟩:=Z5l h hm;have hvl:=Zpn hv a hm;have ha:a.Vars.length<=4:=by omega
 have hr:∀r∈t.Rows,r.length=a.Vars.length:=λr hr=>Zwk (t5 r hr)
 have hsc:Zfe d q i=⟨srtI a.Vars,t.Rows.map (scR a)⟩:=by
  unfold Zfe;rw[he];simp only[t3];rfl
 have hk:=Zbif d hd a.Name;rw[t1]at hk;rw[hsc];refine Zbv3 ⟨_,Z5a d hd q hq,?_⟩;rw[h,if_pos rfl,show w ((q.Atoms.length:Int)-1)=(q.Atoms.length:Int)-1 from Zo (by omega) (by omega)];refine⟨_,Zc2 _ _ _,?_⟩;rw[hi,if_pos rfl];refine⟨by omega,a,he,.inr ⟨_,_,_,hk,_,Zoh _ (by omega),_,Zbjy (by omega),?_⟩⟩;refine Zbv2 ?_
 cases hc:t.Rows with
 |nil=>rw[if_neg (by simp),Yci,Zja]
 |cons r rs =>
  rw[hc]at hr t4;rw[if_pos (by simp)];refine⟨by omega,r,rfl,?_⟩
  have:=Zb1k ha (hr r (by simp)) (r::rs) (r::rs).length 0 _ 0 (Yb _) (by
   rw[show w ((0:Int)+1)=((1:Nat):Int) by decide]
   exact Zb1m ha t4 hr 1 (by simp) [scR a r] (by simp) (by simp))
  rw[Ycc]at this;simpa using this
theorem l_col(a:Atom)(ha:a.Vars.length<=4)(v:Int):∀k,k<=a.Vars.length->Zqz a v k=some (I (Zbe (λx=>decide (v=x)) (a.Vars.drop k) k),[]):=by
 refine down _ ?_ ?_
 .refine Zbgj ?_;rw[if_neg (by omega),Ym];rfl
 .intro k hk ih;refine Zbgj ?_;rw[if_pos (by omega),Zh9 _ hk,wS hk (by omega)];refine⟨by omega,_,gE hk,?_⟩;by_cases e:a.Vars[k]=v
  .rw[if_pos e,if_pos (by simp[e])]
  .rw[if_neg e,if_neg (by simpa using λh=>e h.symm)];exact ih
theorem x_col(a:Atom)(ha:a.Vars.length<=4)(v:Int):Zm9 a v=some (I (cix a.Vars v),[]):=Zbxq (by simpa[cix]using l_col a ha v 0 (Yb _))
theorem l_list(p:Nat->Bool):∀v,v<=4->Zm7 (((List.range v).filter p).map λu:Nat=>(u:Int)) (Zbk p) v=some (.own 0,[.arr 3 1 true ((((List.range 4).filter p).map λu:Nat=>(u:Int)).map ic)]):=by
 refine down 4 ?_ ?_
 .refine Zbgi ?_;rw[if_neg (by decide)]
 .intro v hv ih;refine Zbgi ?_;have hb:=at_bit p (v:=(v:Int)) (by simp[inR];omega);rw[Ye]at hb;have hlen:(((List.range v).filter p).map λu:Nat=>(u:Int)).length<=v:=by
   rw[Ybf];exact Yo (Ycb _ _) (by simp)
  rw[if_pos (by omega),wS hv (by omega)];rw[Yca,Ydg,Ybm]at ih;refine⟨by omega,?_⟩;rcases tf (p v)with e|e
  .rw[if_neg (by rw[hb,e];decide)];rw[Ycq (by simp[e])]at ih;simpa using ih
  .rw[if_pos (hb.2 e)];rw[Ycp (by simp[e])]at ih;exact⟨by omega,by simpa using ih⟩
theorem varL4{n:Int}{qa:List Atom}(h:Zw n qa=true)(m:Int):varL m qa 4=varL m qa n.toNat:=by
 refine Zr8 (Zoj _ _ _) (Zoj _ _ _) λv=>?_
 rw[Zok h];unfold varL vin;simp only[Y3,Y7,Ybj,Yf];constructor
 .rintro⟨u,⟨hu,hp⟩,rfl⟩;exact⟨by simp[inR];omega,by simpa using hp⟩
 .rintro⟨h1,h2⟩;simp[inR]at h1;exact⟨v.toNat,⟨by omega,h2⟩,by omega⟩
theorem shl4:∀i n:Fin 5,i.1<n.1->1<=n.1->inR (shlI 1 (i.1:Int)) 0 (w (shlI 1 (n.1:Int)-1))=true:=by decide
theorem Zb1o{q:Ze}(hq:LeQ q)(h:Zw q.Zm q.Atoms=true){i:Nat}(hi:i<q.Atoms.length):Zm8 q (shlI 1 (i:Int))=some (.own 0,[.arr 3 1 true ((varL (shlI 1 (i:Int)) q.Atoms q.Zm.toNat).map ic)]):=by
 have hl:=Zgd h;refine Zbxp ⟨true,Zbxn ⟨_,Zv9 q hq,?_⟩,?_⟩
 .rw[h,if_pos rfl];refine⟨by omega,_,Zdd _ _ _,?_⟩;have:=shl4 ⟨i,by omega⟩ ⟨q.Atoms.length,by omega⟩ hi hl.1;simp only[]at this;rw[this]
 .rw[if_pos rfl];refine⟨_,Zwa q _ hq (Zpo h),_,Zbxo (l_list _ 0 (by omega)),?_⟩;rw[<-varL4 h];rfl
section
variable{q:Ze}{a:Atom}(ha:a.Vars.length<=4){i:Nat}(he:q.Atoms[i]?=some a)(nm:ByteArray)(ar:Int)
include ha he
theorem Zb1p{rows:List (List Int)}{k:Nat}(hk:k<rows.length)(hr:rows[k].length=a.Vars.length)(R:AV×List Blk):∀j,j<=(srtI a.Vars).length->
  Zkv q nm ar rows (srtI a.Vars) [scR a rows[k]] i (w (k+1))=some R->Zq3 q nm ar rows (srtI a.Vars) ((scR a rows[k]).take j) i k j=some R:=by
 have h4:=srt4 (a:=a);refine down _ ?_ ?_
 .intro h;refine Zbgk ?_;rw[if_neg (by omega),Yb3 (by simp[scR])];exact h
 .intro j hj ih h;refine Zbgk ?_;have hh:has a.Vars (srtI a.Vars)[j]=true:=Zcv.2 ((Zi6 _ _).1 (Yd hj));obtain⟨c1,c2,c3⟩:=Zbw hh;rw[if_pos (by omega),wS hj (by omega)];refine⟨by omega,_,gE hk,by omega,a,by rw[Ye];exact he,by omega,_,gE hj,_,x_col a ha _,c1,_,celG c1 (by omega),by simp;omega,?_⟩;have hl:j<(scR a rows[k]).length:=by simp[scR];omega
  have:=ih h;rw[Ybn hl]at this;simpa[scR]using this
theorem Zb1q{rows:List (List Int)}{k:Nat}(hk:k<rows.length)(hr:rows[k].length=a.Vars.length)(acc:List (List Int))(hacc:acc.length<=1000)(R:AV×List Blk):∀j,j<=(srtI a.Vars).length->
  Zkv q nm ar rows (srtI a.Vars) (acc++[scR a rows[k]]) i (w (k+1))=some R->Zq4 q nm ar rows (srtI a.Vars) acc ((scR a rows[k]).take j) i k j=some R:=by
 have h4:=srt4 (a:=a);refine down _ ?_ ?_
 .intro h;refine Zbgm ?_;rw[if_neg (by omega),Yb3 (by simp[scR])];exact⟨by omega,h⟩
 .intro j hj ih h;refine Zbgm ?_;have hh:has a.Vars (srtI a.Vars)[j]=true:=Zcv.2 ((Zi6 _ _).1 (Yd hj));obtain⟨c1,c2,c3⟩:=Zbw hh;rw[if_pos (by omega),wS hj (by omega)];refine⟨by omega,_,gE hk,by omega,a,by rw[Ye];exact he,by omega,_,gE hj,_,x_col a ha _,c1,_,celG c1 (by omega),by simp;omega,?_⟩;have hl:j<(scR a rows[k]).length:=by simp[scR];omega
  have:=ih h;rw[Ybn hl]at this;simpa[scR]using this
theorem Zb1r{rows:List (List Int)}(hn:rows.length<=8)(hr:∀r∈rows,r.length=a.Vars.length):∀k,k<=rows.length->∀acc:List (List Int),acc≠[]->acc.length<=k->
  Zkv q nm ar rows (srtI a.Vars) acc i k=some (Zbc ⟨srtI a.Vars,acc++(rows.drop k).map (scR a)⟩):=by
 refine down _ ?_ ?_
 .intro acc h0 hl;refine Zbgl ?_;rw[if_neg (by omega),Ym,Yci,Y6,Zi9 h0]
 .intro k hk ih acc h0 hl;refine Zbgl ?_;rw[if_pos (by omega)];have:=Zb1q ha he nm ar hk (hr _ (Yd hk)) acc (by omega) _ 0 (Yb _) (by rw[wS hk (by omega)];exact ih (acc++[scR a rows[k]]) (by simp) (by simp;omega));rw[Ycc,Yn]at this;rw[Yh hk,Yv];exact this
end
theorem Zb1s{d:Zl}(hd:LeD d){q:Ze}(hq:LeQ q)(h:qFor d q=true){i:Int}(hi:inR i 0 (q.Atoms.length-1)=true):Zku d q i=some (Zbc (Zfe d q i)):=by
 have hv:Zw q.Zm q.Atoms=true:=by unfold qFor at h;simp only[Yf]at h;exact h.1
 have hl:=Zgd hv;have hi':=hi;simp[inR]at hi';obtain⟨n,rfl⟩:∃n:Nat,i=(n:Int):=⟨i.toNat,by omega⟩;have hlt:n<q.Atoms.length:=by omega
 have he:q.Atoms[n]?=some q.Atoms[n]:=Yg hlt;have hm:q.Atoms[n]∈q.Atoms:=Yd hlt;generalize q.Atoms[n]=a at he hm;obtain⟨t,t1,t2,t3,t4,t5,t6⟩:=Z5l h hm;have hvl:=Zpn hv a hm;have ha:a.Vars.length<=4:=by omega
 have hr:∀r∈t.Rows,r.length=a.Vars.length:=λr hr=>Zwk (t5 r hr)
 have hsc:Zfe d q (n:Int)=⟨srtI a.Vars,t.Rows.map (scR a)⟩:=by
  unfold Zfe;rw[Ye,he];simp only[t3];rfl
 have hk:=Zbig d hd a.Name;rw[t1]at hk;have hM:=Zb1o hq hv hlt;rw[<-Zbiv hv he]at hM;rw[hsc];refine Zbxt ⟨_,Z5b d hd q hq,?_⟩;rw[h,if_pos rfl,show w ((q.Atoms.length:Int)-1)=(q.Atoms.length:Int)-1 from Zo (by omega) (by omega)];refine⟨_,Zdd _ _ _,?_⟩;rw[hi,if_pos rfl];refine⟨by omega,a,by rw[Ye];exact he,?_⟩;by_cases hc:t.Rows=[]
 .simp only[lookS,if_pos hc]at hk;refine .inl ⟨_,_,_,hk,by omega,_,hM,?_⟩;refine Zbxr ?_;rw[if_neg (by decide),hc,Yci,Zja]
 .simp only[lookS,if_neg hc]at hk;refine .inr ⟨_,_,_,hk,by omega,_,hM,?_⟩;have h0:0<t.Rows.length:=Yd3.2 hc;refine Zbxs ?_;rw[if_pos (by omega)]
  have:=Zb1p ha he t.Name t.Arity h0 (hr _ (Yd h0)) _ 0 (Yb _) (by
   rw[show w (((0:Nat):Int)+1)=((1:Nat):Int) by decide]
   exact Zb1r ha he t.Name t.Arity t4 hr 1 (by omega) [scR a t.Rows[0]] (by simp) (by simp))
  rw[Ycc]at this;have e:[scR a t.Rows[0]]++(t.Rows.drop 1).map (scR a)=t.Rows.map (scR a):=by
   conv=>rhs;rw[<-Yj (l:=t.Rows),Yh h0]
   rfl
  rw[e]at this
  exact_mod_cast this
def okV(av x bv y:List Int)(v:Int):Bool:=decide (cix av v<0) || decide (cix bv v<0) || decide (celI x (cix av v)=celI y (cix bv v))
theorem cix_at{av:List Int}(h:av.Nodup){i:Nat}(hi:i<av.length):cix av av[i]=(i:Int):=by
 obtain⟨h1,h2,h3⟩:=Zbw (vs:=av) (v:=av[i]) (Zcv.2 (Yd hi));rw[Yg h2]at h3;have:=(List.getElem_inj h).1 (Ycj h3);omega
theorem Zb1t{l:List Int}(h:Asc l):l.Nodup:=h.imp (by intro a b h;omega)
theorem agr_all{vs av x bv y:List Int}(ha:av.Nodup)(h1:∀v∈av,v∈vs):agr av x bv y=vs.all (okV av x bv y):=by
 rw[Yb8];unfold agr;rw[Yq,Yq];constructor
 .intro h v hv;unfold okV;by_cases hc:cix av v<0
  .simp[hc]
  .have hh:has av v=true:=Zf1.1 (by omega);obtain⟨c1,c2,c3⟩:=Zbw hh;have:=h (cix av v).toNat (Ybj.2 c2);have e:av.getD (cix av v).toNat 0=v:=by rw[Ybo,c3];rfl
   rw[e]at this;have e2:x.getD (cix av v).toNat 0=celI x (cix av v):=rfl;rw[e2]at this;simp only[Ydf,decide_eq_true_eq]at this|-;omega
 .intro h i hi;have hi:=Ybj.1 hi;have e:av.getD i 0=av[i]:=by rw[Ybo,Yg hi];rfl
  have:=h av[i] (h1 _ (Yd hi));unfold okV at this;rw[cix_at ha hi]at this;rw[e];have e2:celI x (i:Int)=x.getD i 0:=by unfold celI;rw[Ye]
  rw[e2]at this;simp only[Ydf,decide_eq_true_eq]at this|-;omega
abbrev jBox(a b:Zb)(r:AV):Blk:=.box [L 1 (a.Vars.map ic),L 1 (a.Rows.map isc),L 1 (b.Vars.map ic),L 1 (b.Rows.map isc),.own 1,r]
section
variable{a b:Zb}(ha:a.Vars.length<=4)(hb:b.Vars.length<=4){vs:List Int}(hvs:vs.length<=8)(hh:∀v∈vs,has a.Vars v=true\/has b.Vars v=true){x y:List Int}(hx:x.length=a.Vars.length)(hy:y.length=b.Vars.length)
include ha hb hvs hh hx hy
theorem l_pair:∀i,i<=vs.length->Zkb a b vs ((vs.take i).map (mrV a.Vars x b.Vars y)) x y vs.length i =
  some (.tup [],if(vs.drop i).all (okV a.Vars x b.Vars y)=true then[jBox a b (.own 2),.arr 3 1 true (vs.map ic),.arr 30 1 true (([vs.map (mrV a.Vars x b.Vars y)]).map isc)]else[jBox a b (.t .nil),.arr 3 1 true (vs.map ic)]):=by
 refine down _ ?_ ?_
 .refine Zbff ?_;rw[if_neg (by omega),Ym,if_pos (by rfl),Ycu]
 .intro i hi ih;refine Zbff ?_;rw[if_pos (by omega),wS hi (by omega),Yh hi,Y8];rw[Ybn hi,Ybm]at ih;have hl:((vs.take i).map (mrV a.Vars x b.Vars y)).length<=8:=by simp;omega
  refine⟨by omega,_,gE hi,_,xIx ha _,_,xIx hb _,?_⟩;have hv:=hh _ (Yd hi);generalize hvi:vs[i]=v at *
  by_cases h1:cix a.Vars v<0
  .have hbv:has b.Vars v=true:=hv.resolve_left λe=>by have:=(Zbw e).1;omega
   obtain⟨c1,c2,c3⟩:=Zbw hbv;rw[if_pos h1,show okV a.Vars x b.Vars y v=true by simp[okV,h1],Yx];have e:mrV a.Vars x b.Vars y v=celI y (cix b.Vars v):=by unfold mrV;rw[if_neg (by omega)]
   refine⟨c1,_,celG c1 (by omega),by omega,?_⟩;rw[<-ih,<-e];rfl
  .have hav:has a.Vars v=true:=Zf1.1 (by omega);obtain⟨d1,d2,d3⟩:=Zbw hav;have e:mrV a.Vars x b.Vars y v=celI x (cix a.Vars v):=by unfold mrV;rw[if_pos d1]
   rw[if_neg h1];by_cases h2:0<=cix b.Vars v
   .obtain⟨c1,c2,c3⟩:=Zbw (Zf1.1 h2);rw[if_pos h2];refine⟨d1,_,celG d1 (by omega),_,celG c1 (by omega),?_⟩;by_cases h3:celI x (cix a.Vars v)=celI y (cix b.Vars v)
    .rw[if_pos h3,show okV a.Vars x b.Vars y v=true by simp[okV,h3],Yx];refine⟨by omega,?_⟩;rw[<-ih,<-e];rfl
    .rw[if_neg h3,show okV a.Vars x b.Vars y v=false by simp[okV,h3,h1];omega,Ydn,if_neg (by decide)]
   .rw[if_neg h2,show okV a.Vars x b.Vars y v=true by simp[okV];omega,Yx];refine⟨d1,_,celG d1 (by omega),by omega,?_⟩;rw[<-ih,<-e];rfl
theorem l_pair1{acc:List (List Int)}(hacc:acc.length<=100000):∀i,i<=vs.length->Zkc a b vs acc ((vs.take i).map (mrV a.Vars x b.Vars y)) x y vs.length i =
  some (.tup [],if(vs.drop i).all (okV a.Vars x b.Vars y)=true then[jBox a b (.own 3),.arr 3 1 true (vs.map ic),.dead,.arr 30 1 true ((acc++[vs.map (mrV a.Vars x b.Vars y)]).map isc)]else[jBox a b (.own 2),.arr 3 1 true (vs.map ic),.arr 30 1 true (acc.map isc)]):=by
 refine down _ ?_ ?_
 .refine Zbfh ?_;rw[if_neg (by omega),Ym,if_pos (by rfl),Ycu];exact⟨by omega,rfl⟩
 .intro i hi ih;refine Zbfh ?_;rw[if_pos (by omega),wS hi (by omega),Yh hi,Y8];rw[Ybn hi,Ybm]at ih;have hl:((vs.take i).map (mrV a.Vars x b.Vars y)).length<=8:=by simp;omega
  refine⟨by omega,_,gE hi,_,xIx ha _,_,xIx hb _,?_⟩;have hv:=hh _ (Yd hi);generalize hvi:vs[i]=v at *
  by_cases h1:cix a.Vars v<0
  .have hbv:has b.Vars v=true:=hv.resolve_left λe=>by have:=(Zbw e).1;omega
   obtain⟨c1,c2,c3⟩:=Zbw hbv;rw[if_pos h1,show okV a.Vars x b.Vars y v=true by simp[okV,h1],Yx];have e:mrV a.Vars x b.Vars y v=celI y (cix b.Vars v):=by unfold mrV;rw[if_neg (by omega)]
   refine⟨c1,_,celG c1 (by omega),by omega,?_⟩;rw[<-ih,<-e];rfl
  .have hav:has a.Vars v=true:=Zf1.1 (by omega);obtain⟨d1,d2,d3⟩:=Zbw hav;have e:mrV a.Vars x b.Vars y v=celI x (cix a.Vars v):=by unfold mrV;rw[if_pos d1]
   rw[if_neg h1];by_cases h2:0<=cix b.Vars v
   .obtain⟨c1,c2,c3⟩:=Zbw (Zf1.1 h2);rw[if_pos h2];refine⟨d1,_,celG d1 (by omega),_,celG c1 (by omega),?_⟩;by_cases h3:celI x (cix a.Vars v)=celI y (cix b.Vars v)
    .rw[if_pos h3,show okV a.Vars x b.Vars y v=true by simp[okV,h3],Yx];refine⟨by omega,?_⟩;rw[<-ih,<-e];rfl
    .rw[if_neg h3,show okV a.Vars x b.Vars y v=false by simp[okV,h3,h1];omega,Ydn,if_neg (by decide)]
   .rw[if_neg h2,show okV a.Vars x b.Vars y v=true by simp[okV];omega,Yx];refine⟨d1,_,celG d1 (by omega),by omega,?_⟩;rw[<-ih,<-e];rfl
end
structure J2 (a b:Zb):Prop where
 va:VS a
 vb:VS b
 prod:a.Rows.length*b.Rows.length<=4096
section
variable{a b:Zb}(J:J2 a b)
include J
theorem J2.ina:∀x∈a.Vars,inR x 0 3=true:=Z5u J.va.vars
theorem J2.inb:∀x∈b.Vars,inR x 0 3=true:=Z5u J.vb.vars
omit J in
theorem J2.hh:∀v∈uni a.Vars b.Vars,has a.Vars v=true\/has b.Vars v=true:=λ_ h=>Z5m h
omit J in
theorem J2.len:(uni a.Vars b.Vars).length<=8:=Yo (Ycb _ _) (by simp)
theorem J2.agr(x y:List Int):agr a.Vars x b.Vars y=(uni a.Vars b.Vars).all (okV a.Vars x b.Vars y):=agr_all (Zb1t (Zbjs J.va.vars).1) λv hv=>(Zwi J.ina J.inb v).2 (.inl hv)
theorem x_pair{x y:List Int}(hx:x∈a.Rows)(hy:y∈b.Rows):Zhf a b (uni a.Vars b.Vars) x y=some (.tup [],match prS (uni a.Vars b.Vars) a.Vars x b.Vars y with
  |some r=>[jBox a b (.own 2),.arr 3 1 true ((uni a.Vars b.Vars).map ic),.arr 30 1 true (([r]).map isc)]
  |none=>[jBox a b (.t .nil),.arr 3 1 true ((uni a.Vars b.Vars).map ic)]):=by
 have:=l_pair J.va.four J.vb.four J2.len J2.hh (J.va.row4 hx).1 (J.vb.row4 hy).1 0 (Yb _);refine Zbwf ?_;rw[Ycc,Yj,<-J.agr]at this;unfold prS;rcases tf (Go.Proofs.YtgnfoghkbpkgjaaGreat.agr a.Vars x b.Vars y)with e|e
 .rw[e,if_neg (by decide)]at this|-;exact this
 .rw[e,if_pos rfl]at this|-;exact this
theorem Zbjz{x y:List Int}(hx:x∈a.Rows)(hy:y∈b.Rows){acc:List (List Int)}(hacc:acc.length<=100000):Zii a b (uni a.Vars b.Vars) acc x y=some (.tup [],match prS (uni a.Vars b.Vars) a.Vars x b.Vars y with
  |some r=>[jBox a b (.own 3),.arr 3 1 true ((uni a.Vars b.Vars).map ic),.dead,.arr 30 1 true ((acc++[r]).map isc)]
  |none=>[jBox a b (.own 2),.arr 3 1 true ((uni a.Vars b.Vars).map ic),.arr 30 1 true (acc.map isc)]):=by
 have:=l_pair1 J.va.four J.vb.four J2.len J2.hh (J.va.row4 hx).1 (J.vb.row4 hy).1 hacc 0 (Yb _);refine Zbwg ?_;rw[Ycc,Yj,<-J.agr]at this;unfold prS;rcases tf (Go.Proofs.YtgnfoghkbpkgjaaGreat.agr a.Vars x b.Vars y)with e|e
 .rw[e,if_neg (by decide)]at this|-;exact this
 .rw[e,if_pos rfl]at this|-;exact this
theorem x_newJ:Zka a b=some (.ptr 0 0,[jBox a b (.t .nil),.arr 3 1 true ((uni a.Vars b.Vars).map ic)]):=by
 have h1:=J.va.four;have h2:=J.vb.four;have hl:(srtI (a.Vars++b.Vars)).length=(a.Vars++b.Vars).length:=(Zwh _).length_eq;have hc:=cpt_uni J.ina J.inb;refine Zbwe ⟨_,Zoh _ (by omega),by omega,_,Zbjy (by simp;omega),_,x_cptI (by rw[hl];simp;omega),?_⟩;rw[hc]
def hTl(a b:Zb)(j:Nat):List (List Int):=(b.Rows.drop j).flatMap λy=>a.Rows.filterMap λx=>prS (uni a.Vars b.Vars) a.Vars x b.Vars y
omit J in
theorem Zbj0{j:Nat}(h:j<b.Rows.length):hTl a b j=(a.Rows.filterMap λx=>prS (uni a.Vars b.Vars) a.Vars x b.Vars b.Rows[j])++hTl a b (j+1):=by
 unfold hTl;rw[Yh h,Ybr]
omit J in
theorem Zbj1{j:Nat}(h:b.Rows.length<=j):hTl a b j=[]:=by unfold hTl;rw[Ybw h];rfl
theorem hlim{j i:Nat}(hj:j<b.Rows.length)(hi:i<=a.Rows.length):a.Rows.length*j+i<=4096:=by
 have hp:=J.prod;have:a.Rows.length*(j+1)<=a.Rows.length*b.Rows.length:=Nat.mul_le_mul_left _ hj;rw[Yc8]at this
 skip
 omega
theorem l_h0a{j:Nat}(hj:j<b.Rows.length)(ih:∀acc:List (List Int),acc≠[]->acc.length<=a.Rows.length*(j+1)->Zqf a a b (uni a.Vars b.Vars) acc b.Rows b.Rows.length ((j+1:Nat):Int)=some (Zbc ⟨uni a.Vars b.Vars,acc++hTl a b (j+1)⟩)) :
  ∀i,i<=a.Rows.length->∀acc:List (List Int),acc≠[]->acc.length<=a.Rows.length*j+i->Zke a a b (uni a.Vars b.Vars) acc b.Rows[j] b.Rows b.Rows.length j a.Rows a.Rows.length i=some (Zbc ⟨uni a.Vars b.Vars,acc++(((a.Rows.drop i).filterMap λx=>prS (uni a.Vars b.Vars) a.Vars x b.Vars b.Rows[j])++hTl a b (j+1))⟩):=by
 have hl1:=J.va.len;have hl2:=J.vb.len;refine down _ ?_ ?_
 .intro acc h0 hacc;have:=hlim J hj (Yc _);refine Zbfl ?_;rw[if_neg (by omega),if_neg (by omega),Ym,Yd7,Ybl,wS hj (by omega)];exact ih acc h0 (by rw[Yc8];omega)
 .intro i hi ih2 acc h0 hacc;have:=hlim J hj (i:=i) (by omega);refine Zbfl ?_;rw[if_pos (by omega),wS hi (by omega)];refine⟨by omega,_,gE hi,?_⟩;have hP:=Zbjz J (Yd hi) (Yd hj) (acc:=acc) (by omega);rw[Yh hi]
  cases hc:prS (uni a.Vars b.Vars) a.Vars a.Rows[i] b.Vars b.Rows[j]with
  |none =>
   rw[hc]at hP;rw[Ydr (f:=λx=>prS (uni a.Vars b.Vars) a.Vars x b.Vars b.Rows[j]) hc]
   exact .inl ⟨_,_,_,_,hP,ih2 acc h0 (by omega)⟩
  |some r =>
   rw[hc]at hP;rw[Yds (f:=λx=>prS (uni a.Vars b.Vars) a.Vars x b.Vars b.Rows[j]) hc];refine .inr ⟨_,_,_,_,hP,?_⟩;rw[ih2 (acc++[r]) (by simp) (by simp;omega)];simp
theorem l_h1a:∀j,j<=b.Rows.length->∀acc:List (List Int),acc≠[]->acc.length<=a.Rows.length*j->Zqf a a b (uni a.Vars b.Vars) acc b.Rows b.Rows.length j=some (Zbc ⟨uni a.Vars b.Vars,acc++hTl a b j⟩):=by
 have hp:=J.prod;have hl1:=J.va.len;have hl2:=J.vb.len;refine down _ ?_ ?_
 .intro acc h0 hacc;refine Zbfm ?_;rw[if_neg (by omega),Zbj1 (Yc _),Y6,Zi9 h0]
  skip
  refine .inr ⟨Zbfi ?_,rfl⟩;rw[if_neg (by omega)]
 .intro j hj ih acc h0 hacc;refine Zbfm ?_;rw[if_pos (by omega)];refine⟨by omega,_,gE hj,?_⟩;have:=l_h0a J hj ih 0 (Yb _) acc h0 (by omega);rw[Yj,<-Zbj0 hj]at this;exact this
theorem l_h1:∀j,j<=b.Rows.length->Zqd a a b (uni a.Vars b.Vars) b.Rows b.Rows.length j=some (Zbc ⟨uni a.Vars b.Vars,hTl a b j⟩):=by
 have hl1:=J.va.len;have hl2:=J.vb.len;refine down _ ?_ ?_
 .refine Zbfj ?_;rw[if_neg (by omega),Zbj1 (Yc _),Zja];exact⟨Zbfg rfl,rfl⟩
 .intro j hj ih;have inner:∀i,i<=a.Rows.length->Zqe a a b (uni a.Vars b.Vars) b.Rows[j] b.Rows b.Rows.length j a.Rows a.Rows.length i=some (Zbc ⟨uni a.Vars b.Vars,((a.Rows.drop i).filterMap λx=>prS (uni a.Vars b.Vars) a.Vars x b.Vars b.Rows[j])++hTl a b (j+1)⟩):=by
   refine down _ ?_ ?_
   .refine Zbfk ?_;rw[if_neg (by omega),Ym,Yd7,Ybl,wS hj (by omega)];exact ih
   .intro i hi ih2;refine Zbfk ?_;rw[if_pos (by omega),wS hi (by omega)];refine⟨by omega,_,gE hi,?_⟩;have hP:=x_pair J (Yd hi) (Yd hj);rw[Yh hi]
    cases hc:prS (uni a.Vars b.Vars) a.Vars a.Rows[i] b.Vars b.Rows[j]with
    |none =>
     rw[hc]at hP;rw[Ydr (f:=λx=>prS (uni a.Vars b.Vars) a.Vars x b.Vars b.Rows[j]) hc]
     exact .inl ⟨_,_,_,hP,ih2⟩
    |some r =>
     rw[hc]at hP;rw[Yds (f:=λx=>prS (uni a.Vars b.Vars) a.Vars x b.Vars b.Rows[j]) hc];refine .inr ⟨_,_,_,_,hP,?_⟩;rw[l_h0a J hj (l_h1a J (j+1) hj) (i+1) (by omega) [r] (by simp) (by simp only[Yr,Yc1];omega)];simp
  refine Zbfj ?_;rw[if_pos (by omega)];refine⟨by omega,_,gE hj,?_⟩;have:=inner 0 (Yb _);rw[Yj,<-Zbj0 hj]at this;exact this
theorem Zb1u:Zkd a b=some (Zbc (hashS a b)):=by
 refine Zbwh ⟨_,Zlj J.va,?_⟩;rw[if_pos rfl];refine⟨_,Zlj J.vb,?_⟩;rw[if_pos rfl];refine⟨_,_,_,x_newJ J,?_⟩;have:=l_h1 J 0 (Yb _);have e:hTl a b 0=Zf2 (uni a.Vars b.Vars) a b:=by unfold hTl Zf2;rw[Yj]
 rw[e]at this;exact this
def nTl(a b:Zb)(j:Nat):List (List Int):=(a.Rows.drop j).flatMap λx=>b.Rows.filterMap λy=>prS (uni a.Vars b.Vars) a.Vars x b.Vars y
omit J in
theorem Zbj2{j:Nat}(h:j<a.Rows.length):nTl a b j=(b.Rows.filterMap λy=>prS (uni a.Vars b.Vars) a.Vars a.Rows[j] b.Vars y)++nTl a b (j+1):=by
 unfold nTl;rw[Yh h,Ybr]
omit J in
theorem Zbj3{j:Nat}(h:a.Rows.length<=j):nTl a b j=[]:=by unfold nTl;rw[Ybw h];rfl
theorem nlim{j i:Nat}(hj:j<a.Rows.length)(hi:i<=b.Rows.length):b.Rows.length*j+i<=4096:=by
 have hp:=J.prod;have:b.Rows.length*(j+1)<=b.Rows.length*a.Rows.length:=Nat.mul_le_mul_left _ hj;rw[Yc8]at this;rw[Yc0]at hp;omega
theorem l_n0a{j:Nat}(hj:j<a.Rows.length)(ih:∀acc:List (List Int),acc≠[]->acc.length<=b.Rows.length*(j+1)->Zqj b a b (uni a.Vars b.Vars) acc a.Rows a.Rows.length ((j+1:Nat):Int)=some (Zbc ⟨uni a.Vars b.Vars,acc++nTl a b (j+1)⟩)) :
  ∀i,i<=b.Rows.length->∀acc:List (List Int),acc≠[]->acc.length<=b.Rows.length*j+i->Zkf b a b (uni a.Vars b.Vars) acc a.Rows[j] a.Rows a.Rows.length j b.Rows b.Rows.length i=some (Zbc ⟨uni a.Vars b.Vars,acc++(((b.Rows.drop i).filterMap λy=>prS (uni a.Vars b.Vars) a.Vars a.Rows[j] b.Vars y)++nTl a b (j+1))⟩):=by
 have hl1:=J.va.len;have hl2:=J.vb.len;refine down _ ?_ ?_
 .intro acc h0 hacc;have:=nlim J hj (Yc _);refine Zbfp ?_;rw[if_neg (by omega),if_neg (by omega),Ym,Yd7,Ybl,wS hj (by omega)];exact ih acc h0 (by rw[Yc8];omega)
 .intro i hi ih2 acc h0 hacc;have:=nlim J hj (i:=i) (by omega);refine Zbfp ?_;rw[if_pos (by omega),wS hi (by omega)];refine⟨by omega,_,gE hi,?_⟩;have hP:=Zbjz J (Yd hj) (Yd hi) (acc:=acc) (by omega);rw[Yh hi]
  cases hc:prS (uni a.Vars b.Vars) a.Vars a.Rows[j] b.Vars b.Rows[i]with
  |none =>
   rw[hc]at hP;rw[Ydr (f:=λy=>prS (uni a.Vars b.Vars) a.Vars a.Rows[j] b.Vars y) hc]
   exact .inl ⟨_,_,_,_,hP,ih2 acc h0 (by omega)⟩
  |some r =>
   rw[hc]at hP;rw[Yds (f:=λy=>prS (uni a.Vars b.Vars) a.Vars a.Rows[j] b.Vars y) hc];refine .inr ⟨_,_,_,_,hP,?_⟩;rw[ih2 (acc++[r]) (by simp) (by simp;omega)];simp
theorem l_n1a:∀j,j<=a.Rows.length->∀acc:List (List Int),acc≠[]->acc.length<=b.Rows.length*j->Zqj b a b (uni a.Vars b.Vars) acc a.Rows a.Rows.length j=some (Zbc ⟨uni a.Vars b.Vars,acc++nTl a b j⟩):=by
 have hp:=J.prod;have hl1:=J.va.len;have hl2:=J.vb.len;refine down _ ?_ ?_
 .intro acc h0 hacc;refine Zbfq ?_;rw[if_neg (by omega),Zbj3 (Yc _),Y6,Zi9 h0];rw[Yc0]at hp;refine .inr ⟨Zbfi ?_,rfl⟩;rw[if_neg (by omega)]
 .intro j hj ih acc h0 hacc;refine Zbfq ?_;rw[if_pos (by omega)];refine⟨by omega,_,gE hj,?_⟩;have:=l_n0a J hj ih 0 (Yb _) acc h0 (by omega);rw[Yj,<-Zbj2 hj]at this;exact this
theorem l_n1:∀j,j<=a.Rows.length->Zqh b a b (uni a.Vars b.Vars) a.Rows a.Rows.length j=some (Zbc ⟨uni a.Vars b.Vars,nTl a b j⟩):=by
 have hl1:=J.va.len;have hl2:=J.vb.len;refine down _ ?_ ?_
 .refine Zbfn ?_;rw[if_neg (by omega),Zbj3 (Yc _),Zja];exact⟨Zbfg rfl,rfl⟩
 .intro j hj ih;have inner:∀i,i<=b.Rows.length->Zqi b a b (uni a.Vars b.Vars) a.Rows[j] a.Rows a.Rows.length j b.Rows b.Rows.length i=some (Zbc ⟨uni a.Vars b.Vars,((b.Rows.drop i).filterMap λy=>prS (uni a.Vars b.Vars) a.Vars a.Rows[j] b.Vars y)++nTl a b (j+1)⟩):=by
   refine down _ ?_ ?_
   .refine Zbfo ?_;rw[if_neg (by omega),Ym,Yd7,Ybl,wS hj (by omega)];exact ih
   .intro i hi ih2;refine Zbfo ?_;rw[if_pos (by omega),wS hi (by omega)];refine⟨by omega,_,gE hi,?_⟩;have hP:=x_pair J (Yd hj) (Yd hi);rw[Yh hi]
    cases hc:prS (uni a.Vars b.Vars) a.Vars a.Rows[j] b.Vars b.Rows[i]with
    |none =>
     rw[hc]at hP;rw[Ydr (f:=λy=>prS (uni a.Vars b.Vars) a.Vars a.Rows[j] b.Vars y) hc]
     exact .inl ⟨_,_,_,hP,ih2⟩
    |some r =>
     rw[hc]at hP;rw[Yds (f:=λy=>prS (uni a.Vars b.Vars) a.Vars a.Rows[j] b.Vars y) hc];refine .inr ⟨_,_,_,_,hP,?_⟩;rw[l_n0a J hj (l_n1a J (j+1) hj) (i+1) (by omega) [r] (by simp) (by simp only[Yr,Yc1];omega)];simp
  refine Zbfn ?_;rw[if_pos (by omega)];refine⟨by omega,_,gE hj,?_⟩;have:=inner 0 (Yb _);rw[Yj,<-Zbj2 hj]at this;exact this
theorem Zbj4:Zge a b=some (Zbc (Zc3 a b)):=by
 refine Zbwl ⟨_,Zlj J.va,?_⟩;rw[if_pos rfl];refine⟨_,Zlj J.vb,?_⟩;rw[if_pos rfl];refine⟨_,_,_,x_newJ J,?_⟩;have:=l_n1 J 0 (Yb _);have e:nTl a b 0=Zcb (uni a.Vars b.Vars) a b:=by unfold nTl Zcb;rw[Yj]
 rw[e]at this;exact this
theorem Zb1v{v:Int}(ha:has a.Vars v=true)(hb:has b.Vars v=true)(sa:a.Rows.Pairwise λp q=>kx (cix a.Vars v).toNat p<=kx (cix a.Vars v).toNat q)(sb:b.Rows.Pairwise λp q=>kx (cix b.Vars v).toNat p<=kx (cix b.Vars v).toNat q):Zkg a b v=some (Zbc (Zc3 a b)):=by
 refine Zbwm ⟨_,Zbju J.va ha sa,?_⟩;rw[if_pos rfl];refine⟨_,Zbju J.vb hb sb,?_⟩;rw[if_pos rfl];have hN:=Zbj4 J;by_cases h:(Zc3 a b).Rows=[]
 .have e:Zbc (Zc3 a b)=(.tup [.agg [.own 0,.t .nil],Bo true],[.arr 3 1 true ((Zc3 a b).Vars.map ic)]):=by unfold Zbc;rw[if_pos h]
  rw[e]at hN|-;exact .inr (.inl ⟨_,hN,rfl⟩)
 .have e:Zbc (Zc3 a b)=(.tup [.agg [.own 0,.own 1],Bo true],[.arr 3 1 true ((Zc3 a b).Vars.map ic),.arr 30 1 true ((Zc3 a b).Rows.map isc)]):=by unfold Zbc;rw[if_neg h]
  rw[e]at hN|-;exact .inr (.inr ⟨_,_,hN,rfl⟩)
end
theorem l_union{a b:List Int}(ha:a.length<=4)(hb:b.length<=4):∀v,v<=4->Zkz (((List.range v).map λu:Nat=>(u:Int)).filter λv=>has a v || has b v) a b v=some (.own 0,[.arr 3 1 true ((uni a b).map ic)]):=by
 refine down 4 ?_ ?_
 .refine Zbgt ?_;rw[if_neg (by decide)];rfl
 .intro v hv ih;have hl:(((List.range v).map λu:Nat=>(u:Int)).filter λv=>has a v || has b v).length<=4:=by
   refine Yo (Ycb _ _) ?_;simp;omega
  rw[Yca,Ybm,Ydg]at ih;refine Zbgt ?_;rw[if_pos (by omega),wS hv (by omega)];refine⟨_,Zr3 _ _ (by omega),?_⟩;rcases tf (has a (v:Int))with e|e
  .rw[e,if_neg (by decide)];refine⟨_,Zr3 _ _ (by omega),?_⟩;rcases tf (has b (v:Int))with e2|e2
   .rw[e2,if_neg (by decide)];simpa[e,e2]using ih
   .rw[e2,if_pos rfl];exact⟨by omega,by simpa[e,e2]using ih⟩
  .rw[e,if_pos rfl];exact⟨by omega,by simpa[e]using ih⟩
theorem Z5v{a b:List Int}(ha:a.length<=4)(hb:b.length<=4):Ziy a b=some (.own 0,[.arr 3 1 true ((uni a b).map ic)]):=Zbxx (l_union ha hb 0 (by omega))
def agP(av x bv y:List Int)(i:Nat):Bool:=decide (cix bv (av.getD i 0)<0) || decide (x.getD i 0=celI y (cix bv (av.getD i 0)))
theorem l_agree{av x bv y:List Int}(hb:bv.length<=4)(ha:av.length<=4)(hx:x.length=av.length)(hy:y.length=bv.length):∀i,i<=av.length->Znd av x bv y i=some (Bo ((List.range' i (av.length-i)).all (agP av x bv y)),[]):=by
 refine down _ ?_ ?_
 .refine Zbgu ?_;rw[if_neg (by omega),Ydd];rfl
 .intro i hi ih;refine Zbgu ?_;rw[if_pos (by omega),wS hi (by omega),show av.length-i=(av.length-(i+1))+1 by omega,Yc7,Y8];refine⟨by omega,_,gE hi,_,xFd hb _,?_⟩;have e0:av.getD i 0=av[i]:=by rw[Ybo,Yg hi];rfl
  by_cases h:0<=cix bv av[i]
  .obtain⟨c1,c2,c3⟩:=Zbw (Zf1.1 h);rw[if_pos h];refine⟨_,gE (by omega),_,celG c1 (by omega),?_⟩;have e1:x.getD i 0=x[i]:=by rw[Ybo,Yg (show i<x.length by omega)];rfl
   by_cases h2:x[i]=celI y (cix bv av[i])
   .rw[if_pos h2,ih,show agP av x bv y i=true by unfold agP;rw[e0,e1];simp[h2],Yx]
   .rw[if_neg h2,show agP av x bv y i=false by unfold agP;rw[e0,e1];simp[h2];omega,Ydn]
  .rw[if_neg h,ih,show agP av x bv y i=true by unfold agP;rw[e0];simp;omega,Yx]
theorem x_agree{av x bv y:List Int}(hb:bv.length<=4)(ha:av.length<=4)(hx:x.length=av.length)(hy:y.length=bv.length):Zbu av x bv y=some (Bo (agr av x bv y),[]):=by
 refine Zbxy ?_;have:=l_agree hb ha hx hy 0 (Yb _);rw[Yc3,<-Yeg]at this;exact this
theorem l_merge{vs av x bv y:List Int}(hvs:vs.length<=8)(ha:av.length<=4)(hb:bv.length<=4)(hh:∀v∈vs,has av v=true\/has bv v=true)(hx:x.length=av.length)(hy:y.length=bv.length):∀i,i<=vs.length->Zne ((vs.take i).map (mrV av x bv y)) vs av x bv y i=some (.own 0,[.arr 3 1 true ((vs.map (mrV av x bv y)).map ic)]):=by
 refine down _ ?_ ?_
 .refine Zbgv ?_;rw[if_neg (by omega),Ycu]
 .intro i hi ih;refine Zbgv ?_;rw[Ybn hi,Ybm]at ih;have hl:((vs.take i).map (mrV av x bv y)).length<=8:=by simp;omega
  rw[if_pos (by omega),wS hi (by omega)];refine⟨by omega,_,gE hi,_,xFd ha _,?_⟩;have hv:=hh _ (Yd hi);generalize vs[i]=v at *
  by_cases h:0<=cix av v
  .obtain⟨c1,c2,c3⟩:=Zbw (Zf1.1 h);have e:mrV av x bv y v=celI x (cix av v):=by unfold mrV;rw[if_pos h]
   rw[if_pos h];refine⟨_,celG c1 (by omega),by omega,?_⟩;rw[<-ih,<-e];rfl
  .have hbv:has bv v=true:=hv.resolve_left λe=>h (Zf1.2 e)
   obtain⟨c1,c2,c3⟩:=Zbw hbv;have e:mrV av x bv y v=celI y (cix bv v):=by unfold mrV;rw[if_neg h]
   rw[if_neg h];refine⟨_,xFd hb _,c1,_,celG c1 (by omega),by omega,?_⟩;rw[<-ih,<-e];rfl
theorem x_merge{vs av x bv y:List Int}(hvs:vs.length<=8)(ha:av.length<=4)(hb:bv.length<=4)(hh:∀v∈vs,has av v=true\/has bv v=true)(hx:x.length=av.length)(hy:y.length=bv.length):Zbv vs av x bv y=some (.own 0,[.arr 3 1 true ((vs.map (mrV av x bv y)).map ic)]) :=
 Zbxz (by simpa using l_merge hvs ha hb hh hx hy 0 (Yb _))
def pj(a b:Zb)(flip:Bool)(only:Int)(c i k:Nat):Option (List Int) :=
 if flip=true then prS (uni a.Vars b.Vars) a.Vars (a.Rows.getD k []) b.Vars (b.Rows.getD i [])
 else if only<0\/kx c (a.Rows.getD i [])=only then prS (uni a.Vars b.Vars) a.Vars (a.Rows.getD i []) b.Vars (b.Rows.getD k [])else none
def oN(a b:Zb)(flip:Bool):Nat:=if flip=true then b.Rows.length else a.Rows.length
def iN(a b:Zb)(flip:Bool):Nat:=if flip=true then a.Rows.length else b.Rows.length
structure Md (a b:Zb) (flip:Bool) (only x1:Int) (c:Nat):Prop where
 m1:flip=true->only<0
 m2:0<=only->x1=(c:Int)/\∀r∈a.Rows,c<r.length
theorem mn{n i:Nat}(hn:n<=4096)(h:i<n):(if w ((n:Int)-1)<(i:Int)then w ((n:Int)-1)else(i:Int))=(i:Int):=by
 rw[wA (by omega) (by omega),if_neg (by omega)]
theorem mx{n i:Nat}(hn:n<=4096)(h:0<n):∃j:Nat,j<n/\(if w ((n:Int)-1)<(i:Int)then w ((n:Int)-1)else(i:Int))=(j:Int):=by
 rw[wA (by omega) (by omega)];by_cases e:(n:Int)-1<(i:Int)
 .rw[if_pos e];exact⟨n-1,by omega,by omega⟩
 .rw[if_neg e];exact⟨i,by omega,rfl⟩
theorem gDr{rows:List (List Int)}{i:Nat}(h:i<rows.length):rows.getD i []=rows[i]:=by rw[Ybo,Yg h];rfl
section
variable{a b:Zb}(J:J2 a b){flip:Bool}{only x1:Int}{c:Nat}(M:Md a b flip only x1 c)
include J M
omit M in
theorem x_ag{x y:List Int}(hx:x∈a.Rows)(hy:y∈b.Rows):Zbu a.Vars x b.Vars y=some (Bo (agr a.Vars x b.Vars y),[]):=x_agree J.vb.four J.va.four (J.va.row4 hx).1 (J.vb.row4 hy).1
omit M in
theorem x_mg{x y:List Int}(hx:x∈a.Rows)(hy:y∈b.Rows):Zbv (uni a.Vars b.Vars) a.Vars x b.Vars y=some (.own 0,[.arr 3 1 true (((uni a.Vars b.Vars).map (mrV a.Vars x b.Vars y)).map ic)]):=x_merge J2.len J.va.four J.vb.four J2.hh (J.va.row4 hx).1 (J.vb.row4 hy).1
theorem Zws{i k:Nat}(hi:i<oN a b flip)(hk:k<iN a b flip){N:Prop}{A:List Int->Prop}(h:match pj a b flip only c i k with|none=>N|some r=>A r) :
  (0<=(if w ((a.Rows.length:Int)-1)<(i:Int)then w ((a.Rows.length:Int)-1)else(i:Int))/\∃e1,a.Rows[(if w ((a.Rows.length:Int)-1)<(i:Int)then w ((a.Rows.length:Int)-1)else(i:Int)).toNat]?=some e1/\
   0<=(if w ((b.Rows.length:Int)-1)<(k:Int)then w ((b.Rows.length:Int)-1)else(k:Int))/\∃e2,b.Rows[(if w ((b.Rows.length:Int)-1)<(k:Int)then w ((b.Rows.length:Int)-1)else(k:Int)).toNat]?=some e2/\
   (if flip=true then 0<=(k:Int)/\∃e3,a.Rows[(k:Int).toNat]?=some e3/\0<=(i:Int)/\∃e4,b.Rows[(i:Int).toNat]?=some e4/\
     (if only<0 then ∃v,Zbu a.Vars e3 b.Vars e4=some (Bo v,[])/\(if v=true then ∃u,Zbv (uni a.Vars b.Vars) a.Vars e3 b.Vars e4=some (.own 0,[.arr 3 1 true (u.map ic)])/\A u else N)
     else 0<=x1/\∃e7,e3[x1.toNat]?=some e7/\(if e7=only then ∃v,Zbu a.Vars e3 b.Vars e4=some (Bo v,[])/\(if v=true then ∃u,Zbv (uni a.Vars b.Vars) a.Vars e3 b.Vars e4=some (.own 0,[.arr 3 1 true (u.map ic)])/\A u else N)else N))
    else(if only<0 then ∃v,Zbu a.Vars e1 b.Vars e2=some (Bo v,[])/\(if v=true then ∃u,Zbv (uni a.Vars b.Vars) a.Vars e1 b.Vars e2=some (.own 0,[.arr 3 1 true (u.map ic)])/\A u else N)
     else 0<=x1/\∃e7,e1[x1.toNat]?=some e7/\(if e7=only then ∃v,Zbu a.Vars e1 b.Vars e2=some (Bo v,[])/\(if v=true then ∃u,Zbv (uni a.Vars b.Vars) a.Vars e1 b.Vars e2=some (.own 0,[.arr 3 1 true (u.map ic)])/\A u else N)else N)))):=by
 have hla:=J.va.len;have hlb:=J.vb.len;have core:∀{x y:List Int},x∈a.Rows->y∈b.Rows->(match prS (uni a.Vars b.Vars) a.Vars x b.Vars y with|none=>N|some r=>A r)->
   ∃v,Zbu a.Vars x b.Vars y=some (Bo v,[])/\(if v=true then ∃u,Zbv (uni a.Vars b.Vars) a.Vars x b.Vars y=some (.own 0,[.arr 3 1 true (u.map ic)])/\A u else N):=by
  intro x y hx hy hm;refine⟨_,x_ag J hx hy,?_⟩;unfold prS at hm;by_cases e:agr a.Vars x b.Vars y=true
  .rw[if_pos e]at hm|-;exact⟨_,x_mg J hx hy,hm⟩
  .rw[if_neg e]at hm|-;exact hm
 rcases tf flip with e|e
 .subst e;simp only[oN,iN,Y9,if_false]at hi hk;simp only[pj,Y9,if_false]at h;rw[gDr hi,gDr hk]at h;rw[mn hla hi,mn hlb hk];refine⟨by omega,_,gE hi,by omega,_,gE hk,?_⟩;rw[if_neg (by decide)];by_cases ho:only<0
  .rw[if_pos (.inl ho)]at h;rw[if_pos ho];exact core (Yd hi) (Yd hk) h
  .obtain⟨hx1,hc⟩:=M.m2 (by omega);have hci:=hc _ (Yd hi);have e1:a.Rows[i][c]=kx c a.Rows[i]:=(getElem!_pos a.Rows[i] c hci).symm;rw[if_neg ho,hx1];refine⟨by omega,_,gE hci,?_⟩;rw[e1];by_cases h2:kx c a.Rows[i]=only
   .rw[if_pos (.inr h2)]at h;rw[if_pos h2];exact core (Yd hi) (Yd hk) h
   .rw[if_neg (λh3=>h3.elim ho h2)]at h;rw[if_neg h2];exact h
 .subst e;have ho:=M.m1 rfl;simp only[oN,iN,if_true]at hi hk;simp only[pj,if_true]at h;rw[gDr hi,gDr hk]at h;obtain⟨p,hp,ep⟩:=mx (i:=i) hla (show 0<a.Rows.length by omega);obtain⟨r,hr,er⟩:=mx (i:=k) hlb (show 0<b.Rows.length by omega);rw[ep,er];refine⟨by omega,_,gE hp,by omega,_,gE hr,?_⟩;rw[if_pos rfl];refine⟨by omega,_,gE hk,by omega,_,gE hi,?_⟩;rw[if_pos ho];exact core (Yd hk) (Yd hi) h
def pjT(a b:Zb)(flip:Bool)(only:Int)(c i k:Nat):List (List Int):=(List.range' k (iN a b flip-k)).filterMap (pj a b flip only c i)
def pjO(a b:Zb)(flip:Bool)(only:Int)(c i:Nat):List (List Int):=(List.range' i (oN a b flip-i)).flatMap λi=>pjT a b flip only c i 0
omit J M in
theorem Zwt{i k:Nat}(h:iN a b flip<=k):pjT a b flip only c i k=[]:=by unfold pjT;rw[show iN a b flip-k=0 by omega];rfl
omit J M in
theorem Zwu{i k:Nat}(h:k<iN a b flip):pjT a b flip only c i k=(match pj a b flip only c i k with|none=>[]|some r=>[r])++pjT a b flip only c i (k+1):=by
 unfold pjT;rw[show iN a b flip-k=(iN a b flip-(k+1))+1 by omega,Yc7]
 cases hc:pj a b flip only c i k with
 |none=>rw[Ydr hc];rfl
 |some r=>rw[Yds hc];rfl
omit J M in
theorem Zwv{i:Nat}(h:oN a b flip<=i):pjO a b flip only c i=[]:=by unfold pjO;rw[show oN a b flip-i=0 by omega];rfl
omit J M in
theorem Zww{i:Nat}(h:i<oN a b flip):pjO a b flip only c i=pjT a b flip only c i 0++pjO a b flip only c (i+1):=by
 unfold pjO;rw[show oN a b flip-i=(oN a b flip-(i+1))+1 by omega,Yc7,Ybr]
omit M in
theorem jlim:oN a b flip<=4096/\iN a b flip<=4096:=by
 have:=J.va.len;have:=J.vb.len;unfold oN iN;constructor<;>split<;>omega
def jN(vs:List Int)(rows:List (List Int)):AV×List Blk:=(.agg [.own 0,.own 1],[.arr 3 1 true (vs.map ic),.arr 30 1 true (rows.map isc)])
def jN1(vs:List Int)(rows:List (List Int)):AV×List Blk:=(.agg [.own 0,.own 2],[.arr 3 1 true (vs.map ic),.dead,.arr 30 1 true (rows.map isc)])
def jR(vs:List Int)(rows:List (List Int)):AV×List Blk:=if rows=[]then(.agg [.own 0,.t .nil],[.arr 3 1 true (vs.map ic)])else jN vs rows
def jR1(vs:List Int)(acc rows:List (List Int)):AV×List Blk:=if rows=[]then jN vs acc else jN1 vs (acc++rows)
theorem l_j0b{i:Nat}(hi:i<oN a b flip)(ih:∀acc:List (List Int),acc≠[]->(acc++pjO a b flip only c (i+1)).length<=4096->Zng a b (uni a.Vars b.Vars) acc flip only x1 (oN a b flip) (iN a b flip) ((i+1:Nat):Int)=some (jN (uni a.Vars b.Vars) (acc++pjO a b flip only c (i+1)))) :
  ∀k,k<=iN a b flip->∀acc:List (List Int),acc≠[]->(acc++(pjT a b flip only c i k++pjO a b flip only c (i+1))).length<=4096->Zci a b (uni a.Vars b.Vars) acc flip only x1 (oN a b flip) (iN a b flip) i k=some (jN (uni a.Vars b.Vars) (acc++(pjT a b flip only c i k++pjO a b flip only c (i+1)))):=by
 obtain⟨ho,hn⟩:=jlim J (flip:=flip);refine down _ ?_ ?_
 .intro acc h0 hl;refine Zbgy ?_;rw[Zwt (Yc _),Ybl]at hl|-;rw[if_neg (by omega),wS hi (by omega)];exact ih acc h0 hl
 .intro k hk ih2 acc h0 hl;refine Zbgy ?_;have hal:acc.length<=4096:=by rw[Yp]at hl;omega
  rw[Zwu hk]at hl|-;rw[if_pos (by omega),if_pos (by omega),wS hk (by omega)]
  have h:=Zws J M hi hk (N:=Zci a b (uni a.Vars b.Vars) acc flip only x1 (oN a b flip) (iN a b flip) i ((k+1:Nat):Int)=some (jN (uni a.Vars b.Vars) (acc++((match pj a b flip only c i k with|none=>[]|some r=>[r])++pjT a b flip only c i (k+1)++pjO a b flip only c (i+1))))) (A:=λr=>acc.length+1<=68719476736/\Zci a b (uni a.Vars b.Vars) (acc++[r]) flip only x1 (oN a b flip) (iN a b flip) i ((k+1:Nat):Int)=some (jN (uni a.Vars b.Vars) (acc++((match pj a b flip only c i k with|none=>[]|some r=>[r])++pjT a b flip only c i (k+1)++pjO a b flip only c (i+1))))) (by
   cases hc:pj a b flip only c i k with
   |none =>
    rw[hc]at hl
    exact ih2 acc h0 hl
   |some r =>
    rw[hc]at hl;refine⟨by omega,?_⟩;have:=ih2 (acc++[r]) (by simp) (by simpa using hl);rw[this]
    simp)
  rcases tf flip with e|e<;>subst e<;>simp only[Y9,if_false,if_true,eq_self_iff_true]at h|-<;>exact h
theorem l_j1a:∀i,i<=oN a b flip->∀acc:List (List Int),acc≠[]->(acc++pjO a b flip only c i).length<=4096->Zng a b (uni a.Vars b.Vars) acc flip only x1 (oN a b flip) (iN a b flip) i=some (jN (uni a.Vars b.Vars) (acc++pjO a b flip only c i)):=by
 obtain⟨ho,hn⟩:=jlim J (flip:=flip);refine down _ ?_ ?_
 .intro acc h0 hl;refine Zbgz ?_;rw[if_neg (by omega),Zwv (Yc _),Y6];rfl
 .intro i hi ih acc h0 hl;refine Zbgz ?_;rw[Zww hi]at hl|-;rw[if_pos (by omega)];exact l_j0b J M hi ih 0 (Yb _) acc h0 hl
theorem l_k0b{i:Nat}(hi:i<oN a b flip)(ih:∀acc:List (List Int),acc≠[]->(acc++pjO a b flip only c (i+1)).length<=4096->Znj a b (uni a.Vars b.Vars) acc flip only x1 (oN a b flip) (iN a b flip) ((i+1:Nat):Int)=some (jN1 (uni a.Vars b.Vars) (acc++pjO a b flip only c (i+1)))) :
  ∀k,k<=iN a b flip->∀acc:List (List Int),acc≠[]->(acc++(pjT a b flip only c i k++pjO a b flip only c (i+1))).length<=4096->Zcj a b (uni a.Vars b.Vars) acc flip only x1 (oN a b flip) (iN a b flip) i k=some (jN1 (uni a.Vars b.Vars) (acc++(pjT a b flip only c i k++pjO a b flip only c (i+1)))):=by
 obtain⟨ho,hn⟩:=jlim J (flip:=flip);refine down _ ?_ ?_
 .intro acc h0 hl;refine Zbg2 ?_;rw[Zwt (Yc _),Ybl]at hl|-;rw[if_neg (by omega),wS hi (by omega)];exact ih acc h0 hl
 .intro k hk ih2 acc h0 hl;refine Zbg2 ?_;have hal:acc.length<=4096:=by rw[Yp]at hl;omega
  rw[Zwu hk]at hl|-;rw[if_pos (by omega),if_pos (by omega),wS hk (by omega)]
  have h:=Zws J M hi hk (N:=Zcj a b (uni a.Vars b.Vars) acc flip only x1 (oN a b flip) (iN a b flip) i ((k+1:Nat):Int)=some (jN1 (uni a.Vars b.Vars) (acc++((match pj a b flip only c i k with|none=>[]|some r=>[r])++pjT a b flip only c i (k+1)++pjO a b flip only c (i+1))))) (A:=λr=>acc.length+1<=68719476736/\Zcj a b (uni a.Vars b.Vars) (acc++[r]) flip only x1 (oN a b flip) (iN a b flip) i ((k+1:Nat):Int)=some (jN1 (uni a.Vars b.Vars) (acc++((match pj a b flip only c i k with|none=>[]|some r=>[r])++pjT a b flip only c i (k+1)++pjO a b flip only c (i+1))))) (by
   cases hc:pj a b flip only c i k with
   |none =>
    rw[hc]at hl
    exact ih2 acc h0 hl
   |some r =>
    rw[hc]at hl;refine⟨by omega,?_⟩;have:=ih2 (acc++[r]) (by simp) (by simpa using hl);rw[this]
    simp)
  rcases tf flip with e|e<;>subst e<;>simp only[Y9,if_false,if_true,eq_self_iff_true]at h|-<;>exact h
theorem l_k1a:∀i,i<=oN a b flip->∀acc:List (List Int),acc≠[]->(acc++pjO a b flip only c i).length<=4096->Znj a b (uni a.Vars b.Vars) acc flip only x1 (oN a b flip) (iN a b flip) i=some (jN1 (uni a.Vars b.Vars) (acc++pjO a b flip only c i)):=by
 obtain⟨ho,hn⟩:=jlim J (flip:=flip);refine down _ ?_ ?_
 .intro acc h0 hl;refine Zbg3 ?_;rw[if_neg (by omega),Zwv (Yc _),Y6];rfl
 .intro i hi ih acc h0 hl;refine Zbg3 ?_;rw[Zww hi]at hl|-;rw[if_pos (by omega)];exact l_k0b J M hi ih 0 (Yb _) acc h0 hl
theorem l_j1:∀i,i<=oN a b flip->(pjO a b flip only c i).length<=4096->Znf a b (uni a.Vars b.Vars) flip only x1 (oN a b flip) (iN a b flip) i=some (jR (uni a.Vars b.Vars) (pjO a b flip only c i)):=by
 obtain⟨ho,hn⟩:=jlim J (flip:=flip);refine down _ ?_ ?_
 .intro hl;refine Zbgw ?_;rw[if_neg (by omega),Zwv (Yc _)];rfl
 .intro i hi ih hl;have inner:∀k,k<=iN a b flip->((pjT a b flip only c i k++pjO a b flip only c (i+1))).length<=4096->Zft a b (uni a.Vars b.Vars) flip only x1 (oN a b flip) (iN a b flip) i k=some (jR (uni a.Vars b.Vars) (pjT a b flip only c i k++pjO a b flip only c (i+1))):=by
   refine down _ ?_ ?_
   .intro hl;refine Zbgx ?_;rw[Zwt (Yc _),Ybl]at hl|-;rw[if_neg (by omega),wS hi (by omega)];exact ih hl
   .intro k hk ih2 hl;refine Zbgx ?_
    skip
    rw[Zwu hk]at hl|-;rw[if_pos (by omega),wS hk (by omega)]
    have h:=Zws J M hi hk (N:=Zft a b (uni a.Vars b.Vars) flip only x1 (oN a b flip) (iN a b flip) i ((k+1:Nat):Int)=some (jR (uni a.Vars b.Vars) ((match pj a b flip only c i k with|none=>[]|some r=>[r])++pjT a b flip only c i (k+1)++pjO a b flip only c (i+1)))) (A:=λr=>Zci a b (uni a.Vars b.Vars) ([r]) flip only x1 (oN a b flip) (iN a b flip) i ((k+1:Nat):Int)=some (jR (uni a.Vars b.Vars) ((match pj a b flip only c i k with|none=>[]|some r=>[r])++pjT a b flip only c i (k+1)++pjO a b flip only c (i+1)))) (by
     cases hc:pj a b flip only c i k with
     |none =>
      rw[hc]at hl
      exact ih2 hl
     |some r =>
      rw[hc]at hl;dsimp only;have:=l_j0b J M hi (l_j1a J M (i+1) hi) (k+1) hk ([r]) (by simp) (by simpa using hl);rw[this]
      simp[jR,jN])
    rcases tf flip with e|e<;>subst e<;>simp only[Y9,if_false,if_true,eq_self_iff_true]at h|-<;>exact h
  refine Zbgw ?_;rw[Zww hi]at hl|-;rw[if_pos (by omega)];exact inner 0 (Yb _) hl
theorem l_k1{acc:List (List Int)}(h0:acc≠[]):∀i,i<=oN a b flip->(acc++pjO a b flip only c i).length<=4096->Zk4 a b (uni a.Vars b.Vars) acc flip only x1 (oN a b flip) (iN a b flip) i=some (jR1 (uni a.Vars b.Vars) acc (pjO a b flip only c i)):=by
 obtain⟨ho,hn⟩:=jlim J (flip:=flip);refine down _ ?_ ?_
 .intro hl;refine Zbg0 ?_;rw[if_neg (by omega),Zwv (Yc _)];rfl
 .intro i hi ih hl;have inner:∀k,k<=iN a b flip->(acc++(pjT a b flip only c i k++pjO a b flip only c (i+1))).length<=4096->Zfu a b (uni a.Vars b.Vars) acc flip only x1 (oN a b flip) (iN a b flip) i k=some (jR1 (uni a.Vars b.Vars) acc (pjT a b flip only c i k++pjO a b flip only c (i+1))):=by
   refine down _ ?_ ?_
   .intro hl;refine Zbg1 ?_;rw[Zwt (Yc _),Ybl]at hl|-;rw[if_neg (by omega),wS hi (by omega)];exact ih hl
   .intro k hk ih2 hl;refine Zbg1 ?_;have hal:acc.length<=4096:=by rw[Yp]at hl;omega
    rw[Zwu hk]at hl|-;rw[if_pos (by omega),if_pos (by omega),wS hk (by omega)]
    have h:=Zws J M hi hk (N:=Zfu a b (uni a.Vars b.Vars) acc flip only x1 (oN a b flip) (iN a b flip) i ((k+1:Nat):Int)=some (jR1 (uni a.Vars b.Vars) acc ((match pj a b flip only c i k with|none=>[]|some r=>[r])++pjT a b flip only c i (k+1)++pjO a b flip only c (i+1)))) (A:=λr=>acc.length+1<=68719476736/\Zcj a b (uni a.Vars b.Vars) (acc++[r]) flip only x1 (oN a b flip) (iN a b flip) i ((k+1:Nat):Int)=some (jR1 (uni a.Vars b.Vars) acc ((match pj a b flip only c i k with|none=>[]|some r=>[r])++pjT a b flip only c i (k+1)++pjO a b flip only c (i+1)))) (by
     cases hc:pj a b flip only c i k with
     |none =>
      rw[hc]at hl
      exact ih2 hl
     |some r =>
      rw[hc]at hl;refine⟨by omega,?_⟩;have:=l_k0b J M hi (l_k1a J M (i+1) hi) (k+1) hk (acc++[r]) (by simp) (by simpa using hl);rw[this]
      simp[jR1,jN1])
    rcases tf flip with e|e<;>subst e<;>simp only[Y9,if_false,if_true,eq_self_iff_true]at h|-<;>exact h
  refine Zbg0 ?_;rw[Zww hi]at hl|-;rw[if_pos (by omega)];exact inner 0 (Yb _) hl
end
theorem Zbj5{α:Type}(l:List α)(d:α):(List.range' 0 l.length).map (λi=>l.getD i d)=l:=by
 refine Ycz (by simp) λi h1 h2=>?_
 simp[Ybo,h2]
theorem Z5w{α β:Type}(l:List α)(d:α)(f:α->List β):(List.range' 0 l.length).flatMap (λi=>f (l.getD i d))=l.flatMap f:=by
 conv=>rhs;rw[<-Zbj5 l d]
 rw[List.flatMap_map]
theorem Z5x{α β:Type}(l:List α)(d:α)(f:α->Option β):(List.range' 0 l.length).filterMap (λi=>f (l.getD i d))=l.filterMap f:=by
 conv=>rhs;rw[<-Zbj5 l d]
 rw[List.filterMap_map];rfl
theorem Zbj6(a b:Zb)(only:Int)(c:Nat):pjO a b true only c 0=Zf2 (uni a.Vars b.Vars) a b:=by
 unfold pjO pjT Zf2 oN iN pj;simp only[if_true,Yc3];rw[<-Z5w b.Rows [] λy=>a.Rows.filterMap λx=>prS (uni a.Vars b.Vars) a.Vars x b.Vars y];congr 1;funext i;rw[Z5x a.Rows [] λx=>prS (uni a.Vars b.Vars) a.Vars x b.Vars (b.Rows.getD i [])]
theorem Zbj7(a b:Zb)(c:Nat):pjO a b false (-1) c 0=Zcb (uni a.Vars b.Vars) a b:=by
 unfold pjO pjT Zcb oN iN pj;simp only[Y9,if_false,Yc3,show((-1:Int)<0)=True by simp,true_or,if_true];rw[<-Z5w a.Rows [] λx=>b.Rows.filterMap λy=>prS (uni a.Vars b.Vars) a.Vars x b.Vars y];congr 1;funext i;rw[Z5x b.Rows [] λy=>prS (uni a.Vars b.Vars) a.Vars (a.Rows.getD i []) b.Vars y]
theorem Zbj8{α β:Type}(p:α->Bool)(f:α->List β):∀l:List α,(l.filter p).flatMap f=l.flatMap λx=>if p x=true then f x else[]
 |[]=>rfl
 |x::l=>by
  have ih:=Zbj8 p f l;rw[Ybr,<-ih,Ycw];split
  .rw[Ybr]
  .rfl
theorem Zwx(a b:Zb)(u c:Nat):pjO a b false (u:Int) c 0=Zcb (uni a.Vars b.Vars) ⟨a.Vars,a.Rows.filter λr=>decide (kx c r=(u:Int))⟩ b:=by
 unfold pjO pjT Zcb oN iN pj;simp only[Y9,if_false,Yc3,show((u:Int)<0)=False by simp,false_or];rw[Zbj8,<-Z5w a.Rows [] λx=>if decide (kx c x=(u:Int))=true then b.Rows.filterMap λy=>prS (uni a.Vars b.Vars) a.Vars x b.Vars y else[]];congr 1;funext i;by_cases e:kx c (a.Rows.getD i [])=(u:Int)
 .simp only[e,if_true,decide_true];rw[Z5x b.Rows [] λy=>prS (uni a.Vars b.Vars) a.Vars (a.Rows.getD i []) b.Vars y]
 .simp only[e,if_false,decide_false,Y9];simp
section
variable{a b:Zb}(J:J2 a b)
include J
theorem Z5y:(Zcb (uni a.Vars b.Vars) a b).length<=4096:=by
 have:=Zbiy (uni a.Vars b.Vars) a b;have:=J.prod;rw[Yc0]at this;omega
theorem Zbj9:(Zf2 (uni a.Vars b.Vars) a b).length<=4096:=by
 have:=Zbiz (uni a.Vars b.Vars) a b;have:=J.prod;omega
omit J in
theorem x_done{vs:List Int}{rows:List (List Int)}(hn:rows≠[])(hl:rows.length<=4096):Zgg vs rows=some (.tup [.agg [.own 0,.own 1],Bo true],[.arr 3 1 true (vs.map ic),.arr 30 1 true (rows.map isc)]):=by
 refine Zbx0 ?_;rw[if_neg (by omega)]
theorem Zb1w:Zk2 a b=some (Zbc (hashS a b)):=by
 refine Zbx1 ⟨_,Zlk J.va,?_⟩;rw[if_pos rfl];refine⟨_,Zlk J.vb,?_⟩;rw[if_pos rfl];refine⟨_,Z5v J.va.four J.vb.four,?_⟩;have hj:Zew (uni a.Vars b.Vars) a b true 0 (-1)=some (jR (uni a.Vars b.Vars) (Zf2 (uni a.Vars b.Vars) a b)):=by
  refine Z4t ⟨_,xFd J.va.four 0,?_⟩;rw[if_pos rfl];have:=l_j1 J (flip:=true) (only:=-1) (x1:=cix a.Vars 0) (c:=0) ⟨λ_=>by decide,λh=>absurd h (by decide)⟩ 0 (Yb _) (by rw[Zbj6];exact Zbj9 J);rw[Zbj6]at this;exact this
 show(_\/_);unfold hashS;by_cases e:Zf2 (uni a.Vars b.Vars) a b=[]
 .rw[e]at hj|-;exact .inl ⟨_,hj,_,Z4u rfl,by rw[Zja]⟩
 .unfold jR at hj;rw[if_neg e]at hj;exact .inr ⟨_,_,hj,.inr ⟨_,_,x_done e (Zbj9 J),by rw[Zi9 e]⟩⟩
theorem Zb1x:Zk3 a b=some (Zbc (Zc3 a b)):=by
 refine Zbx2 ⟨_,Zlk J.va,?_⟩;rw[if_pos rfl];refine⟨_,Zlk J.vb,?_⟩;rw[if_pos rfl];refine⟨_,Z5v J.va.four J.vb.four,?_⟩;have hj:Zew (uni a.Vars b.Vars) a b false 0 (-1)=some (jR (uni a.Vars b.Vars) (Zcb (uni a.Vars b.Vars) a b)):=by
  refine Z4t ⟨_,xFd J.va.four 0,?_⟩;rw[if_neg (by decide)];have:=l_j1 J (flip:=false) (only:=-1) (x1:=cix a.Vars 0) (c:=0) ⟨λh=>absurd h (by decide),λh=>absurd h (by decide)⟩ 0 (Yb _) (by rw[Zbj7];exact Z5y J);rw[Zbj7]at this;exact this
 show(_\/_);unfold Zc3;by_cases e:Zcb (uni a.Vars b.Vars) a b=[]
 .rw[e]at hj|-;exact .inl ⟨_,hj,_,Z4u rfl,by rw[Zja]⟩
 .unfold jR at hj;rw[if_neg e]at hj;exact .inr ⟨_,_,hj,.inr ⟨_,_,x_done e (Z5y J),by rw[Zi9 e]⟩⟩
omit J in
def mgT(a b:Zb)(c u:Nat):List (List Int):=(List.range' u (10-u)).flatMap λi:Nat=>Zcb (uni a.Vars b.Vars) ⟨a.Vars,a.Rows.filter λr=>decide (kx c r=(i:Int))⟩ b
omit J in
theorem Zbka{c u:Nat}(h:u<10):mgT a b c u=Zcb (uni a.Vars b.Vars) ⟨a.Vars,a.Rows.filter λr=>decide (kx c r=(u:Int))⟩ b++mgT a b c (u+1):=by
 unfold mgT;rw[show 10-u=(10-(u+1))+1 by omega,Yc7,Ybr]
variable{v:Int}(ha:has a.Vars v=true)
include ha
theorem md_val(u:Nat):Md a b false (u:Int) (cix a.Vars v) (cix a.Vars v).toNat:=by
 obtain⟨c1,c2,c3⟩:=Zbw ha;exact⟨λh=>absurd h (by decide),λ_=>⟨by omega,λr hr=>by have:=(J.va.row4 hr).1;omega⟩⟩
theorem l_mg0a:∀u:Nat,u<=10->∀acc:List (List Int),acc≠[]->(acc++mgT a b (cix a.Vars v).toNat u).length<=4096->Znl a b (uni a.Vars b.Vars) acc v u=some (Zbc ⟨uni a.Vars b.Vars,acc++mgT a b (cix a.Vars v).toNat u⟩):=by
 refine down 10 ?_ ?_
 .intro acc h0 hl;rw[show mgT a b (cix a.Vars v).toNat 10=[]from rfl,Y6]at hl|-;refine Zbg5 ?_;rw[if_neg (by decide),Zi9 h0];exact .inr ⟨_,_,x_done h0 hl,rfl⟩
 .intro u hu ih acc h0 hl;rw[Zbka hu]at hl|-;have hj:Zq8 (uni a.Vars b.Vars) acc a b false v (u:Int)=some (jR1 (uni a.Vars b.Vars) acc (Zcb (uni a.Vars b.Vars) ⟨a.Vars,a.Rows.filter λr=>decide (kx (cix a.Vars v).toNat r=(u:Int))⟩ b)):=by
   refine Zbx4 ⟨_,xFd J.va.four v,?_⟩;rw[if_neg (by decide)];have:=l_k1 J (md_val J ha u) h0 0 (Yb _) (by rw[Zwx];simp only[Yp]at hl|-;omega);rw[Zwx]at this;exact this
  refine Zbg5 ?_;rw[if_pos (by omega),wA (by omega) (by omega)];generalize Zcb (uni a.Vars b.Vars) ⟨a.Vars,a.Rows.filter λr=>decide (kx (cix a.Vars v).toNat r=(u:Int))⟩ b=rows at *
  by_cases e:rows=[]
  .subst e;rw[Ybl]at hl|-;exact .inl ⟨_,_,hj,by exact_mod_cast ih acc h0 hl⟩
  .unfold jR1 at hj;rw[if_neg e]at hj;refine .inr ⟨_,_,hj,?_⟩;have:=ih (acc++rows) (by simp[h0]) (by rw[Yn];exact hl);rw[Yn]at this
   exact_mod_cast this
theorem l_mg0:∀u:Nat,u<=10->(mgT a b (cix a.Vars v).toNat u).length<=4096->Zq9 a b (uni a.Vars b.Vars) v u=some (Zbc ⟨uni a.Vars b.Vars,mgT a b (cix a.Vars v).toNat u⟩):=by
 refine down 10 ?_ ?_
 .intro hl;refine Zbg4 ?_;rw[if_neg (by decide),show mgT a b (cix a.Vars v).toNat 10=[]from rfl,Zja];exact⟨_,Z4u rfl,rfl⟩
 .intro u hu ih hl;rw[Zbka hu]at hl|-;have hj:Zew (uni a.Vars b.Vars) a b false v (u:Int)=some (jR (uni a.Vars b.Vars) (Zcb (uni a.Vars b.Vars) ⟨a.Vars,a.Rows.filter λr=>decide (kx (cix a.Vars v).toNat r=(u:Int))⟩ b)):=by
   refine Z4t ⟨_,xFd J.va.four v,?_⟩;rw[if_neg (by decide)];have:=l_j1 J (md_val J ha u) 0 (Yb _) (by rw[Zwx];simp only[Yp]at hl|-;omega);rw[Zwx]at this;exact this
  refine Zbg4 ?_;rw[if_pos (by omega),wA (by omega) (by omega)];generalize Zcb (uni a.Vars b.Vars) ⟨a.Vars,a.Rows.filter λr=>decide (kx (cix a.Vars v).toNat r=(u:Int))⟩ b=rows at *
  by_cases e:rows=[]
  .subst e;rw[Ybl]at hl|-;exact .inl ⟨_,hj,by exact_mod_cast ih hl⟩
  .unfold jR at hj;rw[if_neg e]at hj;refine .inr ⟨_,_,hj,?_⟩
   exact_mod_cast l_mg0a J ha (u+1) (by omega) rows e hl
theorem Zb1y(hb:has b.Vars v=true)(sa:a.Rows.Pairwise λp q=>kx (cix a.Vars v).toNat p<=kx (cix a.Vars v).toNat q)(sb:b.Rows.Pairwise λp q=>kx (cix b.Vars v).toNat p<=kx (cix b.Vars v).toNat q):Znk a b v=some (Zbc (Zc3 a b)):=by
 refine Zbx5 ⟨_,Zbjv J.va ha sa,?_⟩;rw[if_pos rfl];refine⟨_,Zbjv J.vb hb sb,?_⟩;rw[if_pos rfl];refine⟨_,Z5v J.va.four J.vb.four,?_⟩;have e:mgT a b (cix a.Vars v).toNat 0=Zcb (uni a.Vars b.Vars) a b:=by
  unfold mgT;rw[Yc3,<-Yeg];exact Zb0x sa λr hr=>(J.va.ok ha r hr).2
 have:=l_mg0 J ha 0 (by omega) (by rw[e];exact Z5y J);rw[e]at this;exact this
end
end Go.Proofs.YtgnfoghkbpkgjaaGreat
