/-
  Parts of the proofs for this seat: SO1 SO2 SO3 CE.
-/
import Derived.Shelf.SlSortCmp.Kit1
import Derived.Test.YtobfkfgdneeabaaGreatP5
import Derived.Test.YtobfkfgdneeabaaGreatP26
set_option linter.all false
set_option maxRecDepth 100000
set_option maxHeartbeats 4000000
namespace Go.Proofs.YtobfkfgdneeabaaGreat
open Go.RowKit Go.AM
def ZDk{w:World}:∀{r:V2} {vs:V5} {fp:V4},AS w (r.map ic).flatten vs fp->vs=r.map (Value.int .i64)
 |[],vs,fp,h=>by cases h;rfl
 |x::r,vs,fp,h=>by
  rw[Yv,C1]at h;change AS w (T.int .i64 x::(r.map ic).flatten) vs fp at h
  cases h with
  |cons h hs =>
   cases h;rw[Yv,<-ZDk hs]
def ZqT{w W:World}{r:V2}{v:Value}{fp:V4}(h:TR w (.lst 1 (r.map ic)) v fp)(hW:∀g∈fp,W.heap[g]?=w.heap[g]?):Ha W v r:=by
 have h:=h.frame hW;generalize he:r.map ic=es at h
 cases h with
 |lst0 sz a cap =>
  have:r=[]:=List.map_eq_nil_iff.1 he
  subst this
  exact⟨a,cap,rfl,λj hj=>absurd hj (Nat.not_lt_zero _)⟩
 |@lst sz es g off cap c e fz fp hne hsz hcap hg hlen hc =>
  subst he;have hv:=ZDk hc;refine⟨some ⟨g,off,none⟩,cap,by rw[Y1],λj hj=>⟨g,off,rfl,?_⟩⟩;have h1:((c.toList.drop off).take ((r.map ic).length*1))[j]?=some (.int .i64 r[j]):=by
   simp_all
  rw[RG,Ya (by rw[Y1];omega),Ydc]at h1;unfold World.cell?;rw[hg];simpa using h1
end Go.Proofs.YtobfkfgdneeabaaGreat
namespace Go.Proofs.YtobfkfgdneeabaaGreat
open Go.RowKit Go.AM Go.Lib Go.Sort
def ZDl:Prop:=∀(α:Type) [Inhabited α] (enc:α->Value) (_:OneCell enc) (cf:α->α->Int) (_:SWO (ltOf cf)) (blk off cap:Nat) (d:Array α) (w:World),CmpLays1 Tryz.prog 194 #[] enc cf blk off d.size w->Holds enc w blk off d->blk<w.heap.size->d.size<4611686018427387904->
 Calls Tryz.prog 193 #[.slice (some ⟨blk,off,none⟩) d.size cap,.func (.func 194) #[] #[]] w λe w'=>e=.returned (.tuple #[])/\∃d' n os,PermIn 0 d.size d d'/\SortedIn (ltOf cf) 0 d.size d'/\w'=sortWorld enc w blk off n d' os
def ZDm:Prop:=∀(p:Option Addr) (cap:Nat) (w:World),Calls Tryz.prog 193 #[.slice p 0 cap,.func (.func 194) #[] #[]] w λe w'=>e=.returned (.tuple #[])/\w'=w
def El(w:World)(g:Nat):Type:={p:V2×Value×V4 // TR w (.lst 1 (p.1.map ic)) p.2.1 p.2.2/\(∀x∈p.2.2,x≠g)/\p.1.length<=4}
instance (w:World) (g:Nat):Inhabited (El w g):=⟨⟨([],.slice none 0 0,[]),.lst0 1 none 0,Z,Z⟩⟩
def El.enc{w:World}{g:Nat}(x:El w g):Value:=x.1.2.1
def El.row{w:World}{g:Nat}(x:El w g):V2:=x.1.1
def El.tri{w:World}{g:Nat}(x:El w g):XS×Value×V4:=([x.1.1],x.1.2.1,x.1.2.2)
def El.t3{w:World}{g:Nat}(x:El w g):V6×V5×V4:=(Ae x.row,[x.enc],x.1.2.2)
def El.list{w:World}{g:Nat}:∀l:List (V6×V5×V4),(∀p∈l,∃q:El w g,q.t3=p)->∃L:List (El w g),L.map El.t3=l
 |[],_=>⟨[],rfl⟩
 |p::l,h=>by
  obtain⟨q,hq⟩:=h p Z;obtain⟨L,hL⟩:=El.list l λp hp=>h p (by simp[hp])
  exact⟨q::L,by simp[hq,hL]⟩
def Oj{w:World}{g:Nat}(x y:El w g):Int:=ZH x.row y.row
def Aa6{w:World}{g:Nat}:SWO (ltOf (Oj (w:=w) (g:=g))) where
 irrefl x:=by unfold ltOf Oj;rw[KX];rfl
 trans x y z h1 h2:=by
  unfold ltOf Oj at *
  grind [I8,Int.le_of_lt,Kv,Int.lt_or_eq_of_le,UM]
 ntrans x y z h1 h2:=by
  unfold ltOf Oj at *
  grind [Kv,I8]
def ZqU{α:Type}[Inhabited α](enc:α->Value)(w:World)(blk off n:Nat)(d:Array α)(os:Array Obj){k:Nat}(hk:k<w.heap.size)(c:k≠blk):(sortWorld enc w blk off n d os).heap[k]?=w.heap[k]?:=by
 show((w.heap.modify blk (onCells (putCells enc off d)))++os)[k]?=_
 grind
def ZDn{α:Type}[Inhabited α](enc:α->Value)(w:World)(blk off n:Nat)(d:Array α)(os:Array Obj){c:Array Value}{e:TypeId}{fz:Nat×Nat}(hg:w.heap[blk]?=some (.cells c e fz)):(sortWorld enc w blk off n d os).heap[blk]?=some (.cells (putCells enc off d c) e fz):=by
 have hk:blk<w.heap.size:=(Hy.1 hg).1;show((w.heap.modify blk (onCells (putCells enc off d)))++os)[blk]?=_;rw[Array.getElem?_append_left (by simpa using hk),Array.getElem?_modify,Ya rfl,hg];rfl
def ZPW(w:World)(g size:Nat):CmpLays1 Tryz.prog 194 #[] (El.enc (w:=w) (g:=g)) Oj g 0 size w:=by
 intro m os dk hs x y;have hx:=ZqT (W:=sortWorld El.enc w g 0 m dk os) x.2.1 λk hk=>ZqU _ _ _ _ _ _ _ (x.2.1.lt k hk) (x.2.2.1 k hk)
 have hy:=ZqT (W:=sortWorld El.enc w g 0 m dk os) y.2.1 λk hk=>ZqU _ _ _ _ _ _ _ (y.2.1.lt k hk) (y.2.2.1 k hk)
 have h4:=x.2.2.2;have h5:=y.2.2.2;refine(ZPV x.enc y.enc x.row y.row _ hx hy (by unfold El.row;omega) (by unfold El.row;omega)).mono ?_;rintro e w' ⟨rfl,rfl⟩;exact⟨rfl,0,#[],by simp[grow,World.drewN]⟩
end Go.Proofs.YtobfkfgdneeabaaGreat
namespace Go.Proofs.YtobfkfgdneeabaaGreat
open Go.RowKit Go.AM Go.Lib Go.Sort
def ZDo{w:World}{g:Nat}{r:V2}{z:V5}{f:V4}(h:AS w (Ae r) z f)(hf:∀x∈f,x≠g)(hr:r.length<=4):∃q:El w g,q.t3=(Ae r,z,f):=by
 unfold Ae at h
 cases h with
 |@cons t v fp ts vs fq h hs =>
  cases hs;rw[CX]at hf|-;exact⟨⟨(r,v,fp),h,hf,hr⟩,rfl⟩
def Z27{a b:V2}(h:Ae a=Ae b):a=b:=by
 unfold Ae at h;simp only[Yc9,T.lst.injEq,true_and,and_true]at h;exact(cX (f:=ic) (by intro x y hxy;simpa[ic]using hxy)).1 h
def ZqV{α:Type}[Inhabited α](enc:α->Value)(d:Array α)(c:Array Value)(h:d.size<=c.size):(putCells enc 0 d c).toList=d.toList.map enc++c.toList.drop d.size:=by
 refine D9 (by simp[putCells];omega) λi h1 h2=>?_
 have hi:i<c.size:=by simpa[putCells]using h1
 simp only[putCells,Ydm,Array.getElem_mapIdx]
 grind
def ZqW{w:World}{g:Nat}:∀L:List (El w g),((L.map El.t3).map (·.2.1)).flatten=L.map El.enc
 |[]=>rfl
 |x::L=>by
  have ih:=ZqW L;simp only[Yv,C1]at ih|-;rw[ih];rfl
def ZDp{w:World}{g:Nat}(L:List (El w g)):(L.map El.t3).map (·.1)=(L.map El.row).map Ae:=by simp[El.t3]
def ZPX(K:ZDl)(K0:ZDm){fr:Bool}{rows:XS}(cd:rows.length<=4096)(cc:∀r∈rows,r.length<=4) :
  XX Tryz.prog 193 [.own 0,.fn 194 []] [.arr 38 1 fr (rows.map Ae)] (.tup []) [.arr 38 1 fr ((Kg rows).map Ae)]:=by
 refine⟨by decide +kernel,?_⟩;intro N base w ρ vs R hdom hv hz;obtain⟨l⟩:=vs;simp only at hv
 cases hv with|cons q0 hv =>
 cases hv with|cons q1 hv =>
 cases hv
 cases q0 with|own hr h1 =>
 rename_i r
 cases q1 with|fn q1 =>
 rename_i c;obtain⟨c⟩:=c;simp only at q1;cases q1;have hb:gt [AF.arr 38 1 fr (rows.map Ae)] 0=.arr 38 1 fr (rows.map Ae):=by simp[gt]
 have hd0:gt [AF.arr 38 1 fr (rows.map Ae)] 0≠.dead:=by rw[hb];intro hc;cases hc
 obtain⟨r2,e1,e2⟩:=R.blk 0 hd0;rw[hr]at e1;cases e1;rw[hb]at e2;obtain⟨e',xs,hel,ho,hsz,hlen1,htr,hfree,hfr⟩:=e2;obtain⟨hxl,ho⟩:=ho;rcases ho with⟨Bh,hn⟩|⟨g,cap,cur,Bh,hbg,hg,hcap,hcm,DA,htake⟩
 .have hn:rows=[]:=by simpa using hn
  subst hn;rw[Bh];refine(K0 none 0 w).mono ?_;rintro e w' ⟨rfl,rfl⟩;exact⟨_,ρ,rfl,Below.refl _ _,by simpa[Kg]using R,.tup .nil,hdom,Z,λ_ _ _=>rfl,λg hg hzz=>⟨by simpa[Kg]using hz g hzz,rfl⟩,λb r0 _ h=>⟨r0,h,rfl⟩⟩
 obtain⟨zs,hzx,hch⟩:=Ch.of htr;obtain⟨l,p1,p2,p3,p4⟩:=hch.zip;have hblk:Xe r.v=some g:=by rw[Bh];rfl
 have hfg:∀x∈r.fp,x≠g:=λx hx e=>by
  subst e;exact(hfree x hx).2 0 r hr hd0 hblk
 have hgs:g<w.heap.size:=(Hy.1 hg).1
 obtain⟨L,hL⟩:=El.list (w:=w) (g:=g) l (by
  intro p hp;have hm:p.1∈rows.map Ae:=by rw[<-p1];exact Yn.2 ⟨p,hp,rfl⟩
  obtain⟨r0,hr0,e0⟩:=Yn.1 hm;have ht:=p4 p hp;rw[<-e0]at ht;obtain⟨q,hq⟩:=ZDo (g:=g) ht (λx hx=>hfg x (by rw[<-p3];exact cU.2 ⟨p.2.2,Yn.2 ⟨p,hp,rfl⟩,hx⟩)) (cc r0 hr0)
  exact⟨q,by rw[hq,e0]⟩)
 subst hL;have hrows:L.map El.row=rows:=by
  have:(L.map El.row).map Ae=rows.map Ae:=by rw[<-p1];simp[El.t3]
  exact(cX (λa b h=>Z27 h)).1 this
 have aV:L.length=rows.length:=by rw[<-hrows,Y1]
 have henc:L.map El.enc=cur.toList.take ((rows.map Ae).length*1):=by
  rw[htake,<-hzx,<-p2];simp[El.t3];clear p1 p2 p3 p4 hrows aV
  induction L with
  |nil=>rfl
  |cons x L ih=>simp[ih];rfl
 have hcell:Holds El.enc w g 0 L.toArray:=by
  intro j hj;have hj':j<L.length:=by simpa using hj
  have h2:cur[j]?=some (L[j].enc):=by
   have h3:(cur.toList.take ((rows.map Ae).length*1))[j]?=some (L[j].enc):=by rw[<-henc,RI,Yh hj'];rfl
   rw[RG,Ya (by simp;omega)]at h3;simpa using h3
  refine⟨?_,?_⟩
  .unfold World.cell?;rw[hg];simp[h2,hj']
  .simp[World.frozen?,hg]
 have hcall:=K (El w g) El.enc (λx=>x.2.1.one) Oj Aa6 g 0 cap L.toArray w (ZPW w g _) hcell hgs (by simp;omega);rw[Bh,show(rows.map Ae).length=L.toArray.size by simp[aV]];refine hcall.mono ?_;rintro e w' ⟨rfl,d',n,os,hP,hS,rfl⟩;have hds:d'.size=L.length:=by have:=hP.1;simpa using this
 have hperm:d'.toList.Perm L:=by
  have:=hP.2.2;rw[show L.toArray.size=d'.size from hP.1.symm,Array.extract_size]at this;rw[hP.1,Array.extract_size]at this;simpa using this
 have hgr:w.grownBy (sortWorld El.enc w g 0 n d' os) (some g):=⟨rfl,rfl,rfl,by show w.heap.size<=((w.heap.modify g _)++os).size;simp,λk hk hne=>ZqU _ _ _ _ _ _ _ hk (by intro e;exact hne (by rw[e]))⟩;have hpl:(d'.toList.map El.t3).Perm (L.map El.t3):=hperm.map _
 obtain⟨P1,P2,P3⟩:=Z5M R hr (by intro b hb;exact hdom b (by simpa using hb)) Bh hg p1 (by rw[p2,hzx,htake]) p3 p4 hpl ⟨_,ZDn _ _ _ _ _ _ _ hg,by
  rw[ZqV _ _ _ (by simp at hcap;omega),ZqW,hds,aV];simp⟩ hgr
 have hsd:(d'.toList.map El.row)=Kg rows:=by
  refine ZPR (by rw[<-hrows];exact hperm.map _) ?_;rw[List.pairwise_map,Lz];intro i j hi hj hij;have h:=hS i j (Yc _) hij (by simp at hj|-;omega);rw[getElem!_pos d' j (by simpa using hj),getElem!_pos d' i (by simpa using hi)]at h;unfold ltOf Oj at h;unfold Db;simp only[decide_eq_false_iff_not,decide_eq_true_eq,Ydm]at h|-;have:=Kv d'[i].row d'[j].row;omega
 rw[ZDp,hsd]at P1 P2;refine⟨_,_,rfl,⟨hgr.os,hgr.tape,hgr.output,hgr.size,λk hk=>hgr.block k (Fx hk R.hb) (by intro e;cases e;omega)⟩,P1,.tup .nil,λb hb=>?_,Z,P3,λk hk hzz=>P2.free k hk (hz k hzz),λb r0 hb h0=>P2.root b r0 h0⟩;simp only[Au];rw[Yb (by simp at hb;omega)];exact hdom b (by simpa using hb)
def ZPY{a b:XS}(h:a.map Ae=b.map Ae):a=b:=(cX (λ_ _ h=>Z27 h)).1 h
def Ok{a b:V2}(h:a.map ic=b.map ic):a=b:=(cX (f:=ic) (by intro x y hxy;simpa[ic]using hxy)).1 h
def ZDq{rows:XS}(h1:rows.length<=4096)(h2:∀r∈rows,r.length<=4)(k:XS->XR):Sh (rows.map Ae) k=some (k rows):=by
 have h:∃r,Z6g (rows.map Ae) r:=⟨rows,rfl,h1,h2⟩;unfold Sh;rw[dif_pos h,ZPY h.choose_spec.1.symm]
def ZDr{l:V2}(h1:l.length<=4096)(k:V2->XR):Si (l.map ic) k=some (k l):=by
 have h:∃r,Z6h (l.map ic) r:=⟨l,rfl,h1⟩;unfold Si;rw[dif_pos h,Ok h.choose_spec.1.symm]
def t193:Ad 193=none:=by kernel_rfl
def Aa7:Ad 195=none:=by kernel_rfl
def Aa8:Ad 184=none:=by kernel_rfl
def Aa9:Ad 219=none:=by kernel_rfl
def Ol{fr:Bool}{rows:XS}(h1:rows.length<=4096)(h2:∀r∈rows,r.length<=4):C 193 [.own 0,.fn 194 []] [.arr 38 1 fr (rows.map Ae)]=some (.tup [],[.arr 38 1 fr ((Kg rows).map Ae)]) :=
 yE t193 (by simp only[ext,Ya];exact ZDq h1 h2 _)
def rK{fr:Bool}{rows:XS}(h1:rows.length<=4096)(h2:∀r∈rows,r.length<=4):C 195 [.own 0,.fn 196 []] [.arr 38 1 fr (rows.map Ae)]=some (.own 1,[.dead,.arr 38 1 fr ((Vx rows).map Ae)]) :=
 yE Aa7 (by simp only[ext,Ya];exact ZDq h1 h2 _)
def ZPZ{fr:Bool}{l:V2}(h1:l.length<=4096):C 184 [.own 0] [.arr 3 1 fr (l.map ic)]=some (.tup [],[.arr 3 1 fr ((ZE l).map ic)]) :=
 yE Aa8 (by simp only[ext,Ya];exact ZDr h1 _)
def On{fr:Bool}{l:V2}(h1:l.length<=4096):C 219 [.own 0] [.arr 3 1 fr (l.map ic)]=some (.own 1,[.dead,.arr 3 1 fr ((Wg l).map ic)]) :=
 yE Aa9 (by unfold ext;simp only[show ¬(219:Nat)=184 by decide,if_false,if_true];exact ZDr h1 _)
