/-
  Parts of the proofs for this seat: DW DX DF DF2 DFN DFX.
-/
import Derived.Deep.LoopGhost
import Derived.Deep.RegionLaw
import Derived.Lib.SlBy
import Derived.Lib.SliceRun
import Derived.Lib.Walk
import Derived.Shelf.RegionOpenPlain
import Derived.Test.YtcfaekfjkeobhaaGreatChecked
import Derived.WalkKit
import Derived.Test.YtcfaekfjkeobhaaGreatP3
import Derived.Test.YtcfaekfjkeobhaaGreatP5
import Derived.Test.YtcfaekfjkeobhaaGreatP6
import Derived.Test.YtcfaekfjkeobhaaGreatP7
set_option linter.unusedSectionVars false
set_option linter.unusedSimpArgs false
set_option linter.unusedVariables false
set_option maxRecDepth 100000
set_option maxHeartbeats 4000000
namespace Go.Proofs.YtcfaekfjkeobhaaGreat
open Go.RowKit
def zEnt:Value:=.agg #[.int .i64 0,.slice none 0 0,.slice none 0 0,.slice none 0 0,.slice none 0 0,.int .i64 0,.int .i64 0,.int .i64 0]
theorem infoE:(Tryz.prog.info? 63).map (λi=>(i.zero,i.size,i.bytes))=some (some zEnt,8,128):=by kernel_rfl
theorem Zh5{w:World}{b t:Nat}{c:Array Value}{te:TypeId}(hh:w.heap[b]?=some (.cells c te (0,0))):w.cell? ⟨b,t,none⟩=c[t]?:=by
 simp[World.cell?,hh]
theorem Zup{w:World}{b t:Nat}{c:Array Value}{te:TypeId}(hh:w.heap[b]?=some (.cells c te (0,0))):w.frozen? ⟨b,t,none⟩=false:=by
 simp[World.frozen?,hh]
theorem Zuq{w:World}{g o:Nat}{te:TypeId}{c:Array Value}(hg:w.heap[g]?=some (.cells c te (0,0))){vs:List Value}(cc:o+vs.length<=c.size)(h1:∀v∈vs,v.oneCell'=true) :
  w.setCells g o vs=w.setRow g (c.toList.take o++vs++c.toList.drop (o+vs.length)).toArray:=by
 have a:=run_storeCells_at (P:=Tryz.prog) g o te vs 0 c w hg (by simpa using cc) h1
 have b:=run_storeCells_cells (P:=Tryz.prog) g o vs 0 w (by
  intro j hj;rw[Zh5 hg,Array.getElem?_eq_getElem (by omega)]
  rfl) (λj hj=>Zup hg) h1
 rw[b]at a;simpa using a
theorem Zbng(n:Nat):∀v∈(Builtin.zeroCells zEnt.cells n).toList,v.oneCell'=true:=by
 intro v hv;simp only[Builtin.zeroCells,Array.toList_map,List.mem_map]at hv;obtain⟨k,hk,rfl⟩:=hv;have hlt:k % zEnt.cells.size<zEnt.cells.size:=Nat.mod_lt _ (by decide);rw[getElem!_pos zEnt.cells _ hlt]
 have:∀t:Fin 8,(zEnt.cells[t.1]'(by exact t.2)).oneCell'=true:=by decide
 exact this ⟨_,hlt⟩
theorem Z72(n:Nat):(Builtin.zeroCells zEnt.cells n).toList.length=n*8:=by
 simp[Builtin.zeroCells];rfl
theorem Zbnh{P:Program}(w:World)(t e ty:TypeId)(z:Value)(ht:P.underlying t=some (.slice e))(hv:∀w,(zeroValue e).run P w=.ok z w)(h1:∀v∈z.cells.toList,v.oneCell'=true)(b o n c:Nat)(hn:0<n)
  (hc:∀j,j<n*z.cells.size->(w.cell? ⟨b,o+j,none⟩).isSome=true) (hf:∀j,j<n*z.cells.size->w.frozen? ⟨b,o+j,none⟩=false) :
  (Builtin.clear_ #[t] ty #[.slice (some ⟨b,o,none⟩) n c]).run P w=.ok (.tuple #[]) (w.setCells b o (Builtin.zeroCells z.cells n).toList):=by
 have hl:(Builtin.zeroCells z.cells n).toList.length=n*z.cells.size:=by simp[Builtin.zeroCells]
 have hst:=run_storeCells_cells (P:=P) b o (Builtin.zeroCells z.cells n).toList 0 w (by intro j hj;rw[hl]at hj;simpa using hc j hj) (by intro j hj;rw[hl]at hj;simpa using hf j hj) (by
  intro v hv';simp only[Builtin.zeroCells,Array.toList_map,List.mem_map]at hv';obtain⟨k,hk,rfl⟩:=hv';have hk2:k<n*z.cells.size:=by simpa using hk
  have hz:0<z.cells.size:=by
   rcases Nat.eq_zero_or_pos z.cells.size with h|h
   .rw[h]at hk2;omega
   .exact h
  have hlt:k % z.cells.size<z.cells.size:=Nat.mod_lt _ hz;rw[getElem!_pos z.cells _ hlt]
  exact h1 _ (by simp))
 simp only[Nat.add_zero]at hst;obtain⟨m,rfl⟩:∃m,n=m+1:=⟨n-1,by omega⟩;simp[Builtin.clear_,run_underlying ht,hv,hst]
set_option maxHeartbeats 4000000 in
set_option maxRecDepth 1000000 in
theorem del_walk(b n cap i j:Nat)(cur:Array Value)(te:TypeId)(w:World)(hh:w.heap[b]?=some (.cells cur te (0,0)))(c:cur.size=cap*8)(h1:∀t v,t<n*8->cur[t]?=some v->v.oneCell'=true)(cc:i<j)(hj:j<=n)(hn:n<=cap)(hm:cap<=9223372036854775807) :
  Calls Tryz.prog 106 #[.slice (some ⟨b,0,none⟩) n cap,.int .i64 i,.int .i64 j] w λe w'=>e=.returned (.slice (some ⟨b,0,none⟩) (i+(n-j)) cap)/\
   w'=(w.drew.setCells b (0+i*8) ((cur.toList.take (n*8)).drop (j*8))).setCells b ((i+(n-j))*8) (Builtin.zeroCells zEnt.cells (n-(i+(n-j)))).toList:=by
 obtain⟨i0,hi0,hz0,hz1,hz2⟩:=info_parts infoE;obtain⟨news,hnews⟩:∃news,news=(cur.toList.take (n*8)).drop (j*8):=⟨_,rfl⟩;have hlen:news.length=(n-j)*8:=by rw[hnews,List.length_drop,List.length_take,Array.length_toList,c];omega
 have hget:∀t u,news[t]?=some u->cur[j*8+t]?=some u/\j*8+t<n*8:=by
  intro t u hu;have ht:=(List.getElem?_eq_some_iff.1 hu).1;rw[hlen]at ht;rw[hnews,List.getElem?_drop,List.getElem?_take_of_lt (by omega),Array.getElem?_toList]at hu;exact⟨hu,by omega⟩
 obtain⟨zs,hzs⟩:∃zs,zs=(Builtin.zeroCells zEnt.cells (n-(i+(n-j)))).toList:=⟨_,rfl⟩;rw[<-hnews,<-hzs];obtain⟨A,hA,hsrc⟩:∃A:Addr,(if cap=j then some (⟨b,0,none⟩:Addr)else some ⟨b,j*8,none⟩)=some A/\Hid (∀t u,news[t]?=some u->w.drew.cell? (A.add t)=some u):=by
  by_cases h:cap=j
  .refine⟨⟨b,0,none⟩,by simp[h],λt u hu=>?_⟩;have h0:news.length=0:=by rw[hlen];omega
   rw[List.length_eq_zero_iff.1 h0]at hu;simp at hu
  .refine⟨⟨b,j*8,none⟩,by simp[h],λt u hu=>?_⟩;rw[Addr.add_lit];show w.cell? _=_;rw[Zh5 hh];exact(hget t u hu).1
 have s1:Hid (news.length=(n-j)*8):=hlen;have s2:Hid (∀u∈news,u.oneCell'=true):=by
  intro u hu;obtain⟨t,ht⟩:=List.mem_iff_getElem?.1 hu;obtain⟨g1,g2⟩:=hget t u ht;exact h1 _ _ g2 g1
 have s3:Hid (∀t,t<news.length->(w.drew.cell? ⟨b,0+i*8+t,none⟩).isSome=true/\w.drew.frozen? ⟨b,0+i*8+t,none⟩=false):=by
  intro t ht;rw[hlen]at ht;refine⟨?_,Zup (w:=w.drew) hh⟩;show(w.cell? _).isSome=true;rw[Zh5 hh,Array.getElem?_eq_getElem (by omega)];rfl
 obtain⟨W1,hW1⟩:∃W1,W1=w.drew.setCells b (0+i*8) news:=⟨_,rfl⟩;have hW:Hid (W1=w.drew.setCells b (0+i*8) news):=hW1;have hcl:∀ty,(Builtin.clear_ #[52] ty #[.slice (some ⟨b,(i+(n-j))*8,none⟩) (n-(i+(n-j))) (cap-(i+(n-j)))]).run Tryz.prog W1=.ok (.tuple #[]) (W1.setCells b ((i+(n-j))*8) zs):=by
  intro ty;have hno:∀v∈news,v.oneCell'=true:=s2.out;have s4:=Zuq (w:=w.drew) (o:=0+i*8) hh (vs:=news) (by rw[hlen,c];omega) hno;have g1:=setRow_heap w.drew b cur (cur.toList.take (0+i*8)++news++cur.toList.drop (0+i*8+news.length)).toArray te (0,0) hh;rw[<-s4,<-hW1]at g1;have hcl:cur.toList.length=cap*8:=by simpa using c
  have gs:(cur.toList.take (0+i*8)++news++cur.toList.drop (0+i*8+news.length)).toArray.size=cap*8:=by
   simp only[List.size_toArray,List.length_append,List.length_take,List.length_drop,hcl,hlen];omega
  have hz8:zEnt.cells.size=8:=rfl;rw[hzs];refine Zbnh W1 52 63 ty zEnt Tryz.underlying52 Tryz.zeroValue63 (by decide) b _ _ _ (by omega) (λt ht=>?_) (λt ht=>Zup g1);rw[hz8]at ht;rw[Zh5 g1,Array.getElem?_eq_getElem (by rw[gs];omega)];rfl
 have mixed:Tryz.prog.follows Departure.mixedOrders=true:=by kernel_rfl
 have hic:i<=cap:=by omega
 have hjc:j<=cap:=by omega
 clear hh hget hnews hlen h1 hW1 hzs
 go_enter Tryz.func106,Tryz.ntmps106
 go_wp2_with fail
 go_region_law_o (refine step_append_room rfl (.tmp 22) (.tmp 25) 52 rfl 63 i0 8 Tryz.underlying52 hi0 hz1 b 0 i cap (by simp[Act.eval,Act.put]) A (n-j) (cap-j) news (by simp[Act.eval,Act.put]) s1.out hsrc.out s2.out (by omega) s3.out ?_;rw[<-hW.out])
 go_wp2
 go_ret
 exact⟨rfl,by rw[hW.out]⟩
end Go.Proofs.YtcfaekfjkeobhaaGreat
namespace Go.Proofs.YtcfaekfjkeobhaaGreat
open Go.RowKit Go.AM
theorem cutL{L news zs:List Value}{a a' b n:Nat}(ha:a'=a)(hb:b=a+news.length)(hz:b+zs.length=n)(hL:n<=L.length) :
  ((List.take b (L.take a'++news++L.drop (a'+news.length)).toArray.toList++zs++List.drop (b+zs.length) (L.take a'++news++L.drop (a'+news.length)).toArray.toList).toArray).toList=L.take a++news++zs++L.drop n:=by
 subst ha;have e1:(L.take a'++news).length=b:=by rw[Yj,Yo,hb];omega
 show List.take b (L.take a'++news++L.drop (a'+news.length))++zs++List.drop (b+zs.length) (L.take a'++news++L.drop (a'+news.length))=_;rw[Ych e1,hz,List.drop_append,Ybh,e1];rw[Ydg (by rw[e1];omega),Ybv];congr 2;omega
theorem Zb4b{fr:Bool}{es:List (List T)}{i j:Nat}(c:i<j)(hj:j<=es.length):Zbz Tryz.prog 106 [.own 0,.t (.int .i64 i),.t (.int .i64 j)] [.arr 63 8 fr es] (.own 1) [.dead,.arr 63 8 fr (es.take i++es.drop j)]:=by
 refine⟨by decide +kernel,?_⟩;intro N base w ρ vs R hdom hv hz;obtain⟨l⟩:=vs;simp only at hv
 cases hv with|cons q0 hv =>
 cases hv with|cons q1 hv =>
 cases hv with|cons q2 hv =>
 cases hv
 cases q0 with|own hr h1 =>
 rename_i r
 cases q1 with|t q1 _ =>
 cases q1
 cases q2 with|t q2 _ =>
 cases q2;have hb:gt [Blk.arr 63 8 fr es] 0=.arr 63 8 fr es:=by simp[gt]
 obtain⟨r2,e1,e2⟩:=R.blk 0 (by rw[hb];intro hc;cases hc);rw[hr]at e1;cases e1;rw[hb]at e2;obtain⟨hex,e',xs,hel,ho,hsz,hlen,htr,hfree,hfr,how⟩:=e2;obtain⟨hxl,ho⟩:=ho;rcases ho with⟨_,hn⟩|⟨g,cap,cur,hrv,hbg,hg,hcap,hcm,hcur,htake⟩
 .omega
 have hone:∀t v,t<es.length*8->cur[t]?=some v->v.oneCell'=true:=by
  intro t v ht hv;refine htr.one v ?_;rw[<-htake];refine Yu (i:=t) ?_;rw[List.getElem?_take_of_lt ht,Yc4];exact hv
 rw[hrv];refine(del_walk g es.length cap i j cur e' w hg hcur hone c hj hcap (by unfold maxLen at hcm;omega)).mono ?_;rintro e w' ⟨rfl,rfl⟩;have hcl:cur.toList.length=cap*8:=by simpa using hcur
 have m1:(es.length-j+i)*8+(j-i)*8=es.length*8:=by omega
 have hnl:((cur.toList.take (es.length*8)).drop (j*8)).length=(es.length-j)*8:=by
  rw[Y7,Yo,hcl];omega
 have hno:∀v∈(cur.toList.take (es.length*8)).drop (j*8),v.oneCell'=true:=by
  intro v hv;have hv:=Y9 hv;obtain⟨t,ht⟩:=List.mem_iff_getElem?.1 hv;rw[Yck]at ht;split at ht
  .exact hone t v (by assumption) (by simpa using ht)
  .cases ht
 have s1:=Zuq (w:=w.drew) (o:=0+i*8) hg (vs:=(cur.toList.take (es.length*8)).drop (j*8)) (by rw[hnl,hcur];omega) hno;have g1:=setRow_heap w.drew g cur (cur.toList.take (0+i*8)++(cur.toList.take (es.length*8)).drop (j*8)++cur.toList.drop (0+i*8+((cur.toList.take (es.length*8)).drop (j*8)).length)).toArray e' (0,0) hg;rw[s1];have hz8:=Z72 (es.length-(i+(es.length-j)));have s2:=Zuq (o:=(i+(es.length-j))*8) g1 (vs:=(Builtin.zeroCells zEnt.cells (es.length-(i+(es.length-j)))).toList) (by rw[hz8];simp only[Ycl,Yj,Yo,Y7,hcl,hnl];omega) (Zbng _);rw[s2,setRow_setRow];generalize hzs:(Builtin.zeroCells zEnt.cells (es.length-(i+(es.length-j)))).toList=zs at *
 have hfin:=cutL (L:=cur.toList) (news:=(cur.toList.take (es.length*8)).drop (j*8)) (zs:=zs) (a:=i*8) (a':=0+i*8) (b:=(i+(es.length-j))*8) (n:=es.length*8) (by omega) (by rw[hnl];omega) (by rw[hz8];omega) (by rw[hcl];omega);obtain⟨fp',p1,p2,p3⟩:=del_rel R hr hdom hrv hg (Nat.le_of_lt c) hj (zs:=zs) (by rw[hz8];congr 1;omega)
  (w':=w.drew.setRow g _) ⟨_,setRow_heap w.drew g cur _ e' (0,0) hg,hfin⟩ ⟨rfl,rfl,rfl,by rw[setRow_size];exact Ye _,λk _ hk=>setRow_other w.drew g k _ (λe=>hk (by rw[e]))⟩
 refine⟨_,_,rfl,⟨rfl,rfl,rfl,by rw[setRow_size];exact Ye _,λk hk=>setRow_other w.drew g k _ (by omega)⟩,p1,.own (b:=1) (r:=⟨.slice (some ⟨g,0,none⟩) (i+(es.length-j)) cap,fp',[]⟩) (by simp[updM]) rfl,?_,(show 1<=2 by decide),p3,λgg hgg hzz=>p2.free gg hgg (hz gg hzz),?_⟩
 .intro b hb;simp at hb;simp only[updM];rw[if_neg (by omega)];exact hdom b (by simp;omega)
 .intro b r0 hb hr0
  have:b=0:=by simp at hb;omega
  subst this;exact⟨r0,by simp[updM,hr0],rfl⟩
end Go.Proofs.YtcfaekfjkeobhaaGreat
namespace Go.Proofs.YtcfaekfjkeobhaaGreat
open Go.RowKit Go.Lib
theorem Zbni{w:World}{o:Obj}{p:Addr}{v:Value}(h:w.cell? p=some v):(w.alloc o).cell? p=some v:=by
 have hl:p.block<w.heap.size:=by
  rcases Nat.lt_or_ge p.block w.heap.size with h'|h'
  .exact h'
  .simp[World.cell?,Array.getElem?_eq_none h']at h
 rw[<-h];unfold World.cell?;simp only[World.alloc,Array.getElem?_push,if_neg (Nat.ne_of_lt hl)]
set_option maxHeartbeats 4000000 in
set_option maxRecDepth 1000000 in
theorem clo_walk(v0 v1 v2 v3 v4 v5 v7:Value)(x ver:Int)(vb:Nat)(w:World)(hv:w.cell? ⟨vb,0,none⟩=some (.int .i64 ver)) :
  Calls Tryz.prog 114 #[.agg #[v0,v1,v2,v3,v4,v5,.int .i64 x,v7],.pointer (some ⟨vb,0,none⟩)] w λe w'=>e=.returned (.bool (x != ver))/\Below w.heap.size w w':=by
 have mixed:Tryz.prog.follows Departure.mixedOrders=true:=by kernel_rfl
 have hv2:=Zbni (o:=Obj.cells #[v0,v1,v2,v3,v4,v5,Value.int IntKind.i64 x,v7] 63) hv;have hB:=(Below.refl w.heap.size w).alloc (Nat.le_refl _) (Obj.cells #[v0,v1,v2,v3,v4,v5,Value.int IntKind.i64 x,v7] 63)
 go_enter Tryz.func114,Tryz.ntmps114
 go_wp2
 go_ret
 exact⟨rfl,hB⟩
def old(ver:Int):List Value->Bool
 |[_,_,_,_,_,_,.int .i64 x,_]=>x != ver
 |_=>false
def Zur(ys:List Value):Prop:=∃v0 v1 v2 v3 v4 v5 x v7,ys=[v0,v1,v2,v3,v4,v5,.int .i64 x,v7]
theorem clo_at{ys:List Value}(hy:Zur ys)(ver:Int)(vb:Nat)(w:World)(hv:w.cell? ⟨vb,0,none⟩=some (.int .i64 ver)) :
  Calls Tryz.prog 114 #[.agg ys.toArray,.pointer (some ⟨vb,0,none⟩)] w λe w'=>e=.returned (.bool (old ver ys))/\Below w.heap.size w w':=by
 obtain⟨v0,v1,v2,v3,v4,v5,x,v7,rfl⟩:=hy;exact clo_walk v0 v1 v2 v3 v4 v5 v7 x ver vb w hv
set_option maxHeartbeats 4000000 in
set_option maxRecDepth 1000000 in
theorem idx_walk(b vb n c:Nat)(ver:Int)(zs:List (List Value))(w:World)(hz:n<=zs.length)(cd:n<=9223372036854775807)(hb:b<w.heap.size)(cc:vb<w.heap.size)(hv:w.cell? ⟨vb,0,none⟩=some (.int .i64 ver))
  (hE:∀j,j<n->Zur zs[j]!)
  (hc:∀j,j<n->∀i v,(zs[j]!)[i]?=some v->w.cell? ⟨b,j*8+i,none⟩=some v) :
  Calls Tryz.prog 99 #[.slice (some ⟨b,0,none⟩) n c,.func (.func 114) #[] #[.pointer (some ⟨vb,0,none⟩)]] w λe w'=>e=.returned (.int .i64 (Lib.idxBy (λ_ y=>old ver y) (zs.take n) default))/\Below w.heap.size w w':=by
 have mixed:Tryz.prog.follows Departure.mixedOrders=true:=by kernel_rfl
 have hrow:∀(W:World),Below w.heap.size w W->∀j,j<n->∀i v,(zs[j]!)[i]?=some v->W.cell? ⟨b,j*8+i,none⟩=some v:=λW hW j hj i v hi=>by
   rw[hW.cell (p:=⟨b,j*8+i,none⟩) hb];exact hc j hj i v hi
 have hp:∀(W:World),Below w.heap.size w W->∀j,j<n->Calls Tryz.prog 114 #[.agg (zs[j]!).toArray,.pointer (some ⟨vb,0,none⟩)] W λe w'=>e=.returned (.bool (old ver zs[j]!))/\Below w.heap.size w w':=λW hW j hj =>
  (clo_at (hE j hj) ver vb W (by rw[hW.cell (p:=⟨vb,0,none⟩) cc];exact hv)).mono λ_ _ ⟨e,h⟩=>⟨e,hW.trans (h.mono hW.size)⟩
 clear hc
 go_enter Tryz.func99,Tryz.ntmps99
 go_wp2
 go_loopg [5,8] n (λgg _ s8 wr=>∃kk:Nat,kk<=n/\n-kk<=gg/\s8=.int .i64 kk/\Aside (Below w.heap.size w wr)/\Aside (∀j,j<kk->old ver zs[j]! = false))
 case atStart=>exact⟨0,Nat.zero_le _,by omega,rfl,Below.refl _ w,λj hj=>absurd hj (Nat.not_lt_zero _)⟩
 case round =>
  obtain⟨kk,hkk,hg,rfl,BW,A⟩:=hrel;by_cases hlt:kk<n
  .have hltz:(kk:Int)<(n:Int):=by omega
   have l2:=hrow wr BW.out kk (by omega);have hcall:=hp wr BW.out kk (by omega);have he:=hE kk (by omega);clear hrow hp hE;generalize hy:zs[kk]! = y at l2 hcall he;obtain⟨v0,v1,v2,v3,v4,v5,x,v7,rfl⟩:=he;have B:Aside (zs[kk]! = _):=hy;clear hy;have c0:=l2 0 _ rfl;have c1:=l2 1 _ rfl;have c2:=l2 2 _ rfl;have c3:=l2 3 _ rfl;have c4:=l2 4 _ rfl;have c5:=l2 5 _ rfl;have c6:=l2 6 _ rfl;have c7:=l2 7 _ rfl;simp only[Nat.add_zero]at c0;clear l2
   cases hq:old ver [v0,v1,v2,v3,v4,v5,.int .i64 x,v7]with
   |true =>
    rw[hq]at hcall
    go_wp2_with (refine hcall.mono ?_;rintro e w' ⟨rfl,hb'⟩)
    go_ret
    refine⟨?_,hb'⟩;rw[Lib.idxBy_hit (λ_ y=>old ver y) zs n kk default hlt hz (by show old ver zs[kk]! = true;rw[B.out];exact hq) A.out]
    rfl
   |false =>
    rw[hq]at hcall
    go_wp2_with (refine hcall.mono ?_;rintro e w' ⟨rfl,hb'⟩)
    go_roundg (n-(kk+1))
    case measure=>omega
    case rel =>
     refine⟨kk+1,by omega,by omega,by go_num,hb',(show Aside _ from λj hj=>?_)⟩;by_cases e:j=kk
     .subst e;rw[B.out];exact hq
     .exact A.out j (by omega)
  .have hltz:¬(kk:Int)<(n:Int):=by omega
   have:kk=n:=by omega
   subst this
   go_wp2
   go_ret
   refine⟨?_,BW.out⟩;rw[Lib.idxBy_miss (λ_ y=>old ver y) zs kk default A.out];rfl
end Go.Proofs.YtcfaekfjkeobhaaGreat
namespace Go.Proofs.YtcfaekfjkeobhaaGreat
open Go.RowKit Go.Lib
theorem idx_spec(eq:List Value->Bool)(l:List (List Value)):(Lib.idxBy (λ_ y=>eq y) l default=-1/\∀j,j<l.length->eq l[j]! = false)\/∃k,k<l.length/\Lib.idxBy (λ_ y=>eq y) l default=(k:Int)/\eq l[k]! = true/\∀j,j<k->eq l[j]! = false:=by
 by_cases h:∃k,k<l.length/\eq l[k]! = true
 .obtain⟨k,hk,ht⟩:=h
  induction k using Nat.strongRecOn with
  |_ k ih =>
   by_cases h2:∃j,j<k/\eq l[j]! = true
   .obtain⟨j,hj,hj2⟩:=h2;exact ih j hj (by omega) hj2
   .have hne:∀j,j<k->eq l[j]! = false:=λj hj=>by
     cases hq:eq l[j]! with
     |true=>exact absurd ⟨j,hj,hq⟩ h2
     |false=>rfl
    refine .inr ⟨k,hk,?_,ht,hne⟩;have:=Lib.idxBy_hit (λ_ y=>eq y) l l.length k default hk (Nat.le_refl _) ht hne
    rwa [List.take_length]at this
 .have hne:∀j,j<l.length->eq l[j]! = false:=λj hj=>by
   cases hq:eq l[j]! with
   |true=>exact absurd ⟨j,hj,hq⟩ h
   |false=>rfl
  refine .inl ⟨?_,hne⟩;have:=Lib.idxBy_miss (λ_ y=>eq y) l l.length default hne
  rwa [List.take_length]at this
def kept(ver:Int)(zs:List (List Value)):List (List Value):=zs.filter λz=>!old ver z
theorem Z73{ver:Int}{zs:List (List Value)}{j:Nat}(hj:j<zs.length):kept ver (zs.take (j+1))=kept ver (zs.take j)++if old ver zs[j]! then[]else[zs[j]!]:=by
 unfold kept;rw[List.take_succ_eq_append_getElem hj,List.filter_append,getElem!_pos zs j hj];congr 1;cases h:old ver zs[j]<;>simp[List.filter,h]
theorem Zbnj{ver:Int}{zs:List (List Value)}{k:Nat}(hk:k<=zs.length)(h:∀j,j<k->old ver zs[j]! = false):kept ver (zs.take k)=zs.take k:=by
 unfold kept;rw[List.filter_eq_self];intro z hz;obtain⟨j,hj⟩:=List.mem_iff_getElem?.1 hz;have hj1:=(List.getElem?_eq_some_iff.1 hj).1;rw[List.length_take]at hj1;rw[List.getElem?_take_of_lt (by omega)]at hj;have:=h j (by omega);rw[List.getElem!_eq_getElem?_getD,hj]at this;simpa using this
theorem flat8{zs:List (List Value)}(h:∀z∈zs,z.length=8):zs.flatten.length=zs.length*8:=by
 induction zs with
 |nil=>rfl
 |cons z zs ih =>
  rw[List.flatten_cons,List.length_append,h z (by simp),ih λx hx=>h x (by simp[hx]),List.length_cons];omega
theorem flat_at{zs:List (List Value)}(h:∀z∈zs,z.length=8){j i:Nat}{v:Value}(hj:j<zs.length)(hv:(zs[j]!)[i]?=some v):zs.flatten[j*8+i]?=some v:=by
 induction zs generalizing j with
 |nil=>exact absurd hj (Nat.not_lt_zero _)
 |cons z zs ih =>
  rw[List.flatten_cons]
  cases j with
  |zero =>
   have hv:z[i]?=some v:=by simpa using hv
   rw[Nat.zero_mul,Nat.zero_add,List.getElem?_append_left (List.getElem?_eq_some_iff.1 hv).1,hv]
  |succ j =>
   have hz:=h z (by simp);rw[List.getElem?_append_right (by omega),hz,show(j+1)*8+i-8=j*8+i by omega];exact ih (λx hx=>h x (by simp[hx])) (by simpa using hj) (by simpa using hv)
structure FInv (ver:Int) (zs:List (List Value)) (b te:Nat) (cur:Array Value) (w wr:World) (i j:Nat):Prop where
 len:(kept ver (zs.take j)).length=i
 lt:i<j
 grown:w.grownBy wr (some b)
 row:∃c,wr.heap[b]?=some (.cells c te (0,0))/\c.toList=(kept ver (zs.take j)).flatten++cur.toList.drop (i*8)
theorem Zbnk{w wr w1:World}{b:Nat}(h:w.grownBy wr (some b))(k:Below wr.heap.size wr w1):w.grownBy w1 (some b):=by
 obtain⟨a1,a2,a3,a4,a5⟩:=h;exact⟨k.os.trans a1,k.tape.trans a2,k.output.trans a3,Nat.le_trans a4 k.size,λx hx hn=>(k.block x (by omega)).trans (a5 x hx hn)⟩
theorem kept8{ver:Int}{zs:List (List Value)}(h:∀z∈zs,z.length=8)(j:Nat):(kept ver (zs.take j)).flatten.length=(kept ver (zs.take j)).length*8 :=
 flat8 λz hz=>h z (List.mem_of_mem_take (List.mem_filter.1 hz).1)
theorem FInv.size{ver:Int}{zs:List (List Value)}{b te:Nat}{cur:Array Value}{w wr:World}{i j:Nat}(I:FInv ver zs b te cur w wr i j)(h8:∀z∈zs,z.length=8)(hi:i*8<=cur.size):∃c,wr.heap[b]?=some (.cells c te (0,0))/\c.toList=(kept ver (zs.take j)).flatten++cur.toList.drop (i*8)/\c.size=cur.size/\(kept ver (zs.take j)).flatten.length=i*8:=by
 obtain⟨c,h1,h2⟩:=I.row;have h3:=kept8 (ver:=ver) h8 j;rw[I.len]at h3;refine⟨c,h1,h2,?_,h3⟩;rw[<-Array.length_toList,h2,List.length_append,h3,List.length_drop,Array.length_toList];omega
theorem FInv.read{ver:Int}{zs:List (List Value)}{b te:Nat}{cur:Array Value}{w wr:World}{i j:Nat}(I:FInv ver zs b te cur w wr i j)(h8:∀z∈zs,z.length=8)(hi:i*8<=cur.size)(hc:∀t v,(zs[j]!)[t]?=some v->cur[j*8+t]?=some v) :
  ∀t v,(zs[j]!)[t]?=some v->wr.cell? ⟨b,j*8+t,none⟩=some v:=by
 intro t v hv;obtain⟨c,h1,h2,h3,h4⟩:=I.size h8 hi;have:=I.lt;rw[Zh5 h1,<-Array.getElem?_toList,h2,List.getElem?_append_right (by omega),List.getElem?_drop,h4,show i*8+(j*8+t-i*8)=j*8+t by omega,Array.getElem?_toList];exact hc t v hv
theorem FInv.skip{ver:Int}{zs:List (List Value)}{b te:Nat}{cur:Array Value}{w wr w1:World}{i j:Nat}(I:FInv ver zs b te cur w wr i j)(hj:j<zs.length)(ho:old ver zs[j]! = true)(hw:w1.heap.size>=wr.heap.size)(hb:b<wr.heap.size)(B:Below wr.heap.size wr w1):FInv ver zs b te cur w w1 i (j+1):=by
 have hs:=Z73 (ver:=ver) hj;rw[ho,if_pos rfl,List.append_nil]at hs;obtain⟨c,h1,h2⟩:=I.row;exact⟨by rw[hs];exact I.len,Nat.lt_succ_of_lt I.lt,Zbnk I.grown B,⟨c,by rw[B.block b hb];exact h1,by rw[hs];exact h2⟩⟩
theorem FInv.keep{ver:Int}{zs:List (List Value)}{b te:Nat}{cur:Array Value}{w wr w1:World}{i j:Nat}(I:FInv ver zs b te cur w wr i j)(h8:∀z∈zs,z.length=8)(cd:zs.length*8<=cur.size)(cc:∀z∈zs,∀v∈z,v.oneCell'=true)(hj:j<zs.length)(ho:old ver zs[j]! = false)(hb:b<wr.heap.size)(B:Below wr.heap.size wr w1):FInv ver zs b te cur w (w1.setCells b (i*8) zs[j]!) (i+1) (j+1):=by
 have hs:=Z73 (ver:=ver) hj;rw[ho,if_neg (by decide)]at hs;have hlt:=I.lt;obtain⟨c,h1,h2,h3,h4⟩:=I.size h8 (by omega);have hg:w1.heap[b]?=some (.cells c te (0,0)):=by rw[B.block b hb];exact h1
 have hm:zs[j]!∈zs:=by rw[getElem!_pos zs j hj];exact List.getElem_mem _
 have hz:=h8 _ hm;rw[Zuq hg (by rw[hz,h3];omega) (cc _ hm),hz];have G:=Zbnk I.grown B;obtain⟨a1,a2,a3,a4,a5⟩:=G;refine⟨by rw[hs,List.length_append,I.len];rfl,by omega,⟨a1,a2,a3,by rw[setRow_size];exact a4,λk hk hn=>(setRow_other w1 b k _ (λe=>hn (by rw[e]))).trans (a5 k hk hn)⟩,⟨_,setRow_heap w1 b c _ te (0,0) hg,?_⟩⟩;show c.toList.take (i*8)++zs[j]!++c.toList.drop (i*8+8)=_;rw[hs,List.flatten_append,h2,List.take_left' h4,List.drop_append,h4,List.drop_eq_nil_of_le (by omega),List.nil_append,List.drop_drop,show i*8+(i*8+8-i*8)=(i+1)*8 by omega];simp
theorem Zb4c{zs:List (List Value)}(h:∀z∈zs,z.length=8)(k:Nat)(hk:k<=zs.length):(zs.take k).flatten=zs.flatten.take (k*8):=by
 have h1:(zs.take k).flatten.length=k*8:=by
  rw[flat8 λz hz=>h z (List.mem_of_mem_take hz),List.length_take,Nat.min_eq_left hk]
 have h2:zs.flatten=(zs.take k).flatten++(zs.drop k).flatten:=by rw[<-List.flatten_append,List.take_append_drop]
 rw[h2,List.take_left' h1]
theorem Z74(w:World)(o:Obj):(w.alloc o).heap.size=w.heap.size+1:=by
 show(w.heap.push o).size=_;rw[Array.size_push]
theorem alloc_at(w:World)(o:Obj):(w.alloc o).heap[w.heap.size]?=some o:=by
 show(w.heap.push o)[w.heap.size]?=_;rw[Array.getElem?_push_size]
theorem clo_call{v0 v1 v2 v3 v4 v5 v7:Value}{x ver:Int}{vb b i te:Nat}{wr:World}{c:Array Value}(hb:b<wr.heap.size)(hc:wr.heap[b]?=some (.cells c te (0,0)))(hi:i*8+8<=c.size)(hv:wr.cell? ⟨vb,0,none⟩=some (.int .i64 ver)) :
  Calls Tryz.prog 114 #[.agg #[v0,v1,v2,v3,v4,v5,.int .i64 x,v7],.pointer (some ⟨vb,0,none⟩)] (wr.alloc (Obj.cells #[v0,v1,v2,v3,v4,v5,.int .i64 x,v7] 63)) λe w1=>e=.returned (.bool (old ver [v0,v1,v2,v3,v4,v5,.int .i64 x,v7]))/\Hid (Below wr.heap.size wr w1)/\
      (w1.cell? ⟨wr.heap.size,0,none⟩=some v0/\w1.cell? ⟨wr.heap.size,1,none⟩=some v1/\w1.cell? ⟨wr.heap.size,2,none⟩=some v2/\w1.cell? ⟨wr.heap.size,3,none⟩=some v3/\w1.cell? ⟨wr.heap.size,4,none⟩=some v4/\w1.cell? ⟨wr.heap.size,5,none⟩=some v5/\w1.cell? ⟨wr.heap.size,6,none⟩=some (.int .i64 x)/\w1.cell? ⟨wr.heap.size,7,none⟩=some v7)/\∃o0 o1 o2 o3 o4 o5 o6 o7,w1.cell? ⟨b,i*8,none⟩=some o0/\w1.frozen? ⟨b,i*8,none⟩=false/\w1.cell? ⟨b,i*8+1,none⟩=some o1/\w1.frozen? ⟨b,i*8+1,none⟩=false/\w1.cell? ⟨b,i*8+2,none⟩=some o2/\w1.frozen? ⟨b,i*8+2,none⟩=false/\w1.cell? ⟨b,i*8+3,none⟩=some o3/\w1.frozen? ⟨b,i*8+3,none⟩=false/\w1.cell? ⟨b,i*8+4,none⟩=some o4/\w1.frozen? ⟨b,i*8+4,none⟩=false/\w1.cell? ⟨b,i*8+5,none⟩=some o5/\w1.frozen? ⟨b,i*8+5,none⟩=false/\w1.cell? ⟨b,i*8+6,none⟩=some o6/\w1.frozen? ⟨b,i*8+6,none⟩=false/\w1.cell? ⟨b,i*8+7,none⟩=some o7/\w1.frozen? ⟨b,i*8+7,none⟩=false:=by
 have hcall:=clo_at (ys:=[v0,v1,v2,v3,v4,v5,.int .i64 x,v7]) ⟨_,_,_,_,_,_,_,_,rfl⟩ ver vb (wr.alloc (Obj.cells #[v0,v1,v2,v3,v4,v5,.int .i64 x,v7] 63)) (Zbni hv);refine hcall.mono λe w1 ⟨he,B⟩=>⟨he,((Below.refl _ _).alloc (Nat.le_refl _) _).trans (B.mono (by rw[Z74];omega)),?_,?_⟩
 .have hb2:w1.heap[wr.heap.size]?=some (Obj.cells #[v0,v1,v2,v3,v4,v5,.int .i64 x,v7] 63 (0,0)):=by
   rw[B.block _ (by rw[Z74];omega)];exact alloc_at _ _
  refine⟨?_,?_,?_,?_,?_,?_,?_,?_⟩<;>rw[Zh5 hb2]<;>rfl
 .have hb2:w1.heap[b]?=some (Obj.cells c te (0,0)):=by
   rw[B.block _ (by rw[Z74];omega),Below.heap_alloc _ _ _ hb];exact hc
  have hbd:∀t,t<8->i*8+t<c.size:=λt ht=>by omega
  refine⟨c[i*8+0]'(hbd 0 (by decide)),c[i*8+1]'(hbd 1 (by decide)),c[i*8+2]'(hbd 2 (by decide)),c[i*8+3]'(hbd 3 (by decide)),c[i*8+4]'(hbd 4 (by decide)),c[i*8+5]'(hbd 5 (by decide)),c[i*8+6]'(hbd 6 (by decide)),c[i*8+7]'(hbd 7 (by decide)),?_⟩
  refine⟨?_,?_,?_,?_,?_,?_,?_,?_,?_,?_,?_,?_,?_,?_,?_,?_⟩<;>first
   |exact Zup hb2
   |rw[Zh5 hb2];exact Array.getElem?_eq_getElem _
set_option maxHeartbeats 4000000 in
set_option maxRecDepth 1000000 in
theorem Zb4d(b vb n cap te:Nat)(ver:Int)(zs:List (List Value))(cur:Array Value)(w:World)(hh:w.heap[b]?=some (.cells cur te (0,0)))(cc:zs.length=n)(cd:cur.toList.take (n*8)=zs.flatten)(co:cur.size=cap*8)(hn:n<=cap)(hm:cap<=9223372036854775807)
  (hE:∀z∈zs,Zur z) (h1:∀z∈zs,∀v∈z,v.oneCell'=true) (cl:vb<w.heap.size) (cn:vb≠b) (hv:w.cell? ⟨vb,0,none⟩=some (.int .i64 ver)) :
  Calls Tryz.prog 113 #[.slice (some ⟨b,0,none⟩) n cap,.func (.func 114) #[] #[.pointer (some ⟨vb,0,none⟩)]] w λe w'=>e=.returned (.slice (some ⟨b,0,none⟩) (kept ver zs).length cap)/\
   (∃c2,w'.heap[b]?=some (.cells c2 te (0,0))/\c2.toList=(kept ver zs).flatten++(Builtin.zeroCells zEnt.cells (n-(kept ver zs).length)).toList++cur.toList.drop (n*8))/\w.grownBy w' (some b):=by
 have mixed:Tryz.prog.follows Departure.mixedOrders=true:=by kernel_rfl
 have h8:∀z∈zs,z.length=8:=λz hz=>by obtain⟨_,_,_,_,_,_,_,_,h⟩:=hE z hz;rw[h];rfl
 have hb:b<w.heap.size:=(Array.getElem?_eq_some_iff.1 hh).1;have hfl:=flat8 h8;have hEj:∀j,j<n->Zur zs[j]!:=λj hj=>by rw[getElem!_pos zs j (by omega)];exact hE _ (List.getElem_mem _)
 have hcj:∀j,j<n->∀i v,(zs[j]!)[i]?=some v->j*8+i<n*8/\cur[j*8+i]?=some v:=λj hj i v hi=>by
  have ha:=flat_at h8 (by omega) hi;have hl:=(List.getElem?_eq_some_iff.1 ha).1;rw[hfl,cc]at hl;rw[<-cd,List.getElem?_take_of_lt hl,Array.getElem?_toList]at ha;exact⟨hl,ha⟩
 have hIF:=idx_walk b vb n cap ver zs w (by omega) (by omega) hb cl hv hEj (λj hj i v hi=>by rw[Zh5 hh];exact(hcj j hj i v hi).2);rw[<-cc,List.take_length,cc]at hIF;rcases idx_spec (old ver) zs with⟨e1,hall⟩|⟨k0,hk0,e1,ht,hall⟩
 .rw[e1]at hIF;have hk:kept ver zs=zs:=by
   have:=Zbnj (ver:=ver) (Nat.le_refl zs.length) hall
   rwa [List.take_length]at this
  rw[hk,cc,Nat.sub_self];have HH:Aside (w.heap[b]?=some (.cells cur te (0,0))):=hh;clear hh hcj hEj hE h1
  go_enter Tryz.func113,Tryz.ntmps113
  go_wp2_with (refine hIF.mono ?_;rintro e w' ⟨rfl,hb'⟩)
  go_ret
  refine⟨rfl,⟨cur,by rw[hb'.block b hb];exact HH.out,?_⟩,⟨hb'.os,hb'.tape,hb'.output,hb'.size,λk hk _=>hb'.block k hk⟩⟩;rw[<-cd];simp[Builtin.zeroCells]
 .rw[e1]at hIF;have hne1:((k0:Int) == -1)=false:=beq_eq_false_iff_ne.2 (by omega);have st1:kept ver (zs.take k0)=zs.take k0:=Zbnj (Nat.le_of_lt hk0) hall;have st2:=Z73 (ver:=ver) hk0;rw[ht,if_pos rfl,List.append_nil,st1]at st2;rw[cc]at hk0;have HH:Aside (w.heap[b]?=some (.cells cur te (0,0))):=hh;clear hall ht e1 st1;obtain⟨Z,hZ⟩:∃Z:Nat->List Value,∀m,Z m=(Builtin.zeroCells zEnt.cells m).toList:=⟨_,λ_=>rfl⟩;rw[<-hZ];have ZD:Hid (∀m,Z m=(Builtin.zeroCells zEnt.cells m).toList):=hZ;clear hZ;have HC:Aside _:=hcj;have HE:Aside _:=hEj;have H8:Aside _:=h8;have HV:Aside _:=hv;have H1:Aside _:=h1;have HF:Aside _:=hfl;clear hh hcj hEj hE h1 h8 hv hfl
  go_enter Tryz.func113,Tryz.ntmps113
  go_wp2_with (refine hIF.mono ?_;rintro e w' ⟨rfl,hb'⟩)
  go_loopg [5,6,7] n (λgg s5 s6 _ wr=>∃(i j:Nat),s5=.int .i64 i/\s6=.int .i64 j/\j<=n/\n-j<=gg/\Aside (FInv ver zs b te cur w wr i j))
  case atStart =>
   refine⟨k0,k0+1,rfl,by go_num,by omega,by omega,(show Aside _ from⟨?_,Nat.lt_succ_self _,⟨hb'.os,hb'.tape,hb'.output,hb'.size,λk hk _=>hb'.block k hk⟩,⟨cur,by rw[hb'.block b hb];exact HH.out,?_⟩⟩)⟩
   .rw[st2,List.length_take,Nat.min_eq_left (by omega)]
   .rw[st2,Zb4c H8.out k0 (by omega),<-cd,List.take_take,Nat.min_eq_left (by omega),List.take_append_drop]
  case round =>
   obtain⟨i,j,rfl,rfl,hjn,hgg,I2⟩:=hrel;have hij:=I2.out.lt;have hbr:Hid (b<wr.heap.size):=by obtain⟨_,_,_,a4,_⟩:=I2.out.grown;exact Nat.lt_of_lt_of_le hb a4
   by_cases hlt:j<n
   .have hltz:(j:Int)<(n:Int):=by omega
    have l2:=I2.out.read H8.out (by omega) (λt v hv=>(HC.out j hlt t v hv).2);have he:=HE.out j hlt;have K2:Hid (∀w1,old ver zs[j]! = false->Below wr.heap.size wr w1->FInv ver zs b te cur w (w1.setCells b (i*8) zs[j]!) (i+1) (j+1)):=λw1 ho B=>I2.out.keep H8.out (by omega) H1.out (by omega) ho hbr.out B
    have S2:Hid (∀w1,old ver zs[j]! = true->Below wr.heap.size wr w1->FInv ver zs b te cur w w1 i (j+1)):=λw1 ho B=>I2.out.skip (by omega) ho B.size hbr.out B
    have Rw:Hid (∃c,wr.heap[b]?=some (.cells c te (0,0))/\c.size=cap*8):=by
     obtain⟨c,h1,_,h3,_⟩:=I2.out.size H8.out (by omega);exact⟨c,h1,by rw[h3,co]⟩
    have hvr:Hid (vb<wr.heap.size/\wr.cell? ⟨vb,0,none⟩=some (.int .i64 ver)):=by
     obtain⟨_,_,_,a4,a5⟩:=I2.out.grown;refine⟨by omega,?_⟩;rw[<-HV.out];exact World.cell?_of_block (w:=w) (a5 vb cl (by intro e;cases e;exact cn rfl))
    have O1:Hid (∀v∈zs[j]!,v.oneCell'=true):=H1.out _ (by rw[getElem!_pos zs j (by omega)];exact List.getElem_mem _);generalize zs[j]! = y at l2 he K2 S2 O1;obtain⟨v0,v1,v2,v3,v4,v5,x,v7,rfl⟩:=he;have c0:=l2 0 _ rfl;have c1:=l2 1 _ rfl;have c2:=l2 2 _ rfl;have c3:=l2 3 _ rfl;have c4:=l2 4 _ rfl;have c5:=l2 5 _ rfl;have c6:=l2 6 _ rfl;have c7:=l2 7 _ rfl;simp only[Nat.add_zero]at c0;clear l2 I2;obtain⟨c,hc,hcz⟩:=Rw.out;have hcall2:=clo_call (v0:=v0) (v1:=v1) (v2:=v2) (v3:=v3) (v4:=v4) (v5:=v5) (v7:=v7) (x:=x) (i:=i) hbr.out hc (by omega) hvr.out.2;clear hc hcz Rw c;have st:∀v∈[v0,v1,v2,v3,v4,v5,.int .i64 x,v7],v.oneCell'=true:=O1.out;have s0:=λa m w=>run_store Tryz.prog w a v0 m (st _ (by simp))
    have s1:=λa m w=>run_store Tryz.prog w a v1 m (st _ (by simp))
    have s2:=λa m w=>run_store Tryz.prog w a v2 m (st _ (by simp))
    have s3:=λa m w=>run_store Tryz.prog w a v3 m (st _ (by simp))
    have s4:=λa m w=>run_store Tryz.prog w a v4 m (st _ (by simp))
    have s5:=λa m w=>run_store Tryz.prog w a v5 m (st _ (by simp))
    have s7:=λa m w=>run_store Tryz.prog w a v7 m (st _ (by simp))
    clear st;clear hIF
    cases hq:old ver [v0,v1,v2,v3,v4,v5,.int .i64 x,v7]with
    |true =>
     rw[hq]at hcall2
     go_wp2_with (refine hcall2.mono ?_;rintro e w1 ⟨rfl,HB,⟨d0,d1,d2,d3,d4,d5,d6,d7⟩,o0,o1,o2,o3,o4,o5,o6,o7,r0,f0,r1,f1,r2,f2,r3,f3,r4,f4,r5,f5,r6,f6,r7,f7⟩)
     go_roundg (n-(j+1))
     case measure=>omega
     case rel=>exact⟨i,j+1,rfl,by go_num,by omega,Nat.le_refl _,S2.out w1 hq HB.out⟩
    |false =>
     rw[hq]at hcall2
     go_wp2_with (refine hcall2.mono ?_;rintro e w1 ⟨rfl,HB,⟨d0,d1,d2,d3,d4,d5,d6,d7⟩,o0,o1,o2,o3,o4,o5,o6,o7,r0,f0,r1,f1,r2,f2,r3,f3,r4,f4,r5,f5,r6,f6,r7,f7⟩)
     go_roundg (n-(j+1))
     case measure=>omega
     case rel=>exact⟨i+1,j+1,by go_num,by go_num,by omega,Nat.le_refl _,K2.out w1 hq HB.out⟩
   .obtain rfl:j=n:=by omega
    have hltz:¬(j:Int)<(j:Int):=by omega
    obtain⟨zz,hzz⟩:∃zz,zz=(Builtin.zeroCells zEnt.cells (j-i)).toList:=⟨_,rfl⟩;have hzl:zz.length=(j-i)*8:=by rw[hzz];exact Z72 _
    have hle:i*8+zz.length<=cur.size:=by omega
    have E2:Hid (∃c,wr.heap[b]?=some (.cells c te (0,0))/\c.toList=(kept ver (zs.take j)).flatten++cur.toList.drop (i*8)/\c.size=cur.size/\(kept ver (zs.take j)).flatten.length=i*8):=I2.out.size H8.out (by omega);have hcl:∀ty,(Builtin.clear_ #[52] ty #[.slice (some ⟨b,i*8,none⟩) (j-i) (cap-i)]).run Tryz.prog wr=.ok (.tuple #[]) (wr.setCells b (i*8) zz):=by
     intro ty;obtain⟨c,g1,_,g3,_⟩:=E2.out;rw[hzz];refine Zbnh wr 52 63 ty zEnt Tryz.underlying52 Tryz.zeroValue63 (by decide) b _ _ _ (by omega) (λt ht=>?_) (λt ht=>Zup g1);rw[show zEnt.cells.size=8 from rfl]at ht;rw[Zh5 g1,Array.getElem?_eq_getElem (by omega)];rfl
    have hcap:¬cap=i:=by omega
    have hkl:=I2.out.len;rw[<-cc,List.take_length]at hkl;have KL:Hid ((kept ver zs).length=i):=hkl;have GR:Hid (w.grownBy wr (some b)):=I2.out.grown;have ZO:Hid (∀v∈zz,v.oneCell'=true):=by rw[hzz];exact Zbng _
    have ZZ:Hid (zz=(Builtin.zeroCells zEnt.cells (j-i)).toList):=hzz;clear hIF hkl hzz I2
    go_wp2
    go_ret
    rw[KL.out];obtain⟨c,g1,g2,g3,g4⟩:=E2.out;obtain⟨a1,a2,a3,a4,a5⟩:=GR.out;rw[Zuq g1 (by omega) ZO.out];refine⟨rfl,⟨_,setRow_heap wr b c _ te (0,0) g1,?_⟩,⟨a1,a2,a3,by rw[setRow_size];exact a4,λk hk hn=>(setRow_other wr b k _ (λe=>hn (by rw[e]))).trans (a5 k hk hn)⟩⟩;show c.toList.take (i*8)++zz++c.toList.drop (i*8+zz.length)=_;rw[<-cc,List.take_length]at g2 g4;rw[g2,List.take_left' g4,List.drop_append,g4,List.drop_eq_nil_of_le (by omega),List.nil_append,List.drop_drop,ZD.out,<-ZZ.out,show i*8+(i*8+zz.length-i*8)=j*8 by omega];simp only[List.append_assoc,cc]
end Go.Proofs.YtcfaekfjkeobhaaGreat
namespace Go.Proofs.YtcfaekfjkeobhaaGreat
open Go.RowKit Go.Lib
set_option maxHeartbeats 4000000 in
set_option maxRecDepth 1000000 in
theorem idx_nil(p:Value)(w:World) :
  Calls Tryz.prog 99 #[.slice none 0 0,.func (.func 114) #[] #[p]] w λe w'=>e=.returned (.int .i64 (-1))/\w'=w:=by
 have mixed:Tryz.prog.follows Departure.mixedOrders=true:=by kernel_rfl
 go_enter Tryz.func99,Tryz.ntmps99
 go_wp2
 go_loopg [5,8] 0 (λgg _ s8 wr=>s8=.int .i64 0/\wr=w)
 case atStart=>exact⟨rfl,rfl⟩
 case round =>
  obtain⟨rfl,rfl⟩:=hrel
  go_wp2
  go_ret
  exact⟨rfl,rfl⟩
set_option maxHeartbeats 4000000 in
set_option maxRecDepth 1000000 in
theorem Zbnl(p:Value)(w:World) :
  Calls Tryz.prog 113 #[.slice none 0 0,.func (.func 114) #[] #[p]] w λe w'=>e=.returned (.slice none 0 0)/\w'=w:=by
 have mixed:Tryz.prog.follows Departure.mixedOrders=true:=by kernel_rfl
 have hIF:=idx_nil p w
 go_enter Tryz.func113,Tryz.ntmps113
 go_wp2_with (refine hIF.mono ?_;rintro e w' ⟨rfl,rfl⟩)
 go_ret
 exact⟨rfl,rfl⟩
end Go.Proofs.YtcfaekfjkeobhaaGreat
namespace Go.Proofs.YtcfaekfjkeobhaaGreat
open Go.RowKit Go.AM
def EntryT(e:List T):Prop:=∃t0 t1 t2 t3 t4 t5 x t7,e=[t0,t1,t2,t3,t4,t5,.int .i64 x,t7]
theorem Zb4e{e:List T}(h:entB e=true):EntryT e:=by
 unfold entB at h;split at h
 .exact⟨_,_,_,_,_,_,_,_,rfl⟩
 .cases h
theorem Zbnm{w:World}{e:List T}{z:List Value}{f:List Nat}(he:EntryT e)(h:TRs w e z f)(v:Int):Zur z/\(!old v z)=Zeo v e:=by
 obtain⟨t0,t1,t2,t3,t4,t5,x,t7,rfl⟩:=he
 cases h with|cons h0 h =>
 cases h with|cons h1 h =>
 cases h with|cons h2 h =>
 cases h with|cons h3 h =>
 cases h with|cons h4 h =>
 cases h with|cons h5 h =>
 cases h with|cons h6 h =>
 cases h6
 cases h with|cons h7 h =>
 cases h;refine⟨⟨_,_,_,_,_,_,_,_,rfl⟩,?_⟩;simp[old,Zeo,bne]
theorem Zb4f{v:Int}:Zbz Tryz.prog 113 [.t .nil,.fn 114 [.ptr 0 0]] [.box [.t (.int .i64 v)]] (.t .nil) [.box [.t (.int .i64 v)]]:=by
 refine⟨by decide +kernel,?_⟩;intro N base w ρ vs R hdom hv hz;obtain⟨l⟩:=vs;simp only at hv
 cases hv with|cons q0 hv =>
 cases hv with|cons q1 hv =>
 cases hv
 cases q0 with|t q0 _ =>
 cases q0
 cases q1 with|fn q1 =>
 rename_i c;obtain⟨c⟩:=c;simp only at q1
 cases q1 with|cons q1 q2 =>
 cases q2;refine(Zbnl _ w).mono ?_;rintro e w' ⟨rfl,rfl⟩;exact⟨_,ρ,rfl,Below.refl _ _,R,.t .nil (by intro g hg;cases hg),hdom,Ye _,λ_ _ _=>rfl,λg _ hg=>⟨hz g hg,rfl⟩,λb r0 _ h=>⟨r0,h,rfl⟩⟩
theorem Zb4g{fr:Bool}{es:List (List T)}{v:Int}(hE:∀e∈es,EntryT e):Zbz Tryz.prog 113 [.own 0,.fn 114 [.ptr 1 0]] [.arr 63 8 fr es,.box [.t (.int .i64 v)]] (.own 2) [.dead,.box [.t (.int .i64 v)],.arr 63 8 fr (es.filter (Zeo v))]:=by
 refine⟨by decide +kernel,?_⟩;intro N base w ρ vs R hdom hv hz;obtain⟨l⟩:=vs;simp only at hv
 cases hv with|cons q0 hv =>
 cases hv with|cons q1 hv =>
 cases hv
 cases q0 with|own hr h1 =>
 rename_i r
 cases q1 with|fn q1 =>
 rename_i c;obtain⟨c⟩:=c;simp only at q1
 cases q1 with|cons q1 q2 =>
 cases q2
 cases q1 with|ptr hr1 hv1 =>
 rename_i vb r1;have hb:gt [Blk.arr 63 8 fr es,.box [.t (.int .i64 v)]] 0=.arr 63 8 fr es:=by simp[gt]
 have hb1:gt [Blk.arr 63 8 fr es,.box [.t (.int .i64 v)]] 1=.box [.t (.int .i64 v)]:=by simp[gt]
 have hd0:gt [Blk.arr 63 8 fr es,.box [.t (.int .i64 v)]] 0≠.dead:=by rw[hb];intro hc;cases hc
 have hd1:gt [Blk.arr 63 8 fr es,.box [.t (.int .i64 v)]] 1≠.dead:=by rw[hb1];intro hc;cases hc
 obtain⟨r2,e1,e2⟩:=R.blk 0 hd0;rw[hr]at e1;cases e1;rw[hb]at e2;obtain⟨r3,e3,e4⟩:=R.blk 1 hd1;rw[hr1]at e3;cases e3;rw[hb1]at e4;obtain⟨_,g1,c1,t1,e5,hb1g,hg1,hc1,_⟩:=e4;rw[hv1]at e5;cases e5;obtain⟨hex,e',xs,hel,ho,hsz,hlen,htr,hfree,hfr,how⟩:=e2;obtain⟨hxl,ho⟩:=ho;have fin:∀(e:Ending) (w':World) (r':Root) (n:Nat),(∃a,r'.v=.slice a n (match r'.v with|.slice _ _ c=>c|_=>0))->e=.returned r'.v->Below base w w'->Rel N base (updM ρ 2 r') [.dead,.box [.t (.int .i64 v)],.arr 63 8 fr (es.filter (Zeo v))] w'->
   Keeps ρ w (Free N ρ [.arr 63 8 fr es,.box [.t (.int .i64 v)]]) (updM ρ 2 r') w' (Free N (updM ρ 2 r') [.dead,.box [.t (.int .i64 v)],.arr 63 8 fr (es.filter (Zeo v))])->(∀g,g<w.heap.size->¬N.a g->w'.heap[g]?=w.heap[g]?)->
   ∃v1 ρ',e=.returned v1/\Below base w w'/\Rel N base ρ' [.dead,.box [.t (.int .i64 v)],.arr 63 8 fr (es.filter (Zeo v))] w'/\RV ρ' w' (Free N ρ' [.dead,.box [.t (.int .i64 v)],.arr 63 8 fr (es.filter (Zeo v))]) (.own 2) v1/\(∀b,3<=b->ρ' b=none)/\2<=3/\
    (∀g,g<w.heap.size->¬N.a g->w'.heap[g]?=w.heap[g]?)/\(∀g,g<w.heap.size->N.z g->Free N ρ' [.dead,.box [.t (.int .i64 v)],.arr 63 8 fr (es.filter (Zeo v))] g/\w'.heap[g]?=w.heap[g]?)/\
    ∀b r0,b<2->ρ b=some r0->∃r1,ρ' b=some r1/\r1.v=r0.v:=by
  intro e w' r' n hs he hB p1 p2 p3;refine⟨_,_,he,hB,p1,.own (b:=2) (r:=r') (by simp[updM]) (by obtain⟨a,ha⟩:=hs;rw[ha];rfl),λb hb=>?_,by decide,p3,λg hg hzz=>p2.free g hg (hz g hzz),λb r0 hb h0=>⟨r0,?_,rfl⟩⟩
  .simp only[updM];rw[if_neg (by omega)];exact hdom b (by simp;omega)
  .simp only[updM];rw[if_neg (by omega)];exact h0
 rcases ho with⟨hrv,hn⟩|⟨g,cap,cur,hrv,hbg,hg,hcap,hcm,hcur,htake⟩
 .have hn:es=[]:=Yca.1 hn;subst hn;rw[hrv];refine(Zbnl _ w).mono ?_;rintro e w' ⟨rfl,rfl⟩;obtain⟨p1,p2,p3⟩:=fltN_rel R hr hdom (w':=w') ⟨rfl,rfl,rfl,Ye _,λ_ _ _=>rfl⟩;exact fin _ _ _ 0 ⟨none,rfl⟩ rfl (Below.refl _ _) p1 p2 p3
 obtain⟨zs,hzx,hch⟩:=Ch.of htr;have hzl:=hch.length;have hgne:vb≠g:=by
  intro h;subst h;have:=R.inj 1 0 r1 r vb hr1 hr hd1 hd0 (.inl (by rw[hv1];rfl)) (.inl (by rw[hrv];rfl));cases this
 have hcell:w.cell? ⟨vb,0,none⟩=some (.int .i64 v):=by
  obtain⟨c1⟩:=c1;simp only at hc1
  cases hc1 with|cons k0 k1 =>
  cases k1
  cases k0 with|t k0 _ =>
  cases k0;rw[Zh5 hg1];rfl
 have hpv:∀e∈es,∀z f,TRs w e z f->(!old v z)=Zeo v e:=λe he z f h=>(Zbnm (hE e he) h v).2
 have hone:=htr.one;rw[hrv];have hwalk:=Zb4d g vb es.length cap e' v zs cur w hg hzl (by rw[htake,hzx]) hcur hcap (by unfold maxLen at hcm;omega)
  (λz hz=>by obtain⟨e,f,h1,h2⟩:=hch.mem hz;exact(Zbnm (hE e h1) h2 v).1)
  (λz hz x hx=>hone x (by rw[<-hzx];exact Ycj.2 ⟨z,hz,hx⟩)) (Yb2.1 hg1).1 hgne hcell
 refine hwalk.mono ?_;rintro e w' ⟨he,hc2,hgr⟩;obtain⟨fp0,_,hch2⟩:=hch.filter hpv;have hkl:(kept v zs).length=(es.filter (Zeo v)).length:=hch2.length;rw[hkl]at he hc2;have hzl2:=Z72 (es.length-(es.filter (Zeo v)).length);generalize (Builtin.zeroCells zEnt.cells (es.length-(es.filter (Zeo v)).length)).toList=zr at hc2 hzl2;obtain⟨fp',p1,p2,p3⟩:=flt_rel R rfl hr hdom hrv hg hch (by rw[hzx,htake]) hpv (zr:=zr) hzl2 hc2 hgr;refine fin e w' _ (es.filter (Zeo v)).length ⟨some ⟨g,0,none⟩,rfl⟩ he ?_ p1 p2 p3;obtain⟨a1,a2,a3,a4,a5⟩:=hgr;exact⟨a1,a2,a3,a4,λk hk=>a5 k (Yb7 hk R.hb) (by intro h;cases h;omega)⟩
end Go.Proofs.YtcfaekfjkeobhaaGreat
