/-
  Parts of the proofs for this seat: SI KI KS SX.
-/
import Derived.Lib.SlicesCompact
import Derived.Shelf.SlSortCmp.NoneTotal
import Derived.Shelf.Slices.CompactI
import Derived.Shelf.Slices.In.SortNone
import Derived.Shelf.Sort.Plain
import Derived.Test.YtgbipcfdgfjplaaGreatP8
import Derived.Test.YtgbipcfdgfjplaaGreatP25
set_option linter.unusedSectionVars false
set_option linter.unusedSimpArgs false
set_option linter.unusedVariables false
set_option maxRecDepth 100000
set_option maxHeartbeats 4000000
namespace Go.Proofs.YtgbipcfdgfjplaaGreat
open Go.RowKit Go.AM Go.Lib Go.Sort
def Z0D:Prop:=∀(blk off cap:Nat) (zs:WA) (w:World),Holds (Value.int .i64) w blk off zs.toArray->blk<w.heap.size->zs.length<4611686018427387904->
 Calls Tryz.prog 190 #[.slice (some ⟨blk,off,none⟩) zs.length cap] w λe w'=>e=.returned (.tuple #[])/\∃n os,w'=grow (putRow (Value.int .i64) (Sort.ahead w n) blk off (zs.mergeSort λx y=>decide (x<=y)).toArray) os
def Z0E:Prop:=∀(p:Option Addr) (cap:Nat) (w:World),Calls Tryz.prog 190 #[.slice p 0 cap] w λe w'=>e=.returned (.tuple #[])/\w'=w
def Z0F:Prop:=∀(blk off cap:Nat) (zs:WA) (w:World),Holds (Value.int .i64) w blk off zs.toArray->zs.length<=9223372036854775807->zs.length<=cap->
 Calls Tryz.prog 262 #[.slice (some ⟨blk,off,none⟩) zs.length cap] w λe w'=>e=.returned (.slice (some ⟨blk,off,none⟩) (Lib.compact zs).length cap)/\∃q,w'=putRow (Value.int .i64) (Sort.ahead w q) blk off (Lib.compact zs++List.replicate (zs.length-(Lib.compact zs).length) 0).toArray
def Z0G:Prop:=∀(a:Option Addr) (cap:Nat) (w:World),Calls Tryz.prog 262 #[.slice a 0 cap] w λe w'=>e=.returned (.slice a 0 cap)/\w'=w
def tri(z:Int):V4×V3×V2:=(ic z,[Value.int .i64 z],[])
theorem Zq1{w:World}:∀{r:WA} {vs:V3} {fp:V2},TRs w (r.map ic).flatten vs fp->vs=r.map (Value.int .i64)/\fp=[]
 |[],vs,fp,h=>by cases h;exact⟨rfl,rfl⟩
 |x::r,vs,fp,h=>by
  rw[Yw,Yba]at h;change TRs w (T.int .i64 x::(r.map ic).flatten) vs fp at h
  cases h with
  |cons h hs =>
   cases h;obtain⟨e1,e2⟩:=Zq1 hs;subst e1;subst e2;exact⟨rfl,rfl⟩
theorem ZjJ(l:WA):(l.map tri).map (·.1)=l.map ic:=by simp[tri]
theorem ZjK(l:WA):((l.map tri).map (·.2.1)).flatten=l.map (Value.int .i64):=by
 induction l with
 |nil=>rfl
 |cons x l ih=>simp only[Yw,Yba];rw[ih];rfl
theorem tri3(l:WA):((l.map tri).map (·.2.2)).flatten=[]:=by
 induction l with
 |nil=>rfl
 |cons x l ih=>simp only[Yw,Yba];rw[ih];rfl
theorem tri4{w:World}(l:WA):∀p∈l.map tri,TRs w p.1 p.2.1 p.2.2:=by
 intro p hp;obtain⟨z,-,rfl⟩:=Y2.1 hp;exact TRs.cons (TR.int _ _) TRs.nil
theorem ZBv{a b:Int}{l:WA}(j:Nat):keeps (a::b::l).toArray (j+2)=keeps (b::l).toArray (j+1):=by
 unfold keeps;simp
theorem Z0H:∀l:WA,Lib.compact l=Xq l
 |[]=>rfl
 |[a]=>by simp[Lib.compact,compactUpTo,keeps,Xq,Ycp]
 |a::b::l=>by
  have ih:=Z0H (b::l);have e:∀(c:Int) (m:WA),Lib.compact (c::m)=c::((List.range m.length).filter λj=>keeps (c::m).toArray (j+1)).map λj=>(c::m).toArray[j+1]!:=by
   intro c m;unfold Lib.compact compactUpTo;rw[Ys,List.range_succ_eq_map,Ycc,Ya (by simp[keeps]),Yw,List.filter_map,List.map_map];rfl
  rw[e,Ys,List.range_succ_eq_map,Ycc,Xq];rw[e]at ih;have h0:keeps (a::b::l).toArray (0+1)=decide (¬a=b):=by
   unfold keeps;by_cases h:a=b
   .simp[h]
   .simp[h,Ne.symm h]
  have hf:(List.map Nat.succ (List.range l.length)).filter (λj=>keeps (a::b::l).toArray (j+1))=((List.range l.length).filter λj=>keeps (b::l).toArray (j+1)).map Nat.succ:=by
   rw[List.filter_map];congr 1;exact List.filter_congr λj _=>ZBv j
  have hm:((List.map Nat.succ (List.range l.length)).filter (λj=>keeps (a::b::l).toArray (j+1))).map (λj=>(a::b::l).toArray[j+1]!)=((List.range l.length).filter λj=>keeps (b::l).toArray (j+1)).map λj=>(b::l).toArray[j+1]!:=by
   rw[hf,List.map_map];refine Ybe λj _=>?_
   simp
  by_cases h:a=b
  .rw[Ya h,Yb (by rw[h0];simp[h]),hm,<-ih,h]
  .rw[Yb h,Ya (by rw[h0];simp[h]),Yw,hm,<-ih];rfl
theorem Zq2:∀l:WA,(Xq l).Sublist l
 |[]=>.slnil
 |[a]=>List.Sublist.refl _
 |a::b::l=>by
  unfold Xq;split
  .exact(Zq2 (b::l)).cons _
  .exact(Zq2 (b::l)).cons_cons _
theorem Z0I{w:World}{g:Nat}{zs:WA}{cur:Array Value}{e:TypeId}(hg:w.heap[g]?=some (.cells cur e (0,0)))(ht:cur.toList.take zs.length=zs.map (Value.int .i64)):Holds (Value.int .i64) w g 0 zs.toArray:=by
 intro j hj;have hj':j<zs.length:=by simpa using hj
 have h2:cur[j]?=some (.int .i64 zs[j]):=by
  have h3:(cur.toList.take zs.length)[j]?=some (.int .i64 zs[j]):=by rw[ht,Ych,Yi hj'];rfl
  rw[Ybh,Ya hj']at h3;simpa using h3
 refine⟨?_,?_⟩
 .unfold World.cell?;rw[hg];simp[h2,hj']
 .simp[World.frozen?,hg]
theorem ZBw(K:Z0D)(K0:Z0E){fr:Bool}{zs:WA}(c:zs.length<=4096) :
  Xg Tryz.prog 190 [.own 0] [.arr 3 1 fr (zs.map ic)] (.tup []) [.arr 3 1 fr ((Z1 zs).map ic)]:=by
 refine⟨by decide +kernel,?_⟩;intro N base w ρ vs R hdom hv hz;obtain⟨l⟩:=vs;simp only at hv
 cases hv with|cons q0 hv =>
 cases hv
 cases q0 with|own hr h1 =>
 rename_i r;have hb:gt [Blk.arr 3 1 fr (zs.map ic)] 0=.arr 3 1 fr (zs.map ic):=by simp[gt]
 have hd0:gt [Blk.arr 3 1 fr (zs.map ic)] 0≠.dead:=by rw[hb];intro hc;cases hc
 obtain⟨r2,e1,e2⟩:=R.blk 0 hd0;rw[hr]at e1;cases e1;rw[hb]at e2;obtain⟨hex,e',xs,hel,ho,hsz,hlen1,htr,hfree,hfr,how⟩:=e2;obtain⟨hxl,ho⟩:=ho;rcases ho with⟨hrv,hn⟩|⟨g,cap,cur,hrv,hbg,hg,hcap,hcm,hcur,htake⟩
 .have hn:zs=[]:=by simpa using hn
  subst hn;rw[hrv];refine(K0 none 0 w).mono ?_;rintro e w' ⟨rfl,rfl⟩;exact⟨_,ρ,rfl,Below.refl _ _,by simpa[Z1]using R,.tup .nil,hdom,by simp,λ_ _ _=>rfl,λg hg hzz=>⟨by simpa[Z1]using hz g hzz,rfl⟩,λb r0 _ h=>⟨r0,h,rfl⟩⟩
 obtain⟨hx1,hx2⟩:=Zq1 htr;have hgs:g<w.heap.size:=(Ycd.1 hg).1;have hzl:(zs.map ic).length*1=zs.length:=by simp
 have htk:cur.toList.take zs.length=zs.map (Value.int .i64):=by rw[<-hzl,htake,hx1]
 have hcall:=K g 0 cap zs w (Z0I hg htk) hgs (by omega);rw[hrv,show(zs.map ic).length=zs.length by simp];refine hcall.mono ?_;rintro e w' ⟨rfl,n,os,rfl⟩;have hgr:w.grownBy (sortWorld (Value.int .i64) w g 0 n (Z1 zs).toArray os) (some g):=⟨rfl,rfl,rfl,by show w.heap.size<=((w.heap.modify g _)++os).size;simp,λk hk hne=>ZjE _ _ _ _ _ _ _ hk (by intro e;exact hne (by rw[e]))⟩;have hperm:(Z1 zs).Perm zs:=Yed _ _;have hsl:(Z1 zs).length=zs.length:=hperm.length_eq
 obtain⟨P1,P2,P3⟩:=Zs4 R hr (by intro b hb;exact hdom b (by simpa using hb)) hrv hg (ZjJ zs) (by rw[ZjK,hzl,htk]) (by rw[tri3,hx2]) (tri4 zs) (hperm.map tri) ⟨_,Z03 _ _ _ _ _ _ _ hg,by
  rw[ZjF _ _ _ (by simp at hcap;simp;omega),ZjK];simp[hsl]⟩ hgr
 rw[ZjJ]at P1 P2;refine⟨_,_,rfl,⟨hgr.os,hgr.tape,hgr.output,hgr.size,λk hk=>hgr.block k (Yco hk R.hb) (by intro e;cases e;omega)⟩,P1,.tup .nil,λb hb=>?_,by simp,P3,λk hk hzz=>P2.free k hk (hz k hzz),λb r0 hb h0=>P2.root b r0 h0⟩;simp only[updM];rw[Yb (by simp at hb;omega)];exact hdom b (by simpa using hb)
theorem ZBx(K:Z0F)(K0:Z0G){fr:Bool}{zs:WA}(c:zs.length<=4096) :
  Xg Tryz.prog 262 [.own 0] [.arr 3 1 fr (zs.map ic)] (.own 1) [.dead,.arr 3 1 fr ((Xq zs).map ic)]:=by
 refine⟨by decide +kernel,?_⟩;intro N base w ρ vs R hdom hv hz;obtain⟨l⟩:=vs;simp only at hv
 cases hv with|cons q0 hv =>
 cases hv
 cases q0 with|own hr h1 =>
 rename_i r;have hb:gt [Blk.arr 3 1 fr (zs.map ic)] 0=.arr 3 1 fr (zs.map ic):=by simp[gt]
 have hd0:gt [Blk.arr 3 1 fr (zs.map ic)] 0≠.dead:=by rw[hb];intro hc;cases hc
 obtain⟨r2,e1,e2⟩:=R.blk 0 hd0;rw[hr]at e1;cases e1;rw[hb]at e2;obtain⟨hex,e',xs,hel,ho,hsz,hlen1,htr,hfree,hfr,how⟩:=e2;obtain⟨hxl,ho⟩:=ho;have hdom1:∀b,1<=b->ρ b=none:=by intro b hb;exact hdom b (by simpa using hb)
 rcases ho with⟨hrv,hn⟩|⟨g,cap,cur,hrv,hbg,hg,hcap,hcm,hcur,htake⟩
 .have hn:zs=[]:=by simpa using hn
  subst hn;rw[hrv];refine(K0 none 0 w).mono ?_;rintro e w' ⟨rfl,rfl⟩;obtain⟨p1,p2,p3⟩:=Z0A R hr hdom1 (w':=w') ⟨rfl,rfl,rfl,Yg _,λ_ _ _=>rfl⟩;refine⟨_,_,rfl,Below.refl _ _,p1,.own (b:=1) (r:=⟨.slice none 0 0,[],[]⟩) (by simp[updM]) rfl,λb hb=>?_,by simp,p3,λk hk hzz=>p2.free k hk (hz k hzz),λb r0 hb h0=>p2.root b r0 h0⟩;simp only[updM];rw[Yb (by simp at hb;omega)];exact hdom1 b (by simp at hb;omega)
 obtain⟨hx1,hx2⟩:=Zq1 htr;have hgs:g<w.heap.size:=(Ycd.1 hg).1;have hzl:(zs.map ic).length*1=zs.length:=by simp
 have htk:cur.toList.take zs.length=zs.map (Value.int .i64):=by rw[<-hzl,htake,hx1]
 have hcall:=K g 0 cap zs w (Z0I hg htk) (by omega) (by simpa using hcap);rw[Z0H]at hcall;rw[hrv,show(zs.map ic).length=zs.length by simp];refine hcall.mono ?_;rintro e w' ⟨rfl,q,rfl⟩;have hsub:=Zq2 zs;have hnl:(Xq zs).length<=zs.length:=hsub.length_le;have hgr:w.grownBy (putRow (Value.int .i64) (Sort.ahead w q) g 0 (Xq zs++List.replicate (zs.length-(Xq zs).length) 0).toArray) (some g) :=
  ⟨rfl,rfl,rfl,by show w.heap.size<=(w.heap.modify g _).size;simp,λk hk hne=>Z0B _ _ _ _ _ _ (by intro e;exact hne (by rw[e]))⟩
 obtain⟨P1,P2,P3⟩:=Zs5 R hr hdom1 hrv hg (ZjJ zs) (by rw[ZjK,hzl,htk]) (by rw[tri3,hx2]) (tri4 zs) (hsub.map tri) (zr:=List.replicate (zs.length-(Xq zs).length) (Value.int .i64 0)) (by simp) ⟨_,Z0C _ _ _ _ _ _ hg,by
  rw[ZjF _ _ _ (by simp at hcap|-;omega),ZjK];simp only[Ybn,Ydo,Ydf,Ym,Ydn,Y6]
  rw[show(Xq zs).length+(zs.length-(Xq zs).length)=zs.length*1 by omega]⟩ hgr
 rw[ZjJ,Y6]at P1 P2;refine⟨_,_,rfl,⟨hgr.os,hgr.tape,hgr.output,hgr.size,λk hk=>hgr.block k (Yco hk R.hb) (by intro e;cases e;omega)⟩,P1,.own (b:=1) (r:=⟨.slice (some ⟨g,0,none⟩) (Xq zs).length cap,(((Xq zs).map tri).map (·.2.2)).flatten,[]⟩) (by unfold updM;rw[Ya rfl]) rfl,λb hb=>?_,by simp,P3,λk hk hzz=>P2.free k hk (hz k hzz),λb r0 hb h0=>P2.root b r0 h0⟩;simp only[updM];rw[Yb (by simp at hb;omega)];exact hdom1 b (by simp at hb;omega)
end Go.Proofs.YtgbipcfdgfjplaaGreat
namespace Go.Proofs.YtgbipcfdgfjplaaGreat
open Go.RowKit Go.AM Go.Lib Go.Sort Go.Shelf
def sI_ren:Go.Shelf.Ren:=⟨λ|189=>190|125=>260|257=>259|128=>315|129=>316|294=>306|295=>307|296=>308|297=>309|298=>310|299=>311|216=>312|300=>313|301=>314|328=>342|329=>343|330=>344|331=>345|332=>346|215=>347|343=>368|n=>n,λ|28=>42|3=>3|46=>249|0=>0|51=>320|53=>322|4=>4|183=>313|182=>312|131=>317|5=>5|9=>9|218=>345|222=>276|228=>371|229=>65|n=>n,λ|n=>n⟩
theorem sI:Go.Proofs.Lays.n189 Tryz.prog sI_ren:={ mixed:=by kernel_rfl,f125:=Tryz.func260.trans (congrArg some (by kernel_rfl)),f128:=Tryz.func315.trans (congrArg some (by kernel_rfl)),f129:=Tryz.func316.trans (congrArg some (by kernel_rfl)),f189:=Tryz.func190.trans (congrArg some (by kernel_rfl)),f215:=Tryz.func347.trans (congrArg some (by kernel_rfl)),f216:=Tryz.func312.trans (congrArg some (by kernel_rfl)),f257:=Tryz.func259.trans (congrArg some (by kernel_rfl)),f294:=Tryz.func306.trans (congrArg some (by kernel_rfl)),f295:=Tryz.func307.trans (congrArg some (by kernel_rfl)),f296:=Tryz.func308.trans (congrArg some (by kernel_rfl)),f297:=Tryz.func309.trans (congrArg some (by kernel_rfl)),f298:=Tryz.func310.trans (congrArg some (by kernel_rfl)),f299:=Tryz.func311.trans (congrArg some (by kernel_rfl)),f300:=Tryz.func313.trans (congrArg some (by kernel_rfl)),f301:=Tryz.func314.trans (congrArg some (by kernel_rfl)),f328:=Tryz.func342.trans (congrArg some (by kernel_rfl)),f329:=Tryz.func343.trans (congrArg some (by kernel_rfl)),f330:=Tryz.func344.trans (congrArg some (by kernel_rfl)),f331:=Tryz.func345.trans (congrArg some (by kernel_rfl)),f332:=Tryz.func346.trans (congrArg some (by kernel_rfl)),f343:=Tryz.func368.trans (congrArg some (by kernel_rfl)),t0:=Tryz.underlying0,a0:=Tryz.isAgg0,z0:=Tryz.sizeOf0,v0:=Tryz.zeroValue0,t3:=Tryz.underlying3,a3:=Tryz.isAgg3,z3:=Tryz.sizeOf3,v3:=Tryz.zeroValue3,t4:=Tryz.underlying4,a4:=Tryz.isAgg4,z4:=Tryz.sizeOf4,v4:=Tryz.zeroValue4,t5:=Tryz.underlying5,a5:=Tryz.isAgg5,z5:=Tryz.sizeOf5,v5:=Tryz.zeroValue5,t9:=Tryz.underlying9,a9:=Tryz.isAgg9,z9:=Tryz.sizeOf9,v9:=Tryz.zeroValue9,t28:=Tryz.underlying42,a28:=Tryz.isAgg42,z28:=Tryz.sizeOf42,v28:=Tryz.zeroValue42,t46:=Tryz.underlying249,a46:=Tryz.isAgg249,z46:=Tryz.sizeOf249,v46:=Tryz.zeroValue249,t51:=Tryz.underlying320,a51:=Tryz.isAgg320,z51:=Tryz.sizeOf320,v51:=Tryz.zeroValue320,t53:=Tryz.underlying322,a53:=Tryz.isAgg322,z53:=Tryz.sizeOf322,v53:=Tryz.zeroValue322,t131:=Tryz.underlying317,a131:=Tryz.isAgg317,z131:=Tryz.sizeOf317,v131:=Tryz.zeroValue317,t182:=Tryz.underlying312,a182:=Tryz.isAgg312,z182:=Tryz.sizeOf312,v182:=Tryz.zeroValue312,t183:=Tryz.underlying313,a183:=Tryz.isAgg313,z183:=Tryz.sizeOf313,v183:=Tryz.zeroValue313,t218:=Tryz.underlying345,a218:=Tryz.isAgg345,z218:=Tryz.sizeOf345,v218:=Tryz.zeroValue345,t222:=Tryz.underlying276,a222:=Tryz.isAgg276,z222:=Tryz.sizeOf276,v222:=Tryz.zeroValue276,t228:=Tryz.underlying371,a228:=Tryz.isAgg371,z228:=Tryz.sizeOf371,v228:=Tryz.zeroValue371,t229:=Tryz.underlying65,a229:=Tryz.isAgg65,z229:=Tryz.sizeOf65,v229:=Tryz.zeroValue65 }
def cI_ren:Go.Shelf.Ren:=⟨λ|20=>262|n=>n,λ|22=>42|3=>3|4=>4|0=>0|n=>n,λ|n=>n⟩
theorem cI:Go.Proofs.Lays2.n20 Tryz.prog cI_ren:={ mixed:=by kernel_rfl,f20:=Tryz.func262.trans (congrArg some (by kernel_rfl)),t0:=Tryz.underlying0,a0:=Tryz.isAgg0,z0:=Tryz.sizeOf0,v0:=Tryz.zeroValue0,t3:=Tryz.underlying3,a3:=Tryz.isAgg3,z3:=Tryz.sizeOf3,v3:=Tryz.zeroValue3,t4:=Tryz.underlying4,a4:=Tryz.isAgg4,z4:=Tryz.sizeOf4,v4:=Tryz.zeroValue4,t22:=Tryz.underlying42,a22:=Tryz.isAgg42,z22:=Tryz.sizeOf42,v22:=Tryz.zeroValue42,i3:=by kernel_rfl }
theorem ZBy:Z0D:=λblk off cap zs w hH hb hz=>Any.slices_Sort_int sI blk off cap zs w hH hb hz
theorem ZBz:Z0E:=λp cap w=>Any.slices_Sort_int_none sI p cap w
theorem ZB0:Z0F:=λblk off cap zs w hH hz hc=>Any.slices_Compact_int cI blk off cap zs w hH hz hc
theorem ZB1:Z0G:=λa cap w=>Any.slices_Compact_int_empty cI a cap w
end Go.Proofs.YtgbipcfdgfjplaaGreat
namespace Go.Proofs.YtgbipcfdgfjplaaGreat
open Go.RowKit Go.AM Go.Lib Go.Sort Go.Shelf
def ZB2:Go.Shelf.Ren:=⟨λ|6=>204|15=>260|14=>267|28=>315|29=>316|20=>317|21=>319|22=>320|23=>321|24=>322|25=>323|26=>324|27=>325|46=>349|47=>343|48=>344|49=>350|50=>351|57=>370|n=>n,λ|22=>43|24=>42|25=>135|3=>3|39=>249|0=>0|53=>320|55=>322|4=>4|46=>313|45=>312|50=>317|5=>5|9=>9|66=>345|70=>276|76=>371|77=>65|n=>n,λ|n=>n⟩
theorem Z0J:Go.Proofs.SlLaysF.n6 Tryz.prog ZB2:={ mixed:=by kernel_rfl,f6:=⟨Tryz.f204.name,by decide,Tryz.func204.trans (congrArg some (by kernel_rfl))⟩,f14:=⟨Tryz.f267.name,by decide,Tryz.func267.trans (congrArg some (by kernel_rfl))⟩,f15:=Tryz.func260.trans (congrArg some (by kernel_rfl)),f20:=⟨Tryz.f317.name,by decide,Tryz.func317.trans (congrArg some (by kernel_rfl))⟩,f21:=⟨Tryz.f319.name,by decide,Tryz.func319.trans (congrArg some (by kernel_rfl))⟩,f22:=⟨Tryz.f320.name,by decide,Tryz.func320.trans (congrArg some (by kernel_rfl))⟩,f23:=⟨Tryz.f321.name,by decide,Tryz.func321.trans (congrArg some (by kernel_rfl))⟩,f24:=⟨Tryz.f322.name,by decide,Tryz.func322.trans (congrArg some (by kernel_rfl))⟩,f25:=⟨Tryz.f323.name,by decide,Tryz.func323.trans (congrArg some (by kernel_rfl))⟩,f26:=⟨Tryz.f324.name,by decide,Tryz.func324.trans (congrArg some (by kernel_rfl))⟩,f27:=⟨Tryz.f325.name,by decide,Tryz.func325.trans (congrArg some (by kernel_rfl))⟩,f28:=Tryz.func315.trans (congrArg some (by kernel_rfl)),f29:=Tryz.func316.trans (congrArg some (by kernel_rfl)),f46:=⟨Tryz.f349.name,by decide,Tryz.func349.trans (congrArg some (by kernel_rfl))⟩,f47:=Tryz.func343.trans (congrArg some (by kernel_rfl)),f48:=Tryz.func344.trans (congrArg some (by kernel_rfl)),f49:=⟨Tryz.f350.name,by decide,Tryz.func350.trans (congrArg some (by kernel_rfl))⟩,f50:=⟨Tryz.f351.name,by decide,Tryz.func351.trans (congrArg some (by kernel_rfl))⟩,f57:=⟨Tryz.f370.name,by decide,Tryz.func370.trans (congrArg some (by kernel_rfl))⟩,t0:=Tryz.underlying0,a0:=Tryz.isAgg0,z0:=Tryz.sizeOf0,v0:=Tryz.zeroValue0,t3:=Tryz.underlying3,a3:=Tryz.isAgg3,z3:=Tryz.sizeOf3,v3:=Tryz.zeroValue3,t4:=Tryz.underlying4,a4:=Tryz.isAgg4,z4:=Tryz.sizeOf4,v4:=Tryz.zeroValue4,t5:=Tryz.underlying5,a5:=Tryz.isAgg5,z5:=Tryz.sizeOf5,v5:=Tryz.zeroValue5,t9:=Tryz.underlying9,a9:=Tryz.isAgg9,z9:=Tryz.sizeOf9,v9:=Tryz.zeroValue9,t22:=Tryz.underlying43,a22:=Tryz.isAgg43,z22:=Tryz.sizeOf43,v22:=Tryz.zeroValue43,a24:=Tryz.isAgg42,z24:=Tryz.sizeOf42,t25:=Tryz.underlying135,a25:=Tryz.isAgg135,z25:=Tryz.sizeOf135,v25:=Tryz.zeroValue135,t39:=Tryz.underlying249,a39:=Tryz.isAgg249,z39:=Tryz.sizeOf249,v39:=Tryz.zeroValue249,t45:=Tryz.underlying312,a45:=Tryz.isAgg312,z45:=Tryz.sizeOf312,v45:=Tryz.zeroValue312,t46:=Tryz.underlying313,a46:=Tryz.isAgg313,z46:=Tryz.sizeOf313,v46:=Tryz.zeroValue313,t50:=Tryz.underlying317,a50:=Tryz.isAgg317,z50:=Tryz.sizeOf317,v50:=Tryz.zeroValue317,t53:=Tryz.underlying320,a53:=Tryz.isAgg320,z53:=Tryz.sizeOf320,v53:=Tryz.zeroValue320,t55:=Tryz.underlying322,a55:=Tryz.isAgg322,z55:=Tryz.sizeOf322,v55:=Tryz.zeroValue322,t66:=Tryz.underlying345,a66:=Tryz.isAgg345,z66:=Tryz.sizeOf345,v66:=Tryz.zeroValue345,t70:=Tryz.underlying276,a70:=Tryz.isAgg276,z70:=Tryz.sizeOf276,v70:=Tryz.zeroValue276,t76:=Tryz.underlying371,a76:=Tryz.isAgg371,z76:=Tryz.sizeOf371,v76:=Tryz.zeroValue371,t77:=Tryz.underlying65,a77:=Tryz.isAgg65,z77:=Tryz.sizeOf65,v77:=Tryz.zeroValue65 }
theorem ZB3:Z01:=by
 intro α _ enc h1 cf hO blk off cap d w hcmp hH hblk hsz;have eg:∀args w,(callFunc 205 args).run Tryz.prog w=.ok (.enter 205 args) w:=enters_of Tryz.func205 (by kernel_rfl) rfl;exact Any.slices_SortFunc Z0J enc h1 cf hO 205 #[] blk off cap d w eg hcmp hH hblk hsz
theorem ZB4:Z02:=λp cap w=>AnyF.slices_SortFunc_none { Z0J with } p cap _ w
theorem ZB5{a b:XS}(h:a.map isc=b.map isc):a=b:=(Ydt (λ_ _ h=>Zqz h)).1 h
theorem ic_inj{a b:WA}(h:a.map ic=b.map ic):a=b:=(Ydt (f:=ic) (by intro x y hxy;simpa[ic]using hxy)).1 h
theorem Z0K{rows:XS}(h1:rows.length<=4096)(h2:∀r∈rows,r.length<=4)(k:XS->XR):Zb7 (rows.map isc) k=some (k rows):=by
 have h:∃r,ZsL (rows.map isc) r:=⟨rows,rfl,h1,h2⟩;unfold Zb7;rw[dif_pos h,ZB5 h.choose_spec.1.symm]
theorem Z0L{l:WA}(h1:l.length<=4096)(k:WA->XR):Zb8 (l.map ic) k=some (k l):=by
 have h:∃r,ZsM (l.map ic) r:=⟨l,rfl,h1⟩;unfold Zb8;rw[dif_pos h,ic_inj h.choose_spec.1.symm]
theorem ZB6(f:Nat)(xs:XQ)(h0:V1)(r:AV)(hr:V1)(h:ext f xs h0=some (r,hr)):Xg Tryz.prog f xs h0 r hr:=by
 unfold ext at h;split at h
 .split at h
  .subst f;unfold Zb7 at h;split at h
   .rename_i hc;obtain⟨h1,h2,h3⟩:=hc.choose_spec;generalize hc.choose=rows at h h1 h2 h3;subst h1;cases h;exact ZBn ZB3 ZB4 h2 h3
   .cases h
  .cases h
 .split at h
  .subst f;unfold Zb7 at h;split at h
   .rename_i hc;obtain⟨h1,h2,h3⟩:=hc.choose_spec;generalize hc.choose=rows at h h1 h2 h3;subst h1;cases h;exact ZBu h2 h3
   .cases h
  .cases h
 .split at h
  .subst f;unfold Zb8 at h;split at h
   .rename_i hc;obtain⟨h1,h2⟩:=hc.choose_spec;generalize hc.choose=l at h h1 h2;subst h1;cases h;exact ZBw ZBy ZBz h2
   .cases h
  .split at h
   .subst f;unfold Zb8 at h;split at h
    .rename_i hc;obtain⟨h1,h2⟩:=hc.choose_spec;generalize hc.choose=l at h h1 h2;subst h1;cases h;exact ZBx ZB0 ZB1 h2
    .cases h
   .cases h
 .cases h
theorem sound{f:Nat}{xs:XQ}{h0:V1}{r:AV}{hr:V1}(h:C f xs h0=some (r,hr)):Xg Tryz.prog f xs h0 r hr:=Z3s tbl_ok ZB6 h
theorem t204:tbl 204=none:=by kernel_rfl
theorem t206:tbl 206=none:=by kernel_rfl
theorem t190:tbl 190=none:=by kernel_rfl
theorem t262:tbl 262=none:=by kernel_rfl
theorem c_sort{fr:Bool}{rows:XS}(h1:rows.length<=4096)(h2:∀r∈rows,r.length<=4):C 204 [.own 0,.fn 205 []] [.arr 42 1 fr (rows.map isc)]=some (.tup [],[.arr 42 1 fr ((VW rows).map isc)]) :=
 Zhe t204 (by simp only[ext,Ya];exact Z0K h1 h2 _)
theorem c_cpt{fr:Bool}{rows:XS}(h1:rows.length<=4096)(h2:∀r∈rows,r.length<=4):C 206 [.own 0,.fn 207 []] [.arr 42 1 fr (rows.map isc)]=some (.own 1,[.dead,.arr 42 1 fr ((Wj rows).map isc)]) :=
 Zhe t206 (by simp only[ext,Ya];exact Z0K h1 h2 _)
theorem ZB7{fr:Bool}{l:WA}(h1:l.length<=4096):C 190 [.own 0] [.arr 3 1 fr (l.map ic)]=some (.tup [],[.arr 3 1 fr ((Z1 l).map ic)]) :=
 Zhe t190 (by simp only[ext,Ya];exact Z0L h1 _)
theorem c_cptI{fr:Bool}{l:WA}(h1:l.length<=4096):C 262 [.own 0] [.arr 3 1 fr (l.map ic)]=some (.own 1,[.dead,.arr 3 1 fr ((Xq l).map ic)]) :=
 Zhe t262 (by unfold ext;simp only[show ¬(262:Nat)=190 by decide,if_false,if_true];exact Z0L h1 _)
end Go.Proofs.YtgbipcfdgfjplaaGreat
