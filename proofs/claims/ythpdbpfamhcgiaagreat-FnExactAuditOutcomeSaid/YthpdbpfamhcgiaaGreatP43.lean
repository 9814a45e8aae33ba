/-
  Parts of the proofs for this seat: SI KI KS RP RS SX.
-/
import Derived.Laws.CopyRow
import Derived.Shelf.SlSortCmp.NoneTotal
import Derived.Shelf.Slices.CompactI
import Derived.Shelf.Slices.In.SortNone
import Derived.Shelf.Sort.Plain
import Derived.Test.YthpdbpfamhcgiaaGreatP42
set_option linter.all false
set_option maxRecDepth 100000
set_option maxHeartbeats 4000000
namespace Go.Proofs.YthpdbpfamhcgiaaGreat
open Go.RowKit Go.AM Go.Lib Go.Sort
def ZDQ:Prop:=∀(blk off cap:Nat) (zs:V6) (w:World),Holds (Value.int .i64) w blk off zs.toArray->blk<w.heap.size->zs.length<4611686018427387904->
 Calls Tryz.prog 351 #[.slice (some ⟨blk,off,none⟩) zs.length cap] w λe w'=>e=.returned (.tuple #[])/\∃n os,w'=grow (putRow (Value.int .i64) (Sort.ahead w n) blk off (zs.mergeSort λx y=>decide (x<=y)).toArray) os
def ZDR:Prop:=∀(p:Option Addr) (cap:Nat) (w:World),Calls Tryz.prog 351 #[.slice p 0 cap] w λe w'=>e=.returned (.tuple #[])/\w'=w
def ZDS:Prop:=∀(blk off cap:Nat) (zs:V6) (w:World),Holds (Value.int .i64) w blk off zs.toArray->zs.length<=9223372036854775807->zs.length<=cap->
 Calls Tryz.prog 407 #[.slice (some ⟨blk,off,none⟩) zs.length cap] w λe w'=>e=.returned (.slice (some ⟨blk,off,none⟩) (Lib.compact zs).length cap)/\∃q,w'=putRow (Value.int .i64) (Sort.ahead w q) blk off (Lib.compact zs++List.replicate (zs.length-(Lib.compact zs).length) 0).toArray
def ZDT:Prop:=∀(a:Option Addr) (cap:Nat) (w:World),Calls Tryz.prog 407 #[.slice a 0 cap] w λe w'=>e=.returned (.slice a 0 cap)/\w'=w
def tri(z:Int):KS×KI×V8:=(ic z,[Value.int .i64 z],[])
def Z12{w:World}:∀{r:V6} {vs:KI} {fp:V8},TRs w (r.map ic).flatten vs fp->vs=r.map (Value.int .i64)/\fp=[]
 |[],vs,fp,h=>by cases h;exact⟨rfl,rfl⟩
 |x::r,vs,fp,h=>by
  rw[Y0,Ybc]at h;change TRs w (T.int .i64 x::(r.map ic).flatten) vs fp at h
  cases h with
  |cons h hs =>
   cases h;obtain⟨e1,e2⟩:=Z12 hs
   simp_all
def Zq2(l:V6):(l.map tri).map (·.1)=l.map ic:=by simp[tri]
def Zq3(l:V6):((l.map tri).map (·.2.1)).flatten=l.map (Value.int .i64):=by
 induction l with
 |nil=>rfl
 |cons x l ih=>simp only[Y0,Ybc];rw[ih];rfl
def tri3(l:V6):((l.map tri).map (·.2.2)).flatten=[]:=by
 induction l with
 |nil=>rfl
 |cons x l ih=>simp only[Y0,Ybc];rw[ih];rfl
def tri4{w:World}(l:V6):∀p∈l.map tri,TRs w p.1 p.2.1 p.2.2:=by
 intro p hp;obtain⟨z,-,rfl⟩:=Yt.1 hp;exact TRs.cons (TR.int _ _) TRs.nil
def ZUr{a b:Int}{l:V6}(j:Nat):keeps (a::b::l).toArray (j+2)=keeps (b::l).toArray (j+1):=by
 unfold keeps;simp
def ZDU:∀l:V6,Lib.compact l=XM l
 |[]=>rfl
 |[a]=>by simp[Lib.compact,compactUpTo,keeps,XM,Yb8]
 |a::b::l=>by
  have ih:=ZDU (b::l);have e:∀(c:Int) (m:V6),Lib.compact (c::m)=c::((List.range m.length).filter λj=>keeps (c::m).toArray (j+1)).map λj=>(c::m).toArray[j+1]!:=by
   intro c m;unfold Lib.compact compactUpTo;rw[Yw,List.range_succ_eq_map,Yc7,Ya (by simp[keeps]),Y0,List.filter_map,List.map_map];rfl
  rw[e,Yw,List.range_succ_eq_map,Yc7,XM];rw[e]at ih;have h0:keeps (a::b::l).toArray (0+1)=decide (¬a=b):=by
   unfold keeps
   grind
  have hf:(List.map Nat.succ (List.range l.length)).filter (λj=>keeps (a::b::l).toArray (j+1))=((List.range l.length).filter λj=>keeps (b::l).toArray (j+1)).map Nat.succ:=by
   rw[List.filter_map];simp[List.filter_congr,ZUr]
  have hm:((List.map Nat.succ (List.range l.length)).filter (λj=>keeps (a::b::l).toArray (j+1))).map (λj=>(a::b::l).toArray[j+1]!)=((List.range l.length).filter λj=>keeps (b::l).toArray (j+1)).map λj=>(b::l).toArray[j+1]!:=by
   simp_all
  grind
def Z13:∀l:V6,(XM l).Sublist l
 |[]=>.slnil
 |[a]=>List.Sublist.refl _
 |a::b::l=>by
  unfold XM;split
  .exact(Z13 (b::l)).cons _
  .exact(Z13 (b::l)).cons_cons _
def ZDV{w:World}{g:Nat}{zs:V6}{cur:Array Value}{e:TypeId}(hg:w.heap[g]?=some (.cells cur e (0,0)))(ht:cur.toList.take zs.length=zs.map (Value.int .i64)):Holds (Value.int .i64) w g 0 zs.toArray:=by
 intro j hj;have hj':j<zs.length:=by simpa using hj
 have h2:cur[j]?=some (.int .i64 zs[j]):=by
  have h3:(cur.toList.take zs.length)[j]?=some (.int .i64 zs[j]):=by rw[ht,Yds,Yf hj'];rfl
  grind
 refine⟨?_,?_⟩
 .unfold World.cell?;rw[hg];simp[h2,hj']
 .simp[World.frozen?,hg]
def ZUs(K:ZDQ)(K0:ZDR){fr:Bool}{zs:V6}(c:zs.length<=4096) :
  Wr Tryz.prog 351 [.own 0] [.arr 3 1 fr (zs.map ic)] (.tup []) [.arr 3 1 fr ((Xg zs).map ic)]:=by
 refine⟨by decide +kernel,?_⟩;intro N base w ρ vs R hdom hv hz;obtain⟨l⟩:=vs;simp only at hv
 cases hv with|cons q0 hv =>
 cases hv
 cases q0 with|own hr h1 =>
 rename_i r;have hb:gt [Blk.arr 3 1 fr (zs.map ic)] 0=.arr 3 1 fr (zs.map ic):=by simp[gt]
 have hd0:gt [Blk.arr 3 1 fr (zs.map ic)] 0≠.dead:=by rw[hb];intro hc;cases hc
 obtain⟨r2,e1,e2⟩:=R.blk 0 hd0;rw[hr]at e1;cases e1;rw[hb]at e2;obtain⟨e',xs,hel,ho,hsz,hlen1,htr,hfree,hfr⟩:=e2;obtain⟨hxl,ho⟩:=ho;rcases ho with⟨hrv,hn⟩|⟨g,cap,cur,hrv,hbg,hg,hcap,hcm,hcur,htake⟩
 .have hn:zs=[]:=by simpa using hn
  subst hn;rw[hrv];refine(K0 none 0 w).mono ?_;rintro e w' ⟨rfl,rfl⟩;exact⟨_,ρ,rfl,Below.refl _ _,by simpa[Xg]using R,.tup .nil,hdom,by simp,λ_ _ _=>rfl,λg hg hzz=>⟨by simpa[Xg]using hz g hzz,rfl⟩,λb r0 _ h=>⟨r0,h,rfl⟩⟩
 obtain⟨hx1,hx2⟩:=Z12 htr;have hgs:g<w.heap.size:=(Ycd.1 hg).1;have hzl:(zs.map ic).length*1=zs.length:=by simp
 have htk:cur.toList.take zs.length=zs.map (Value.int .i64):=by rw[<-hzl,htake,hx1]
 have hcall:=K g 0 cap zs w (ZDV hg htk) hgs (by omega);rw[hrv,show(zs.map ic).length=zs.length by simp];refine hcall.mono ?_;rintro e w' ⟨rfl,n,os,rfl⟩;have hgr:w.grownBy (sortWorld (Value.int .i64) w g 0 n (Xg zs).toArray os) (some g):=⟨rfl,rfl,rfl,by show w.heap.size<=((w.heap.modify g _)++os).size;simp,λk hk hne=>Zqx _ _ _ _ _ _ _ hk (by intro e;exact hne (by rw[e]))⟩;have hperm:(Xg zs).Perm zs:=Ydg _ _;have hsl:(Xg zs).length=zs.length:=hperm.length_eq
 obtain⟨P1,P2,P3⟩:=Z3d R hr (by intro b hb;exact hdom b (by simpa using hb)) hrv hg (Zq2 zs) (by rw[Zq3,hzl,htk]) (by rw[tri3,hx2]) (tri4 zs) (hperm.map tri) ⟨_,ZDF _ _ _ _ _ _ _ hg,by
  rw[Zqy _ _ _ (by simp at hcap;simp;omega),Zq3];simp[hsl]⟩ hgr
 rw[Zq2]at P1 P2;refine⟨_,_,rfl,⟨hgr.os,hgr.tape,hgr.output,hgr.size,λk hk=>hgr.block k (Yb0 hk R.hb) (by intro e;cases e;omega)⟩,P1,.tup .nil,λb hb=>?_,by simp,P3,λk hk hzz=>P2.free k hk (hz k hzz),λb r0 hb h0=>P2.root b r0 h0⟩;simp only[updM];rw[Yb (by simp at hb;omega)];exact hdom b (by simpa using hb)
def ZUt(K:ZDS)(K0:ZDT){fr:Bool}{zs:V6}(c:zs.length<=4096) :
  Wr Tryz.prog 407 [.own 0] [.arr 3 1 fr (zs.map ic)] (.own 1) [.dead,.arr 3 1 fr ((XM zs).map ic)]:=by
 refine⟨by decide +kernel,?_⟩;intro N base w ρ vs R hdom hv hz;obtain⟨l⟩:=vs;simp only at hv
 cases hv with|cons q0 hv =>
 cases hv
 cases q0 with|own hr h1 =>
 rename_i r;have hb:gt [Blk.arr 3 1 fr (zs.map ic)] 0=.arr 3 1 fr (zs.map ic):=by simp[gt]
 have hd0:gt [Blk.arr 3 1 fr (zs.map ic)] 0≠.dead:=by rw[hb];intro hc;cases hc
 obtain⟨r2,e1,e2⟩:=R.blk 0 hd0;rw[hr]at e1;cases e1;rw[hb]at e2;obtain⟨e',xs,hel,ho,hsz,hlen1,htr,hfree,hfr⟩:=e2;obtain⟨hxl,ho⟩:=ho;have hdom1:∀b,1<=b->ρ b=none:=by intro b hb;exact hdom b (by simpa using hb)
 rcases ho with⟨hrv,hn⟩|⟨g,cap,cur,hrv,hbg,hg,hcap,hcm,hcur,htake⟩
 .have hn:zs=[]:=by simpa using hn
  subst hn;rw[hrv];refine(K0 none 0 w).mono ?_;rintro e w' ⟨rfl,rfl⟩;obtain⟨p1,p2,p3⟩:=ZDN R hr hdom1 (w':=w') ⟨rfl,rfl,rfl,Yj _,λ_ _ _=>rfl⟩;refine⟨_,_,rfl,Below.refl _ _,p1,.own (b:=1) (r:=⟨.slice none 0 0,[]⟩) (by simp[updM]) rfl,λb hb=>?_,by simp,p3,λk hk hzz=>p2.free k hk (hz k hzz),λb r0 hb h0=>p2.root b r0 h0⟩;simp only[updM];rw[Yb (by simp at hb;omega)];exact hdom1 b (by simp at hb;omega)
 obtain⟨hx1,hx2⟩:=Z12 htr;have hgs:g<w.heap.size:=(Ycd.1 hg).1;have hzl:(zs.map ic).length*1=zs.length:=by simp
 have htk:cur.toList.take zs.length=zs.map (Value.int .i64):=by rw[<-hzl,htake,hx1]
 have hcall:=K g 0 cap zs w (ZDV hg htk) (by omega) (by simpa using hcap);rw[ZDU]at hcall;rw[hrv,show(zs.map ic).length=zs.length by simp];refine hcall.mono ?_;rintro e w' ⟨rfl,q,rfl⟩;have hsub:=Z13 zs;have hnl:(XM zs).length<=zs.length:=hsub.length_le;have hgr:w.grownBy (putRow (Value.int .i64) (Sort.ahead w q) g 0 (XM zs++List.replicate (zs.length-(XM zs).length) 0).toArray) (some g) :=
  ⟨rfl,rfl,rfl,by show w.heap.size<=(w.heap.modify g _).size;simp,λk hk hne=>ZDO _ _ _ _ _ _ (by intro e;exact hne (by rw[e]))⟩
 obtain⟨P1,P2,P3⟩:=Z3e R hr hdom1 hrv hg (Zq2 zs) (by rw[Zq3,hzl,htk]) (by rw[tri3,hx2]) (tri4 zs) (hsub.map tri) (zr:=List.replicate (zs.length-(XM zs).length) (Value.int .i64 0)) (by simp) ⟨_,ZDP _ _ _ _ _ _ hg,by
  rw[Zqy _ _ _ (by simp at hcap|-;omega),Zq3];simp only[Y3,Ydk,Ydh,Yq,Yci,Y1]
  rw[show(XM zs).length+(zs.length-(XM zs).length)=zs.length*1 by omega]⟩ hgr
 rw[Zq2,Y1]at P1 P2;refine⟨_,_,rfl,⟨hgr.os,hgr.tape,hgr.output,hgr.size,λk hk=>hgr.block k (Yb0 hk R.hb) (by intro e;cases e;omega)⟩,P1,.own (b:=1) (r:=⟨.slice (some ⟨g,0,none⟩) (XM zs).length cap,(((XM zs).map tri).map (·.2.2)).flatten⟩) (by unfold updM;rw[Ya rfl]) rfl,λb hb=>?_,by simp,P3,λk hk hzz=>P2.free k hk (hz k hzz),λb r0 hb h0=>P2.root b r0 h0⟩;simp only[updM];rw[Yb (by simp at hb;omega)];exact hdom1 b (by simp at hb;omega)
end Go.Proofs.YthpdbpfamhcgiaaGreat
namespace Go.Proofs.YthpdbpfamhcgiaaGreat
open Go.RowKit Go.AM Go.Lib Go.Sort Go.Shelf
def sI_ren:Go.Shelf.Ren:=⟨λ|189=>351|125=>405|257=>404|128=>437|129=>438|294=>428|295=>429|296=>430|297=>431|298=>432|299=>433|216=>434|300=>435|301=>436|328=>454|329=>455|330=>456|331=>457|332=>458|215=>459|343=>466|n=>n,λ|28=>40|3=>3|46=>405|0=>0|51=>435|53=>438|4=>4|183=>448|182=>447|131=>452|5=>5|9=>9|218=>466|222=>401|228=>473|229=>474|n=>n,λ|n=>n⟩
def sI:Go.Proofs.Lays.n189 Tryz.prog sI_ren:={ mixed:=by kernel_rfl,f125:=Tryz.func405.trans (congrArg some (by kernel_rfl)),f128:=Tryz.func437.trans (congrArg some (by kernel_rfl)),f129:=Tryz.func438.trans (congrArg some (by kernel_rfl)),f189:=Tryz.func351.trans (congrArg some (by kernel_rfl)),f215:=Tryz.func459.trans (congrArg some (by kernel_rfl)),f216:=Tryz.func434.trans (congrArg some (by kernel_rfl)),f257:=Tryz.func404.trans (congrArg some (by kernel_rfl)),f294:=Tryz.func428.trans (congrArg some (by kernel_rfl)),f295:=Tryz.func429.trans (congrArg some (by kernel_rfl)),f296:=Tryz.func430.trans (congrArg some (by kernel_rfl)),f297:=Tryz.func431.trans (congrArg some (by kernel_rfl)),f298:=Tryz.func432.trans (congrArg some (by kernel_rfl)),f299:=Tryz.func433.trans (congrArg some (by kernel_rfl)),f300:=Tryz.func435.trans (congrArg some (by kernel_rfl)),f301:=Tryz.func436.trans (congrArg some (by kernel_rfl)),f328:=Tryz.func454.trans (congrArg some (by kernel_rfl)),f329:=Tryz.func455.trans (congrArg some (by kernel_rfl)),f330:=Tryz.func456.trans (congrArg some (by kernel_rfl)),f331:=Tryz.func457.trans (congrArg some (by kernel_rfl)),f332:=Tryz.func458.trans (congrArg some (by kernel_rfl)),f343:=Tryz.func466.trans (congrArg some (by kernel_rfl)),t0:=Tryz.underlying0,a0:=Tryz.isAgg0,z0:=Tryz.sizeOf0,v0:=Tryz.zeroValue0,t3:=Tryz.underlying3,a3:=Tryz.isAgg3,z3:=Tryz.sizeOf3,v3:=Tryz.zeroValue3,t4:=Tryz.underlying4,a4:=Tryz.isAgg4,z4:=Tryz.sizeOf4,v4:=Tryz.zeroValue4,t5:=Tryz.underlying5,a5:=Tryz.isAgg5,z5:=Tryz.sizeOf5,v5:=Tryz.zeroValue5,t9:=Tryz.underlying9,a9:=Tryz.isAgg9,z9:=Tryz.sizeOf9,v9:=Tryz.zeroValue9,t28:=Tryz.underlying40,a28:=Tryz.isAgg40,z28:=Tryz.sizeOf40,v28:=Tryz.zeroValue40,t46:=Tryz.underlying405,a46:=Tryz.isAgg405,z46:=Tryz.sizeOf405,v46:=Tryz.zeroValue405,t51:=Tryz.underlying435,a51:=Tryz.isAgg435,z51:=Tryz.sizeOf435,v51:=Tryz.zeroValue435,t53:=Tryz.underlying438,a53:=Tryz.isAgg438,z53:=Tryz.sizeOf438,v53:=Tryz.zeroValue438,t131:=Tryz.underlying452,a131:=Tryz.isAgg452,z131:=Tryz.sizeOf452,v131:=Tryz.zeroValue452,t182:=Tryz.underlying447,a182:=Tryz.isAgg447,z182:=Tryz.sizeOf447,v182:=Tryz.zeroValue447,t183:=Tryz.underlying448,a183:=Tryz.isAgg448,z183:=Tryz.sizeOf448,v183:=Tryz.zeroValue448,t218:=Tryz.underlying466,a218:=Tryz.isAgg466,z218:=Tryz.sizeOf466,v218:=Tryz.zeroValue466,t222:=Tryz.underlying401,a222:=Tryz.isAgg401,z222:=Tryz.sizeOf401,v222:=Tryz.zeroValue401,t228:=Tryz.underlying473,a228:=Tryz.isAgg473,z228:=Tryz.sizeOf473,v228:=Tryz.zeroValue473,t229:=Tryz.underlying474,a229:=Tryz.isAgg474,z229:=Tryz.sizeOf474,v229:=Tryz.zeroValue474 }
def cI_ren:Go.Shelf.Ren:=⟨λ|20=>407|n=>n,λ|22=>40|3=>3|4=>4|0=>0|n=>n,λ|n=>n⟩
def cI:Go.Proofs.Lays2.n20 Tryz.prog cI_ren:={ mixed:=by kernel_rfl,f20:=Tryz.func407.trans (congrArg some (by kernel_rfl)),t0:=Tryz.underlying0,a0:=Tryz.isAgg0,z0:=Tryz.sizeOf0,v0:=Tryz.zeroValue0,t3:=Tryz.underlying3,a3:=Tryz.isAgg3,z3:=Tryz.sizeOf3,v3:=Tryz.zeroValue3,t4:=Tryz.underlying4,a4:=Tryz.isAgg4,z4:=Tryz.sizeOf4,v4:=Tryz.zeroValue4,t22:=Tryz.underlying40,a22:=Tryz.isAgg40,z22:=Tryz.sizeOf40,v22:=Tryz.zeroValue40,i3:=by kernel_rfl }
def ZUu:ZDQ:=λblk off cap zs w hH hb hz=>Any.slices_Sort_int sI blk off cap zs w hH hb hz
def ZUv:ZDR:=λp cap w=>Any.slices_Sort_int_none sI p cap w
def ZUw:ZDS:=λblk off cap zs w hH hz hc=>Any.slices_Compact_int cI blk off cap zs w hH hz hc
def ZUx:ZDT:=λa cap w=>Any.slices_Compact_int_empty cI a cap w
end Go.Proofs.YthpdbpfamhcgiaaGreat
namespace Go.Proofs.YthpdbpfamhcgiaaGreat
open Go.RowKit Go.AM Go.Lib Go.Sort Go.Shelf
def ZUy:Go.Shelf.Ren:=⟨λ|6=>360|15=>405|14=>411|28=>437|29=>438|20=>439|21=>441|22=>442|23=>443|24=>444|25=>445|26=>446|27=>447|46=>461|47=>455|48=>456|49=>462|50=>463|57=>468|n=>n,λ|22=>44|24=>40|25=>218|3=>3|39=>405|0=>0|53=>435|55=>438|4=>4|46=>448|45=>447|50=>452|5=>5|9=>9|66=>466|70=>401|76=>473|77=>474|n=>n,λ|n=>n⟩
def ZDW:Go.Proofs.SlLaysF.n6 Tryz.prog ZUy:={ mixed:=by kernel_rfl,f6:=⟨Tryz.f360.name,by decide,Tryz.func360.trans (congrArg some (by kernel_rfl))⟩,f14:=⟨Tryz.f411.name,by decide,Tryz.func411.trans (congrArg some (by kernel_rfl))⟩,f15:=Tryz.func405.trans (congrArg some (by kernel_rfl)),f20:=⟨Tryz.f439.name,by decide,Tryz.func439.trans (congrArg some (by kernel_rfl))⟩,f21:=⟨Tryz.f441.name,by decide,Tryz.func441.trans (congrArg some (by kernel_rfl))⟩,f22:=⟨Tryz.f442.name,by decide,Tryz.func442.trans (congrArg some (by kernel_rfl))⟩,f23:=⟨Tryz.f443.name,by decide,Tryz.func443.trans (congrArg some (by kernel_rfl))⟩,f24:=⟨Tryz.f444.name,by decide,Tryz.func444.trans (congrArg some (by kernel_rfl))⟩,f25:=⟨Tryz.f445.name,by decide,Tryz.func445.trans (congrArg some (by kernel_rfl))⟩,f26:=⟨Tryz.f446.name,by decide,Tryz.func446.trans (congrArg some (by kernel_rfl))⟩,f27:=⟨Tryz.f447.name,by decide,Tryz.func447.trans (congrArg some (by kernel_rfl))⟩,f28:=Tryz.func437.trans (congrArg some (by kernel_rfl)),f29:=Tryz.func438.trans (congrArg some (by kernel_rfl)),f46:=⟨Tryz.f461.name,by decide,Tryz.func461.trans (congrArg some (by kernel_rfl))⟩,f47:=Tryz.func455.trans (congrArg some (by kernel_rfl)),f48:=Tryz.func456.trans (congrArg some (by kernel_rfl)),f49:=⟨Tryz.f462.name,by decide,Tryz.func462.trans (congrArg some (by kernel_rfl))⟩,f50:=⟨Tryz.f463.name,by decide,Tryz.func463.trans (congrArg some (by kernel_rfl))⟩,f57:=⟨Tryz.f468.name,by decide,Tryz.func468.trans (congrArg some (by kernel_rfl))⟩,t0:=Tryz.underlying0,a0:=Tryz.isAgg0,z0:=Tryz.sizeOf0,v0:=Tryz.zeroValue0,t3:=Tryz.underlying3,a3:=Tryz.isAgg3,z3:=Tryz.sizeOf3,v3:=Tryz.zeroValue3,t4:=Tryz.underlying4,a4:=Tryz.isAgg4,z4:=Tryz.sizeOf4,v4:=Tryz.zeroValue4,t5:=Tryz.underlying5,a5:=Tryz.isAgg5,z5:=Tryz.sizeOf5,v5:=Tryz.zeroValue5,t9:=Tryz.underlying9,a9:=Tryz.isAgg9,z9:=Tryz.sizeOf9,v9:=Tryz.zeroValue9,t22:=Tryz.underlying44,a22:=Tryz.isAgg44,z22:=Tryz.sizeOf44,v22:=Tryz.zeroValue44,a24:=Tryz.isAgg40,z24:=Tryz.sizeOf40,t25:=Tryz.underlying218,a25:=Tryz.isAgg218,z25:=Tryz.sizeOf218,v25:=Tryz.zeroValue218,t39:=Tryz.underlying405,a39:=Tryz.isAgg405,z39:=Tryz.sizeOf405,v39:=Tryz.zeroValue405,t45:=Tryz.underlying447,a45:=Tryz.isAgg447,z45:=Tryz.sizeOf447,v45:=Tryz.zeroValue447,t46:=Tryz.underlying448,a46:=Tryz.isAgg448,z46:=Tryz.sizeOf448,v46:=Tryz.zeroValue448,t50:=Tryz.underlying452,a50:=Tryz.isAgg452,z50:=Tryz.sizeOf452,v50:=Tryz.zeroValue452,t53:=Tryz.underlying435,a53:=Tryz.isAgg435,z53:=Tryz.sizeOf435,v53:=Tryz.zeroValue435,t55:=Tryz.underlying438,a55:=Tryz.isAgg438,z55:=Tryz.sizeOf438,v55:=Tryz.zeroValue438,t66:=Tryz.underlying466,a66:=Tryz.isAgg466,z66:=Tryz.sizeOf466,v66:=Tryz.zeroValue466,t70:=Tryz.underlying401,a70:=Tryz.isAgg401,z70:=Tryz.sizeOf401,v70:=Tryz.zeroValue401,t76:=Tryz.underlying473,a76:=Tryz.isAgg473,z76:=Tryz.sizeOf473,v76:=Tryz.zeroValue473,t77:=Tryz.underlying474,a77:=Tryz.isAgg474,z77:=Tryz.sizeOf474,v77:=Tryz.zeroValue474 }
def ZUz:ZDD:=by
 intro α _ enc h1 cf hO blk off cap d w hcmp hH hblk hsz;have eg:∀args w,(callFunc 361 args).run Tryz.prog w=.ok (.enter 361 args) w:=enters_of Tryz.func361 (by kernel_rfl) rfl;exact Any.slices_SortFunc ZDW enc h1 cf hO 361 #[] blk off cap d w eg hcmp hH hblk hsz
def ZU0:ZDE:=λp cap w=>AnyF.slices_SortFunc_none { ZDW with } p cap _ w
end Go.Proofs.YthpdbpfamhcgiaaGreat
namespace Go.Proofs.YthpdbpfamhcgiaaGreat
open Go.RowKit Go.Lib
def mk1(w:World):(Instr.makeSlice 40 (.int .i64 1) (.int .i64 1)).run Tryz.prog w=.ok (.slice (some ⟨w.heap.size,0,none⟩) 1 1) (w.alloc (.cells #[.int .i64 0] 3)):=by kernel_rfl
def u30:Tryz.prog.underlying 40=some (.slice 3):=by kernel_rfl
def i3:(Tryz.prog.info? 3).map (·.size)=some 1:=by kernel_rfl
def ZDX(w:World)(c c':Array Value)(t:TypeId):(w.alloc (.cells c t)).setRow w.heap.size c'=w.alloc (.cells c' t):=by
 unfold World.setRow World.alloc;congr 1
 grind
def k0:IntKind.u64.wrap (IntKind.u64.wrap (IntKind.u64.wrap (IntKind.u64.wrap (bits BinOp.and IntKind.u64 1 4294967295*bits BinOp.and IntKind.u64 1 4294967295) / 4294967296) / 4294967296)+IntKind.u64.wrap (bits BinOp.and IntKind.u64 (IntKind.u64.wrap (IntKind.u64.wrap (bits BinOp.and IntKind.u64 1 4294967295*bits BinOp.and IntKind.u64 1 4294967295) / 4294967296)) 4294967295) / 4294967296)=0:=by decide
def Zq4(w:World)(g off cap n:Nat)(x:Value)(hx:x.oneCell'=true)(hc:w.cell? ⟨g,off,none⟩=some x)(z:Array Value)(hz:z.size=n+1)(ty:TypeId) :
  (Builtin.copy_ #[40,40] ty #[.slice (some ⟨w.heap.size,0,none⟩) (n+1) (n+1),.slice (some ⟨g,off,none⟩) 1 cap]).run Tryz.prog (w.alloc (.cells z 3))=.ok (goInt 1) (w.alloc (.cells (x::z.toList.drop 1).toArray 3)):=by
 have hg:g<w.heap.size:=by
  rcases Nat.lt_or_ge g w.heap.size with h'|h'
  .exact h'
  .simp[World.cell?,Array.getElem?_eq_none h']at hc
 have:=run_copy_row Tryz.prog (w.alloc (.cells z 3)) 40 40 ty 3 w.heap.size 0 (n+1) (n+1) ⟨g,off,none⟩ 1 cap z 3 [x] u30 i3 (by show(w.heap.push _)[w.heap.size]?=_;rw[Array.getElem?_push,if_pos rfl]) (by show 1=Nat.min 1 (n+1);simp only[Nat.min_def];rw[if_pos (by omega)]) (by
  intro j v hj
  match j with
  |0 =>
   simp at hj;subst hj;rw[<-hc];have he:(w.alloc (.cells z 3)).heap[g]?=w.heap[g]?:=by show(w.heap.push _)[g]?=_;rw[Array.getElem?_push,if_neg (Nat.ne_of_lt hg)]
   show(w.alloc (.cells z 3)).cell? ⟨g,off+0,none⟩=_;unfold World.cell?
   rw[he];rfl
  |j+1=>simp at hj) (by simp;omega) (by simpa using hx)
 simp_all [ZDX]
def ZU1(g off cap:Nat)(w:World)(hc:w.cell? ⟨g,off,none⟩=some (.int .i64 (-1))) :
  Calls Tryz.prog 335 #[.slice (some ⟨g,off,none⟩) 1 cap,.int .i64 1] w λe w'=>e=.returned (.slice (some ⟨w.heap.size,0,none⟩) 1 1)/\∃q,w'=((w.alloc (.cells #[.int .i64 (-1)] 3)).drewN q):=by
 have mixed:Tryz.prog.follows Departure.mixedOrders=true:=by kernel_rfl
 have hm:=mk1 w;have hk:=k0;have hcp:=Zq4 w g off cap 0 _ rfl hc #[.int .i64 0] rfl;simp at hcp
 go_enter Tryz.func335,Tryz.ntmps335
 go_wp2
 refine wp_loop_rounds 1 ?_;rw[rounds_succ]
 go_wp2
 go_ret
 exact⟨rfl,0,rfl⟩
def ZlW(w:World)(k m c1 c2 q:Nat)(z cs:Array Value)(h1:∀v∈cs.toList,v.oneCell'=true)(hj:cs.size=Nat.min k m)(hs:∀(i:Nat) (v:Value),cs.toList[i]?=some v->z[i]?=some v)(c:k+cs.size<=z.size)(ty:TypeId) :
  (Builtin.copy_ #[40,40] ty #[.slice (some ⟨w.heap.size,k,none⟩) m c1,.slice (some ⟨w.heap.size,0,none⟩) k c2]).run Tryz.prog ((w.alloc (.cells z 3)).drewN q)=.ok (goInt cs.size) ((w.alloc (.cells (z.toList.take k++cs.toList++z.toList.drop (k+cs.size)).toArray 3)).drewN q):=by
 have hg:((w.alloc (.cells z 3)).drewN q).heap[w.heap.size]?=some (.cells z 3 (0,0)):=by show(w.heap.push _)[w.heap.size]?=_;rw[Array.getElem?_push,if_pos rfl]
 have:=run_copy_row Tryz.prog ((w.alloc (.cells z 3)).drewN q) 40 40 ty 3 w.heap.size k m c1 ⟨w.heap.size,0,none⟩ k c2 z 3 cs.toList u30 i3 hg (by rw[Array.length_toList];exact hj) (by
  intro j v hj;have h:=hs j v hj;have ha:(⟨w.heap.size,0,none⟩:Addr).add j=⟨w.heap.size,j,none⟩:=by
   unfold Addr.add;by_cases e:j=0
   .rw[if_pos e,e]
   .rw[if_neg e,Nat.zero_add]
  rw[ha];unfold World.cell?;rw[hg]
  exact h) (by rw[Array.length_toList];exact c) h1
 rw[show((w.alloc (.cells z 3)).drewN q).setRow w.heap.size (z.toList.take k++cs.toList++z.toList.drop (k+cs.toList.length)).toArray=((w.alloc (.cells z 3)).setRow w.heap.size (z.toList.take k++cs.toList++z.toList.drop (k+cs.toList.length)).toArray).drewN q from rfl,ZDX,Array.length_toList]at this;exact this
def mk2(w:World):(Instr.makeSlice 40 (.int .i64 2) (.int .i64 2)).run Tryz.prog w=.ok (.slice (some ⟨w.heap.size,0,none⟩) 2 2) (w.alloc (.cells #[.int .i64 0,.int .i64 0] 3)):=by kernel_rfl
def ZU2(g off cap:Nat)(w:World)(hc:w.cell? ⟨g,off,none⟩=some (.int .i64 (-1))) :
  Calls Tryz.prog 335 #[.slice (some ⟨g,off,none⟩) 1 cap,.int .i64 2] w λe w'=>e=.returned (.slice (some ⟨w.heap.size,0,none⟩) 2 2)/\∃q,w'=((w.alloc (.cells #[.int .i64 (-1),.int .i64 (-1)] 3)).drewN q):=by
 have mixed:Tryz.prog.follows Departure.mixedOrders=true:=by kernel_rfl
 have hm:=mk2 w;have hk:=k0;have hcp:=Zq4 w g off cap 1 _ rfl hc #[.int .i64 0,.int .i64 0] rfl;have hc1:=λc1 c2=>ZlW w 1 1 c1 c2 1 #[.int .i64 (-1),.int .i64 0] #[.int .i64 (-1)] (by simp[Value.oneCell']) rfl (by intro i v h;match i with|0=>simpa using h|i+1=>simp at h) (by decide)
 simp at hcp hc1;have hd:∀W:World,W.drewN 1=W.drew:=λ_=>rfl
 simp only[hd]at hc1;clear hd
 go_enter Tryz.func335,Tryz.ntmps335
 go_wp2
 refine wp_loop_rounds 2 ?_;rw[rounds_succ]
 go_wp2_with fail
 go_region_o
 go_wp2
 rw[rounds_succ]
 go_wp2
 go_ret
 exact⟨rfl,1,rfl⟩
def mk3(w:World):(Instr.makeSlice 40 (.int .i64 3) (.int .i64 3)).run Tryz.prog w=.ok (.slice (some ⟨w.heap.size,0,none⟩) 3 3) (w.alloc (.cells #[.int .i64 0,.int .i64 0,.int .i64 0] 3)):=by kernel_rfl
def ZU3(g off cap:Nat)(w:World)(hc:w.cell? ⟨g,off,none⟩=some (.int .i64 (-1))) :
  Calls Tryz.prog 335 #[.slice (some ⟨g,off,none⟩) 1 cap,.int .i64 3] w λe w'=>e=.returned (.slice (some ⟨w.heap.size,0,none⟩) 3 3)/\∃q,w'=((w.alloc (.cells #[.int .i64 (-1),.int .i64 (-1),.int .i64 (-1)] 3)).drewN q):=by
 have mixed:Tryz.prog.follows Departure.mixedOrders=true:=by kernel_rfl
 have hm:=mk3 w;have hk:=k0;have hcp:=Zq4 w g off cap 2 _ rfl hc #[.int .i64 0,.int .i64 0,.int .i64 0] rfl;have hc1:=λc1 c2=>ZlW w 1 2 c1 c2 1 #[.int .i64 (-1),.int .i64 0,.int .i64 0] #[.int .i64 (-1)] (by simp[Value.oneCell']) rfl (by intro i v h;match i with|0=>simpa using h|i+1=>simp at h) (by decide)
 have hc2:=λc1 c2=>ZlW w 2 1 c1 c2 2 #[.int .i64 (-1),.int .i64 (-1),.int .i64 0] #[.int .i64 (-1)] (by simp[Value.oneCell']) rfl (by intro i v h;match i with|0=>simpa using h|i+1=>simp at h) (by decide)
 simp at hcp hc1 hc2;have hd:∀W:World,W.drewN 1=W.drew:=λ_=>rfl
 have hd2:∀W:World,W.drewN 2=W.drew.drew:=λ_=>rfl
 simp only[hd]at hc1;simp only[hd2]at hc2;clear hd hd2
 go_enter Tryz.func335,Tryz.ntmps335
 go_wp2
 refine wp_loop_rounds 3 ?_;rw[rounds_succ]
 go_wp2_with fail
 go_region_o
 go_wp2
 rw[rounds_succ]
 go_wp2_with fail
 go_region_o
 go_wp2
 rw[rounds_succ]
 go_wp2
 go_ret
 exact⟨rfl,2,rfl⟩
def mk4(w:World):(Instr.makeSlice 40 (.int .i64 4) (.int .i64 4)).run Tryz.prog w=.ok (.slice (some ⟨w.heap.size,0,none⟩) 4 4) (w.alloc (.cells #[.int .i64 0,.int .i64 0,.int .i64 0,.int .i64 0] 3)):=by kernel_rfl
def ZU4(g off cap:Nat)(w:World)(hc:w.cell? ⟨g,off,none⟩=some (.int .i64 (-1))) :
  Calls Tryz.prog 335 #[.slice (some ⟨g,off,none⟩) 1 cap,.int .i64 4] w λe w'=>e=.returned (.slice (some ⟨w.heap.size,0,none⟩) 4 4)/\∃q,w'=((w.alloc (.cells #[.int .i64 (-1),.int .i64 (-1),.int .i64 (-1),.int .i64 (-1)] 3)).drewN q):=by
 have mixed:Tryz.prog.follows Departure.mixedOrders=true:=by kernel_rfl
 have hm:=mk4 w;have hk:=k0;have hcp:=Zq4 w g off cap 3 _ rfl hc #[.int .i64 0,.int .i64 0,.int .i64 0,.int .i64 0] rfl;have hc1:=λc1 c2=>ZlW w 1 3 c1 c2 1 #[.int .i64 (-1),.int .i64 0,.int .i64 0,.int .i64 0] #[.int .i64 (-1)] (by simp[Value.oneCell']) rfl (by intro i v h;match i with|0=>simpa using h|i+1=>simp at h) (by decide)
 have hc2:=λc1 c2=>ZlW w 2 2 c1 c2 2 #[.int .i64 (-1),.int .i64 (-1),.int .i64 0,.int .i64 0] #[.int .i64 (-1),.int .i64 (-1)] (by simp[Value.oneCell']) rfl (by intro i v h;match i with|0=>simpa using h|1=>simpa using h|i+2=>simp at h) (by decide)
 simp at hcp hc1 hc2;have hd:∀W:World,W.drewN 1=W.drew:=λ_=>rfl
 have hd2:∀W:World,W.drewN 2=W.drew.drew:=λ_=>rfl
 simp only[hd]at hc1;simp only[hd2]at hc2;clear hd hd2
 go_enter Tryz.func335,Tryz.ntmps335
 go_wp2
 refine wp_loop_rounds 3 ?_;rw[rounds_succ]
 go_wp2_with fail
 go_region_o
 go_wp2
 rw[rounds_succ]
 go_wp2_with fail
 go_region_o
 go_wp2
 rw[rounds_succ]
 go_wp2
 go_ret
 exact⟨rfl,2,rfl⟩
end Go.Proofs.YthpdbpfamhcgiaaGreat
namespace Go.Proofs.YthpdbpfamhcgiaaGreat
open Go.RowKit Go.AM Go.Lib
def Zq5(n:Nat)(h1:1<=n)(h4:n<=4)(hw:∀(g off cap:Nat) (w:World),w.cell? ⟨g,off,none⟩=some (.int .i64 (-1))->Calls Tryz.prog 335 #[.slice (some ⟨g,off,none⟩) 1 cap,.int .i64 (n:Int)] w λe w'=>e=.returned (.slice (some ⟨w.heap.size,0,none⟩) n n)/\∃q,w'=((w.alloc (.cells (List.replicate n (Value.int .i64 (-1))).toArray 3)).drewN q)) :
  Wr Tryz.prog 335 [L 1 ([(-1)].map ic),I n] [] (.own 0) [.arr 3 1 true ((List.replicate n (-1:Int)).map ic)]:=by
 refine⟨by decide +kernel,?_⟩;intro N base w ρ vs R hdom hv hz;obtain⟨l⟩:=vs;simp only at hv
 cases hv with|cons q0 hv =>
 cases hv with|cons q1 hv =>
 cases hv
 cases q0 with|t q0 _ =>
 cases q1 with|t q1 _ =>
 cases q1;obtain⟨a,c,rfl,hc⟩:=ZlV (W:=w) (r:=[-1]) q0 (λ_ _=>rfl);obtain⟨g,off,rfl,hcell⟩:=hc 0 (by simp);refine(hw g off c w hcell).mono ?_;rintro e w' ⟨rfl,q,rfl⟩;have hgr:w.grownBy ((w.alloc (.cells (List.replicate n (Value.int .i64 (-1))).toArray 3)).drewN q) none:=⟨rfl,rfl,rfl,by show w.heap.size<=(w.heap.push _).size;rw[Array.size_push];omega,λk hk _=>by show(w.heap.push _)[k]?=_;rw[Array.getElem?_push,Ynx]⟩;have hup:upd [] (kill []++[(0,Blk.arr 3 1 true ((List.replicate n (-1:Int)).map ic))])=[Blk.arr 3 1 true ((List.replicate n (-1:Int)).map ic)]:=by simp[upd,kill,stB]
 have htrs:∀(W:World) (k:Nat),TRs W ((List.replicate k (-1:Int)).map ic).flatten (List.replicate k (Value.int .i64 (-1))) []:=by
  intro W k
  induction k with
  |zero=>exact .nil
  |succ k ih=>exact .cons (fp:=[]) (.int _ _) ih
 have hp:=K9 R (n:=0) (ks:=[]) (x:=.arr 3 1 true ((List.replicate n (-1:Int)).map ic)) (r:=⟨.slice (some ⟨w.heap.size,0,none⟩) n n,[]⟩) (row:=none) (w':=(w.alloc (.cells (List.replicate n (Value.int .i64 (-1))).toArray 3)).drewN q)
  (by intro r0 h0;rw[hdom 0 (Yj _)]at h0;cases h0) hgr (by intro g' hg';cases hg') (by intro g' hg';cases hg';exact .inl (Yj _))
  (λhk=>⟨3,List.replicate n (Value.int .i64 (-1)),.inr rfl,⟨by simp,.inr ⟨w.heap.size,n,(List.replicate n (Value.int .i64 (-1))).toArray,by simp,R.hb,by show(w.heap.push _)[w.heap.size]?=_;rw[Array.getElem?_push,Ya rfl],by simp,by unfold maxLen;omega,by simp,by simp⟩⟩,by decide,by simp[ic],htrs _ n,by simp,λ_=>⟨Ybf,by simp⟩⟩)
  (by intro _ x hx;cases hx)
 rw[hup]at hp;obtain⟨p1,p2,p3⟩:=hp;refine⟨_,_,rfl,⟨hgr.os,hgr.tape,hgr.output,hgr.size,λk hk=>hgr.block k (Yb0 hk R.hb) (by simp)⟩,p1,.own (b:=0) (r:=⟨.slice (some ⟨w.heap.size,0,none⟩) n n,[]⟩) (by simp[updM]) rfl,λb hb=>?_,by simp,p3,λk hk hzz=>p2.free k hk (hz k hzz),λb r0 hb=>by simp at hb⟩;simp only[updM];rw[Yb (by simp at hb;omega)];exact hdom b (by simp)
def ZU5(n:Int)(h1:1<=n)(h4:n<=4):Wr Tryz.prog 335 [L 1 ([(-1)].map ic),I n] [] (.own 0) [.arr 3 1 true ((List.replicate n.toNat (-1:Int)).map ic)]:=by
 have:n=1\/n=2\/n=3\/n=4:=by omega
 rcases this with rfl|rfl|rfl|rfl
 .exact Zq5 1 (by omega) (by omega) λg off cap w h=>ZU1 g off cap w h
 .exact Zq5 2 (by omega) (by omega) λg off cap w h=>ZU2 g off cap w h
 .exact Zq5 3 (by omega) (by omega) λg off cap w h=>ZU3 g off cap w h
 .exact Zq5 4 (by omega) (by omega) λg off cap w h=>ZU4 g off cap w h
def ZU6(f:Nat)(xs:V2)(h0:V7)(r:AV)(hr:V7)(h:ext f xs h0=some (r,hr)):Wr Tryz.prog f xs h0 r hr:=by
 unfold ext at h;split at h
 .split at h
  .subst f;unfold ZeP at h;split at h
   .rename_i hc;obtain⟨h1,h2,h3⟩:=hc.choose_spec;generalize hc.choose=rows at h h1 h2 h3;subst h1;cases h;exact ZUj ZUz ZU0 h2 h3
   .cases h
  .cases h
 .split at h
  .subst f;unfold ZeP at h;split at h
   .rename_i hc;obtain⟨h1,h2,h3⟩:=hc.choose_spec;generalize hc.choose=rows at h h1 h2 h3;subst h1;cases h;exact ZUq h2 h3
   .cases h
  .cases h
 .split at h
  .subst f;unfold ZeQ at h;split at h
   .rename_i hc;obtain⟨h1,h2⟩:=hc.choose_spec;generalize hc.choose=l at h h1 h2;subst h1;cases h;exact ZUs ZUu ZUv h2
   .cases h
  .split at h
   .subst f;unfold ZeQ at h;split at h
    .rename_i hc;obtain⟨h1,h2⟩:=hc.choose_spec;generalize hc.choose=l at h h1 h2;subst h1;cases h;exact ZUt ZUw ZUx h2
    .cases h
   .cases h
 .split at h
  .rename_i hc;obtain⟨rfl,h1,h2⟩:=hc;cases h;exact ZU5 _ h1 h2
  .cases h
 .cases h
def sound{f:Nat}{xs:V2}{h0:V7}{r:AV}{hr:V7}(h:C f xs h0=some (r,hr)):Wr Tryz.prog f xs h0 r hr:=ZFc tbl_ok ZU6 h
