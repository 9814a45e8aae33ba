/-
  Parts of the proofs for this seat: SI KI KS SX.
-/
import Derived.Shelf.SlSortCmp.NoneTotal
import Derived.Shelf.Slices.CompactI
import Derived.Shelf.Slices.In.SortNone
import Derived.Shelf.Sort.Plain
import Derived.Test.YthdihnbeifcppaaGreatP40
set_option linter.all false
set_option maxRecDepth 100000
set_option maxHeartbeats 4000000
namespace Go.Proofs.YthdihnbeifcppaaGreat
open Go.RowKit Go.AM Go.Lib Go.Sort
def Z7N:Prop:=∀(blk off cap:Nat) (zs:V6) (w:World),Holds (Value.int .i64) w blk off zs.toArray->blk<w.heap.size->zs.length<4611686018427387904->
 Calls Tryz.prog 281 #[.slice (some ⟨blk,off,none⟩) zs.length cap] w λe w'=>e=.returned (.tuple #[])/\∃n os,w'=grow (putRow (Value.int .i64) (Sort.ahead w n) blk off (zs.mergeSort λx y=>decide (x<=y)).toArray) os
def Z7O:Prop:=∀(p:Option Addr) (cap:Nat) (w:World),Calls Tryz.prog 281 #[.slice p 0 cap] w λe w'=>e=.returned (.tuple #[])/\w'=w
def Z7P:Prop:=∀(blk off cap:Nat) (zs:V6) (w:World),Holds (Value.int .i64) w blk off zs.toArray->zs.length<=9223372036854775807->zs.length<=cap->
 Calls Tryz.prog 282 #[.slice (some ⟨blk,off,none⟩) zs.length cap] w λe w'=>e=.returned (.slice (some ⟨blk,off,none⟩) (Lib.compact zs).length cap)/\∃q,w'=putRow (Value.int .i64) (Sort.ahead w q) blk off (Lib.compact zs++List.replicate (zs.length-(Lib.compact zs).length) 0).toArray
def Z7Q:Prop:=∀(a:Option Addr) (cap:Nat) (w:World),Calls Tryz.prog 282 #[.slice a 0 cap] w λe w'=>e=.returned (.slice a 0 cap)/\w'=w
def tri(z:Int):UD×UC×UB:=(ic z,[Value.int .i64 z],[])
def ZvQ{w:World}:∀{r:V6} {vs:UC} {fp:UB},TRs w (r.map ic).flatten vs fp->vs=r.map (Value.int .i64)/\fp=[]
 |[],vs,fp,h=>by cases h;exact⟨rfl,rfl⟩
 |x::r,vs,fp,h=>by
  rw[Yx,Y5]at h;change TRs w (T.int .i64 x::(r.map ic).flatten) vs fp at h
  cases h with
  |cons h hs =>
   cases h;obtain⟨e1,e2⟩:=ZvQ hs;subst e1;subst e2;exact⟨rfl,rfl⟩
def ZmO(l:V6):(l.map tri).map (·.1)=l.map ic:=by simp[tri]
def ZmP(l:V6):((l.map tri).map (·.2.1)).flatten=l.map (Value.int .i64):=by
 induction l with
 |nil=>rfl
 |cons x l ih=>simp only[Yx,Y5];rw[ih];rfl
def tri3(l:V6):((l.map tri).map (·.2.2)).flatten=[]:=by
 induction l with
 |nil=>rfl
 |cons x l ih=>simp only[Yx,Y5];rw[ih];rfl
def tri4{w:World}(l:V6):∀p∈l.map tri,TRs w p.1 p.2.1 p.2.2:=by
 intro p hp;obtain⟨z,-,rfl⟩:=Yr.1 hp;exact TRs.cons (TR.int _ _) TRs.nil
def ZPh{a b:Int}{l:V6}(j:Nat):keeps (a::b::l).toArray (j+2)=keeps (b::l).toArray (j+1):=by
 unfold keeps;simp
def Z7R:∀l:V6,Lib.compact l=XI l
 |[]=>rfl
 |[a]=>by simp[Lib.compact,compactUpTo,keeps,XI,Yc6]
 |a::b::l=>by
  have ih:=Z7R (b::l);have e:∀(c:Int) (m:V6),Lib.compact (c::m)=c::((List.range m.length).filter λj=>keeps (c::m).toArray (j+1)).map λj=>(c::m).toArray[j+1]!:=by
   intro c m;unfold Lib.compact compactUpTo;rw[Ym,List.range_succ_eq_map,Yb5,Ya (by simp[keeps]),Yx,List.filter_map,List.map_map];rfl
  rw[e,Ym,List.range_succ_eq_map,Yb5,XI];rw[e]at ih;have h0:keeps (a::b::l).toArray (0+1)=decide (¬a=b):=by
   unfold keeps;by_cases h:a=b
   .simp[h]
   .simp[h,Ne.symm h]
  have hf:(List.map Nat.succ (List.range l.length)).filter (λj=>keeps (a::b::l).toArray (j+1))=((List.range l.length).filter λj=>keeps (b::l).toArray (j+1)).map Nat.succ:=by
   rw[List.filter_map];congr 1;exact List.filter_congr λj _=>ZPh j
  have hm:((List.map Nat.succ (List.range l.length)).filter (λj=>keeps (a::b::l).toArray (j+1))).map (λj=>(a::b::l).toArray[j+1]!)=((List.range l.length).filter λj=>keeps (b::l).toArray (j+1)).map λj=>(b::l).toArray[j+1]!:=by
   rw[hf,List.map_map];refine Yb4 λj _=>?_
   simp
  by_cases h:a=b
  .rw[Ya h,Yb (by rw[h0];simp[h]),hm,<-ih,h]
  .rw[Yb h,Ya (by rw[h0];simp[h]),Yx,hm,<-ih];rfl
def ZvR:∀l:V6,(XI l).Sublist l
 |[]=>.slnil
 |[a]=>List.Sublist.refl _
 |a::b::l=>by
  unfold XI;split
  .exact(ZvR (b::l)).cons _
  .exact(ZvR (b::l)).cons_cons _
def Z7S{w:World}{g:Nat}{zs:V6}{cur:Array Value}{e:TypeId}(hg:w.heap[g]?=some (.cells cur e (0,0)))(ht:cur.toList.take zs.length=zs.map (Value.int .i64)):Holds (Value.int .i64) w g 0 zs.toArray:=by
 intro j hj;have hj':j<zs.length:=by simpa using hj
 have h2:cur[j]?=some (.int .i64 zs[j]):=by
  have h3:(cur.toList.take zs.length)[j]?=some (.int .i64 zs[j]):=by rw[ht,Yci,Yf hj'];rfl
  rw[Ych,Ya hj']at h3;simpa using h3
 refine⟨?_,?_⟩
 .unfold World.cell?;rw[hg];simp[h2,hj']
 .simp[World.frozen?,hg]
def ZPi(K:Z7N)(K0:Z7O){fr:Bool}{zs:V6}(c:zs.length<=4096) :
  Xr Tryz.prog 281 [.own 0] [.arr 3 1 fr (zs.map ic)] (.tup []) [.arr 3 1 fr ((WI zs).map ic)]:=by
 refine⟨by decide +kernel,?_⟩;intro N base w ρ vs R hdom hv hz;obtain⟨l⟩:=vs;simp only at hv
 cases hv with|cons q0 hv =>
 cases hv
 cases q0 with|own hr h1 =>
 rename_i r;have hb:gt [Blk.arr 3 1 fr (zs.map ic)] 0=.arr 3 1 fr (zs.map ic):=by simp[gt]
 have hd0:gt [Blk.arr 3 1 fr (zs.map ic)] 0≠.dead:=by rw[hb];intro hc;cases hc
 obtain⟨r2,e1,e2⟩:=R.blk 0 hd0;rw[hr]at e1;cases e1;rw[hb]at e2;obtain⟨hex,e',xs,hel,ho,hsz,hlen1,htr,hfree,hfr,how⟩:=e2;obtain⟨hxl,ho⟩:=ho;rcases ho with⟨hrv,hn⟩|⟨g,cap,cur,hrv,hbg,hg,hcap,hcm,hcur,htake⟩
 .have hn:zs=[]:=by simpa using hn
  subst hn;rw[hrv];refine(K0 none 0 w).mono ?_;rintro e w' ⟨rfl,rfl⟩;exact⟨_,ρ,rfl,Below.refl _ _,by simpa[WI]using R,.tup .nil,hdom,by simp,λ_ _ _=>rfl,λg hg hzz=>⟨by simpa[WI]using hz g hzz,rfl⟩,λb r0 _ h=>⟨r0,h,rfl⟩⟩
 obtain⟨hx1,hx2⟩:=ZvQ htr;have hgs:g<w.heap.size:=(Yb6.1 hg).1;have hzl:(zs.map ic).length*1=zs.length:=by simp
 have htk:cur.toList.take zs.length=zs.map (Value.int .i64):=by rw[<-hzl,htake,hx1]
 have hcall:=K g 0 cap zs w (Z7S hg htk) hgs (by omega);rw[hrv,show(zs.map ic).length=zs.length by simp];refine hcall.mono ?_;rintro e w' ⟨rfl,n,os,rfl⟩;have hgr:w.grownBy (sortWorld (Value.int .i64) w g 0 n (WI zs).toArray os) (some g):=⟨rfl,rfl,rfl,by show w.heap.size<=((w.heap.modify g _)++os).size;simp,λk hk hne=>ZmJ _ _ _ _ _ _ _ hk (by intro e;exact hne (by rw[e]))⟩;have hperm:(WI zs).Perm zs:=Ydn _ _;have hsl:(WI zs).length=zs.length:=hperm.length_eq
 obtain⟨P1,P2,P3⟩:=Zx7 R hr (by intro b hb;exact hdom b (by simpa using hb)) hrv hg (ZmO zs) (by rw[ZmP,hzl,htk]) (by rw[tri3,hx2]) (tri4 zs) (hperm.map tri) ⟨_,Z7C _ _ _ _ _ _ _ hg,by
  rw[ZmK _ _ _ (by simp at hcap;simp;omega),ZmP];simp[hsl]⟩ hgr
 rw[ZmO]at P1 P2;refine⟨_,_,rfl,⟨hgr.os,hgr.tape,hgr.output,hgr.size,λk hk=>hgr.block k (Yby hk R.hb) (by intro e;cases e;omega)⟩,P1,.tup .nil,λb hb=>?_,by simp,P3,λk hk hzz=>P2.free k hk (hz k hzz),λb r0 hb h0=>P2.root b r0 h0⟩;simp only[updM];rw[Yb (by simp at hb;omega)];exact hdom b (by simpa using hb)
def ZPj(K:Z7P)(K0:Z7Q){fr:Bool}{zs:V6}(c:zs.length<=4096) :
  Xr Tryz.prog 282 [.own 0] [.arr 3 1 fr (zs.map ic)] (.own 1) [.dead,.arr 3 1 fr ((XI zs).map ic)]:=by
 refine⟨by decide +kernel,?_⟩;intro N base w ρ vs R hdom hv hz;obtain⟨l⟩:=vs;simp only at hv
 cases hv with|cons q0 hv =>
 cases hv
 cases q0 with|own hr h1 =>
 rename_i r;have hb:gt [Blk.arr 3 1 fr (zs.map ic)] 0=.arr 3 1 fr (zs.map ic):=by simp[gt]
 have hd0:gt [Blk.arr 3 1 fr (zs.map ic)] 0≠.dead:=by rw[hb];intro hc;cases hc
 obtain⟨r2,e1,e2⟩:=R.blk 0 hd0;rw[hr]at e1;cases e1;rw[hb]at e2;obtain⟨hex,e',xs,hel,ho,hsz,hlen1,htr,hfree,hfr,how⟩:=e2;obtain⟨hxl,ho⟩:=ho;have hdom1:∀b,1<=b->ρ b=none:=by intro b hb;exact hdom b (by simpa using hb)
 rcases ho with⟨hrv,hn⟩|⟨g,cap,cur,hrv,hbg,hg,hcap,hcm,hcur,htake⟩
 .have hn:zs=[]:=by simpa using hn
  subst hn;rw[hrv];refine(K0 none 0 w).mono ?_;rintro e w' ⟨rfl,rfl⟩;obtain⟨p1,p2,p3⟩:=Z7K R hr hdom1 (w':=w') ⟨rfl,rfl,rfl,Yh _,λ_ _ _=>rfl⟩;refine⟨_,_,rfl,Below.refl _ _,p1,.own (b:=1) (r:=⟨.slice none 0 0,[],[]⟩) (by simp[updM]) rfl,λb hb=>?_,by simp,p3,λk hk hzz=>p2.free k hk (hz k hzz),λb r0 hb h0=>p2.root b r0 h0⟩;simp only[updM];rw[Yb (by simp at hb;omega)];exact hdom1 b (by simp at hb;omega)
 obtain⟨hx1,hx2⟩:=ZvQ htr;have hgs:g<w.heap.size:=(Yb6.1 hg).1;have hzl:(zs.map ic).length*1=zs.length:=by simp
 have htk:cur.toList.take zs.length=zs.map (Value.int .i64):=by rw[<-hzl,htake,hx1]
 have hcall:=K g 0 cap zs w (Z7S hg htk) (by omega) (by simpa using hcap);rw[Z7R]at hcall;rw[hrv,show(zs.map ic).length=zs.length by simp];refine hcall.mono ?_;rintro e w' ⟨rfl,q,rfl⟩;have hsub:=ZvR zs;have hnl:(XI zs).length<=zs.length:=hsub.length_le;have hgr:w.grownBy (putRow (Value.int .i64) (Sort.ahead w q) g 0 (XI zs++List.replicate (zs.length-(XI zs).length) 0).toArray) (some g) :=
  ⟨rfl,rfl,rfl,by show w.heap.size<=(w.heap.modify g _).size;simp,λk hk hne=>Z7L _ _ _ _ _ _ (by intro e;exact hne (by rw[e]))⟩
 obtain⟨P1,P2,P3⟩:=Zx8 R hr hdom1 hrv hg (ZmO zs) (by rw[ZmP,hzl,htk]) (by rw[tri3,hx2]) (tri4 zs) (hsub.map tri) (zr:=List.replicate (zs.length-(XI zs).length) (Value.int .i64 0)) (by simp) ⟨_,Z7M _ _ _ _ _ _ hg,by
  rw[ZmK _ _ _ (by simp at hcap|-;omega),ZmP];simp only[Ybi,Ydk,Ycr,Yn,Ydd,Y9]
  rw[show(XI zs).length+(zs.length-(XI zs).length)=zs.length*1 by omega]⟩ hgr
 rw[ZmO,Y9]at P1 P2;refine⟨_,_,rfl,⟨hgr.os,hgr.tape,hgr.output,hgr.size,λk hk=>hgr.block k (Yby hk R.hb) (by intro e;cases e;omega)⟩,P1,.own (b:=1) (r:=⟨.slice (some ⟨g,0,none⟩) (XI zs).length cap,(((XI zs).map tri).map (·.2.2)).flatten,[]⟩) (by unfold updM;rw[Ya rfl]) rfl,λb hb=>?_,by simp,P3,λk hk hzz=>P2.free k hk (hz k hzz),λb r0 hb h0=>P2.root b r0 h0⟩;simp only[updM];rw[Yb (by simp at hb;omega)];exact hdom1 b (by simp at hb;omega)
end Go.Proofs.YthdihnbeifcppaaGreat
namespace Go.Proofs.YthdihnbeifcppaaGreat
open Go.RowKit Go.AM Go.Lib Go.Sort Go.Shelf
def sI_ren:Go.Shelf.Ren:=⟨λ|189=>281|125=>319|257=>322|128=>352|129=>353|294=>355|295=>356|296=>357|297=>358|298=>359|299=>360|216=>361|300=>362|301=>363|328=>386|329=>381|330=>382|331=>387|332=>388|215=>385|343=>400|n=>n,λ|28=>42|3=>3|46=>347|0=>0|51=>373|53=>375|4=>4|183=>366|182=>365|131=>370|5=>5|9=>9|218=>393|222=>307|228=>410|229=>411|n=>n,λ|n=>n⟩
def sI:Go.Proofs.Lays.n189 Tryz.prog sI_ren:={ mixed:=by kernel_rfl,f125:=Tryz.func319.trans (congrArg some (by kernel_rfl)),f128:=Tryz.func352.trans (congrArg some (by kernel_rfl)),f129:=Tryz.func353.trans (congrArg some (by kernel_rfl)),f189:=Tryz.func281.trans (congrArg some (by kernel_rfl)),f215:=Tryz.func385.trans (congrArg some (by kernel_rfl)),f216:=Tryz.func361.trans (congrArg some (by kernel_rfl)),f257:=Tryz.func322.trans (congrArg some (by kernel_rfl)),f294:=Tryz.func355.trans (congrArg some (by kernel_rfl)),f295:=Tryz.func356.trans (congrArg some (by kernel_rfl)),f296:=Tryz.func357.trans (congrArg some (by kernel_rfl)),f297:=Tryz.func358.trans (congrArg some (by kernel_rfl)),f298:=Tryz.func359.trans (congrArg some (by kernel_rfl)),f299:=Tryz.func360.trans (congrArg some (by kernel_rfl)),f300:=Tryz.func362.trans (congrArg some (by kernel_rfl)),f301:=Tryz.func363.trans (congrArg some (by kernel_rfl)),f328:=Tryz.func386.trans (congrArg some (by kernel_rfl)),f329:=Tryz.func381.trans (congrArg some (by kernel_rfl)),f330:=Tryz.func382.trans (congrArg some (by kernel_rfl)),f331:=Tryz.func387.trans (congrArg some (by kernel_rfl)),f332:=Tryz.func388.trans (congrArg some (by kernel_rfl)),f343:=Tryz.func400.trans (congrArg some (by kernel_rfl)),t0:=Tryz.underlying0,a0:=Tryz.isAgg0,z0:=Tryz.sizeOf0,v0:=Tryz.zeroValue0,t3:=Tryz.underlying3,a3:=Tryz.isAgg3,z3:=Tryz.sizeOf3,v3:=Tryz.zeroValue3,t4:=Tryz.underlying4,a4:=Tryz.isAgg4,z4:=Tryz.sizeOf4,v4:=Tryz.zeroValue4,t5:=Tryz.underlying5,a5:=Tryz.isAgg5,z5:=Tryz.sizeOf5,v5:=Tryz.zeroValue5,t9:=Tryz.underlying9,a9:=Tryz.isAgg9,z9:=Tryz.sizeOf9,v9:=Tryz.zeroValue9,t28:=Tryz.underlying42,a28:=Tryz.isAgg42,z28:=Tryz.sizeOf42,v28:=Tryz.zeroValue42,t46:=Tryz.underlying347,a46:=Tryz.isAgg347,z46:=Tryz.sizeOf347,v46:=Tryz.zeroValue347,t51:=Tryz.underlying373,a51:=Tryz.isAgg373,z51:=Tryz.sizeOf373,v51:=Tryz.zeroValue373,t53:=Tryz.underlying375,a53:=Tryz.isAgg375,z53:=Tryz.sizeOf375,v53:=Tryz.zeroValue375,t131:=Tryz.underlying370,a131:=Tryz.isAgg370,z131:=Tryz.sizeOf370,v131:=Tryz.zeroValue370,t182:=Tryz.underlying365,a182:=Tryz.isAgg365,z182:=Tryz.sizeOf365,v182:=Tryz.zeroValue365,t183:=Tryz.underlying366,a183:=Tryz.isAgg366,z183:=Tryz.sizeOf366,v183:=Tryz.zeroValue366,t218:=Tryz.underlying393,a218:=Tryz.isAgg393,z218:=Tryz.sizeOf393,v218:=Tryz.zeroValue393,t222:=Tryz.underlying307,a222:=Tryz.isAgg307,z222:=Tryz.sizeOf307,v222:=Tryz.zeroValue307,t228:=Tryz.underlying410,a228:=Tryz.isAgg410,z228:=Tryz.sizeOf410,v228:=Tryz.zeroValue410,t229:=Tryz.underlying411,a229:=Tryz.isAgg411,z229:=Tryz.sizeOf411,v229:=Tryz.zeroValue411 }
def cI_ren:Go.Shelf.Ren:=⟨λ|20=>282|n=>n,λ|22=>42|3=>3|4=>4|0=>0|n=>n,λ|n=>n⟩
def cI:Go.Proofs.Lays2.n20 Tryz.prog cI_ren:={ mixed:=by kernel_rfl,f20:=Tryz.func282.trans (congrArg some (by kernel_rfl)),t0:=Tryz.underlying0,a0:=Tryz.isAgg0,z0:=Tryz.sizeOf0,v0:=Tryz.zeroValue0,t3:=Tryz.underlying3,a3:=Tryz.isAgg3,z3:=Tryz.sizeOf3,v3:=Tryz.zeroValue3,t4:=Tryz.underlying4,a4:=Tryz.isAgg4,z4:=Tryz.sizeOf4,v4:=Tryz.zeroValue4,t22:=Tryz.underlying42,a22:=Tryz.isAgg42,z22:=Tryz.sizeOf42,v22:=Tryz.zeroValue42,i3:=by kernel_rfl }
def ZPk:Z7N:=λblk off cap zs w hH hb hz=>Any.slices_Sort_int sI blk off cap zs w hH hb hz
def ZPl:Z7O:=λp cap w=>Any.slices_Sort_int_none sI p cap w
def ZPm:Z7P:=λblk off cap zs w hH hz hc=>Any.slices_Compact_int cI blk off cap zs w hH hz hc
def ZPn:Z7Q:=λa cap w=>Any.slices_Compact_int_empty cI a cap w
end Go.Proofs.YthdihnbeifcppaaGreat
namespace Go.Proofs.YthdihnbeifcppaaGreat
open Go.RowKit Go.AM Go.Lib Go.Sort Go.Shelf
def ZPo:Go.Shelf.Ren:=⟨λ|6=>274|15=>319|14=>318|28=>352|29=>353|20=>344|21=>345|22=>346|23=>347|24=>348|25=>349|26=>350|27=>351|46=>380|47=>381|48=>382|49=>383|50=>384|57=>399|n=>n,λ|22=>177|24=>42|25=>242|3=>3|39=>347|0=>0|53=>373|55=>375|4=>4|46=>366|45=>365|50=>370|5=>5|9=>9|66=>393|70=>307|76=>410|77=>411|n=>n,λ|n=>n⟩
def Z7T:Go.Proofs.SlLaysF.n6 Tryz.prog ZPo:={ mixed:=by kernel_rfl,f6:=⟨Tryz.f274.name,by decide,Tryz.func274.trans (congrArg some (by kernel_rfl))⟩,f14:=⟨Tryz.f318.name,by decide,Tryz.func318.trans (congrArg some (by kernel_rfl))⟩,f15:=Tryz.func319.trans (congrArg some (by kernel_rfl)),f20:=⟨Tryz.f344.name,by decide,Tryz.func344.trans (congrArg some (by kernel_rfl))⟩,f21:=⟨Tryz.f345.name,by decide,Tryz.func345.trans (congrArg some (by kernel_rfl))⟩,f22:=⟨Tryz.f346.name,by decide,Tryz.func346.trans (congrArg some (by kernel_rfl))⟩,f23:=⟨Tryz.f347.name,by decide,Tryz.func347.trans (congrArg some (by kernel_rfl))⟩,f24:=⟨Tryz.f348.name,by decide,Tryz.func348.trans (congrArg some (by kernel_rfl))⟩,f25:=⟨Tryz.f349.name,by decide,Tryz.func349.trans (congrArg some (by kernel_rfl))⟩,f26:=⟨Tryz.f350.name,by decide,Tryz.func350.trans (congrArg some (by kernel_rfl))⟩,f27:=⟨Tryz.f351.name,by decide,Tryz.func351.trans (congrArg some (by kernel_rfl))⟩,f28:=Tryz.func352.trans (congrArg some (by kernel_rfl)),f29:=Tryz.func353.trans (congrArg some (by kernel_rfl)),f46:=⟨Tryz.f380.name,by decide,Tryz.func380.trans (congrArg some (by kernel_rfl))⟩,f47:=Tryz.func381.trans (congrArg some (by kernel_rfl)),f48:=Tryz.func382.trans (congrArg some (by kernel_rfl)),f49:=⟨Tryz.f383.name,by decide,Tryz.func383.trans (congrArg some (by kernel_rfl))⟩,f50:=⟨Tryz.f384.name,by decide,Tryz.func384.trans (congrArg some (by kernel_rfl))⟩,f57:=⟨Tryz.f399.name,by decide,Tryz.func399.trans (congrArg some (by kernel_rfl))⟩,t0:=Tryz.underlying0,a0:=Tryz.isAgg0,z0:=Tryz.sizeOf0,v0:=Tryz.zeroValue0,t3:=Tryz.underlying3,a3:=Tryz.isAgg3,z3:=Tryz.sizeOf3,v3:=Tryz.zeroValue3,t4:=Tryz.underlying4,a4:=Tryz.isAgg4,z4:=Tryz.sizeOf4,v4:=Tryz.zeroValue4,t5:=Tryz.underlying5,a5:=Tryz.isAgg5,z5:=Tryz.sizeOf5,v5:=Tryz.zeroValue5,t9:=Tryz.underlying9,a9:=Tryz.isAgg9,z9:=Tryz.sizeOf9,v9:=Tryz.zeroValue9,t22:=Tryz.underlying177,a22:=Tryz.isAgg177,z22:=Tryz.sizeOf177,v22:=Tryz.zeroValue177,a24:=Tryz.isAgg42,z24:=Tryz.sizeOf42,t25:=Tryz.underlying242,a25:=Tryz.isAgg242,z25:=Tryz.sizeOf242,v25:=Tryz.zeroValue242,t39:=Tryz.underlying347,a39:=Tryz.isAgg347,z39:=Tryz.sizeOf347,v39:=Tryz.zeroValue347,t45:=Tryz.underlying365,a45:=Tryz.isAgg365,z45:=Tryz.sizeOf365,v45:=Tryz.zeroValue365,t46:=Tryz.underlying366,a46:=Tryz.isAgg366,z46:=Tryz.sizeOf366,v46:=Tryz.zeroValue366,t50:=Tryz.underlying370,a50:=Tryz.isAgg370,z50:=Tryz.sizeOf370,v50:=Tryz.zeroValue370,t53:=Tryz.underlying373,a53:=Tryz.isAgg373,z53:=Tryz.sizeOf373,v53:=Tryz.zeroValue373,t55:=Tryz.underlying375,a55:=Tryz.isAgg375,z55:=Tryz.sizeOf375,v55:=Tryz.zeroValue375,t66:=Tryz.underlying393,a66:=Tryz.isAgg393,z66:=Tryz.sizeOf393,v66:=Tryz.zeroValue393,t70:=Tryz.underlying307,a70:=Tryz.isAgg307,z70:=Tryz.sizeOf307,v70:=Tryz.zeroValue307,t76:=Tryz.underlying410,a76:=Tryz.isAgg410,z76:=Tryz.sizeOf410,v76:=Tryz.zeroValue410,t77:=Tryz.underlying411,a77:=Tryz.isAgg411,z77:=Tryz.sizeOf411,v77:=Tryz.zeroValue411 }
def ZPp:Z7A:=by
 intro α _ enc h1 cf hO blk off cap d w hcmp hH hblk hsz;have eg:∀args w,(callFunc 275 args).run Tryz.prog w=.ok (.enter 275 args) w:=enters_of Tryz.func275 (by kernel_rfl) rfl;exact Any.slices_SortFunc Z7T enc h1 cf hO 275 #[] blk off cap d w eg hcmp hH hblk hsz
def ZPq:Z7B:=λp cap w=>AnyF.slices_SortFunc_none { Z7T with } p cap _ w
def ZPr(f:Nat)(xs:V2)(h0:UA)(r:AV)(hr:UA)(h:ext f xs h0=some (r,hr)):Xr Tryz.prog f xs h0 r hr:=by
 unfold ext at h;split at h
 .split at h
  .subst f;unfold ZcN at h;split at h
   .rename_i hc;obtain⟨h1,h2,h3⟩:=hc.choose_spec;generalize hc.choose=rows at h h1 h2 h3;subst h1;cases h;exact ZOZ ZPp ZPq h2 h3
   .cases h
  .cases h
 .split at h
  .subst f;unfold ZcN at h;split at h
   .rename_i hc;obtain⟨h1,h2,h3⟩:=hc.choose_spec;generalize hc.choose=rows at h h1 h2 h3;subst h1;cases h;exact ZPg h2 h3
   .cases h
  .cases h
 .split at h
  .rename_i i j fr es hc;obtain⟨rfl,h1,h2,h3⟩:=hc;cases h;have e1:i=(i.toNat:Int):=by omega
   have e2:j=(j.toNat:Int):=by omega
   have:=ZOF (fr:=fr) (es:=es) (i:=i.toNat) (j:=j.toNat) (by omega) (by omega);rw[<-e1,<-e2]at this;exact this
  .cases h
 .split at h
  .rename_i fr es v hc;obtain⟨rfl,h1⟩:=hc;cases h;exact ZOR λe he=>ZOQ (Yy.1 h1 e he)
  .cases h
 .split at h
  .subst f;unfold ZcO at h;split at h
   .rename_i hc;obtain⟨h1,h2⟩:=hc.choose_spec;generalize hc.choose=l at h h1 h2;subst h1;cases h;exact ZPi ZPk ZPl h2
   .cases h
  .split at h
   .subst f;unfold ZcO at h;split at h
    .rename_i hc;obtain⟨h1,h2⟩:=hc.choose_spec;generalize hc.choose=l at h h1 h2;subst h1;cases h;exact ZPj ZPm ZPn h2
    .cases h
   .cases h
 .cases h
def sound{f:Nat}{xs:V2}{h0:UA}{r:AV}{hr:UA}(h:C f xs h0=some (r,hr)):Xr Tryz.prog f xs h0 r hr:=Z9h ZxQ ZPr h
