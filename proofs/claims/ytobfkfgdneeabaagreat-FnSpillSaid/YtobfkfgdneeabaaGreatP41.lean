/-
  Parts of the proofs for this seat: SI KI KS SX.
-/
import Derived.Shelf.SlSortCmp.NoneTotal
import Derived.Shelf.Slices.CompactI
import Derived.Shelf.Slices.In.SortNone
import Derived.Shelf.Sort.Plain
import Derived.Test.YtobfkfgdneeabaaGreatP40
set_option linter.all false
set_option maxRecDepth 100000
set_option maxHeartbeats 4000000
namespace Go.Proofs.YtobfkfgdneeabaaGreat
open Go.RowKit Go.AM Go.Lib Go.Sort
def ZGQ:Prop:=∀(blk off cap:Nat) (zs:V2) (w:World),Holds (Value.int .i64) w blk off zs.toArray->blk<w.heap.size->zs.length<4611686018427387904->
 Calls Tryz.prog 184 #[.slice (some ⟨blk,off,none⟩) zs.length cap] w λe w'=>e=.returned (.tuple #[])/\∃n os,w'=grow (putRow (Value.int .i64) (Sort.ahead w n) blk off (zs.mergeSort λx y=>decide (x<=y)).toArray) os
def ZGR:Prop:=∀(p:Option Addr) (cap:Nat) (w:World),Calls Tryz.prog 184 #[.slice p 0 cap] w λe w'=>e=.returned (.tuple #[])/\w'=w
def ZGS:Prop:=∀(blk off cap:Nat) (zs:V2) (w:World),Holds (Value.int .i64) w blk off zs.toArray->zs.length<=9223372036854775807->zs.length<=cap->
 Calls Tryz.prog 219 #[.slice (some ⟨blk,off,none⟩) zs.length cap] w λe w'=>e=.returned (.slice (some ⟨blk,off,none⟩) (Lib.compact zs).length cap)/\∃q,w'=putRow (Value.int .i64) (Sort.ahead w q) blk off (Lib.compact zs++List.replicate (zs.length-(Lib.compact zs).length) 0).toArray
def ZGT:Prop:=∀(a:Option Addr) (cap:Nat) (w:World),Calls Tryz.prog 219 #[.slice a 0 cap] w λe w'=>e=.returned (.slice a 0 cap)/\w'=w
def tri(z:Int):V6×V5×V4:=(ic z,[Value.int .i64 z],[])
def Z4l{w:World}:∀{r:V2} {vs:V5} {fp:V4},AS w (r.map ic).flatten vs fp->vs=r.map (Value.int .i64)/\fp=[]
 |[],vs,fp,h=>by cases h;exact⟨rfl,rfl⟩
 |x::r,vs,fp,h=>by
  rw[Yv,C1]at h;change AS w (T.int .i64 x::(r.map ic).flatten) vs fp at h
  cases h with
  |cons h hs =>
   cases h;obtain⟨e1,e2⟩:=Z4l hs
   simp_all
def Zse(l:V2):(l.map tri).map (·.1)=l.map ic:=by simp[tri]
def Zsf(l:V2):((l.map tri).map (·.2.1)).flatten=l.map (Value.int .i64):=by
 induction l with
 |nil=>rfl
 |cons x l ih=>simp only[Yv,C1];rw[ih];rfl
def wY(l:V2):((l.map tri).map (·.2.2)).flatten=[]:=by
 induction l with
 |nil=>rfl
 |cons x l ih=>simp only[Yv,C1];rw[ih];rfl
def wZ{w:World}(l:V2):∀p∈l.map tri,AS w p.1 p.2.1 p.2.2:=by
 intro p hp;obtain⟨z,-,rfl⟩:=Yn.1 hp;exact AS.cons (TR.int _ _) AS.nil
def ZVb{a b:Int}{l:V2}(j:Nat):keeps (a::b::l).toArray (j+2)=keeps (b::l).toArray (j+1):=by
 unfold keeps;simp
def ZGU:∀l:V2,Lib.compact l=Wg l
 |[]=>rfl
 |[a]=>by simp[Lib.compact,compactUpTo,keeps,Wg,Di]
 |a::b::l=>by
  have ih:=ZGU (b::l);have e:∀(c:Int) (m:V2),Lib.compact (c::m)=c::((List.range m.length).filter λj=>keeps (c::m).toArray (j+1)).map λj=>(c::m).toArray[j+1]!:=by
   intro c m;unfold Lib.compact compactUpTo;rw[Ys,List.range_succ_eq_map,xH,Ya (by simp[keeps]),Yv,List.filter_map,List.map_map];rfl
  rw[e,Ys,List.range_succ_eq_map,xH,Wg];rw[e]at ih;have h0:keeps (a::b::l).toArray (0+1)=decide (¬a=b):=by
   unfold keeps
   grind
  have hf:(List.map Nat.succ (List.range l.length)).filter (λj=>keeps (a::b::l).toArray (j+1))=((List.range l.length).filter λj=>keeps (b::l).toArray (j+1)).map Nat.succ:=by
   rw[List.filter_map];simp[List.filter_congr,ZVb]
  have hm:((List.map Nat.succ (List.range l.length)).filter (λj=>keeps (a::b::l).toArray (j+1))).map (λj=>(a::b::l).toArray[j+1]!)=((List.range l.length).filter λj=>keeps (b::l).toArray (j+1)).map λj=>(b::l).toArray[j+1]!:=by
   simp_all
  grind
def Z4m:∀l:V2,(Wg l).Sublist l
 |[]=>.slnil
 |[a]=>List.Sublist.refl _
 |a::b::l=>by
  unfold Wg;split
  .exact(Z4m (b::l)).cons _
  .exact(Z4m (b::l)).cons_cons _
def ZGV{w:World}{g:Nat}{zs:V2}{cur:Array Value}{e:TypeId}(hg:w.heap[g]?=some (.cells cur e (0,0)))(ht:cur.toList.take zs.length=zs.map (Value.int .i64)):Holds (Value.int .i64) w g 0 zs.toArray:=by
 intro j hj;have hj':j<zs.length:=by simpa using hj
 have h2:cur[j]?=some (.int .i64 zs[j]):=by
  have h3:(cur.toList.take zs.length)[j]?=some (.int .i64 zs[j]):=by rw[ht,RI,Yh hj'];rfl
  grind
 refine⟨?_,?_⟩
 .unfold World.cell?;rw[hg];simp[h2,hj']
 .simp[World.frozen?,hg]
def ZVc(K:ZGQ)(K0:ZGR){fr:Bool}{zs:V2}(c:zs.length<=4096) :
  XX Tryz.prog 184 [.own 0] [.arr 3 1 fr (zs.map ic)] (.tup []) [.arr 3 1 fr ((ZE zs).map ic)]:=by
 refine⟨by decide +kernel,?_⟩;intro N base w ρ vs R hdom hv hz;obtain⟨l⟩:=vs;simp only at hv
 cases hv with|cons q0 hv =>
 cases hv
 cases q0 with|own hr h1 =>
 rename_i r;have hb:gt [AF.arr 3 1 fr (zs.map ic)] 0=.arr 3 1 fr (zs.map ic):=by simp[gt]
 have hd0:gt [AF.arr 3 1 fr (zs.map ic)] 0≠.dead:=by rw[hb];intro hc;cases hc
 obtain⟨r2,e1,e2⟩:=R.blk 0 hd0;rw[hr]at e1;cases e1;rw[hb]at e2;obtain⟨e',xs,hel,ho,hsz,hlen1,htr,hfree,hfr⟩:=e2;obtain⟨hxl,ho⟩:=ho;rcases ho with⟨Bh,hn⟩|⟨g,cap,cur,Bh,hbg,hg,hcap,hcm,DA,htake⟩
 .have hn:zs=[]:=by simpa using hn
  subst hn;rw[Bh];refine(K0 none 0 w).mono ?_;rintro e w' ⟨rfl,rfl⟩;exact⟨_,ρ,rfl,Below.refl _ _,by simpa[ZE]using R,.tup .nil,hdom,Z,λ_ _ _=>rfl,λg hg hzz=>⟨by simpa[ZE]using hz g hzz,rfl⟩,λb r0 _ h=>⟨r0,h,rfl⟩⟩
 obtain⟨hx1,hx2⟩:=Z4l htr;have hgs:g<w.heap.size:=(Hy.1 hg).1;have hzl:(zs.map ic).length*1=zs.length:=by simp
 have htk:cur.toList.take zs.length=zs.map (Value.int .i64):=by rw[<-hzl,htake,hx1]
 have hcall:=K g 0 cap zs w (ZGV hg htk) hgs E;rw[Bh,show(zs.map ic).length=zs.length by simp];refine hcall.mono ?_;rintro e w' ⟨rfl,n,os,rfl⟩;have hgr:w.grownBy (sortWorld (Value.int .i64) w g 0 n (ZE zs).toArray os) (some g):=⟨rfl,rfl,rfl,by show w.heap.size<=((w.heap.modify g _)++os).size;simp,λk hk hne=>ZqU _ _ _ _ _ _ _ hk (by intro e;exact hne (by rw[e]))⟩;have hperm:(ZE zs).Perm zs:=RH _ _;have hsl:(ZE zs).length=zs.length:=hperm.length_eq
 obtain⟨P1,P2,P3⟩:=Z5M R hr (by intro b hb;exact hdom b (by simpa using hb)) Bh hg (Zse zs) (by rw[Zsf,hzl,htk]) (by rw[wY,hx2]) (wZ zs) (hperm.map tri) ⟨_,ZDn _ _ _ _ _ _ _ hg,by
  rw[ZqV _ _ _ (by simp at hcap;simp;omega),Zsf];simp[hsl]⟩ hgr
 rw[Zse]at P1 P2;refine⟨_,_,rfl,⟨hgr.os,hgr.tape,hgr.output,hgr.size,λk hk=>hgr.block k (Fx hk R.hb) (by intro e;cases e;omega)⟩,P1,.tup .nil,λb hb=>?_,Z,P3,λk hk hzz=>P2.free k hk (hz k hzz),λb r0 hb h0=>P2.root b r0 h0⟩;simp only[Au];rw[Yb (by simp at hb;omega)];exact hdom b (by simpa using hb)
def ZVd(K:ZGS)(K0:ZGT){fr:Bool}{zs:V2}(c:zs.length<=4096) :
  XX Tryz.prog 219 [.own 0] [.arr 3 1 fr (zs.map ic)] (.own 1) [.dead,.arr 3 1 fr ((Wg zs).map ic)]:=by
 refine⟨by decide +kernel,?_⟩;intro N base w ρ vs R hdom hv hz;obtain⟨l⟩:=vs;simp only at hv
 cases hv with|cons q0 hv =>
 cases hv
 cases q0 with|own hr h1 =>
 rename_i r;have hb:gt [AF.arr 3 1 fr (zs.map ic)] 0=.arr 3 1 fr (zs.map ic):=by simp[gt]
 have hd0:gt [AF.arr 3 1 fr (zs.map ic)] 0≠.dead:=by rw[hb];intro hc;cases hc
 obtain⟨r2,e1,e2⟩:=R.blk 0 hd0;rw[hr]at e1;cases e1;rw[hb]at e2;obtain⟨e',xs,hel,ho,hsz,hlen1,htr,hfree,hfr⟩:=e2;obtain⟨hxl,ho⟩:=ho;have BZ:∀b,1<=b->ρ b=none:=by intro b hb;exact hdom b (by simpa using hb)
 rcases ho with⟨Bh,hn⟩|⟨g,cap,cur,Bh,hbg,hg,hcap,hcm,DA,htake⟩
 .have hn:zs=[]:=by simpa using hn
  subst hn;rw[Bh];refine(K0 none 0 w).mono ?_;rintro e w' ⟨rfl,rfl⟩;obtain⟨p1,p2,p3⟩:=ZGN R hr BZ (w':=w') ⟨rfl,rfl,rfl,Yi _,λ_ _ _=>rfl⟩;refine⟨_,_,rfl,Below.refl _ _,p1,.own (b:=1) (r:=⟨.slice none 0 0,[]⟩) (by simp[Au]) rfl,λb hb=>?_,Z,p3,λk hk hzz=>p2.free k hk (hz k hzz),λb r0 hb h0=>p2.root b r0 h0⟩;simp only[Au];rw[Yb (by simp at hb;omega)];exact BZ b (by simp at hb;omega)
 obtain⟨hx1,hx2⟩:=Z4l htr;have hgs:g<w.heap.size:=(Hy.1 hg).1;have hzl:(zs.map ic).length*1=zs.length:=by simp
 have htk:cur.toList.take zs.length=zs.map (Value.int .i64):=by rw[<-hzl,htake,hx1]
 have hcall:=K g 0 cap zs w (ZGV hg htk) E (by simpa using hcap);rw[ZGU]at hcall;rw[Bh,show(zs.map ic).length=zs.length by simp];refine hcall.mono ?_;rintro e w' ⟨rfl,q,rfl⟩;have hsub:=Z4m zs;have hnl:(Wg zs).length<=zs.length:=hsub.length_le;have hgr:w.grownBy (putRow (Value.int .i64) (Sort.ahead w q) g 0 (Wg zs++List.replicate (zs.length-(Wg zs).length) 0).toArray) (some g) :=
  ⟨rfl,rfl,rfl,by show w.heap.size<=(w.heap.modify g _).size;simp,λk hk hne=>ZGO _ _ _ _ _ _ (by intro e;exact hne (by rw[e]))⟩
 obtain⟨P1,P2,P3⟩:=Z5N R hr BZ Bh hg (Zse zs) (by rw[Zsf,hzl,htk]) (by rw[wY,hx2]) (wZ zs) (hsub.map tri) (zr:=List.replicate (zs.length-(Wg zs).length) (Value.int .i64 0)) Z ⟨_,ZGP _ _ _ _ _ _ hg,by
  rw[ZqV _ _ _ (by simp at hcap|-;omega),Zsf];simp only[Y5,xE,xB,Yo,w8,Y1]
  rw[show(Wg zs).length+(zs.length-(Wg zs).length)=zs.length*1 by omega]⟩ hgr
 rw[Zse,Y1]at P1 P2;refine⟨_,_,rfl,⟨hgr.os,hgr.tape,hgr.output,hgr.size,λk hk=>hgr.block k (Fx hk R.hb) (by intro e;cases e;omega)⟩,P1,.own (b:=1) (r:=⟨.slice (some ⟨g,0,none⟩) (Wg zs).length cap,(((Wg zs).map tri).map (·.2.2)).flatten⟩) (by unfold Au;rw[Ya rfl]) rfl,λb hb=>?_,Z,P3,λk hk hzz=>P2.free k hk (hz k hzz),λb r0 hb h0=>P2.root b r0 h0⟩;simp only[Au];rw[Yb (by simp at hb;omega)];exact BZ b (by simp at hb;omega)
end Go.Proofs.YtobfkfgdneeabaaGreat
namespace Go.Proofs.YtobfkfgdneeabaaGreat
open Go.RowKit Go.AM Go.Lib Go.Sort Go.Shelf
def Rw:Go.Shelf.Ren:=⟨λ|189=>184|125=>217|257=>216|128=>246|129=>247|294=>237|295=>238|296=>239|297=>240|298=>241|299=>242|216=>243|300=>244|301=>245|328=>269|329=>270|330=>271|331=>272|332=>273|215=>274|343=>287|n=>n,λ|28=>38|3=>3|46=>214|0=>0|51=>276|53=>278|4=>4|183=>269|182=>268|131=>273|5=>5|9=>9|218=>297|222=>217|228=>311|229=>246|n=>n,λ|n=>n⟩
def sI:Go.Proofs.Lays.n189 Tryz.prog Rw:={ mixed:=by kernel_rfl,f125:=Tryz.func217.trans (congrArg some (by kernel_rfl)),f128:=Tryz.func246.trans (congrArg some (by kernel_rfl)),f129:=Tryz.func247.trans (congrArg some (by kernel_rfl)),f189:=Tryz.func184.trans (congrArg some (by kernel_rfl)),f215:=Tryz.func274.trans (congrArg some (by kernel_rfl)),f216:=Tryz.func243.trans (congrArg some (by kernel_rfl)),f257:=Tryz.func216.trans (congrArg some (by kernel_rfl)),f294:=Tryz.func237.trans (congrArg some (by kernel_rfl)),f295:=Tryz.func238.trans (congrArg some (by kernel_rfl)),f296:=Tryz.func239.trans (congrArg some (by kernel_rfl)),f297:=Tryz.func240.trans (congrArg some (by kernel_rfl)),f298:=Tryz.func241.trans (congrArg some (by kernel_rfl)),f299:=Tryz.func242.trans (congrArg some (by kernel_rfl)),f300:=Tryz.func244.trans (congrArg some (by kernel_rfl)),f301:=Tryz.func245.trans (congrArg some (by kernel_rfl)),f328:=Tryz.func269.trans (congrArg some (by kernel_rfl)),f329:=Tryz.func270.trans (congrArg some (by kernel_rfl)),f330:=Tryz.func271.trans (congrArg some (by kernel_rfl)),f331:=Tryz.func272.trans (congrArg some (by kernel_rfl)),f332:=Tryz.func273.trans (congrArg some (by kernel_rfl)),f343:=Tryz.func287.trans (congrArg some (by kernel_rfl)),t0:=Tryz.underlying0,a0:=Tryz.isAgg0,z0:=Tryz.sizeOf0,v0:=Tryz.zeroValue0,t3:=Tryz.underlying3,a3:=Tryz.isAgg3,z3:=Tryz.sizeOf3,v3:=Tryz.zeroValue3,t4:=Tryz.underlying4,a4:=Tryz.isAgg4,z4:=Tryz.sizeOf4,v4:=Tryz.zeroValue4,t5:=Tryz.underlying5,a5:=Tryz.isAgg5,z5:=Tryz.sizeOf5,v5:=Tryz.zeroValue5,t9:=Tryz.underlying9,a9:=Tryz.isAgg9,z9:=Tryz.sizeOf9,v9:=Tryz.zeroValue9,t28:=Tryz.underlying38,a28:=Tryz.isAgg38,z28:=Tryz.sizeOf38,v28:=Tryz.zeroValue38,t46:=Tryz.underlying214,a46:=Tryz.isAgg214,z46:=Tryz.sizeOf214,v46:=Tryz.zeroValue214,t51:=Tryz.underlying276,a51:=Tryz.isAgg276,z51:=Tryz.sizeOf276,v51:=Tryz.zeroValue276,t53:=Tryz.underlying278,a53:=Tryz.isAgg278,z53:=Tryz.sizeOf278,v53:=Tryz.zeroValue278,t131:=Tryz.underlying273,a131:=Tryz.isAgg273,z131:=Tryz.sizeOf273,v131:=Tryz.zeroValue273,t182:=Tryz.underlying268,a182:=Tryz.isAgg268,z182:=Tryz.sizeOf268,v182:=Tryz.zeroValue268,t183:=Tryz.underlying269,a183:=Tryz.isAgg269,z183:=Tryz.sizeOf269,v183:=Tryz.zeroValue269,t218:=Tryz.underlying297,a218:=Tryz.isAgg297,z218:=Tryz.sizeOf297,v218:=Tryz.zeroValue297,t222:=Tryz.underlying217,a222:=Tryz.isAgg217,z222:=Tryz.sizeOf217,v222:=Tryz.zeroValue217,t228:=Tryz.underlying311,a228:=Tryz.isAgg311,z228:=Tryz.sizeOf311,v228:=Tryz.zeroValue311,t229:=Tryz.underlying246,a229:=Tryz.isAgg246,z229:=Tryz.sizeOf246,v229:=Tryz.zeroValue246 }
def Rx:Go.Shelf.Ren:=⟨λ|20=>219|n=>n,λ|22=>38|3=>3|4=>4|0=>0|n=>n,λ|n=>n⟩
def cI:Go.Proofs.Lays2.n20 Tryz.prog Rx:={ mixed:=by kernel_rfl,f20:=Tryz.func219.trans (congrArg some (by kernel_rfl)),t0:=Tryz.underlying0,a0:=Tryz.isAgg0,z0:=Tryz.sizeOf0,v0:=Tryz.zeroValue0,t3:=Tryz.underlying3,a3:=Tryz.isAgg3,z3:=Tryz.sizeOf3,v3:=Tryz.zeroValue3,t4:=Tryz.underlying4,a4:=Tryz.isAgg4,z4:=Tryz.sizeOf4,v4:=Tryz.zeroValue4,t22:=Tryz.underlying38,a22:=Tryz.isAgg38,z22:=Tryz.sizeOf38,v22:=Tryz.zeroValue38,i3:=by kernel_rfl }
def ZVe:ZGQ:=λblk off cap zs w hH hb hz=>Any.slices_Sort_int sI blk off cap zs w hH hb hz
def ZVf:ZGR:=λp cap w=>Any.slices_Sort_int_none sI p cap w
def ZVg:ZGS:=λblk off cap zs w hH hz hc=>Any.slices_Compact_int cI blk off cap zs w hH hz hc
def ZVh:ZGT:=λa cap w=>Any.slices_Compact_int_empty cI a cap w
end Go.Proofs.YtobfkfgdneeabaaGreat
namespace Go.Proofs.YtobfkfgdneeabaaGreat
open Go.RowKit Go.AM Go.Lib Go.Sort Go.Shelf
def ZVi:Go.Shelf.Ren:=⟨λ|6=>193|15=>217|14=>223|28=>246|29=>247|20=>248|21=>250|22=>251|23=>252|24=>253|25=>254|26=>255|27=>256|46=>276|47=>270|48=>271|49=>277|50=>278|57=>289|n=>n,λ|22=>48|24=>38|25=>143|3=>3|39=>214|0=>0|53=>276|55=>278|4=>4|46=>269|45=>268|50=>273|5=>5|9=>9|66=>297|70=>217|76=>311|77=>246|n=>n,λ|n=>n⟩
def ZGW:Go.Proofs.SlLaysF.n6 Tryz.prog ZVi:={ mixed:=by kernel_rfl,f6:=⟨Tryz.f193.name,Om,Tryz.func193.trans (congrArg some (by kernel_rfl))⟩,f14:=⟨Tryz.f223.name,Om,Tryz.func223.trans (congrArg some (by kernel_rfl))⟩,f15:=Tryz.func217.trans (congrArg some (by kernel_rfl)),f20:=⟨Tryz.f248.name,Om,Tryz.func248.trans (congrArg some (by kernel_rfl))⟩,f21:=⟨Tryz.f250.name,Om,Tryz.func250.trans (congrArg some (by kernel_rfl))⟩,f22:=⟨Tryz.f251.name,Om,Tryz.func251.trans (congrArg some (by kernel_rfl))⟩,f23:=⟨Tryz.f252.name,Om,Tryz.func252.trans (congrArg some (by kernel_rfl))⟩,f24:=⟨Tryz.f253.name,Om,Tryz.func253.trans (congrArg some (by kernel_rfl))⟩,f25:=⟨Tryz.f254.name,Om,Tryz.func254.trans (congrArg some (by kernel_rfl))⟩,f26:=⟨Tryz.f255.name,Om,Tryz.func255.trans (congrArg some (by kernel_rfl))⟩,f27:=⟨Tryz.f256.name,Om,Tryz.func256.trans (congrArg some (by kernel_rfl))⟩,f28:=Tryz.func246.trans (congrArg some (by kernel_rfl)),f29:=Tryz.func247.trans (congrArg some (by kernel_rfl)),f46:=⟨Tryz.f276.name,Om,Tryz.func276.trans (congrArg some (by kernel_rfl))⟩,f47:=Tryz.func270.trans (congrArg some (by kernel_rfl)),f48:=Tryz.func271.trans (congrArg some (by kernel_rfl)),f49:=⟨Tryz.f277.name,Om,Tryz.func277.trans (congrArg some (by kernel_rfl))⟩,f50:=⟨Tryz.f278.name,Om,Tryz.func278.trans (congrArg some (by kernel_rfl))⟩,f57:=⟨Tryz.f289.name,Om,Tryz.func289.trans (congrArg some (by kernel_rfl))⟩,t0:=Tryz.underlying0,a0:=Tryz.isAgg0,z0:=Tryz.sizeOf0,v0:=Tryz.zeroValue0,t3:=Tryz.underlying3,a3:=Tryz.isAgg3,z3:=Tryz.sizeOf3,v3:=Tryz.zeroValue3,t4:=Tryz.underlying4,a4:=Tryz.isAgg4,z4:=Tryz.sizeOf4,v4:=Tryz.zeroValue4,t5:=Tryz.underlying5,a5:=Tryz.isAgg5,z5:=Tryz.sizeOf5,v5:=Tryz.zeroValue5,t9:=Tryz.underlying9,a9:=Tryz.isAgg9,z9:=Tryz.sizeOf9,v9:=Tryz.zeroValue9,t22:=Tryz.underlying48,a22:=Tryz.isAgg48,z22:=Tryz.sizeOf48,v22:=Tryz.zeroValue48,a24:=Tryz.isAgg38,z24:=Tryz.sizeOf38,t25:=Tryz.underlying143,a25:=Tryz.isAgg143,z25:=Tryz.sizeOf143,v25:=Tryz.zeroValue143,t39:=Tryz.underlying214,a39:=Tryz.isAgg214,z39:=Tryz.sizeOf214,v39:=Tryz.zeroValue214,t45:=Tryz.underlying268,a45:=Tryz.isAgg268,z45:=Tryz.sizeOf268,v45:=Tryz.zeroValue268,t46:=Tryz.underlying269,a46:=Tryz.isAgg269,z46:=Tryz.sizeOf269,v46:=Tryz.zeroValue269,t50:=Tryz.underlying273,a50:=Tryz.isAgg273,z50:=Tryz.sizeOf273,v50:=Tryz.zeroValue273,t53:=Tryz.underlying276,a53:=Tryz.isAgg276,z53:=Tryz.sizeOf276,v53:=Tryz.zeroValue276,t55:=Tryz.underlying278,a55:=Tryz.isAgg278,z55:=Tryz.sizeOf278,v55:=Tryz.zeroValue278,t66:=Tryz.underlying297,a66:=Tryz.isAgg297,z66:=Tryz.sizeOf297,v66:=Tryz.zeroValue297,t70:=Tryz.underlying217,a70:=Tryz.isAgg217,z70:=Tryz.sizeOf217,v70:=Tryz.zeroValue217,t76:=Tryz.underlying311,a76:=Tryz.isAgg311,z76:=Tryz.sizeOf311,v76:=Tryz.zeroValue311,t77:=Tryz.underlying246,a77:=Tryz.isAgg246,z77:=Tryz.sizeOf246,v77:=Tryz.zeroValue246 }
def ZVj:ZDl:=by
 intro α _ enc h1 cf hO blk off cap d w hcmp hH hblk hsz;have eg:∀args w,(callFunc 194 args).run Tryz.prog w=.ok (.enter 194 args) w:=enters_of Tryz.func194 (by kernel_rfl) rfl;exact Any.slices_SortFunc ZGW enc h1 cf hO 194 #[] blk off cap d w eg hcmp hH hblk hsz
def ZVk:ZDm:=λp cap w=>AnyF.slices_SortFunc_none { ZGW with } p cap _ w
def ZVl(f:Nat)(xs:XQ)(h0:V3)(r:AV)(hr:V3)(h:ext f xs h0=some (r,hr)):XX Tryz.prog f xs h0 r hr:=by
 unfold ext at h;split at h
 .split at h
  .subst f;unfold Sh at h;split at h
   .rename_i hc;obtain⟨h1,h2,h3⟩:=hc.choose_spec;generalize hc.choose=rows at h h1 h2 h3;subst h1;cases h;exact ZPX ZVj ZVk h2 h3
   .cases h
  .cases h
 .split at h
  .subst f;unfold Sh at h;split at h
   .rename_i hc;obtain⟨h1,h2,h3⟩:=hc.choose_spec;generalize hc.choose=rows at h h1 h2 h3;subst h1;cases h;exact ZVa h2 h3
   .cases h
  .cases h
 .split at h
  .subst f;unfold Si at h;split at h
   .rename_i hc;obtain⟨h1,h2⟩:=hc.choose_spec;generalize hc.choose=l at h h1 h2;subst h1;cases h;exact ZVc ZVe ZVf h2
   .cases h
  .split at h
   .subst f;unfold Si at h;split at h
    .rename_i hc;obtain⟨h1,h2⟩:=hc.choose_spec;generalize hc.choose=l at h h1 h2;subst h1;cases h;exact ZVd ZVg ZVh h2
    .cases h
   .cases h
 .cases h
def sound{f:Nat}{xs:XQ}{h0:V3}{r:AV}{hr:V3}(h:C f xs h0=some (r,hr)):XX Tryz.prog f xs h0 r hr:=ZId Mp ZVl h
