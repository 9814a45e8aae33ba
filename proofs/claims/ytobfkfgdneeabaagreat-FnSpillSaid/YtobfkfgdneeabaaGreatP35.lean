/-
  Parts of the proofs for this seat: LA LB LC LD LE LF LG LH.
-/
import Derived.Test.YtobfkfgdneeabaaGreatP34
set_option linter.all false
set_option maxRecDepth 100000
set_option maxHeartbeats 4000000
namespace Go.Proofs.YtobfkfgdneeabaaGreat
open Go.AM
abbrev Jg(x:Int):Prop:=-9223372036854775807<=x/\x<=9223372036854775807
theorem ZV{x:Int}(h:Jg x):w x=x:=ZF E E
theorem ZSI(a b:Int):Int.gcd b (a.tmod b)=Int.gcd a b:=by
 grind [Int.gcd,Int.natAbs_tmod,Nat.gcd_comm,Nat.gcd_rec]
def ZSJ:∀(n:Nat) (a b:Int),b.natAbs<=n->0<=a->0<=b->kQ a b=some (I (Int.gcd a b:Int),[]):=by
 intro n
 induction n with
 |zero =>
  grind [Wn.1.2.2.2.2,Int.gcd_zero_right]
 |succ n ih =>
  intro a b hb ha hb2;apply Wn.1.2.2.2.2;by_cases h0:b=0
  .grind [Int.gcd_zero_right]
  .rw[Yb h0];have h1:(a.tmod b).natAbs<b.natAbs:=by rw[Int.natAbs_tmod];exact Nat.mod_lt _ E
   grind [Int.tmod_nonneg,ZSI]
def Z38{a b:Int}(ha:0<=a)(hb:0<=b):MV a b=some (I (Int.gcd a b:Int),[]):=Wn.2.1.1.1 _ _ _ (ZSJ _ a b (Yi _) ha hb)
def Z39{a:Int}(ha:Jg a):MU a=some (I (a.natAbs:Int),[]):=by
 grind [Wn.1.2.2.2.1,ZV]
def U0(r:Zb):WL r=some (Bo (vR r),[]):=by
 refine Wn.2.1.1.2 _ _ ⟨_,ZS _ _ _,?_⟩;unfold vR;rcases tf (Am r.Den 1 2147483647)with e|e
 .rw[e];simp
 have e':=ZK.1 e;rw[e,Ya rfl];refine⟨_,ZS _ _ _,?_⟩;rcases tf (Am r.Num (-2147483647) 2147483647)with e2|e2
 .rw[e2];simp
 have e2':=ZK.1 e2;rw[e2,Ya rfl];refine⟨_,Z39 ⟨E,E⟩,_,Z38 E E,?_⟩;simp only[Yk];congr 3
 grind [Int.gcd]
def oR(o:Option Zb):XR:=(.tup [.agg ((o.getD r0).c.map .t),Bo o.isSome],[])
def ZSK:oR none=(.tup [.agg [I 0,I 0],Bo false],[]):=rfl
def ZrD{a b:Int}(h:Jg a):Jg (a.tdiv b):=by
 have h1:(a.tdiv b).natAbs<=a.natAbs:=by rw[Int.natAbs_tdiv];exact Nat.div_le_self _ _
 unfold Jg at *
 omega
def ZFB{n d:Int}(hd:d≠0):¬(Int.gcd n d:Int)=0:=by
 simp_all
def ZrE{n d:Int}(hn:Jg n)(hd:Jg d):GE n d=some (oR (Cv n d)):=by
 have hn':Jg (0-n):=⟨E,E⟩;have hd':Jg (0-d):=⟨E,E⟩;apply ZN9;unfold Cv;by_cases h0:d=0
 .simp_all [ZSK]
 rw[Yb h0,Yb h0,Ao,Ao,ZV hn',ZV hd'];by_cases hl:d<0
 .rw[Ya hl,Ya hl];have eg:Int.gcd ((0-n).natAbs:Int) (0-d)=Int.gcd (-n) (-d):=by unfold Int.gcd;simp
  refine⟨_,Z39 hn',_,Z38 E E,by rw[eg];exact ZFB E,_,U0 _,?_⟩;rw[eg,ZV (ZrD hn'),ZV (ZrD hd'),Int.zero_sub,Int.zero_sub];unfold DT;rcases tf (vR ⟨(-n).tdiv (Int.gcd (-n) (-d)),(-d).tdiv (Int.gcd (-n) (-d))⟩)with e|e
  .rw[e];rfl
  .rw[e];rfl
 .rw[Yb hl,Yb hl];have eg:Int.gcd (n.natAbs:Int) d=Int.gcd n d:=by unfold Int.gcd;simp
  refine⟨_,Z39 hn,_,Z38 E E,by rw[eg];exact ZFB E,_,U0 _,?_⟩;rw[eg,ZV (ZrD hn),ZV (ZrD hd)];unfold DT;rcases tf (vR ⟨n.tdiv (Int.gcd n d),d.tdiv (Int.gcd n d)⟩)with e|e
  .rw[e];rfl
  .rw[e];rfl
def QT{x y:Int}(hx:-2147483647<=x/\x<=2147483647)(hy:-2147483647<=y/\y<=2147483647):-4611686014132420609<=x*y/\x*y<=4611686014132420609:=by
 have:=LF (show x.natAbs<=2147483647 by omega) (show y.natAbs<=2147483647 by omega);rw[<-Int.natAbs_mul]at this;omega
def UU{r:Zb}(h:vR r=true):(-2147483647<=r.Num/\r.Num<=2147483647)/\(-2147483647<=r.Den/\r.Den<=2147483647)/\1<=r.Den:=by
 have:=UR.1 h;omega
section
variable(a b:Zb)
theorem ZrF:GF a b=some (oR (Wd a b)):=by
 refine ZN7 _ _ _ ⟨_,U0 a,?_⟩;unfold Wd;rcases tf (vR a)with e|e
 .rw[e];rfl
 rw[e,Ya rfl];refine⟨_,U0 b,?_⟩;rcases tf (vR b)with e2|e2
 .rw[e2];rfl
 rw[e2,Ya rfl];obtain⟨a1,a2,_⟩:=UU e;obtain⟨b1,b2,_⟩:=UU e2;have h1:=QT a1 b2;have h2:=QT a2 b1;by_cases h0:b.Num=0
 .rw[Ya h0,Ya (by rfl),h0,Int.mul_zero];rfl
 rw[Yb h0];refine⟨_,_,?_,rfl⟩;rw[ZV ⟨E,E⟩,ZV ⟨E,E⟩];exact ZrE ⟨E,E⟩ ⟨E,E⟩
theorem ZFC:GG a b=some (oR (Wb a b)):=by
 refine IP.2.1.1 _ _ _ ⟨_,U0 a,?_⟩;unfold Wb;rcases tf (vR a)with e|e
 .rw[e];rfl
 rw[e,Ya rfl];refine⟨_,U0 b,?_⟩;rcases tf (vR b)with e2|e2
 .rw[e2];rfl
 rw[e2,Ya rfl];obtain⟨a1,a2,_⟩:=UU e;obtain⟨b1,b2,_⟩:=UU e2;have h1:=QT a1 b1;have h2:=QT a2 b2;refine⟨_,_,?_,rfl⟩;rw[ZV ⟨E,E⟩,ZV ⟨E,E⟩];exact ZrE ⟨E,E⟩ ⟨E,E⟩
theorem ZSL:Ii a b=some (oR (V8 a b)):=by
 refine IP.2.2.2 _ _ _ ⟨_,U0 a,?_⟩;unfold V8;rcases tf (vR a)with e|e
 .rw[e];rfl
 rw[e,Ya rfl];refine⟨_,U0 b,?_⟩;rcases tf (vR b)with e2|e2
 .rw[e2];rfl
 rw[e2,Ya rfl];obtain⟨a1,a2,_⟩:=UU e;obtain⟨b1,b2,_⟩:=UU e2;have h1:=QT a1 b2;have h2:=QT b1 a2;have h3:=QT a2 b2;refine⟨_,_,?_,rfl⟩;rw[ZV (x:=a.Num*b.Den) ⟨E,E⟩,ZV (x:=b.Num*a.Den) ⟨E,E⟩,ZV ⟨E,E⟩,ZV ⟨E,E⟩];exact ZrE ⟨E,E⟩ ⟨E,E⟩
theorem ZSM:ZoM a b=some (oR (Ue a b)):=by
 refine IP.2.1.2 _ _ _ ⟨_,U0 a,?_⟩;unfold Ue;rcases tf (vR a)with e|e
 .rw[e];rfl
 rw[e,Ya rfl];refine⟨_,U0 b,?_⟩;rcases tf (vR b)with e2|e2
 .rw[e2];rfl
 rw[e2,Ya rfl];obtain⟨a1,a2,_⟩:=UU e;obtain⟨b1,b2,_⟩:=UU e2;have h1:=QT a1 b2;have h2:=QT b1 a2;have h3:=QT a2 b2;refine⟨_,_,?_,rfl⟩;rw[ZV (x:=a.Num*b.Den) ⟨E,E⟩,ZV (x:=b.Num*a.Den) ⟨E,E⟩,ZV ⟨E,E⟩,ZV ⟨E,E⟩];exact ZrE ⟨E,E⟩ ⟨E,E⟩
theorem ZSN:ZoK a b=some (I (JI a b),[]):=by
 refine IP.1.1 _ _ _ ⟨_,U0 a,?_⟩;unfold JI;rcases tf (vR a)with e|e
 .rw[e];rfl
 rw[e,Ya rfl];refine⟨_,U0 b,?_⟩;rcases tf (vR b)with e2|e2
 .rw[e2];rfl
 rw[e2,Ya rfl];obtain⟨a1,a2,_⟩:=UU e;obtain⟨b1,b2,_⟩:=UU e2;have h1:=QT a1 b2;have h2:=QT b1 a2
 grind [ZV,Bool.and_self]
end
def Pr(a:Zb):Ue a r0=none:=by
 unfold Ue;rw[show vR r0=false by decide,Bool.and_false];rfl
def QU(a b c:Zb):Vd a b c=some (oR (Ct a b c)):=by
 apply IP.2.2.1;unfold Ct;by_cases hb:b.Num=0
 .rw[Ya hb,Ya (.inl hb)];rfl
 rw[Yb hb];by_cases hc:c.Num=0
 .rw[Ya hc,Ya (.inr hc)];rfl
 rw[Yb hc,Yb (by simp[hb,hc])];refine⟨_,_,ZFC b c,_,_,ZSM a _,?_⟩
 cases e:Wb b c with
 |none=>rw[show((none:Option Zb).getD r0)=r0 from rfl,Pr];rfl
 |some x=>rfl
def tH{r:Zb}(h:vR r=true):Jg r.Num:=by have:=UU h;exact⟨E,E⟩
theorem Ln{xs:V2}{i:Nat}(h:i<xs.length):xs[((i:Nat):Int).toNat]?=some (xs.getD i 0):=by
 simp_all
def gR{xs:List Zb}{i:Nat}(h:i<xs.length):xs[i]?=some (xs.getD i r0):=by
 simp_all
def Cc{xs:List Zb}{i:Nat}(h:i<xs.length):xs[((i:Nat):Int).toNat]?=some (xs.getD i r0):=by
 simp_all
def Hp{xs:List (List Zb)}{i:Nat}(h:i<xs.length):xs[((i:Nat):Int).toNat]?=some (xs.getD i []):=by
 simp_all
abbrev tJ(best:Int)(n:Nat):Prop:=best=-1\/(0<=best/\best<n)
def ZSO(d:Zv)(hl:d.Costs.length<=1000)(hF:d.Free.length=d.Costs.length):∀i,i<=d.Costs.length->∀best,tJ best d.Costs.length->Ih d best i=some (I (Ho d.Free (d.Costs.drop i) i best),[]):=by
 refine down _ ?_ ?_
 .intro best hb;apply Wn.2.2.2.2.1;rw[Ao,Yl];rfl
 .intro i hi ih best hb;apply Wn.2.2.2.2.1;rw[An,Yg hi,Ho,wS hi E];refine⟨E,_,gE hi,?_⟩
  grind
def tK(l:List Zb)(hl:l.length<=1000)(h:Qr l):∀i,i<=l.length->kR l i=some (Bo true,[]):=by
 refine down _ ?_ ?_
 .simp[Wn.2.1.2.1]
 .intro i hi ih;apply Wn.2.1.2.1;rw[An,wS hi E];refine⟨E,_,gE hi,_,U0 _,?_⟩;rw[h _ (Ye hi),Ya rfl];exact ih
theorem Z3A{l:List Zb}(hl:l.length<=1000)(h:Qr l):Ty l=some (Bo true,[]):=Wn.2.1.2.2 _ _ (tK l hl h 0 (Yc _))
def Ps{d:Zv}(h:QS d):∀i,i<=d.Basic.length->kU d d.Basic.length d.Free.length i=some (Bo true,[]):=by
 have hm:=h.m;have hn:=h.n;have hll:=h.ll;have hlk:=h.lk;have hlc:=h.lc;refine down _ ?_ ?_
 .apply Wn.2.2.1.2;rw[Ao];refine⟨_,Z3A E h.vl,?_⟩;rw[Ya rfl];refine⟨_,Z3A E h.vk,?_⟩;rw[Ya rfl];exact⟨_,U0 _,by rw[h.vv]⟩
 .intro i hi ih;have hi':i<d.Cells.length:=by omega
  obtain⟨hr,hv⟩:=h.rw' _ (Ye hi')
  grind [Wn.2.2.1.2,wS,gE,Z3A]
def Pt{d:Zv}(h:QS d):∀i,i<=d.Basic.length+d.Free.length->kT d (d.Basic++d.Free) d.Basic.length d.Free.length i=some (Bo true,[]):=by
 have hm:=h.m;have hn:=h.n;have e:w ((d.Basic.length:Int)+(d.Free.length:Int))=((d.Basic.length+d.Free.length:Nat):Int):=by rw[ZV ⟨E,E⟩];omega
 refine down _ ?_ ?_
 .apply Wn.2.2.1.1;rw[e,Ao];exact Ps h 0 (Yc _)
 .intro i hi ih;apply Wn.2.2.1.1;rw[e,An,wS hi E];have hh:has (d.Basic++d.Free) (i:Int)=true:=by
   have:=h.vs i hi;simpa[has]using this
  grind [G3]
def Z3B{d:Zv}(h:QS d):Ig d=some (Bo true,[]):=by
 have hm:=h.m;have hn:=h.n;have hll:=h.ll;have hlk:=h.lk;have hlc:=h.lc;apply Wn.2.2.2.1;rw[Ao];refine⟨_,ZS _ _ _,?_⟩;rw[show Am (d.Free.length:Int) 1 15=true from ZK.2 ⟨E,E⟩,Ya rfl,An,An,An];exact⟨E,E,Pt h 0 (Yc _)⟩
def ZrG{d:Zv}(h:QS d):kV d=some (I (BM d),[]):=by
 have hlk:=h.lk;have hn:=h.n;refine Wn.2.2.2.2.2 _ _ ⟨_,Z3B h,?_⟩;rw[Ya rfl];have:=ZSO d E E 0 (Yc _) (-1) (.inl rfl);simpa[BM]using this
def Hq{d:Zv}(h:QS d){i j:Nat}(hi:i<d.Basic.length)(hj:j<d.Free.length):(d.Cells.getD i []).length=d.Free.length/\Qr (d.Cells.getD i [])/\(d.Cells.getD i [])[((j:Nat):Int).toNat]?=some (Vi d i j):=by
 have hi':i<d.Cells.length:=by have:=h.lc;omega
 have e:d.Cells.getD i []=d.Cells[i]:=by rw[CF,Yh hi'];rfl
 obtain⟨hr,hv⟩:=h.rw' _ (Ye hi');unfold Vi
 simp_all
def ZSP{d:Zv}(h:QS d){j:Nat}(hj:j<d.Free.length):∀i,i<=d.Basic.length->∀best least,tJ best d.Basic.length->Tz d least j best i=some (I (FF d j (d.Basic.length-i) i best least),[]):=by
 have hm:=h.m;have hll:=h.ll;have hlc:=h.lc;refine down _ ?_ ?_
 .intro best least hb;apply IP.1.2.1;rw[Ao,Et];rfl
 .intro i hi ih best least hb;apply IP.1.2.1;obtain⟨_,_,hc⟩:=Hq h hi hj;rw[An,wS hi E,show d.Basic.length-i=(d.Basic.length-(i+1))+1 by omega,FF];refine⟨E,_,Hp E,E,_,hc,?_⟩;by_cases h1:(Vi d i j).Num<=0
  .simp_all
  .rw[Yb h1,Yb h1];refine⟨_,Cc E,_,_,ZrF _ _,?_⟩
   grind [ZSN,Ln,gD]
def Z3C{d:Zv}(h:QS d){j:Nat}(hj:j<d.Free.length):kW d j=some (I (Cw d j),[]):=by
 have hn:=h.n;refine IP.1.2.2 _ _ _ ⟨_,Z3B h,?_⟩;rw[Ya rfl,ZV ⟨E,E⟩];refine⟨_,ZS _ _ _,?_⟩;rw[show Am (j:Int) 0 ((d.Free.length:Int)-1)=true from ZK.2 ⟨E,E⟩,Ya rfl];exact ZSP h hj 0 (Yc _) (-1) r0 (.inl rfl)
def b3(x a b:Bool):(x || !(a && b))=((x || !a) || !b):=by cases x<;>cases a<;>cases b<;>rfl
def tL{O:List (Option Zb)}{k:Nat}(h:k<O.length):O[k]=O.getD k none:=by
 simp_all
def Jh{O:List (Option Zb)}{k:Nat}(h:k<O.length):vals (O.take (k+1))=vals (O.take k)++[(O.getD k none).getD r0]:=by
 rw[Yx h,ZS2,tL h];rfl
def Pu{O:List (Option Zb)}{k:Nat}(h:k<O.length):Xa (O.take (k+1))=(Xa (O.take k) && (O.getD k none).isSome):=by
 rw[Yx h,ZS1,tL h];simp[Xa]
def ZrH(l p:List Zb)(j:Nat){k:Nat}(hk:k<l.length):(X7 l p j).getD k none=Jd k j (l.getD k r0) (l.getD j r0) (p.getD k r0):=by
 unfold X7
 simp_all
def ZSQ(row:List Zb)(j:Nat){k:Nat}(hk:k<row.length):(Uz row j).getD k none=if k=j then Wd ⟨1,1⟩ (row.getD j r0)else Wd (row.getD k r0) (row.getD j r0):=by
 unfold Uz
 simp_all
section
variable{l pr:List Zb}{a:Zb}{j:Nat}(hv:Qr l)(hp:pr.length=l.length)(hj:j<l.length)(h15:l.length<=1000)
include hv hp hj h15
end
def Pv:XR:=(.tup [.agg [.own 0,.own 1,.own 2,.own 3,.own 4,I 0,I 0],Bo false],[.arr 3 1 true (([]:V2).map ic),.arr 3 1 true (([]:V2).map ic),.arr 305 1 true (([]:List (List Zb)).map (lc 2 Zb.c)),.arr 293 2 true (([]:List Zb).map Zb.c),.arr 293 2 true (([]:List Zb).map Zb.c)])
def bQ(fr:Bool)(d:Zv):XR:=(.tup [.agg [.own 0,.own 1,.own 2,.own 3,.own 4,I d.Value.Num,I d.Value.Den],Bo true],[.arr 3 1 true (d.Basic.map ic),.arr 3 1 true (d.Free.map ic),.arr 305 1 fr (d.Cells.map (lc 2 Zb.c)),.arr 293 2 true (d.Limits.map Zb.c),.arr 293 2 true (d.Costs.map Zb.c)])
def K1(d:Zv)(i j:Nat):XR:=if okO d i j=true then bQ false (Wr d i j)else Pv
def Uf(d:Zv)(i j r:Nat):List (List Zb):=((Je d i j).take r).map vals
def ZP(d:Zv)(i j:Nat):List (Option Zb):=Uz (d.Cells.getD i []) j
def BV(d:Zv)(i j r:Nat):Bool:=(Xa (ZP d i j) && (US d i j).isSome) && (((Je d i j).take r).all Xa && Xa ((VM d i j).take r))
def W6(d:Zv)(i j:Nat):Zb:=(US d i j).getD r0
def bR(d:Zv)(i j:Nat):(Je d i j).length=d.Cells.length:=by simp[Je]
def Pw(d:Zv)(i j:Nat):(VM d i j).length=d.Limits.length:=by simp[VM]
def ZFD(d:Zv)(i j:Nat){r:Nat}(hr:r<d.Cells.length):(Je d i j)[r]'(by rw[bR];exact hr)=if r=i then ZP d i j else X7 (d.Cells.getD r []) (vals (ZP d i j)) j:=by simp[Je,ZP]
def bS(d:Zv)(i j:Nat){r:Nat}(hr:r<d.Limits.length):(VM d i j).getD r none=if r=i then US d i j else Ct (d.Limits.getD r r0) (Vi d r j) (W6 d i j):=by
 unfold VM;rw[CF,RI,List.getElem?_range hr];rfl
def tM(d:Zv)(i j:Nat){r:Nat}(hr:r<d.Cells.length):Uf d i j (r+1)=Uf d i j r++[vals (if r=i then ZP d i j else X7 (d.Cells.getD r []) (vals (ZP d i j)) j)]:=by
 unfold Uf
 simp_all [Yx,bR,Y5,ZFD]
def tN(d:Zv)(i j:Nat){r:Nat}(hr:r<d.Cells.length)(c:r<d.Limits.length):BV d i j (r+1)=(BV d i j r && (Xa (if r=i then ZP d i j else X7 (d.Cells.getD r []) (vals (ZP d i j)) j) && (if r=i then US d i j else Ct (d.Limits.getD r r0) (Vi d r j) (W6 d i j)).isSome)):=by
 unfold BV;rw[Yx (by rw[bR];exact hr),List.all_append,ZFD d i j hr,Pu (by rw[Pw];exact c),bS d i j c]
 grind
def tO(d:Zv){i j:Nat}(hr:i<d.Cells.length)(c:i<d.Limits.length):BV d i j (i+1)=BV d i j i:=by
 rw[tN d i j hr c,Ya rfl,Ya rfl];unfold BV
 simp_all
def ZFE{d:Zv}{i j:Nat}(hl:d.Limits.length=d.Cells.length):okO d i j=(BV d i j d.Cells.length && Xa (UT d i j) && (Kz d i j).isSome):=by
 unfold okO BV;rw[<-bR d i j,Yw,bR,<-hl,<-Pw d i j,Yw];unfold ZP
 grind
def zP{α:Type}(p:α->Bool)(l:List α)(r:Nat)(h:l.all p=true):(l.take r).all p=true:=Ym.2 λx hx=>Ym.1 h x (DK hx)
theorem tP{d:Zv}{i j r:Nat}(h:BV d i j r=false):okO d i j=false:=by
 rcases ft (okO d i j)with e|e
 .unfold okO at e;simp only[Yf]at e;obtain⟨⟨⟨⟨⟨o1,o2⟩,o3⟩,o4⟩,o5⟩,o6⟩:=e;unfold BV ZP at h;rw[o1,o2,zP _ _ _ o3,show Xa ((VM d i j).take r)=true from zP _ _ _ o4]at h;cases h
 .exact e
structure Px (d:Zv) (i j:Nat):Prop where
 v:QS d
 hi:i<d.Basic.length
 hj:j<d.Free.length
 nz:(Vi d i j).Num≠0
section
variable{d:Zv}{i j:Nat}(h:Px d i j)
include h
theorem Px.cj:j<(d.Cells.getD i []).length:=by have:=(Hq h.v h.hi h.hj).1;have:=h.hj;omega
theorem Px.va:vR (Vi d i j)=true:=bO (Hq h.v h.hi h.hj).2.1 h.cj
theorem Px.row{l:List Zb}(hl:l.length=d.Free.length)(hv:Qr l):Pm l (vals (ZP d i j)) (Vi d i j) j=X7 l (vals (ZP d i j)) j :=
 Pn h.cj (bO hv (by have:=h.hj;omega)) h.va h.nz
theorem Px.plen:(vals (ZP d i j)).length=d.Free.length:=by
 unfold ZP;rw[QR,ZF2];exact(Hq h.v h.hi h.hj).1
omit h in
theorem ZFF:BV d i j 0=(Xa (ZP d i j) && (US d i j).isSome):=by simp[BV,Xa]
end
theorem Ug(n:Int):W7 n=some (.agg ((⟨n,1⟩:Zb).c.map .t),[]):=Ww.2.2.2.2 _ _ rfl
def ZSR{O:List (Option Zb)}{k:Nat}(h:Xa (O.take k)=false):Xa O=false:=by
 rcases ft (Xa O)with e|e
 .rw[show Xa (O.take k)=true from zP _ _ _ e]at h;cases h
 .exact e
section
variable{d:Zv}{i j:Nat}(h:Px d i j)
include h
theorem ZFG:(UT d i j).length=d.Free.length:=by unfold UT;rw[tD];exact h.v.lk
theorem ZFH{k:Nat}(hk:k<d.Free.length):(UT d i j).getD k none=Jd k j (d.Costs.getD k r0) (d.Costs.getD j r0) ((vals (ZP d i j)).getD k r0):=ZrH _ _ _ (by have:=h.v.lk;omega)
omit h in
theorem Py(e:okO d i j=false):K1 d i j=Pv:=by unfold K1;rw[e,Yb Om]
omit h in
theorem ZFI{k:Nat}(hl:d.Limits.length=d.Cells.length)(e:(BV d i j d.Cells.length && Xa ((UT d i j).take k))=false):okO d i j=false:=by
 rw[ZFE hl];rcases ft (BV d i j d.Cells.length)with e1|e1
 .rw[e1,Yk]at e;rw[ZSR e];simp
 .rw[e1];rfl
omit h in
theorem tQ(V U l:Zb)(B F:V2)(C:List (List Zb))(L K p:List Zb)(k:Int):lD d V l U B F false C L K j false p k false=some Pv:=by
 apply Wx.2.2.1.2;rw[Yb Om];rfl
theorem j5c(V U:Zb)(k:Int):lD d V (W6 d i j) U (d.Basic.set i (d.Free.getD j 0)) (d.Free.set j (d.Basic.getD i 0)) false (Uf d i j d.Cells.length) (vals (VM d i j)) (vals (UT d i j)) j (BV d i j d.Cells.length && Xa (UT d i j)) (vals (ZP d i j)) k false=some (K1 d i j):=by
 have hlk:=h.v.lk;have hj:=h.hj;have hl:d.Limits.length=d.Cells.length:=by have:=h.v.ll;have:=h.v.lc;omega
 rcases ft (BV d i j d.Cells.length && Xa (UT d i j))with e|e
 .rw[e];apply Wx.2.2.1.2;rw[Ya rfl];refine⟨E,_,Cc E,_,_,ZFC _ _,_,_,ZSL _ _,?_⟩;have hO:okO d i j=(Kz d i j).isSome:=by rw[ZFE hl,e,Yk]
  have e1:BV d i j d.Cells.length=true:=by simp only[Yf]at e;exact e.1
  have eL:(US d i j).isSome=true:=by unfold BV at e1;simp only[Yf]at e1;exact e1.1.2
  obtain⟨lim,aW⟩:=Option.isSome_iff_exists.1 eL;have eV:W6 d i j=lim:=by unfold W6;rw[aW];rfl
  have eP:Kz d i j=(Wb (d.Costs.getD j r0) lim).bind (V8 d.Value):=by
   unfold Kz;rw[aW];exact ZSz h.v.vv (bO h.v.vk E) (JH aW)
  unfold K1;rw[hO,eP,eV]
  cases hm:Wb (d.Costs.getD j r0) lim with
  |none=>rfl
  |some y =>
   rw[Ya (by rfl)]
   cases ha:V8 d.Value y with
   |none=>simp only[Option.getD_some,Option.bind_some,ha];rfl
   |some z =>
    simp only[Option.getD_some,Option.bind_some,ha,Option.isSome_some,if_true];have e2:Uf d i j d.Cells.length=(Je d i j).map vals:=by
     unfold Uf;rw[<-bR d i j,Yw]
    have e3:Kz d i j=some z:=by rw[eP,hm];exact ha
    rw[e2];unfold bQ Wr;rw[e3];rfl
 .rw[e,tQ,Py (ZFI (k:=(UT d i j).length) hl (by rw[Yw];exact e))]
theorem Abt(V U:Zb):∀k,k<=d.Free.length->lB d V (W6 d i j) U (d.Basic.set i (d.Free.getD j 0)) (d.Free.set j (d.Basic.getD i 0)) false (Uf d i j d.Cells.length) (vals (VM d i j)) (vals ((UT d i j).take k)) j (BV d i j d.Cells.length && Xa ((UT d i j).take k)) (vals (ZP d i j)) k=some (K1 d i j):=by
 have hlk:=h.v.lk;have hn:=h.v.n;have hj:=h.hj;have hpl:=h.plen;have hcl:=ZFG h;have hl:d.Limits.length=d.Cells.length:=by have:=h.v.ll;have:=h.v.lc;omega
 refine down _ ?_ ?_
 .grind [Wx.2.1.1.2,List.take_length,j5c]
 .intro k hk ih;apply Wx.2.1.1.2;rw[An,wS hk E];rcases ft (BV d i j d.Cells.length && Xa ((UT d i j).take k))with e|e
  .rw[e,Ya rfl];rw[Jh E,Pu E,<-Bool.and_assoc,e,Yk,ZFH h hk,Jd]at ih;refine⟨E,_,Cc E,?_⟩;by_cases ej:k=j
   .rw[An];rw[Ya ej]at ih;exact⟨_,Ug 0,E,_,Cc E,_,Cc E,_,_,QU _ _ _,by rw[QR,Y0];omega,ih⟩
   .rw[Ao];rw[Yb ej]at ih;exact⟨E,_,Cc E,_,Cc E,_,_,QU _ _ _,by rw[QR,Y0];omega,ih⟩
  .grind [tQ,Py,ZFI]
theorem Abu(V U:Zb):lA d V (W6 d i j) U (d.Basic.set i (d.Free.getD j 0)) (d.Free.set j (d.Basic.getD i 0)) false (Uf d i j d.Cells.length) (vals (VM d i j)) j (BV d i j d.Cells.length) (vals (ZP d i j)) 0=some (K1 d i j):=by
 have hlk:=h.v.lk;have hn:=h.v.n;have hj:=h.hj;have hpl:=h.plen;have hcl:=ZFG h;apply Wx.1.2.2.1;rw[An,show w (0+1)=((0+1:Nat):Int) by decide];rcases ft (BV d i j d.Cells.length)with e|e
 .rw[e,Ya rfl];have ih:=Abt h V U (0+1) E;rw[Jh E,Pu E,ZFH h E,Jd,e,Yk]at ih;refine⟨E,_,Cc (i:=0) E,?_⟩;by_cases ej:0=j
  .rw[An];rw[Ya ej]at ih;exact⟨_,Ug 0,E,_,Cc E,_,Cc (i:=0) E,_,_,QU _ _ _,by simpa[Xa,vals]using ih⟩
  .rw[Ao];rw[Yb ej]at ih;exact⟨E,_,Cc E,_,Cc (i:=0) E,_,_,QU _ _ _,by simpa[Xa,vals]using ih⟩
 .rw[e,Yb Om,Py (tP e)];apply Wx.2.1.2.1;rw[Yb Om];rfl
theorem Abv(V U:Zb)(C:List (List Zb))(L:List Zb):lA d V (W6 d i j) U (d.Basic.set i (d.Free.getD j 0)) (d.Free.set j (d.Basic.getD i 0)) false C L j false (vals (ZP d i j)) 0=some Pv:=by
 have hn:=h.v.n;apply Wx.1.2.2.1;rw[An,Yb Om];apply Wx.2.1.2.1;rw[Yb Om];rfl
theorem tR(V U:Zb)(C:List (List Zb))(L:List Zb):ZoS d V (vals (ZP d i j)) (W6 d i j) U (d.Basic.set i (d.Free.getD j 0)) (d.Free.set j (d.Basic.getD i 0)) false C L j false 0=some Pv:=by
 have hn:=h.v.n;apply Wx.2.2.1.1;rw[An,Yb Om];apply Wx.2.2.2.1;rw[Yb Om];rfl
theorem f_3(V U:Zb):ZoR d V (vals (ZP d i j)) (W6 d i j) U (d.Basic.set i (d.Free.getD j 0)) (d.Free.set j (d.Basic.getD i 0)) j false 0=some Pv:=by
 have hn:=h.v.n;apply Wx.1.2.1.1;rw[An,Yb Om];apply Wx.2.1.1.1;rw[Yb Om];rfl
theorem l_1(V U:Zb)(res:XR){r:Nat}(hr:r<d.Basic.length)(c:MY d V (vals (ZP d i j)) (W6 d i j) U (d.Basic.set i (d.Free.getD j 0)) (d.Free.set j (d.Basic.getD i 0)) false ([vals (X7 (d.Cells.getD r []) (vals (ZP d i j)) j)]) ([(Ct (d.Limits.getD r r0) (Vi d r j) (W6 d i j)).getD r0]) i j (Xa (X7 (d.Cells.getD r []) (vals (ZP d i j)) j) && (Ct (d.Limits.getD r r0) (Vi d r j) (W6 d i j)).isSome) (w ((r:Int)+1))=some res):∀k,k<=d.Free.length->kY d V (vals (ZP d i j)) (W6 d i j) U (d.Basic.set i (d.Free.getD j 0)) (d.Free.set j (d.Basic.getD i 0)) (vals ((X7 (d.Cells.getD r []) (vals (ZP d i j)) j).take k)) i j (Xa ((X7 (d.Cells.getD r []) (vals (ZP d i j)) j).take k)) r k=some res:=by
 have hlc:=h.v.lc;have hll:=h.v.ll;have hn:=h.v.n;have hj:=h.hj;have hpl:=h.plen;obtain⟨hc1,hc2,hc3⟩:=Hq h.v hr hj;have hO:(X7 (d.Cells.getD r []) (vals (ZP d i j)) j).length=d.Free.length:=by rw[tD];exact hc1
 refine down _ ?_ ?_
 .apply Wx.1.1.2.2;rw[Ao,<-hO,Yw];refine⟨E,_,Cc E,_,Hp E,E,_,hc3,_,_,QU _ _ _,?_⟩
  grind
 .intro k hk ih;apply Wx.1.1.2.2;rw[An,wS hk E];rw[Jh E,Pu E,ZrH _ _ _ E,Jd]at ih;have hlen:(vals ((X7 (d.Cells.getD r []) (vals (ZP d i j)) j).take k)).length+1<=68719476736:=by rw[QR,Y0];omega
  refine⟨E,_,Hp E,E,_,Cc E,?_⟩;by_cases ej:k=j
  .rw[An];rw[Ya ej]at ih;refine⟨_,Ug 0,E,_,hc3,_,Cc E,_,_,QU _ _ _,?_⟩
   grind
  .rw[Ao];rw[Yb ej]at ih;refine⟨E,_,hc3,_,Cc E,_,_,QU _ _ _,?_⟩
   grind
theorem Abw(V U:Zb)(C:List (List Zb))(L:List Zb)(hC:C.length<=1000)(hL:L.length<=1000)(res:XR){r:Nat}(hr:r<d.Basic.length)(c:Ij d V (W6 d i j) U (d.Basic.set i (d.Free.getD j 0)) (d.Free.set j (d.Basic.getD i 0)) false (C++[vals (X7 (d.Cells.getD r []) (vals (ZP d i j)) j)]) (L++[(Ct (d.Limits.getD r r0) (Vi d r j) (W6 d i j)).getD r0]) i j (Xa (X7 (d.Cells.getD r []) (vals (ZP d i j)) j) && (Ct (d.Limits.getD r r0) (Vi d r j) (W6 d i j)).isSome) (vals (ZP d i j)) (w ((r:Int)+1))=some res):∀k,k<=d.Free.length->kZ d V (W6 d i j) U (d.Basic.set i (d.Free.getD j 0)) (d.Free.set j (d.Basic.getD i 0)) false C L (vals ((X7 (d.Cells.getD r []) (vals (ZP d i j)) j).take k)) i j (Xa ((X7 (d.Cells.getD r []) (vals (ZP d i j)) j).take k)) (vals (ZP d i j)) r k=some res:=by
 have hlc:=h.v.lc;have hll:=h.v.ll;have hn:=h.v.n;have hj:=h.hj;have hpl:=h.plen;obtain⟨hc1,hc2,hc3⟩:=Hq h.v hr hj;have hO:(X7 (d.Cells.getD r []) (vals (ZP d i j)) j).length=d.Free.length:=by rw[tD];exact hc1
 refine down _ ?_ ?_
 .apply Wx.1.2.1.2;rw[Ao,<-hO,Yw];refine⟨E,_,Cc E,_,Hp E,E,_,hc3,_,_,QU _ _ _,?_⟩
  grind
 .intro k hk ih;apply Wx.1.2.1.2;rw[An,wS hk E];rw[Jh E,Pu E,ZrH _ _ _ E,Jd]at ih;have hlen:(vals ((X7 (d.Cells.getD r []) (vals (ZP d i j)) j).take k)).length+1<=68719476736:=by rw[QR,Y0];omega
  refine⟨E,_,Hp E,E,_,Cc E,?_⟩;by_cases ej:k=j
  .rw[An];rw[Ya ej]at ih;refine⟨_,Ug 0,E,_,hc3,_,Cc E,_,_,QU _ _ _,?_⟩
   grind
  .rw[Ao];rw[Yb ej]at ih;refine⟨E,_,hc3,_,Cc E,_,_,QU _ _ _,?_⟩
   grind
theorem Abx(V U:Zb)(C:List (List Zb))(L:List Zb)(hC:C.length<=1000)(hL:L.length<=1000)(res:XR){r:Nat}(hr:r<d.Basic.length)(c:MY d V (vals (ZP d i j)) (W6 d i j) U (d.Basic.set i (d.Free.getD j 0)) (d.Free.set j (d.Basic.getD i 0)) false (C++[vals (X7 (d.Cells.getD r []) (vals (ZP d i j)) j)]) (L++[(Ct (d.Limits.getD r r0) (Vi d r j) (W6 d i j)).getD r0]) i j (Xa (X7 (d.Cells.getD r []) (vals (ZP d i j)) j) && (Ct (d.Limits.getD r r0) (Vi d r j) (W6 d i j)).isSome) (w ((r:Int)+1))=some res):∀k,k<=d.Free.length->lC d V (vals (ZP d i j)) (W6 d i j) U (d.Basic.set i (d.Free.getD j 0)) (d.Free.set j (d.Basic.getD i 0)) false C L (vals ((X7 (d.Cells.getD r []) (vals (ZP d i j)) j).take k)) i j (Xa ((X7 (d.Cells.getD r []) (vals (ZP d i j)) j).take k)) r k=some res:=by
 have hlc:=h.v.lc;have hll:=h.v.ll;have hn:=h.v.n;have hj:=h.hj;have hpl:=h.plen;obtain⟨hc1,hc2,hc3⟩:=Hq h.v hr hj;have hO:(X7 (d.Cells.getD r []) (vals (ZP d i j)) j).length=d.Free.length:=by rw[tD];exact hc1
 refine down _ ?_ ?_
 .apply Wx.2.1.2.2;rw[Ao,<-hO,Yw];refine⟨E,_,Cc E,_,Hp E,E,_,hc3,_,_,QU _ _ _,?_⟩
  grind
 .intro k hk ih;apply Wx.2.1.2.2;rw[An,wS hk E];rw[Jh E,Pu E,ZrH _ _ _ E,Jd]at ih;have hlen:(vals ((X7 (d.Cells.getD r []) (vals (ZP d i j)) j).take k)).length+1<=68719476736:=by rw[QR,Y0];omega
  refine⟨E,_,Hp E,E,_,Cc E,?_⟩;by_cases ej:k=j
  .rw[An];rw[Ya ej]at ih;refine⟨_,Ug 0,E,_,hc3,_,Cc E,_,_,QU _ _ _,?_⟩
   grind
  .rw[Ao];rw[Yb ej]at ih;refine⟨E,_,hc3,_,Cc E,_,_,QU _ _ _,?_⟩
   grind
theorem tS(V U:Zb):∀r,r<=d.Basic.length->i<r->Ij d V (W6 d i j) U (d.Basic.set i (d.Free.getD j 0)) (d.Free.set j (d.Basic.getD i 0)) false (Uf d i j r) (vals ((VM d i j).take r)) i j (BV d i j r) (vals (ZP d i j)) r=some (K1 d i j):=by
 have hm:=h.v.m;have hlc:=h.v.lc;have hll:=h.v.ll;have hn:=h.v.n;have hi:=h.hi;have hj:=h.hj;have hol:=Pw d i j;refine down _ ?_ ?_
 .grind [Wx.1.1.2.1,List.take_of_length_le,Abu]
 .intro r hr ih hir;apply Wx.1.1.2.1;rw[An];rcases ft (BV d i j r)with e|e
  .rw[e,Ya rfl,Ao];have ih:=ih E;rw[tM d i j E,tN d i j E E,e,Yk,Ao,Ao,Jh E,bS d i j E,Ao]at ih;have:=Abw h V U (Uf d i j r) (vals ((VM d i j).take r)) (by simp[Uf];omega) (by rw[QR,Y0];omega) _ hr (by rw[wS hr E];exact ih) 0 (Yc _);simpa[Xa,vals]using this
  .grind [Abv,Py,tP]
theorem Aby(V U:Zb):∀r,r<=i->0<r->MY d V (vals (ZP d i j)) (W6 d i j) U (d.Basic.set i (d.Free.getD j 0)) (d.Free.set j (d.Basic.getD i 0)) false (Uf d i j r) (vals ((VM d i j).take r)) i j (BV d i j r) r=some (K1 d i j):=by
 have hm:=h.v.m;have hlc:=h.v.lc;have hll:=h.v.ll;have hn:=h.v.n;have hi:=h.hi;have hj:=h.hj;have hol:=Pw d i j;refine down _ ?_ ?_
 .intro hr;apply Wx.1.2.2.2;rw[An,wS (show i<d.Basic.length by omega) E];rcases ft (BV d i j i)with e|e
  .rw[e,Ya rfl,Ya rfl];have ih:=tS h V U (i+1) E E;rw[tM d i j E,tO d E E,e,Ya rfl,Jh E,bS d i j E,Ya rfl]at ih;exact⟨by simp[Uf];omega,by rw[QR,Y0];omega,ih⟩
  .grind [tR,Py,tP]
 .intro r hr ih hir;have hr':r<d.Basic.length:=by omega
  apply Wx.1.2.2.2;rw[An];rcases ft (BV d i j r)with e|e
  .rw[e,Ya rfl,Ao];have ih:=ih E;rw[tM d i j E,tN d i j E E,e,Yk,Ao,Ao,Jh E,bS d i j E,Ao]at ih;have:=Abx h V U (Uf d i j r) (vals ((VM d i j).take r)) (by simp[Uf];omega) (by rw[QR,Y0];omega) _ hr' (by rw[wS hr' E];exact ih) 0 (Yc _);simpa[Xa,vals]using this
  .grind [tR,Py,tP]
theorem l_2(V U:Zb):ZoP d V (vals (ZP d i j)) (W6 d i j) U (d.Basic.set i (d.Free.getD j 0)) (d.Free.set j (d.Basic.getD i 0)) i j (BV d i j 0) 0=some (K1 d i j):=by
 have hm:=h.v.m;have hlc:=h.v.lc;have hll:=h.v.ll;have hn:=h.v.n;have hi:=h.hi;have hj:=h.hj;have hol:=Pw d i j;apply Wx.1.1.1.2;rw[An];have w1:w (0+1)=((0+1:Nat):Int):=by decide
 rcases ft (BV d i j 0)with e|e
 .rw[e,Ya rfl];by_cases e0:i=0
  .rw[An,w1];have ih:=tS h V U (0+1) E E;have e2:(BV d i j 0 && (Xa (ZP d i j) && (US d i j).isSome))=BV d i j 0:=by rw[ZFF,Bool.and_self]
   rw[tM d i j E,tN d i j E E,Ya e0.symm,Ya e0.symm,e2,e,Jh E,bS d i j E,Ya e0.symm]at ih;simpa[Uf,vals,W6]using ih
  .rw[Ao];have ih:=Aby h V U (0+1) E E;rw[tM d i j E,tN d i j E E,e,Yk,Ao,Ao,Jh E,bS d i j E,Ao]at ih;have:=l_1 h V U _ (show 0<d.Basic.length by omega) (by rw[show((0:Nat):Int)+1=0+1 from rfl,w1];simpa[Uf,vals]using ih) 0 (Yc _);simpa[Xa,vals]using this
 .grind [f_3,Py,tP]
theorem tT(V:Zb):∀k,k<=d.Free.length->kX d V (Vi d i j) (vals ((ZP d i j).take k)) i j (Xa ((ZP d i j).take k)) k=some (K1 d i j):=by
 have hm:=h.v.m;have hlc:=h.v.lc;have hll:=h.v.ll;have hn:=h.v.n;have hi:=h.hi;have hj:=h.hj;have hol:=Pw d i j;have hpl:=h.plen;rw[QR]at hpl;obtain⟨hc1,hc2,hc3⟩:=Hq h.v hi hj;refine down _ ?_ ?_
 .apply Wx.1.1.1.1;rw[Ao,<-hpl,Yw];have fin:=l_2 h V ⟨0,0⟩;rw[ZFF]at fin;refine⟨E,_,Cc E,_,_,ZrF _ _,?_⟩;rcases ft (Xa (ZP d i j))with e|e
  .rw[e,Yk]at fin;rw[e,Ya rfl];exact⟨E,E,E,_,Ln hj,_,Ln hi,fin⟩
  .rw[e,FM]at fin;rw[e,Yb Om];exact⟨E,E,E,_,Ln hj,_,Ln hi,fin⟩
 .intro k hk ih;apply Wx.1.1.1.1;rw[An,wS hk E];rw[Jh E,Pu E,show(ZP d i j).getD k none=_ from ZSQ (d.Cells.getD i []) j E]at ih;have hlen:(vals ((ZP d i j).take k)).length+1<=68719476736:=by rw[QR,Y0];omega
  refine⟨E,_,Hp E,E,_,Cc E,_,_,ZrF _ _,?_⟩;by_cases ej:k=j
  .rw[An];rw[Ya ej]at ih;refine⟨_,Ug 1,_,_,ZrF _ _,?_⟩
   grind
  .grind
theorem ZSS:TC d i j=some (K1 d i j):=by
 have hm:=h.v.m;have hlc:=h.v.lc;have hll:=h.v.ll;have hn:=h.v.n;have hi:=h.hi;have hj:=h.hj;have hol:=Pw d i j;refine Wx.2.2.2.2 _ _ _ _ ⟨_,Z3B h.v,?_⟩;rw[Ya rfl];refine⟨_,ZS _ _ _,?_⟩;rw[ZV ⟨E,E⟩,show Am (i:Int) 0 ((d.Basic.length:Int)-1)=true from ZK.2 ⟨E,E⟩,Ya rfl];refine⟨_,ZS _ _ _,?_⟩;rw[ZV ⟨E,E⟩,show Am (j:Int) 0 ((d.Free.length:Int)-1)=true from ZK.2 ⟨E,E⟩,Ya rfl];refine⟨E,_,Hp E,E,_,(Hq h.v hi hj).2.2,?_⟩;rw[Yb h.nz];have:=tT h ⟨0,0⟩ 0 (Yc _);simpa[Xa,vals]using this
end
def JJ(x:Int):Bool:=Am x (-9) 9
def tU(n:Nat)(r:V2):Bool:=r.all JJ && decide ((r.length:Int)=n)
def QV(p:Program):Bool:=Am p.Objective.length 1 15 && decide ((p.Rows.length:Int)<=64) && decide ((p.Rows.length:Int)=p.Limits.length) && (p.Objective.all JJ && (p.Rows.all (tU p.Objective.length) && p.Limits.all λx=>Am x 0 99))
structure Lo (p:Program):Prop where
 o:p.Objective.length<=1000
 r:p.Rows.length<=1000
 l:p.Limits.length<=1000
 row:∀r∈p.Rows,r.length<=1000
def ZsH{α:Type}(q:α->Bool){xs:List α}{i:Nat}(h:i<xs.length):(xs.drop i).all q=(q xs[i] && (xs.drop (i+1)).all q):=by
 rw[Yg h,Y6]
def chk(n:Nat):XS->V2->Bool
 |r::rs,l::ls=>decide ((r.length:Int)=n) && (Am l 0 99 && (r.all JJ && chk n rs ls))
 |_,_=>true
theorem ZFJ(n:Nat):∀(rs:XS) (ls:V2),rs.length=ls.length->chk n rs ls=(rs.all (tU n) && ls.all λx=>Am x 0 99)
 |[],[],_=>rfl
 |r::rs,l::ls,h=>by
  unfold chk;rw[ZFJ n rs ls (by simpa using h),Y6,Y6];unfold tU
  grind
 |[],_::_,h=>by cases h
 |_::_,[],h=>by cases h
def tV(p:Program){i:Nat}(hi:i<p.Rows.length)(hr:p.Rows[i].length=p.Objective.length)(ho:p.Objective.length<=1000)(b:Bool)(c:Tw p p.Objective.length (w ((i:Int)+1))=some (Bo b,[])):∀k,k<=p.Objective.length->kL p p.Objective.length i k=some (Bo ((p.Rows[i].drop k).all JJ && b),[]):=by
 refine down _ ?_ ?_
 .apply Ww.2.1.2.2
  grind
 .intro k hk ih;apply Ww.2.1.2.2;rw[An,wS hk E,ZsH _ E];refine⟨E,_,gE hi,E,_,gE E,_,ZS _ _ _,?_⟩;rw[show Am p.Rows[i][k] (-9) 9=JJ p.Rows[i][k]from rfl]
  simp_all
def tW(p:Program)(h:Lo p)(hl:p.Rows.length=p.Limits.length):∀i,i<=p.Rows.length->Tw p p.Objective.length i=some (Bo (chk p.Objective.length (p.Rows.drop i) (p.Limits.drop i)),[]):=by
 have h1:=h.o;have h2:=h.r;refine down _ ?_ ?_
 .apply Ww.2.1.2.1;rw[Ao,Yl];rfl
 .intro i hi ih;have hi2:i<p.Limits.length:=by omega
  apply Ww.2.1.2.1;rw[An,Yg hi,Yg hi2,chk];refine⟨E,_,gE hi,?_⟩;by_cases e:(p.Rows[i].length:Int)=p.Objective.length
  .rw[Ya e,decide_eq_true e,Yk];refine⟨_,gE hi2,_,ZS _ _ _,?_⟩;rcases ft (Am p.Limits[i] 0 99)with e2|e2
   .rw[e2,Ya rfl,Yk];have:=tV p hi E h1 _ (by rw[wS hi E];exact ih) 0 (Yc _)
    simp_all
   .simp_all
  .simp_all
def tX(p:Program)(h:Lo p)(hl:p.Rows.length=p.Limits.length):∀k,k<=p.Objective.length->kK p p.Objective.length k=some (Bo ((p.Objective.drop k).all JJ && chk p.Objective.length p.Rows p.Limits),[]):=by
 have h1:=h.o;refine down _ ?_ ?_
 .apply Ww.2.1.1;rw[Ao,Yl,List.all_nil,Yk];simpa using tW p h hl 0 (Yc _)
 .intro k hk ih;apply Ww.2.1.1;rw[An,wS hk E,ZsH _ hk];refine⟨E,_,gE hk,_,ZS _ _ _,?_⟩;rw[show Am p.Objective[k] (-9) 9=JJ p.Objective[k]from rfl]
  simp_all
def ZFK{p:Program}(h:Lo p):Tv p=some (Bo (QV p),[]):=by
 refine Ww.2.2.1.1 _ _ ⟨_,ZS _ _ _,?_⟩;unfold QV;rcases ft (Am (p.Objective.length:Int) 1 15)with e|e
 .rw[e,Ya rfl,Yk];by_cases e2:64<(p.Rows.length:Int)
  .grind
  rw[Yb e2,decide_eq_true (show(p.Rows.length:Int)<=64 by omega),Yk];by_cases e3:(p.Rows.length:Int)=(p.Limits.length:Int)
  .rw[Ya e3,decide_eq_true e3,Yk];have:=tX p h E 0 (Yc _)
   grind [ZFJ]
  .simp_all
 .simp_all
def wh(l:V2):List Zb:=l.map λn=>⟨n,1⟩
def Qs(n:Nat):V2:=(List.range n).map λk:Nat=>(k:Int)
def UV(n m:Nat):V2:=(List.range m).map λi:Nat=>(n:Int)+i
def VN(p:Program):Zv:=⟨UV p.Objective.length p.Rows.length,Qs p.Objective.length,p.Rows.map wh,wh p.Limits,wh p.Objective,⟨0,1⟩⟩
def ZST(n:Nat):Qs (n+1)=Qs n++[(n:Int)]:=by simp[Qs,Di]
def ZFL(n m:Nat):UV n (m+1)=UV n m++[(n:Int)+m]:=by simp[UV,Di]
def ZrI(n:Nat):(Qs n).length=n:=by simp[Qs]
def Z3D(n m:Nat):(UV n m).length=m:=by simp[UV]
def bT{l:V2}{i:Nat}(h:i<l.length):wh (l.take (i+1))=wh (l.take i)++[⟨l[i],1⟩]:=by
 unfold wh;rw[Yx h,Y5];rfl
def tY(l:V2):(wh l).length=l.length:=by simp[wh]
def ZFM{l:XS}{i:Nat}(h:i<l.length):(l.take (i+1)).map wh=(l.take i).map wh++[wh l[i]]:=by
 grind [List.take_succ_eq_append_getElem]
def tZ{n i:Nat}(hn:n<=1000)(hi:i<=1000):w ((n:Int)+(i:Int))=(n:Int)+i:=ZV ⟨E,E⟩
section
variable{p:Program}(h:Lo p)(hm:p.Rows≠[])(hn:p.Objective≠[])
include h hm hn
end
structure OkP (p:Program):Prop where
 o:1<=p.Objective.length/\p.Objective.length<=15
 r:p.Rows.length<=64
 l:p.Rows.length=p.Limits.length
 row:∀r∈p.Rows,r.length=p.Objective.length
 lim:∀x∈p.Limits,0<=x/\x<=99
 cs:(∀x∈p.Objective,JJ x=true)/\∀r∈p.Rows,∀x∈r,JJ x=true
theorem ZrJ{p:Program}(h:QV p=true):OkP p:=by
 unfold QV at h;simp only[Yf,decide_eq_true_eq]at h;obtain⟨⟨⟨h1,h2⟩,h3⟩,h4,h5,h6⟩:=h;have h1:=ZK.1 h1;refine⟨E,E,E,λr hr=>?_,λx hx=>ZK.1 (Ym.1 h6 x hx),λx hx=>Ym.1 h4 x hx,λr hr x hx=>?_⟩
 .have:=Ym.1 h5 r hr;unfold tU at this
  grind
 .have:=Ym.1 h5 r hr;unfold tU at this
  simp_all
section
variable{p:Program}(h:OkP p)(hm:p.Rows≠[])
include h hm
omit hm in
theorem ZSU(V V1:Zb)(F:V2)(K:List Zb)(res:XR){i:Nat}(hi:i<p.Rows.length)(c:MT p V V1 ([w ((p.Objective.length:Int)+i)]) F ([wh p.Rows[i]]) ([⟨p.Limits.getD i 0,1⟩]) K p.Objective.length (w ((i:Int)+1))=some res):∀k,k<=p.Objective.length->kO p V V1 F K (wh (p.Rows[i].take k)) p.Objective.length i k=some res:=by
 have h1:=h.o;have h2:=h.r;have hl:=h.l;have hr:=h.row _ (Ye hi);refine down _ ?_ ?_
 .apply Wn.1.1.2.2;rw[Ao,<-hr,Yw,hr];exact⟨E,_,Ln E,_,Ug _,c⟩
 .intro k hk ih;apply Wn.1.1.2.2;rw[An,wS hk E];rw[bT E]at ih;exact⟨E,_,gE hi,E,_,gE E,_,Ug _,by rw[tY,Y0];omega,ih⟩
omit hm in
theorem ZSV(V V1:Zb)(B F:V2)(C:List (List Zb))(L K:List Zb)(hB:B.length<=1000/\C.length<=1000/\L.length<=1000)(res:XR){i:Nat}(hi:i<p.Rows.length)(c:MT p V V1 (B++[w ((p.Objective.length:Int)+i)]) F (C++[wh p.Rows[i]]) (L++[⟨p.Limits.getD i 0,1⟩]) K p.Objective.length (w ((i:Int)+1))=some res):∀k,k<=p.Objective.length->kP p V V1 B F C L K (wh (p.Rows[i].take k)) p.Objective.length i k=some res:=by
 have h1:=h.o;have h2:=h.r;have hl:=h.l;have hr:=h.row _ (Ye hi);refine down _ ?_ ?_
 .apply Wn.1.2.1.2;rw[Ao,<-hr,Yw,hr];exact⟨E,E,E,_,Ln E,_,Ug _,E,c⟩
 .intro k hk ih;apply Wn.1.2.1.2;rw[An,wS hk E];rw[bT E]at ih;exact⟨E,_,gE hi,E,_,gE E,_,Ug _,by rw[tY,Y0];omega,ih⟩
omit h hm in
theorem Pz{l:V2}{i:Nat}(h:i<l.length):l[i]=l.getD i 0:=by
 simp_all
omit hm in
theorem ZSW(V V1:Zb)(F:V2)(K:List Zb):∀i,i<=p.Rows.length->0<i->MT p V V1 (UV p.Objective.length i) F ((p.Rows.take i).map wh) (wh (p.Limits.take i)) K p.Objective.length i=some (bQ true ⟨UV p.Objective.length p.Rows.length,F,p.Rows.map wh,wh p.Limits,K,V1⟩):=by
 have h1:=h.o;have h2:=h.r;have hl:=h.l;refine down _ ?_ ?_
 .intro _;apply Wn.1.2.1.1;rw[Ao,Yw,hl,Yw];rfl
 .intro i hi ih h0;apply Wn.1.2.1.1;rw[An];have ih:=ih E;rw[ZFL,ZFM hi,bT E,Pz E]at ih;have:=ZSV h V V1 (UV p.Objective.length i) F ((p.Rows.take i).map wh) (wh (p.Limits.take i)) K (by rw[Z3D,Y1,Y0,tY,Y0];omega) _ hi (by rw[wS hi E,tZ E E];exact ih) 0 (Yc _);simpa[wh]using this
theorem ZSX(V V1:Zb):∀k,k<=p.Objective.length->0<k->kN p V V1 (Qs k) (wh (p.Objective.take k)) p.Objective.length k=some (bQ true ⟨UV p.Objective.length p.Rows.length,Qs p.Objective.length,p.Rows.map wh,wh p.Limits,wh p.Objective,V1⟩):=by
 have h1:=h.o;have h2:=h.r;have hl:=h.l;refine down _ ?_ ?_
 .intro _;apply Wn.1.1.1.2;rw[Ao,Yw];have hp:0<p.Rows.length:=CE.2 hm;apply Wn.1.1.2.1;rw[An];have ih:=ZSW h V V1 (Qs p.Objective.length) (wh p.Objective) (0+1) E E;rw[ZFL,ZFM hp,bT E,Pz E]at ih;have:=ZSU h V V1 (Qs p.Objective.length) (wh p.Objective) (bQ true ⟨UV p.Objective.length p.Rows.length,Qs p.Objective.length,p.Rows.map wh,wh p.Limits,wh p.Objective,V1⟩) hp (by rw[wS hp E,tZ E E];simpa[UV,wh]using ih) 0 (Yc _);simpa[wh]using this
 .intro k hk ih h0;apply Wn.1.1.1.2;rw[An,wS hk E];have ih:=ih E;rw[ZST,bT hk]at ih;exact⟨by rw[ZrI];omega,E,_,gE hk,_,Ug _,by rw[tY,Y0];omega,ih⟩
end
def ZSY{p:Program}(h:Lo p)(hm:p.Rows≠[]):kM p=some (if QV p=true then bQ true (VN p)else Pv):=by
 refine Wn.1.2.2.1 _ _ ⟨_,ZFK h,?_⟩;rcases ft (QV p)with e|e
 .rw[e,Ya rfl,Ya rfl];have ho:=ZrJ e;have h1:=ho.o;refine⟨_,Ug 0,?_⟩;apply Wn.1.1.1.1;rw[An,show w (0+1)=((0+1:Nat):Int) by decide];have:=ZSX ho hm ⟨0,0⟩ ⟨0,1⟩ (0+1) E E;rw[bT (show 0<p.Objective.length by omega)]at this;exact⟨E,_,gE (i:=0) E,_,Ug _,by simpa[Qs,wh,VN]using this⟩
 .rw[e,Yb Om,Yb Om];rfl
def t7{x:Int}(h:-2147483647<=x/\x<=2147483647):vR ⟨x,1⟩=true:=UR.2 ⟨by simp only;omega,by simp only;omega,Z⟩
def PA{l:V2}(h:∀x∈l,-2147483647<=x/\x<=2147483647):Qr (wh l):=by
 intro r hr;obtain⟨x,hx,rfl⟩:=Yn.1 hr;exact t7 (h x hx)
def ZFN{x:Int}(h:JJ x=true):-2147483647<=x/\x<=2147483647:=by have:=ZK.1 h;omega
theorem ZFO{p:Program}(h:OkP p):Lm (VN p):=by
 have h1:=h.o;have h2:=h.r;refine⟨⟨by simp[VN,UV];omega,by simp[VN,Qs];omega,by simp[VN,UV],by simp[VN,UV,wh,h.l],by simp[VN,Qs,wh],?_,?_,?_,?_,v0⟩,?_,by simp[VN]⟩
 .intro v hv;simp only[VN,Z3D,ZrI]at hv;simp only[VN,Yp];rcases D7 v p.Objective.length with hl|hl
  .right;exact Yn.2 ⟨v,Y8.2 hl,rfl⟩
  .left;exact Yn.2 ⟨v-p.Objective.length,Y8.2 E,E⟩
 .intro r hr;obtain⟨x,hx,rfl⟩:=Yn.1 hr;refine⟨?_,PA λy hy=>ZFN (h.cs.2 x hx y hy)⟩;rw[tY];simp[VN,ZrI,h.row x hx]
 .exact PA λx hx=>by have:=h.lim x hx;omega
 .exact PA λx hx=>ZFN (h.cs.1 x hx)
 .intro r hr;obtain⟨x,hx,rfl⟩:=Yn.1 hr;exact(h.lim x hx).1
def t8:XR:=(.tup [.agg [I 0,I 0,.own 0,.own 1],Bo false],[.arr 293 2 true (([]:List Zb).map Zb.c),.arr 293 2 true (([]:List Zb).map Zb.c)])
def bU(v:Zb)(P D:List Zb):XR:=(.tup [.agg [I v.Num,I v.Den,.own 0,.own 1],Bo true],[.arr 293 2 true (P.map Zb.c),.arr 293 2 true (D.map Zb.c)])
def Ans(o:Option Zv)(r:Rs):Prop:=match o with
 |none=>r=some t8
 |some d=>∃P D:List Zb,r=some (bU d.Value P D)
structure ZrK (p:Program) (d:Zv):Prop where
 g:Lm d
 m:d.Basic.length=p.Rows.length
 n:d.Free.length=p.Objective.length
def uA{xs:List Zb}{k:Int}(h0:0<=k)(h:k<xs.length):∃e,xs[k.toNat]?=some e:=⟨_,gR (i:=k.toNat) E⟩
def ZFP{n:Nat}(h:n<=1000):n*8<=room:=by unfold room;omega
def ZSZ{p:Program}{d:Zv}(h:ZrK p d)(h1:¬BM d<0)(h2:¬Cw d (BM d).toNat<0)(ok:okO d (Cw d (BM d).toNat).toNat (BM d).toNat=true):ZrK p (Wr d (Cw d (BM d).toNat).toNat (BM d).toNat) :=
 ⟨ZF6 h.g h1 h2 ok,by simp[Wr,h.m],by simp[Wr,h.n]⟩
def ZTa{d:Zv}(h:Lm d)(h1:¬BM d<0)(h2:¬Cw d (BM d).toNat<0):Px d (Cw d (BM d).toNat).toNat (BM d).toNat:=by
 have hk:=h.v.lk;rcases Z36 d with e|⟨e1,e2,e3⟩
 .omega
 rcases ZF5 d (BM d).toNat with l|⟨l1,l2,l3,l4⟩
 .omega
 refine⟨h.v,E,E,?_⟩;unfold FG at l3;omega
def bV(p:Program):Option Zv:=if QV p=true then Ll 300 (VN p)else none
section
variable{p:Program}{d:Zv}(h:ZrK p d)(hm:p.Rows≠[])
include h
theorem uB(V:Zb):∀i,i<=d.Free.length->∀x x1:List Zb,x1.length=p.Rows.length->∃P D:List Zb,TH p V d d.Value x x1 i=some (bU d.Value P D):=by
 have hv:=ZF9 h.g.v;have h1:=h.g.v.n;have h2:=h.g.v.m;have h3:=h.m;have h4:=h.n;have hlk:=h.g.v.lk;refine down _ ?_ ?_
 .intro x x1 hx;refine⟨x,x1,XL.1.2.2.1 _ _ _ _ _ _ _ _ ?_⟩;rw[Ao];rfl
 .intro i hi ih x x1 hx;have hb:=hv d.Free[i] (LE _ (Ye hi));by_cases c:(p.Objective.length:Int)<=d.Free[i]
  .have hq:=tH (bO (k:=i) h.g.v.vk E);obtain⟨P,D,Cx⟩:=ih x (x1.set (d.Free[i]-p.Objective.length).toNat ⟨w (0-(d.Costs.getD i r0).Num),(d.Costs.getD i r0).Den⟩) (by rw[Y7];exact hx);refine⟨P,D,XL.1.2.2.1 _ _ _ _ _ _ _ _ ?_⟩;have hw:w (d.Free[i]-p.Objective.length)=d.Free[i]-p.Objective.length:=ZV ⟨E,E⟩;obtain⟨e,he⟩:=uA (xs:=x1) (k:=d.Free[i]-p.Objective.length) E E;rw[An,wS hi E];refine⟨E,_,gE hi,?_⟩
   grind
  .obtain⟨P,D,Cx⟩:=ih x x1 hx;refine⟨P,D,XL.1.2.2.1 _ _ _ _ _ _ _ _ ?_⟩;rw[An,wS hi E];refine⟨E,_,gE hi,?_⟩;rw[Yb c];exact Cx
theorem uC(V:Zb):∀i,i<=d.Basic.length->∀x x1:List Zb,x.length=p.Objective.length->x1.length=p.Rows.length->∃P D:List Zb,TG p V d d.Value x x1 i=some (bU d.Value P D):=by
 have hv:=ZF9 h.g.v;have h1:=h.g.v.n;have h2:=h.g.v.m;have h3:=h.m;have h4:=h.n;have hll:=h.g.v.ll;refine down _ ?_ ?_
 .intro x x1 hx hx1;obtain⟨P,D,Cx⟩:=uB h V 0 (Yc _) x x1 hx1
  grind [XL.1.2.1.2]
 .intro i hi ih x x1 hx hx1;have hb:=hv d.Basic[i] (LD _ (Ye hi));by_cases c:d.Basic[i]<(p.Objective.length:Int)
  .obtain⟨P,D,Cx⟩:=ih (x.set d.Basic[i].toNat (d.Limits.getD i r0)) x1 (by rw[Y7];exact hx) hx1;refine⟨P,D,XL.1.2.1.2 _ _ _ _ _ _ _ _ ?_⟩;obtain⟨e,he⟩:=uA (xs:=x) (k:=d.Basic[i]) E E;rw[An,wS hi E];refine⟨E,_,gE hi,?_⟩
   grind
  .obtain⟨P,D,Cx⟩:=ih x x1 hx hx1;refine⟨P,D,XL.1.2.1.2 _ _ _ _ _ _ _ _ ?_⟩;rw[An,wS hi E];refine⟨E,_,gE hi,?_⟩;rw[Yb c];exact Cx
theorem uD(V:Zb):∀i,i<=p.Rows.length->∀x x1:List Zb,x.length=p.Objective.length->x1.length=i->∃P D:List Zb,lG p V d d.Value x x1 i=some (bU d.Value P D):=by
 have h2:=h.g.v.m;have h3:=h.m;refine down _ ?_ ?_
 .intro x x1 hx hx1;obtain⟨P,D,Cx⟩:=uC h V 0 (Yc _) x x1 hx hx1
  grind [XL.1.2.1.1]
 .intro i hi ih x x1 hx hx1;obtain⟨P,D,Cx⟩:=ih x (x1++[⟨0,1⟩]) hx (by simp[hx1])
  grind [XL.1.2.1.1,wS,Ug]
include hm in
theorem uE(V:Zb):∀k,k<=p.Objective.length->∀x:List Zb,x.length=k->∃P D:List Zb,lF p V d d.Value x k=some (bU d.Value P D):=by
 have h1:=h.g.v.n;have h4:=h.n;have hp:0<p.Rows.length:=CE.2 hm;refine down _ ?_ ?_
 .intro x hx;obtain⟨P,D,Cx⟩:=uD h V (0+1) E x [⟨0,1⟩] hx rfl;refine⟨P,D,XL.1.1.2.1 _ _ _ _ _ _ _ ?_⟩;rw[Ao];apply XL.1.1.2.2;rw[An,show w (0+1)=((0+1:Nat):Int) by decide]
  grind [Ug]
 .intro k hk ih x hx;obtain⟨P,D,Cx⟩:=ih (x++[⟨0,1⟩]) (by simp[hx])
  grind [XL.1.1.2.1,wS,Ug]
include hm in
theorem Abz(V:Zb):∃P D:List Zb,ZoT p V d d.Value 0=some (bU d.Value P D):=by
 have h1:=h.g.v.n;have h4:=h.n;obtain⟨P,D,Cx⟩:=uE h hm V (0+1) E [⟨0,1⟩] rfl;refine⟨P,D,XL.1.1.1.2 _ _ _ _ _ _ ?_⟩;rw[An,show w (0+1)=((0+1:Nat):Int) by decide]
 grind [Ug]
end
def uF{p:Program}(hm:p.Rows≠[])(V:Zb):∀(f:Nat) (d:Zv),ZrK p d->f<=300->Ans (Ll f d) (GH p V d (300-(f:Int))):=by
 intro f
 induction f with
 |zero =>
  intro d h hf;apply XL.1.1.1.1
  rw[Ao];rfl
 |succ f ih =>
  intro d h hf2;have hk:=h.g.v.lk;unfold Ll;by_cases h1:BM d<0
  .rw[Ya h1];obtain⟨P,D,Cx⟩:=Abz h hm V;refine⟨P,D,XL.1.1.1.1 _ _ _ _ _ ?_⟩;rw[An];refine⟨_,ZrG h.g.v,?_⟩
   simp_all
  rw[Yb h1];obtain⟨j,hj⟩:∃j:Nat,BM d=j:=⟨(BM d).toNat,E⟩;have hjn:j<d.Free.length:=by
   grind [Z36]
  by_cases h2:Cw d (BM d).toNat<0
  .rw[Ya h2];rw[hj,Yj]at h2;apply XL.1.1.1.1;rw[An];refine⟨_,ZrG h.g.v,?_⟩;rw[Yb h1,hj];refine⟨_,Z3C h.g.v hjn,?_⟩;rw[Ya h2];rfl
  rw[Yb h2];have hP:=ZSS (ZTa h.g h1 h2);have hst:=ZSZ h h1 h2;rw[hj,Yj]at h2 hP hst|-;obtain⟨i,hi⟩:∃i:Nat,Cw d j=i:=⟨(Cw d j).toNat,E⟩;rw[hi,Yj]at hP hst|-;have hwr:w ((300-((f+1:Nat):Int))+1)=300-(f:Int):=by rw[ZV ⟨E,E⟩];omega
  unfold K1 at hP;rcases ft (okO d i j)with ok|ok
  .rw[ok,Ya rfl]at hP|-;have ih:=ih (Wr d i j) (hst ok) E;have key:∀r,GH p V (Wr d i j) (300-(f:Int))=some r->GH p V d (300-((f+1:Nat):Int))=some r:=by
    intro r hr;apply XL.1.1.1.1;rw[An];refine⟨_,ZrG h.g.v,?_⟩;rw[Yb h1,hj];refine⟨_,Z3C h.g.v hjn,?_⟩;rw[hi,Ao];refine .inr ⟨_,_,_,_,_,_,_,hP,?_⟩;rw[hwr];exact hr
   cases hs:Ll f (Wr d i j)with
   |none=>rw[hs]at ih;exact key _ ih
   |some d'=>rw[hs]at ih;obtain⟨P,D,Cx⟩:=ih;exact⟨P,D,key _ Cx⟩
  .rw[ok,Yb Om]at hP|-;apply XL.1.1.1.1;rw[An];refine⟨_,ZrG h.g.v,?_⟩;rw[Yb h1,hj];refine⟨_,Z3C h.g.v hjn,?_⟩;rw[hi,Ao];refine .inl ⟨[],[],[],[],[],r0,false,hP,?_⟩;rw[Yb Om];rfl
def ZTb{p:Program}(h:Lo p)(hm:p.Rows≠[]):Ans (bV p) (lE p):=by
 have hI:=ZSY h hm;unfold bV;rcases ft (QV p)with e|e
 .rw[e,Ya rfl]at hI|-;have ho:=ZrJ e;have hs:=uF (p:=p) hm ⟨0,0⟩ 300 (VN p) ⟨ZFO ho,by simp[VN,Z3D],by simp[VN,ZrI]⟩ E;have key:∀r,GH p ⟨0,0⟩ (VN p) (300-((300:Nat):Int))=some r->lE p=some r:=by
   intro r hr;refine XL.1.2.2.2 _ _ ⟨_,_,_,_,_,_,_,hI,?_⟩
   simp_all
  cases hs':Ll 300 (VN p)with
  |none=>rw[hs']at hs;exact key _ hs
  |some d'=>rw[hs']at hs;obtain⟨P,D,Cx⟩:=hs;exact⟨P,D,key _ Cx⟩
 .rw[e,Yb Om]at hI|-;refine XL.1.2.2.2 _ _ ⟨[],[],[],[],[],r0,false,hI,?_⟩;rw[Yb Om];rfl
def ZTc{p:Program}{d:Zv}(h:bV p=some d):Lm d:=by
 unfold bV at h
 grind [ZF7,ZFO,ZrJ]
set_option maxRecDepth 100000 in
def ZTd:∀n:Fin 60,Ac 1 (n.1:Int)=2 ^ n.1:=by decide
theorem ZrL{n:Int}(h0:0<=n)(h:n<60):Ac 1 n=2 ^ n.toNat:=by
 have:=ZTd ⟨n.toNat,E⟩
 grind
theorem ZFQ{n:Int}(h:n<=40):(1:Int)<=2 ^ n.toNat/\(2:Int) ^ n.toNat<=1099511627776:=by
 have h1:(2:Nat) ^ n.toNat<=2 ^ 40:=Nat.pow_le_pow_right Om E
 grind
def PB{p k:Int}(h0:1<=p)(hp:p<=1099511627776)(hk:1<=k)(c:k<=5000):1<=p*k/\p*k<=5497558138880000:=by
 have h1:=Int.mul_le_mul h0 hk E E;have h2:=Int.mul_le_mul hp c E E;omega
theorem uG{k c den:Int}(hk:1<=k/\k<=5000)(hn:0<=c/\c<=40)(hd:den<=4611686018427387904):∀(n:Nat) (p i:Int),den-i=n->0<=i->1<=p->p<=2 ^ c.toNat->lI k den c p i=some (Bo (tF k (2 ^ c.toNat) n p),[]):=by
 have hB:=ZFQ hn.2;intro n
 induction n with
 |zero =>
  intro p i _ _ _ _;apply XL.2.2.1.1
  rw[Ao];rfl
 |succ n ih =>
  intro p i h9 hi h0 hp;have hm:=PB h0 E hk.1 hk.2;apply XL.2.2.1.1;rw[An,ZV (x:=p*k) ⟨E,E⟩,ZrL hn.1 E,tF]
  grind [ZV]
def ZTe{k c cc:Int}(hk:1<=k/\k<=5000)(hn:0<=cc/\cc<=40)(hd:0<=c/\c<=4611686018427387904):ZoX k c cc=some (Bo (tF k (2 ^ cc.toNat) c.toNat 1),[]):=by
 grind [ZFQ,XL.2.2.1.2,uG]
def ZTf{r:Zb}(h:vR r=true):(-2147483647<=r.Num.tdiv r.Den/\r.Num.tdiv r.Den<=2147483647)/\Jg (r.Num.tdiv r.Den*r.Den):=by
 obtain⟨h1,h2,h3⟩:=UU h;have e:(r.Num.tdiv r.Den).natAbs<=r.Num.natAbs:=by rw[Int.natAbs_tdiv];exact Nat.div_le_self _ _
 have hA:-2147483647<=r.Num.tdiv r.Den/\r.Num.tdiv r.Den<=2147483647:=by omega
 have:=QT hA h2;omega
def ZTg{r:Zb}(h:vR r=true):ZoW r=some (I (bP r),[]):=by
 obtain⟨h1,h2⟩:=ZTf h;have h3:=UU h;refine XL.2.1.2.1 _ _ ⟨_,U0 r,?_⟩;rw[h,Ya rfl,ZV (x:=r.Num.tdiv r.Den) ⟨E,E⟩,ZV h2,ZV (x:=r.Num.tdiv r.Den+1) ⟨E,E⟩];refine⟨E,?_⟩;unfold bP;split<;>rfl
def ZTh{r:Zb}(h0:0<=r.Num)(hd:1<=r.Den):0<=bP r:=by
 have:0<=r.Num.tdiv r.Den:=Int.tdiv_nonneg h0 E
 unfold bP;split<;>omega
theorem uH{r:Zb}(h:vR r=true)(h0:0<=r.Num/\r.Num<=40):∀(f:Nat) (k:Int),k=4096-f->1<=k->lK r k=some (I (pfG (2 ^ r.Num.toNat) r.Den.toNat f k),[]):=by
 have h3:=UU h;intro f
 induction f with
 |zero =>
  intro k hk h1;apply XL.2.2.2.1
  rw[Ao];rfl
 |succ f ih =>
  intro k hk h1;apply XL.2.2.2.1;rw[An,ZV (x:=k+1) ⟨E,E⟩,pfG];refine⟨_,ZTe ⟨E,E⟩ h0 ⟨E,E⟩,?_⟩
  grind
theorem ZTi{r:Zb}(h:vR r=true)(h0:0<=r.Num):lJ r=some (I (tG r),[]):=by
 have h3:=UU h;refine XL.2.2.2.2 _ _ ⟨_,U0 r,?_⟩;rw[h,Ya rfl,Ao];by_cases c:40<r.Num
 .rw[Ya c];have hc:=ZTh h0 h3.2.2;refine⟨_,ZTg h,Pq (bP r),XL.2.1.2.2 _ _ ?_,?_⟩
  .unfold Pq
   grind [ZrL]
  .unfold tG;rw[Ya c]
 .rw[Yb c];unfold tG
  grind [uH]
def ZrM(n:Int):Nat->Int->Int
 |0,b=>b
 |f+1,b=>if Ac 1 b<n then ZrM n f (b+1)else b
def PC(n:Int):Int:=if Am n 1 4096=true then ZrM n 12 0 else -1
theorem uI{n:Int}(h:n<=4096):∀(f:Nat) (b:Int),b=12-f->0<=b->j6 n b=some (I (ZrM n f b),[]):=by
 intro f
 induction f with
 |zero =>
  intro b hb h0;refine Wh.2.2.2.1 _ _ _ ⟨E,?_⟩
  rw[show b=12 by omega,Yb (by rw[show Ac 1 12=4096 by decide];omega)];rfl
 |succ f ih =>
  intro b hb h0;refine Wh.2.2.2.1 _ _ _ ⟨E,?_⟩;rw[ZV (x:=b+1) ⟨E,E⟩,ZrM]
  grind
def ZTj(n:Int):ZoA n=some (I (PC n),[]):=by
 refine Wh.2.2.2.2.1 _ _ ⟨_,ZS _ _ _,?_⟩;unfold PC;rcases ft (Am n 1 4096)with e|e
 .grind [uI,ZK]
 .simp_all
def Hr:Int->V2->Int
 |s,[]=>s
 |s,v::vs=>Hr (if Am v 0 3=true then Az s (Ac 1 v)else s) vs
def uJ(xs:V2)(hl:xs.length<=1000):∀i,i<=xs.length->∀s,Tl xs s i=some (I (Hr s (xs.drop i)),[]):=by
 refine down _ ?_ ?_
 .intro s;apply Wh.2.1.2.2;rw[Ao,Yl];rfl
 .intro i hi ih s;apply Wh.2.1.2.2;rw[An,wS hi E,Yg hi,Hr]
  simp_all [gE,ZS,ft,ZK]
def ZTk{xs:V2}(hl:xs.length<=1000):Zo8 xs=some (I (Hr 0 xs),[]):=Wh.2.2.1.1 _ _ (by simpa using uJ xs hl 0 (Yc _) 0)
def bW(m:Int):Nat->V2->V2
 |_,[]=>[]
 |k,v::vs=>if Ai (As m k) 1=1 then v::bW m (k+1) vs else bW m (k+1) vs
def PD(a:Zd)(m:Int)(h3:a.Vars.length<=3):∀i,i<=a.Vars.length->∀s,Tk a m s i=some (I (Hr s (bW m i (a.Vars.drop i))),[]):=by
 refine down _ ?_ ?_
 .intro s;apply Wh.2.1.1.2;rw[Ao,Yl];rfl
 .intro i hi ih s;apply Wh.2.1.1.2;rw[An,An,wS hi E,Yg hi,bW];refine⟨E,?_⟩;by_cases c:Ai (As m i) 1=1
  .rw[Ya c,Ya c,Hr]
   simp_all [gE,ZS,ft,ZK]
  .simp_all
def uK{a:Zd}{m:Int}(h3:a.Vars.length<=3):Zo6 a m=some (I (Hr 0 (bW m 0 a.Vars)),[]):=Wh.2.1.2.1 _ _ _ (by simpa using PD a m h3 0 (Yc _) 0)
def geI(a b:Int):Bool:=decide (b<=a)
def JK:Int->Option Int->V2->Bool
 |_,_,[]=>true
 |left,p,v::vs=>Am v 1 left && BD geI p v && JK (left-v) (some v) vs
def uL(xs:V2)(hl:Le xs):∀i,i<=xs.length->∀left,0<=left->left<=8->j4 xs (8-left) i=some (Bo (JK left (BS xs i) (xs.drop i)),[]):=by
 refine down _ ?_ ?_
 .intro left _ _;apply Wh.1.2.1.2;rw[Ao,Yl];rfl
 .intro i hi ih left h0 h8;apply Wh.1.2.1.2;rw[An,wS hi E,Yg hi,JK,show w (8-(8-left))=left by rw[ZV ⟨E,E⟩];omega];refine⟨E,_,gE hi,_,ZS _ _ _,?_⟩;rw[show BS xs (i+1)=some xs[i]from Yh hi]at ih;rcases ft (Am xs[i] 1 left)with e|e
  .have e':=ZK.1 e;rw[e,Ya rfl,Yk,show w (8-left+xs[i])=8-(left-xs[i]) by rw[ZV ⟨E,E⟩];omega];have ih:=ih (left-xs[i]) E E;by_cases c:(0:Int)<(i:Int)
   .rw[Ya c,wP E hi E,G5 E E];refine⟨E,_,gE E,?_⟩;by_cases c2:xs[i-1]<xs[i]
    .rw[Ya c2];simp[BD,geI];omega
    .rw[Yb c2,ih];simp[BD,geI,show xs[i]<=xs[i-1] by omega]
   .obtain rfl:i=0:=by omega
    rw[Yb c,ih];simp[BD,BS]
  .simp_all
def ZFR{xs:V2}(hl:Le xs):jZ xs=some (Bo (JK 8 none xs),[]):=Wh.1.2.2.1 _ _ (by simpa[BS]using uL xs hl 0 (Yc _) 8 E E)
def uM:V2->V2->Int->Int
 |x::xs,y::ys,n=>uM xs ys (w (n+w (x*y)))
 |_,_,n=>n
def Z3E(a b:V2):Int:=if JK 8 none a && JK 8 none b then uM a b 0 else 0
theorem ZTl{xs ys:V2}{n:Int}(h:xs=[]\/ys=[]):uM xs ys n=n:=by
 rcases h with rfl|rfl
 .rfl
 .cases xs<;>rfl
def uN(a b:V2)(ha:Le a)(hb:Le b)(hd:(JK 8 none a && JK 8 none b)=true):∀i,i<=a.length->∀n,j5 a b n i=some (I (uM (a.drop i) (b.drop i) n),[]):=by
 simp only[Yf]at hd;refine down _ ?_ ?_
 .intro n;apply Wh.1.2.2.2.1;rw[Ao,Yl];rfl
 .intro i hi ih n;apply Wh.1.2.2.2.1;rw[An];by_cases c:(i:Int)<(b.length:Int)
  .have hb':i<b.length:=by omega
   rw[Ya c,wS hi E,Yg hi,Yg hb',uM]
   simp_all [ZFR,gE]
  .grind [ZTl,List.drop_eq_nil_of_le]
def ZTm{a b:V2}(ha:Le a)(hb:Le b):Zo4 a b=some (I (Z3E a b),[]):=by
 apply Wh.1.2.2.2.2;unfold Z3E;rcases ft (JK 8 none a && JK 8 none b)with e|e
 .rw[e,Ya rfl];simpa using uN a b ha hb e 0 (Yc _) 0
 .rw[e,Yb Om];apply Wh.1.2.2.2.1
  simp_all [ZFR,ft,Yk]
