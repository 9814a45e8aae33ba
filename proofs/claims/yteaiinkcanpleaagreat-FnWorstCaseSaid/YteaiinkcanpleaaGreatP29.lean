/-
  Parts of the proofs for this seat: LA SF LB LC LD LE LF LG LH LQ.
-/
import Derived.Test.YteaiinkcanpleaaGreatP28
set_option linter.all false
set_option maxRecDepth 100000
set_option maxHeartbeats 4000000
namespace Go.Proofs.YteaiinkcanpleaaGreat
open Go.AM
abbrev KZ(x:Int):Prop:=-9223372036854775807<=x/\x<=9223372036854775807
theorem Xb{x:Int}(h:KZ x):w x=x:=ZE Z Z
theorem ZNs(a b:Int):Int.gcd b (a.tmod b)=Int.gcd a b:=by
 grind [Int.gcd,Int.natAbs_tmod,Nat.gcd_comm,Nat.gcd_rec]
def ZNt:∀(n:Nat) (a b:Int),b.natAbs<=n->0<=a->0<=b->dZ a b=some (I (Int.gcd a b:Int),[]):=by
 intro n
 induction n with
 |zero =>
  grind [Ws.1.2.2.2.2,Int.gcd_zero_right]
 |succ n ih =>
  intro a b hb ha hb2;apply Ws.1.2.2.2.2;by_cases h0:b=0
  .grind [Int.gcd_zero_right]
  .rw[Yb h0];have h1:(a.tmod b).natAbs<b.natAbs:=by rw[Int.natAbs_tmod];exact Nat.mod_lt _ Z
   grind [Int.tmod_nonneg,ZNs]
def Z1t{a b:Int}(ha:0<=a)(hb:0<=b):LF a b=some (I (Int.gcd a b:Int),[]):=Ws.2.1.1.1 _ _ _ (ZNt _ a b (Yj _) ha hb)
def Z1u{a:Int}(ha:KZ a):LE a=some (I (a.natAbs:Int),[]):=by
 grind [Ws.1.2.2.2.1,Xb]
def U3(r:Zb):WJ r=some (Bo (vR r),[]):=by
 refine Ws.2.1.1.2 _ _ ⟨_,ZM _ _ _,?_⟩;unfold vR;rcases tf (Al r.Den 1 2147483647)with e|e
 .rw[e];simp
 have e':=ZP.1 e;rw[e,Ya rfl];refine⟨_,ZM _ _ _,?_⟩;rcases tf (Al r.Num (-2147483647) 2147483647)with e2|e2
 .rw[e2];simp
 have e2':=ZP.1 e2;rw[e2,Ya rfl];refine⟨_,Z1u ⟨Z,Z⟩,_,Z1t Z Z,?_⟩;simp only[Yk];congr 3
 grind [Int.gcd]
def oR(o:Option Zb):XS:=(.tup [.agg ((o.getD r0).c.map .t),Bo o.isSome],[])
def ZNu:oR none=(.tup [.agg [I 0,I 0],Bo false],[]):=rfl
def Zqy{a b:Int}(h:KZ a):KZ (a.tdiv b):=by
 have h1:(a.tdiv b).natAbs<=a.natAbs:=by rw[Int.natAbs_tdiv];exact Nat.div_le_self _ _
 unfold KZ at *
 omega
def ZB8{n d:Int}(hd:d≠0):¬(Int.gcd n d:Int)=0:=by
 simp_all
def Zqz{n d:Int}(hn:KZ n)(hd:KZ d):FU n d=some (oR (Cj n d)):=by
 have hn':KZ (0-n):=⟨Z,Z⟩;have hd':KZ (0-d):=⟨Z,Z⟩;apply ZK8;unfold Cj;by_cases h0:d=0
 .simp_all [ZNu]
 rw[Yb h0,Yb h0,Ao,Ao,Xb hn',Xb hd'];by_cases hl:d<0
 .rw[Ya hl,Ya hl];have eg:Int.gcd ((0-n).natAbs:Int) (0-d)=Int.gcd (-n) (-d):=by unfold Int.gcd;simp
  refine⟨_,Z1u hn',_,Z1t Z Z,by rw[eg];exact ZB8 Z,_,U3 _,?_⟩;rw[eg,Xb (Zqy hn'),Xb (Zqy hd'),Int.zero_sub,Int.zero_sub];unfold Dm;rcases tf (vR ⟨(-n).tdiv (Int.gcd (-n) (-d)),(-d).tdiv (Int.gcd (-n) (-d))⟩)with e|e
  .rw[e];rfl
  .rw[e];rfl
 .rw[Yb hl,Yb hl];have eg:Int.gcd (n.natAbs:Int) d=Int.gcd n d:=by unfold Int.gcd;simp
  refine⟨_,Z1u hn,_,Z1t Z Z,by rw[eg];exact ZB8 Z,_,U3 _,?_⟩;rw[eg,Xb (Zqy hn),Xb (Zqy hd)];unfold Dm;rcases tf (vR ⟨n.tdiv (Int.gcd n d),d.tdiv (Int.gcd n d)⟩)with e|e
  .rw[e];rfl
  .rw[e];rfl
def QQ{x y:Int}(hx:-2147483647<=x/\x<=2147483647)(hy:-2147483647<=y/\y<=2147483647):-4611686014132420609<=x*y/\x*y<=4611686014132420609:=by
 have:=Nat.mul_le_mul (show x.natAbs<=2147483647 by omega) (show y.natAbs<=2147483647 by omega);rw[<-Int.natAbs_mul]at this;omega
def Qa{r:Zb}(h:vR r=true):(-2147483647<=r.Num/\r.Num<=2147483647)/\(-2147483647<=r.Den/\r.Den<=2147483647)/\1<=r.Den:=by
 have:=UX.1 h;omega
section
variable(a b:Zb)
theorem Zq0:FV a b=some (oR (Wk a b)):=by
 refine ZK6 _ _ _ ⟨_,U3 a,?_⟩;unfold Wk;rcases tf (vR a)with e|e
 .rw[e];rfl
 rw[e,Ya rfl];refine⟨_,U3 b,?_⟩;rcases tf (vR b)with e2|e2
 .rw[e2];rfl
 rw[e2,Ya rfl];obtain⟨a1,a2,_⟩:=Qa e;obtain⟨b1,b2,_⟩:=Qa e2;have h1:=QQ a1 b2;have h2:=QQ a2 b1;by_cases h0:b.Num=0
 .rw[Ya h0,Ya (by rfl),h0,Int.mul_zero];rfl
 rw[Yb h0];refine⟨_,_,?_,rfl⟩;rw[Xb ⟨Z,Z⟩,Xb ⟨Z,Z⟩];exact Zqz ⟨Z,Z⟩ ⟨Z,Z⟩
theorem ZB9:FX a b=some (oR (Wj a b)):=by
 refine HS.2.1.1 _ _ _ ⟨_,U3 a,?_⟩;unfold Wj;rcases tf (vR a)with e|e
 .rw[e];rfl
 rw[e,Ya rfl];refine⟨_,U3 b,?_⟩;rcases tf (vR b)with e2|e2
 .rw[e2];rfl
 rw[e2,Ya rfl];obtain⟨a1,a2,_⟩:=Qa e;obtain⟨b1,b2,_⟩:=Qa e2;have h1:=QQ a1 b1;have h2:=QQ a2 b2;refine⟨_,_,?_,rfl⟩;rw[Xb ⟨Z,Z⟩,Xb ⟨Z,Z⟩];exact Zqz ⟨Z,Z⟩ ⟨Z,Z⟩
theorem ZNv:Hq a b=some (oR (V0 a b)):=by
 refine HS.2.2.2 _ _ _ ⟨_,U3 a,?_⟩;unfold V0;rcases tf (vR a)with e|e
 .rw[e];rfl
 rw[e,Ya rfl];refine⟨_,U3 b,?_⟩;rcases tf (vR b)with e2|e2
 .rw[e2];rfl
 rw[e2,Ya rfl];obtain⟨a1,a2,_⟩:=Qa e;obtain⟨b1,b2,_⟩:=Qa e2;have h1:=QQ a1 b2;have h2:=QQ b1 a2;have h3:=QQ a2 b2;refine⟨_,_,?_,rfl⟩;rw[Xb (x:=a.Num*b.Den) ⟨Z,Z⟩,Xb (x:=b.Num*a.Den) ⟨Z,Z⟩,Xb ⟨Z,Z⟩,Xb ⟨Z,Z⟩];exact Zqz ⟨Z,Z⟩ ⟨Z,Z⟩
theorem ZNw:yD a b=some (oR (Ug a b)):=by
 refine HS.2.1.2 _ _ _ ⟨_,U3 a,?_⟩;unfold Ug;rcases tf (vR a)with e|e
 .rw[e];rfl
 rw[e,Ya rfl];refine⟨_,U3 b,?_⟩;rcases tf (vR b)with e2|e2
 .rw[e2];rfl
 rw[e2,Ya rfl];obtain⟨a1,a2,_⟩:=Qa e;obtain⟨b1,b2,_⟩:=Qa e2;have h1:=QQ a1 b2;have h2:=QQ b1 a2;have h3:=QQ a2 b2;refine⟨_,_,?_,rfl⟩;rw[Xb (x:=a.Num*b.Den) ⟨Z,Z⟩,Xb (x:=b.Num*a.Den) ⟨Z,Z⟩,Xb ⟨Z,Z⟩,Xb ⟨Z,Z⟩];exact Zqz ⟨Z,Z⟩ ⟨Z,Z⟩
theorem ZNx:yB a b=some (I (JJ a b),[]):=by
 refine HS.1.1 _ _ _ ⟨_,U3 a,?_⟩;unfold JJ;rcases tf (vR a)with e|e
 .rw[e];rfl
 rw[e,Ya rfl];refine⟨_,U3 b,?_⟩;rcases tf (vR b)with e2|e2
 .rw[e2];rfl
 rw[e2,Ya rfl];obtain⟨a1,a2,_⟩:=Qa e;obtain⟨b1,b2,_⟩:=Qa e2;have h1:=QQ a1 b2;have h2:=QQ b1 a2
 grind [Xb,Bool.and_self]
end
def Nl(a:Zb):Ug a r0=none:=by
 unfold Ug;rw[show vR r0=false by decide,Bool.and_false];rfl
def QR(a b c:Zb):Vi a b c=some (oR (Ce a b c)):=by
 apply HS.2.2.1;unfold Ce;by_cases hb:b.Num=0
 .rw[Ya hb,Ya (.inl hb)];rfl
 rw[Yb hb];by_cases hc:c.Num=0
 .rw[Ya hc,Ya (.inr hc)];rfl
 rw[Yb hc,Yb (by simp[hb,hc])];refine⟨_,_,ZB9 b c,_,_,ZNw a _,?_⟩
 cases e:Wj b c with
 |none=>rw[show((none:Option Zb).getD r0)=r0 from rfl,Nl];rfl
 |some x=>rfl
def mH{r:Zb}(h:vR r=true):KZ r.Num:=by have:=Qa h;exact⟨Z,Z⟩
def H9(rows:WA):WA:=QM (M6 rows)
abbrev Gv(l:WA):Prop:=l.Pairwise λa b=>Xv a b<0
def Zq1:∀{a b:WA},Gv a->Gv b->(∀x,x∈a↔x∈b)->a=b
 |[],[],_,_,_=>rfl
 |[],y::b,_,_,h=>by have:=(h y).2 Om;cases this
 |x::a,[],_,_,h=>by have:=(h x).1 Om;cases this
 |x::a,y::b,ha,hb,h=>by
  have ha':=Y2.1 ha;have hb':=Y2.1 hb;have e:x=y:=by
   have h1:=(h x).1 Om;have h2:=(h y).2 Om
   grind [M7]
  subst e;rw[Zq1 ha'.2 hb'.2 λz=>?_]
  grind [M8]
def ZBA:∀{l:WA},(l.Pairwise λa b=>DI a b=true)->Gv (QM l)
 |[],_=>by simp[QM]
 |[a],_=>by simp[QM]
 |a::b::l,h=>by
  have h1:=Y2.1 h;have ih:=ZBA h1.2;unfold QM;split
  .exact ih
  .rename_i e;refine Y2.2 ⟨λx hx=>?_,ih⟩;rw[Z1l]at hx;have hab:Xv a b<0:=by
    have h3:=h1.1 b Om;unfold DI at h3
    grind [Int.lt_or_eq_of_le,Ku]
   rcases Y1.1 hx with rfl|hx
   .exact hab
   .have h2:=(Y2.1 h1.2).1 x hx;unfold DI at h2
    grind [lY,Int.lt_or_eq_of_le,Ku,M7]
def Z1v(rows:WA):Gv (H9 rows):=ZBA (ZMH rows)
def Zq2(rows:WA)(x:WL):x∈H9 rows↔x∈rows:=by unfold H9;rw[Z1l,(ZBc rows).mem_iff]
def ZNy(rows:WA):(H9 rows).length<=rows.length:=by unfold H9;rw[<-(ZBc rows).length_eq];exact ZBd _
theorem gD{xs:WL}{i:Nat}(h:i<xs.length):xs[i]?=some (xs.getD i 0):=by
 rw[DN,Yd h];rfl
def XN(row cols:WL):WL:=cols.map λc=>row.getD c.toNat 0
def WR:WA->WL->Bool->WA
 |[],row,put=>if put=true then[]else[row]
 |e::es,row,put=>if Xv e row=0 then e::WR es row true else if 0<Xv e row then(if put=true then e::WR es row true else row::e::WR es row true)else e::WR es row put
theorem Zq3:∀(es:WA) (row:WL),WR es row true=es
 |[],_=>rfl
 |e::es,row=>by
  unfold WR;rw[Zq3 es row];simp
theorem ST:∀(es:WA) (row x:WL),x∈WR es row false↔x∈es\/x=row
 |[],row,x=>by simp[WR]
 |e::es,row,x=>by
  have ih:=ST es row x;unfold WR
  grind [Zq3,Ku]
def ZBB:∀{es:WA} (row:WL),Gv es->Gv (WR es row false)
 |[],row,_=>by simp[WR]
 |e::es,row,h=>by
  have h':=Y2.1 h;unfold WR;rw[Zq3];by_cases h1:Xv e row=0
  .rw[Ya h1];exact h
  .rw[Yb h1];by_cases h2:0<Xv e row
   .grind [M7,List.pairwise_cons,lY,Int.lt_or_eq_of_le,Ku]
   .rw[Yb h2];refine Y2.2 ⟨λx hx=>?_,ZBB row h'.2⟩
    grind [ST]
def Zq4:∀(es:WA) (row:WL) (put:Bool),(WR es row put).length<=es.length+1
 |[],row,put=>by unfold WR;split<;>simp
 |e::es,row,put=>by
  unfold WR;rw[Zq3];have:=Zq4 es row put
  grind
def mI{rows:WA}{row:WL}(hl:rows.length<=5000)(h4:∀r∈rows,r.length<=4)(hr:row.length<=4):∀i,i<=rows.length->∀(out:WA) (put:Bool),out.length+2*(rows.length-i)<=20000->Qm out rows row put i=some (.own 0,[.arr 32 1 true ((out++WR (rows.drop i) row put).map AF)]):=by
 refine down _ ?_ ?_
 .intro out put ho;apply Xz.2.2.2.1;rw[Ao,Ym];rcases tf put with e|e
  .subst e;rw[Yb Sm];exact⟨Z,Z,rfl⟩
  .subst e;rw[Ya rfl];simp[WR]
 .intro i hi ih out put ho;have he:=h4 _ (Yf hi);apply Xz.2.2.2.1;rw[An,wS hi Z,Yi hi];refine⟨Z,_,gE hi,_,Gr _ _ Z Z,?_⟩;unfold WR
  grind
def ZBC{rows:WA}{row:WL}(hl:rows.length<=5000)(h4:∀r∈rows,r.length<=4)(hr:row.length<=4):Jx rows row=some (.own 0,[.arr 32 1 true ((WR rows row false).map AF)]) :=
 Xz.2.2.2.2.1 _ _ _ (by simpa using mI hl h4 hr 0 (Yc _) [] false (by simp;omega))
def Ia(c rows:WA):WA:=rows.foldl (λl r=>WR l r false) c
def ZBD:∀(rows c:WA) (x:WL),x∈Ia c rows↔x∈c\/x∈rows
 |[],c,x=>by simp[Ia]
 |r::rows,c,x=>by
  show x∈Ia (WR c r false) rows↔_;rw[ZBD rows,ST,Y1,or_assoc]
def ZBE:∀{rows c:WA},Gv c->Gv (Ia c rows)
 |[],c,h=>h
 |r::rows,c,h=>ZBE (rows:=rows) (ZBB r h)
def ZBF(rows:WA):Ia [] rows=H9 rows :=
 Zq1 (ZBE .nil) (Z1v rows) λx=>by rw[ZBD,Zq2];simp
theorem Ib{xs:WL}{i:Nat}(h:i<xs.length):xs[((i:Nat):Int).toNat]?=some (xs.getD i 0):=by
 simp_all
def gR{xs:List Zb}{i:Nat}(h:i<xs.length):xs[i]?=some (xs.getD i r0):=by
 simp_all
def BV{xs:List Zb}{i:Nat}(h:i<xs.length):xs[((i:Nat):Int).toNat]?=some (xs.getD i r0):=by
 simp_all
def Gw{xs:List (List Zb)}{i:Nat}(h:i<xs.length):xs[((i:Nat):Int).toNat]?=some (xs.getD i []):=by
 simp_all
abbrev mJ(best:Int)(n:Nat):Prop:=best=-1\/(0<=best/\best<n)
def ZNz(d:Zv)(hl:d.Costs.length<=1000)(hF:d.Free.length=d.Costs.length):∀i,i<=d.Costs.length->∀best,mJ best d.Costs.length->Hp d best i=some (I (Gu d.Free (d.Costs.drop i) i best),[]):=by
 refine down _ ?_ ?_
 .intro best hb;apply Ws.2.2.2.2.1;rw[Ao,Ym];rfl
 .intro i hi ih best hb;apply Ws.2.2.2.2.1;rw[An,Yi hi,Gu,wS hi Z];refine⟨Z,_,gE hi,?_⟩
  grind
def mK(l:List Zb)(hl:l.length<=1000)(h:Qt l):∀i,i<=l.length->d6 l i=some (Bo true,[]):=by
 refine down _ ?_ ?_
 .simp[Ws.2.1.2.1]
 .intro i hi ih;apply Ws.2.1.2.1;rw[An,wS hi Z];refine⟨Z,_,gE hi,_,U3 _,?_⟩;rw[h _ (Yf hi),Ya rfl];exact ih
theorem Z1w{l:List Zb}(hl:l.length<=1000)(h:Qt l):Rn l=some (Bo true,[]):=Ws.2.1.2.2 _ _ (mK l hl h 0 (Yc _))
def Nm{d:Zv}(h:QP d):∀i,i<=d.Basic.length->d9 d d.Basic.length d.Free.length i=some (Bo true,[]):=by
 have hm:=h.m;have hn:=h.n;have hll:=h.ll;have hlk:=h.lk;have hlc:=h.lc;refine down _ ?_ ?_
 .apply Ws.2.2.1.2;rw[Ao];refine⟨_,Z1w Z h.vl,?_⟩;rw[Ya rfl];refine⟨_,Z1w Z h.vk,?_⟩;rw[Ya rfl];exact⟨_,U3 _,by rw[h.vv]⟩
 .intro i hi ih;have hi':i<d.Cells.length:=by omega
  obtain⟨hr,hv⟩:=h.rw' _ (Yf hi')
  grind [Ws.2.2.1.2,wS,gE,Z1w]
def Nn{d:Zv}(h:QP d):∀i,i<=d.Basic.length+d.Free.length->d8 d (d.Basic++d.Free) d.Basic.length d.Free.length i=some (Bo true,[]):=by
 have hm:=h.m;have hn:=h.n;have e:w ((d.Basic.length:Int)+(d.Free.length:Int))=((d.Basic.length+d.Free.length:Nat):Int):=by rw[Xb ⟨Z,Z⟩];omega
 refine down _ ?_ ?_
 .apply Ws.2.2.1.1;rw[e,Ao];exact Nm h 0 (Yc _)
 .intro i hi ih;apply Ws.2.2.1.1;rw[e,An,wS hi Z];have hh:has (d.Basic++d.Free) (i:Int)=true:=by
   have:=h.vs i hi;simpa[has]using this
  grind [Qq]
def Z1x{d:Zv}(h:QP d):Ho d=some (Bo true,[]):=by
 have hm:=h.m;have hn:=h.n;have hll:=h.ll;have hlk:=h.lk;have hlc:=h.lc;apply Ws.2.2.2.1;rw[Ao];refine⟨_,ZM _ _ _,?_⟩;rw[show Al (d.Free.length:Int) 1 15=true from ZP.2 ⟨Z,Z⟩,Ya rfl,An,An,An];exact⟨Z,Z,Nn h 0 (Yc _)⟩
def Zq5{d:Zv}(h:QP d):eC d=some (I (ent d),[]):=by
 have hlk:=h.lk;have hn:=h.n;refine Ws.2.2.2.2.2 _ _ ⟨_,Z1x h,?_⟩;rw[Ya rfl];have:=ZNz d Z Z 0 (Yc _) (-1) (.inl rfl);simpa[ent]using this
def Gx{d:Zv}(h:QP d){i j:Nat}(hi:i<d.Basic.length)(hj:j<d.Free.length):(d.Cells.getD i []).length=d.Free.length/\Qt (d.Cells.getD i [])/\(d.Cells.getD i [])[((j:Nat):Int).toNat]?=some (Vl d i j):=by
 have hi':i<d.Cells.length:=by have:=h.lc;omega
 have e:d.Cells.getD i []=d.Cells[i]:=by rw[DN,Yd hi'];rfl
 obtain⟨hr,hv⟩:=h.rw' _ (Yf hi');unfold Vl
 simp_all
def ZN0{d:Zv}(h:QP d){j:Nat}(hj:j<d.Free.length):∀i,i<=d.Basic.length->∀best least,mJ best d.Basic.length->Ro d least j best i=some (I (ER d j (d.Basic.length-i) i best least),[]):=by
 have hm:=h.m;have hll:=h.ll;have hlc:=h.lc;refine down _ ?_ ?_
 .intro best least hb;apply HS.1.2.1;rw[Ao,Dt];rfl
 .intro i hi ih best least hb;apply HS.1.2.1;obtain⟨_,_,hc⟩:=Gx h hi hj;rw[An,wS hi Z,show d.Basic.length-i=(d.Basic.length-(i+1))+1 by omega,ER];refine⟨Z,_,Gw Z,Z,_,hc,?_⟩;by_cases h1:(Vl d i j).Num<=0
  .simp_all
  .rw[Yb h1,Yb h1];refine⟨_,BV Z,_,_,Zq0 _ _,?_⟩
   grind [ZNx,Ib,gD]
def Z1y{d:Zv}(h:QP d){j:Nat}(hj:j<d.Free.length):eD d j=some (I (Ck d j),[]):=by
 have hn:=h.n;refine HS.1.2.2 _ _ _ ⟨_,Z1x h,?_⟩;rw[Ya rfl,Xb ⟨Z,Z⟩];refine⟨_,ZM _ _ _,?_⟩;rw[show Al (j:Int) 0 ((d.Free.length:Int)-1)=true from ZP.2 ⟨Z,Z⟩,Ya rfl];exact ZN0 h hj 0 (Yc _) (-1) r0 (.inl rfl)
def b3(x a b:Bool):(x || !(a && b))=((x || !a) || !b):=by cases x<;>cases a<;>cases b<;>rfl
def mL{O:List (Option Zb)}{k:Nat}(h:k<O.length):O[k]=O.getD k none:=by
 simp_all
def Ja{O:List (Option Zb)}{k:Nat}(h:k<O.length):vals (O.take (k+1))=vals (O.take k)++[(O.getD k none).getD r0]:=by
 rw[Y0 h,ZNc,mL h];rfl
def Np{O:List (Option Zb)}{k:Nat}(h:k<O.length):Xf (O.take (k+1))=(Xf (O.take k) && (O.getD k none).isSome):=by
 rw[Y0 h,ZNb,mL h];simp[Xf]
def Zq6(l p:List Zb)(j:Nat){k:Nat}(hk:k<l.length):(X9 l p j).getD k none=KW k j (l.getD k r0) (l.getD j r0) (p.getD k r0):=by
 unfold X9
 simp_all
def ZN1(row:List Zb)(j:Nat){k:Nat}(hk:k<row.length):(U2 row j).getD k none=if k=j then Wk ⟨1,1⟩ (row.getD j r0)else Wk (row.getD k r0) (row.getD j r0):=by
 unfold U2
 simp_all
section
variable{l pr:List Zb}{a:Zb}{j:Nat}(hv:Qt l)(hp:pr.length=l.length)(hj:j<l.length)(h15:l.length<=1000)
include hv hp hj h15
end
def Nq:XS:=(.tup [.agg [.own 0,.own 1,.own 2,.own 3,.own 4,I 0,I 0],Bo false],[.arr 3 1 true (([]:WL).map ic),.arr 3 1 true (([]:WL).map ic),.arr 283 1 true (([]:List (List Zb)).map (lc 2 Zb.c)),.arr 277 2 true (([]:List Zb).map Zb.c),.arr 277 2 true (([]:List Zb).map Zb.c)])
def SU(fr:Bool)(d:Zv):XS:=(.tup [.agg [.own 0,.own 1,.own 2,.own 3,.own 4,I d.Value.Num,I d.Value.Den],Bo true],[.arr 3 1 true (d.Basic.map ic),.arr 3 1 true (d.Free.map ic),.arr 283 1 fr (d.Cells.map (lc 2 Zb.c)),.arr 277 2 true (d.Limits.map Zb.c),.arr 277 2 true (d.Costs.map Zb.c)])
def Kx(d:Zv)(i j:Nat):XS:=if okO d i j=true then SU false (Ww d i j)else Nq
def Uh(d:Zv)(i j r:Nat):List (List Zb):=((KX d i j).take r).map vals
def ZV(d:Zv)(i j:Nat):List (Option Zb):=U2 (d.Cells.getD i []) j
def BJ(d:Zv)(i j r:Nat):Bool:=(Xf (ZV d i j) && (UY d i j).isSome) && (((KX d i j).take r).all Xf && Xf ((VQ d i j).take r))
def W3(d:Zv)(i j:Nat):Zb:=(UY d i j).getD r0
def SV(d:Zv)(i j:Nat):(KX d i j).length=d.Cells.length:=by simp[KX]
def Nr(d:Zv)(i j:Nat):(VQ d i j).length=d.Limits.length:=by simp[VQ]
def ZBG(d:Zv)(i j:Nat){r:Nat}(hr:r<d.Cells.length):(KX d i j)[r]'(by rw[SV];exact hr)=if r=i then ZV d i j else X9 (d.Cells.getD r []) (vals (ZV d i j)) j:=by simp[KX,ZV]
def SW(d:Zv)(i j:Nat){r:Nat}(hr:r<d.Limits.length):(VQ d i j).getD r none=if r=i then UY d i j else Ce (d.Limits.getD r r0) (Vl d r j) (W3 d i j):=by
 unfold VQ;rw[DN,rW,List.getElem?_range hr];rfl
def mM(d:Zv)(i j:Nat){r:Nat}(hr:r<d.Cells.length):Uh d i j (r+1)=Uh d i j r++[vals (if r=i then ZV d i j else X9 (d.Cells.getD r []) (vals (ZV d i j)) j)]:=by
 unfold Uh
 simp_all [Y0,SV,CV,ZBG]
def mN(d:Zv)(i j:Nat){r:Nat}(hr:r<d.Cells.length)(c:r<d.Limits.length):BJ d i j (r+1)=(BJ d i j r && (Xf (if r=i then ZV d i j else X9 (d.Cells.getD r []) (vals (ZV d i j)) j) && (if r=i then UY d i j else Ce (d.Limits.getD r r0) (Vl d r j) (W3 d i j)).isSome)):=by
 unfold BJ;rw[Y0 (by rw[SV];exact hr),List.all_append,ZBG d i j hr,Np (by rw[Nr];exact c),SW d i j c]
 grind
def mO(d:Zv){i j:Nat}(hr:i<d.Cells.length)(c:i<d.Limits.length):BJ d i j (i+1)=BJ d i j i:=by
 rw[mN d i j hr c,Ya rfl,Ya rfl];unfold BJ
 simp_all
def ZBH{d:Zv}{i j:Nat}(hl:d.Limits.length=d.Cells.length):okO d i j=(BJ d i j d.Cells.length && Xf (UZ d i j) && (Kw d i j).isSome):=by
 unfold okO BJ;rw[<-SV d i j,Yq,SV,<-hl,<-Nr d i j,Yq];unfold ZV
 grind
def uC{α:Type}(p:α->Bool)(l:List α)(r:Nat)(h:l.all p=true):(l.take r).all p=true:=Yp.2 λx hx=>Yp.1 h x (DC hx)
theorem mP{d:Zv}{i j r:Nat}(h:BJ d i j r=false):okO d i j=false:=by
 rcases ft (okO d i j)with e|e
 .unfold okO at e;simp only[Yg]at e;obtain⟨⟨⟨⟨⟨o1,o2⟩,o3⟩,o4⟩,o5⟩,o6⟩:=e;unfold BJ ZV at h;rw[o1,o2,uC _ _ _ o3,show Xf ((VQ d i j).take r)=true from uC _ _ _ o4]at h;cases h
 .exact e
structure Ns (d:Zv) (i j:Nat):Prop where
 v:QP d
 hi:i<d.Basic.length
 hj:j<d.Free.length
 nz:(Vl d i j).Num≠0
section
variable{d:Zv}{i j:Nat}(h:Ns d i j)
include h
theorem Ns.cj:j<(d.Cells.getD i []).length:=by have:=(Gx h.v h.hi h.hj).1;have:=h.hj;omega
theorem Ns.va:vR (Vl d i j)=true:=SR (Gx h.v h.hi h.hj).2.1 h.cj
theorem Ns.row{l:List Zb}(hl:l.length=d.Free.length)(hv:Qt l):Ng l (vals (ZV d i j)) (Vl d i j) j=X9 l (vals (ZV d i j)) j :=
 Nh h.cj (SR hv (by have:=h.hj;omega)) h.va h.nz
theorem Ns.plen:(vals (ZV d i j)).length=d.Free.length:=by
 unfold ZV;rw[QO,ZBz];exact(Gx h.v h.hi h.hj).1
omit h in
theorem ZBI:BJ d i j 0=(Xf (ZV d i j) && (UY d i j).isSome):=by simp[BJ,Xf]
end
theorem Ui(n:Int):W6 n=some (.agg ((⟨n,1⟩:Zb).c.map .t),[]):=Wz.2.2.2.2 _ _ rfl
def ZN2{O:List (Option Zb)}{k:Nat}(h:Xf (O.take k)=false):Xf O=false:=by
 rcases ft (Xf O)with e|e
 .rw[show Xf (O.take k)=true from uC _ _ _ e]at h;cases h
 .exact e
section
variable{d:Zv}{i j:Nat}(h:Ns d i j)
include h
theorem ZBJ:(UZ d i j).length=d.Free.length:=by unfold UZ;rw[mC];exact h.v.lk
theorem ZBK{k:Nat}(hk:k<d.Free.length):(UZ d i j).getD k none=KW k j (d.Costs.getD k r0) (d.Costs.getD j r0) ((vals (ZV d i j)).getD k r0):=Zq6 _ _ _ (by have:=h.v.lk;omega)
omit h in
theorem Nt(e:okO d i j=false):Kx d i j=Nq:=by unfold Kx;rw[e,Yb Sm]
omit h in
theorem ZBL{k:Nat}(hl:d.Limits.length=d.Cells.length)(e:(BJ d i j d.Cells.length && Xf ((UZ d i j).take k))=false):okO d i j=false:=by
 rw[ZBH hl];rcases ft (BJ d i j d.Cells.length)with e1|e1
 .rw[e1,Yk]at e;rw[ZN2 e];simp
 .rw[e1];rfl
omit h in
theorem mQ(V U l:Zb)(B F:WL)(C:List (List Zb))(L K p:List Zb)(k:Int):eK d V l U B F false C L K j false p k false=some Nq:=by
 apply W0.2.2.1.2;rw[Yb Sm];rfl
theorem j5c(V U:Zb)(k:Int):eK d V (W3 d i j) U (d.Basic.set i (d.Free.getD j 0)) (d.Free.set j (d.Basic.getD i 0)) false (Uh d i j d.Cells.length) (vals (VQ d i j)) (vals (UZ d i j)) j (BJ d i j d.Cells.length && Xf (UZ d i j)) (vals (ZV d i j)) k false=some (Kx d i j):=by
 have hlk:=h.v.lk;have hj:=h.hj;have hl:d.Limits.length=d.Cells.length:=by have:=h.v.ll;have:=h.v.lc;omega
 rcases ft (BJ d i j d.Cells.length && Xf (UZ d i j))with e|e
 .rw[e];apply W0.2.2.1.2;rw[Ya rfl];refine⟨Z,_,BV Z,_,_,ZB9 _ _,_,_,ZNv _ _,?_⟩;have hO:okO d i j=(Kw d i j).isSome:=by rw[ZBH hl,e,Yk]
  have e1:BJ d i j d.Cells.length=true:=by simp only[Yg]at e;exact e.1
  have eL:(UY d i j).isSome=true:=by unfold BJ at e1;simp only[Yg]at e1;exact e1.1.2
  obtain⟨lim,hlim⟩:=Option.isSome_iff_exists.1 eL;have eV:W3 d i j=lim:=by unfold W3;rw[hlim];rfl
  have eP:Kw d i j=(Wj (d.Costs.getD j r0) lim).bind (V0 d.Value):=by
   unfold Kw;rw[hlim];exact ZMZ h.v.vv (SR h.v.vk Z) (JI hlim)
  unfold Kx;rw[hO,eP,eV]
  cases hm:Wj (d.Costs.getD j r0) lim with
  |none=>rfl
  |some y =>
   rw[Ya (by rfl)]
   cases ha:V0 d.Value y with
   |none=>simp only[Option.getD_some,Option.bind_some,ha];rfl
   |some z =>
    simp only[Option.getD_some,Option.bind_some,ha,Option.isSome_some,if_true];have e2:Uh d i j d.Cells.length=(KX d i j).map vals:=by
     unfold Uh;rw[<-SV d i j,Yq]
    have e3:Kw d i j=some z:=by rw[eP,hm];exact ha
    rw[e2];unfold SU Ww;rw[e3];rfl
 .rw[e,mQ,Nt (ZBL (k:=(UZ d i j).length) hl (by rw[Yq];exact e))]
theorem Abd(V U:Zb):∀k,k<=d.Free.length->eI d V (W3 d i j) U (d.Basic.set i (d.Free.getD j 0)) (d.Free.set j (d.Basic.getD i 0)) false (Uh d i j d.Cells.length) (vals (VQ d i j)) (vals ((UZ d i j).take k)) j (BJ d i j d.Cells.length && Xf ((UZ d i j).take k)) (vals (ZV d i j)) k=some (Kx d i j):=by
 have hlk:=h.v.lk;have hn:=h.v.n;have hj:=h.hj;have hpl:=h.plen;have hcl:=ZBJ h;have hl:d.Limits.length=d.Cells.length:=by have:=h.v.ll;have:=h.v.lc;omega
 refine down _ ?_ ?_
 .grind [W0.2.1.1.2,List.take_length,j5c]
 .intro k hk ih;apply W0.2.1.1.2;rw[An,wS hk Z];rcases ft (BJ d i j d.Cells.length && Xf ((UZ d i j).take k))with e|e
  .rw[e,Ya rfl];rw[Ja Z,Np Z,<-Bool.and_assoc,e,Yk,ZBK h hk,KW]at ih;refine⟨Z,_,BV Z,?_⟩;by_cases ej:k=j
   .rw[An];rw[Ya ej]at ih;exact⟨_,Ui 0,Z,_,BV Z,_,BV Z,_,_,QR _ _ _,by rw[QO,Yy];omega,ih⟩
   .rw[Ao];rw[Yb ej]at ih;exact⟨Z,_,BV Z,_,BV Z,_,_,QR _ _ _,by rw[QO,Yy];omega,ih⟩
  .grind [mQ,Nt,ZBL]
theorem Abe(V U:Zb):eH d V (W3 d i j) U (d.Basic.set i (d.Free.getD j 0)) (d.Free.set j (d.Basic.getD i 0)) false (Uh d i j d.Cells.length) (vals (VQ d i j)) j (BJ d i j d.Cells.length) (vals (ZV d i j)) 0=some (Kx d i j):=by
 have hlk:=h.v.lk;have hn:=h.v.n;have hj:=h.hj;have hpl:=h.plen;have hcl:=ZBJ h;apply W0.1.2.2.1;rw[An,show w (0+1)=((0+1:Nat):Int) by decide];rcases ft (BJ d i j d.Cells.length)with e|e
 .rw[e,Ya rfl];have ih:=Abd h V U (0+1) Z;rw[Ja Z,Np Z,ZBK h Z,KW,e,Yk]at ih;refine⟨Z,_,BV (i:=0) Z,?_⟩;by_cases ej:0=j
  .rw[An];rw[Ya ej]at ih;exact⟨_,Ui 0,Z,_,BV Z,_,BV (i:=0) Z,_,_,QR _ _ _,by simpa[Xf,vals]using ih⟩
  .rw[Ao];rw[Yb ej]at ih;exact⟨Z,_,BV Z,_,BV (i:=0) Z,_,_,QR _ _ _,by simpa[Xf,vals]using ih⟩
 .rw[e,Yb Sm,Nt (mP e)];apply W0.2.1.2.1;rw[Yb Sm];rfl
theorem Abf(V U:Zb)(C:List (List Zb))(L:List Zb):eH d V (W3 d i j) U (d.Basic.set i (d.Free.getD j 0)) (d.Free.set j (d.Basic.getD i 0)) false C L j false (vals (ZV d i j)) 0=some Nq:=by
 have hn:=h.v.n;apply W0.1.2.2.1;rw[An,Yb Sm];apply W0.2.1.2.1;rw[Yb Sm];rfl
theorem mR(V U:Zb)(C:List (List Zb))(L:List Zb):yJ d V (vals (ZV d i j)) (W3 d i j) U (d.Basic.set i (d.Free.getD j 0)) (d.Free.set j (d.Basic.getD i 0)) false C L j false 0=some Nq:=by
 have hn:=h.v.n;apply W0.2.2.1.1;rw[An,Yb Sm];apply W0.2.2.2.1;rw[Yb Sm];rfl
theorem f_3(V U:Zb):yI d V (vals (ZV d i j)) (W3 d i j) U (d.Basic.set i (d.Free.getD j 0)) (d.Free.set j (d.Basic.getD i 0)) j false 0=some Nq:=by
 have hn:=h.v.n;apply W0.1.2.1.1;rw[An,Yb Sm];apply W0.2.1.1.1;rw[Yb Sm];rfl
theorem l_1(V U:Zb)(res:XS){r:Nat}(hr:r<d.Basic.length)(c:LI d V (vals (ZV d i j)) (W3 d i j) U (d.Basic.set i (d.Free.getD j 0)) (d.Free.set j (d.Basic.getD i 0)) false ([vals (X9 (d.Cells.getD r []) (vals (ZV d i j)) j)]) ([(Ce (d.Limits.getD r r0) (Vl d r j) (W3 d i j)).getD r0]) i j (Xf (X9 (d.Cells.getD r []) (vals (ZV d i j)) j) && (Ce (d.Limits.getD r r0) (Vl d r j) (W3 d i j)).isSome) (w ((r:Int)+1))=some res):∀k,k<=d.Free.length->eF d V (vals (ZV d i j)) (W3 d i j) U (d.Basic.set i (d.Free.getD j 0)) (d.Free.set j (d.Basic.getD i 0)) (vals ((X9 (d.Cells.getD r []) (vals (ZV d i j)) j).take k)) i j (Xf ((X9 (d.Cells.getD r []) (vals (ZV d i j)) j).take k)) r k=some res:=by
 have hlc:=h.v.lc;have hll:=h.v.ll;have hn:=h.v.n;have hj:=h.hj;have hpl:=h.plen;obtain⟨hc1,hc2,hc3⟩:=Gx h.v hr hj;have hO:(X9 (d.Cells.getD r []) (vals (ZV d i j)) j).length=d.Free.length:=by rw[mC];exact hc1
 refine down _ ?_ ?_
 .apply W0.1.1.2.2;rw[Ao,<-hO,Yq];refine⟨Z,_,BV Z,_,Gw Z,Z,_,hc3,_,_,QR _ _ _,?_⟩
  grind
 .intro k hk ih;apply W0.1.1.2.2;rw[An,wS hk Z];rw[Ja Z,Np Z,Zq6 _ _ _ Z,KW]at ih;have hlen:(vals ((X9 (d.Cells.getD r []) (vals (ZV d i j)) j).take k)).length+1<=68719476736:=by rw[QO,Yy];omega
  refine⟨Z,_,Gw Z,Z,_,BV Z,?_⟩;by_cases ej:k=j
  .rw[An];rw[Ya ej]at ih;refine⟨_,Ui 0,Z,_,hc3,_,BV Z,_,_,QR _ _ _,?_⟩
   grind
  .rw[Ao];rw[Yb ej]at ih;refine⟨Z,_,hc3,_,BV Z,_,_,QR _ _ _,?_⟩
   grind
theorem Abg(V U:Zb)(C:List (List Zb))(L:List Zb)(hC:C.length<=1000)(hL:L.length<=1000)(res:XS){r:Nat}(hr:r<d.Basic.length)(c:Hr d V (W3 d i j) U (d.Basic.set i (d.Free.getD j 0)) (d.Free.set j (d.Basic.getD i 0)) false (C++[vals (X9 (d.Cells.getD r []) (vals (ZV d i j)) j)]) (L++[(Ce (d.Limits.getD r r0) (Vl d r j) (W3 d i j)).getD r0]) i j (Xf (X9 (d.Cells.getD r []) (vals (ZV d i j)) j) && (Ce (d.Limits.getD r r0) (Vl d r j) (W3 d i j)).isSome) (vals (ZV d i j)) (w ((r:Int)+1))=some res):∀k,k<=d.Free.length->eG d V (W3 d i j) U (d.Basic.set i (d.Free.getD j 0)) (d.Free.set j (d.Basic.getD i 0)) false C L (vals ((X9 (d.Cells.getD r []) (vals (ZV d i j)) j).take k)) i j (Xf ((X9 (d.Cells.getD r []) (vals (ZV d i j)) j).take k)) (vals (ZV d i j)) r k=some res:=by
 have hlc:=h.v.lc;have hll:=h.v.ll;have hn:=h.v.n;have hj:=h.hj;have hpl:=h.plen;obtain⟨hc1,hc2,hc3⟩:=Gx h.v hr hj;have hO:(X9 (d.Cells.getD r []) (vals (ZV d i j)) j).length=d.Free.length:=by rw[mC];exact hc1
 refine down _ ?_ ?_
 .apply W0.1.2.1.2;rw[Ao,<-hO,Yq];refine⟨Z,_,BV Z,_,Gw Z,Z,_,hc3,_,_,QR _ _ _,?_⟩
  grind
 .intro k hk ih;apply W0.1.2.1.2;rw[An,wS hk Z];rw[Ja Z,Np Z,Zq6 _ _ _ Z,KW]at ih;have hlen:(vals ((X9 (d.Cells.getD r []) (vals (ZV d i j)) j).take k)).length+1<=68719476736:=by rw[QO,Yy];omega
  refine⟨Z,_,Gw Z,Z,_,BV Z,?_⟩;by_cases ej:k=j
  .rw[An];rw[Ya ej]at ih;refine⟨_,Ui 0,Z,_,hc3,_,BV Z,_,_,QR _ _ _,?_⟩
   grind
  .rw[Ao];rw[Yb ej]at ih;refine⟨Z,_,hc3,_,BV Z,_,_,QR _ _ _,?_⟩
   grind
theorem Abh(V U:Zb)(C:List (List Zb))(L:List Zb)(hC:C.length<=1000)(hL:L.length<=1000)(res:XS){r:Nat}(hr:r<d.Basic.length)(c:LI d V (vals (ZV d i j)) (W3 d i j) U (d.Basic.set i (d.Free.getD j 0)) (d.Free.set j (d.Basic.getD i 0)) false (C++[vals (X9 (d.Cells.getD r []) (vals (ZV d i j)) j)]) (L++[(Ce (d.Limits.getD r r0) (Vl d r j) (W3 d i j)).getD r0]) i j (Xf (X9 (d.Cells.getD r []) (vals (ZV d i j)) j) && (Ce (d.Limits.getD r r0) (Vl d r j) (W3 d i j)).isSome) (w ((r:Int)+1))=some res):∀k,k<=d.Free.length->eJ d V (vals (ZV d i j)) (W3 d i j) U (d.Basic.set i (d.Free.getD j 0)) (d.Free.set j (d.Basic.getD i 0)) false C L (vals ((X9 (d.Cells.getD r []) (vals (ZV d i j)) j).take k)) i j (Xf ((X9 (d.Cells.getD r []) (vals (ZV d i j)) j).take k)) r k=some res:=by
 have hlc:=h.v.lc;have hll:=h.v.ll;have hn:=h.v.n;have hj:=h.hj;have hpl:=h.plen;obtain⟨hc1,hc2,hc3⟩:=Gx h.v hr hj;have hO:(X9 (d.Cells.getD r []) (vals (ZV d i j)) j).length=d.Free.length:=by rw[mC];exact hc1
 refine down _ ?_ ?_
 .apply W0.2.1.2.2;rw[Ao,<-hO,Yq];refine⟨Z,_,BV Z,_,Gw Z,Z,_,hc3,_,_,QR _ _ _,?_⟩
  grind
 .intro k hk ih;apply W0.2.1.2.2;rw[An,wS hk Z];rw[Ja Z,Np Z,Zq6 _ _ _ Z,KW]at ih;have hlen:(vals ((X9 (d.Cells.getD r []) (vals (ZV d i j)) j).take k)).length+1<=68719476736:=by rw[QO,Yy];omega
  refine⟨Z,_,Gw Z,Z,_,BV Z,?_⟩;by_cases ej:k=j
  .rw[An];rw[Ya ej]at ih;refine⟨_,Ui 0,Z,_,hc3,_,BV Z,_,_,QR _ _ _,?_⟩
   grind
  .rw[Ao];rw[Yb ej]at ih;refine⟨Z,_,hc3,_,BV Z,_,_,QR _ _ _,?_⟩
   grind
theorem mS(V U:Zb):∀r,r<=d.Basic.length->i<r->Hr d V (W3 d i j) U (d.Basic.set i (d.Free.getD j 0)) (d.Free.set j (d.Basic.getD i 0)) false (Uh d i j r) (vals ((VQ d i j).take r)) i j (BJ d i j r) (vals (ZV d i j)) r=some (Kx d i j):=by
 have hm:=h.v.m;have hlc:=h.v.lc;have hll:=h.v.ll;have hn:=h.v.n;have hi:=h.hi;have hj:=h.hj;have hol:=Nr d i j;refine down _ ?_ ?_
 .grind [W0.1.1.2.1,List.take_of_length_le,Abe]
 .intro r hr ih hir;apply W0.1.1.2.1;rw[An];rcases ft (BJ d i j r)with e|e
  .rw[e,Ya rfl,Ao];have ih:=ih Z;rw[mM d i j Z,mN d i j Z Z,e,Yk,Ao,Ao,Ja Z,SW d i j Z,Ao]at ih;have:=Abg h V U (Uh d i j r) (vals ((VQ d i j).take r)) (by simp[Uh];omega) (by rw[QO,Yy];omega) _ hr (by rw[wS hr Z];exact ih) 0 (Yc _);simpa[Xf,vals]using this
  .grind [Abf,Nt,mP]
theorem Abi(V U:Zb):∀r,r<=i->0<r->LI d V (vals (ZV d i j)) (W3 d i j) U (d.Basic.set i (d.Free.getD j 0)) (d.Free.set j (d.Basic.getD i 0)) false (Uh d i j r) (vals ((VQ d i j).take r)) i j (BJ d i j r) r=some (Kx d i j):=by
 have hm:=h.v.m;have hlc:=h.v.lc;have hll:=h.v.ll;have hn:=h.v.n;have hi:=h.hi;have hj:=h.hj;have hol:=Nr d i j;refine down _ ?_ ?_
 .intro hr;apply W0.1.2.2.2;rw[An,wS (show i<d.Basic.length by omega) Z];rcases ft (BJ d i j i)with e|e
  .rw[e,Ya rfl,Ya rfl];have ih:=mS h V U (i+1) Z Z;rw[mM d i j Z,mO d Z Z,e,Ya rfl,Ja Z,SW d i j Z,Ya rfl]at ih;exact⟨by simp[Uh];omega,by rw[QO,Yy];omega,ih⟩
  .grind [mR,Nt,mP]
 .intro r hr ih hir;have hr':r<d.Basic.length:=by omega
  apply W0.1.2.2.2;rw[An];rcases ft (BJ d i j r)with e|e
  .rw[e,Ya rfl,Ao];have ih:=ih Z;rw[mM d i j Z,mN d i j Z Z,e,Yk,Ao,Ao,Ja Z,SW d i j Z,Ao]at ih;have:=Abh h V U (Uh d i j r) (vals ((VQ d i j).take r)) (by simp[Uh];omega) (by rw[QO,Yy];omega) _ hr' (by rw[wS hr' Z];exact ih) 0 (Yc _);simpa[Xf,vals]using this
  .grind [mR,Nt,mP]
theorem l_2(V U:Zb):yG d V (vals (ZV d i j)) (W3 d i j) U (d.Basic.set i (d.Free.getD j 0)) (d.Free.set j (d.Basic.getD i 0)) i j (BJ d i j 0) 0=some (Kx d i j):=by
 have hm:=h.v.m;have hlc:=h.v.lc;have hll:=h.v.ll;have hn:=h.v.n;have hi:=h.hi;have hj:=h.hj;have hol:=Nr d i j;apply W0.1.1.1.2;rw[An];have w1:w (0+1)=((0+1:Nat):Int):=by decide
 rcases ft (BJ d i j 0)with e|e
 .rw[e,Ya rfl];by_cases e0:i=0
  .rw[An,w1];have ih:=mS h V U (0+1) Z Z;have e2:(BJ d i j 0 && (Xf (ZV d i j) && (UY d i j).isSome))=BJ d i j 0:=by rw[ZBI,Bool.and_self]
   rw[mM d i j Z,mN d i j Z Z,Ya e0.symm,Ya e0.symm,e2,e,Ja Z,SW d i j Z,Ya e0.symm]at ih;simpa[Uh,vals,W3]using ih
  .rw[Ao];have ih:=Abi h V U (0+1) Z Z;rw[mM d i j Z,mN d i j Z Z,e,Yk,Ao,Ao,Ja Z,SW d i j Z,Ao]at ih;have:=l_1 h V U _ (show 0<d.Basic.length by omega) (by rw[show((0:Nat):Int)+1=0+1 from rfl,w1];simpa[Uh,vals]using ih) 0 (Yc _);simpa[Xf,vals]using this
 .grind [f_3,Nt,mP]
theorem mT(V:Zb):∀k,k<=d.Free.length->eE d V (Vl d i j) (vals ((ZV d i j).take k)) i j (Xf ((ZV d i j).take k)) k=some (Kx d i j):=by
 have hm:=h.v.m;have hlc:=h.v.lc;have hll:=h.v.ll;have hn:=h.v.n;have hi:=h.hi;have hj:=h.hj;have hol:=Nr d i j;have hpl:=h.plen;rw[QO]at hpl;obtain⟨hc1,hc2,hc3⟩:=Gx h.v hi hj;refine down _ ?_ ?_
 .apply W0.1.1.1.1;rw[Ao,<-hpl,Yq];have fin:=l_2 h V ⟨0,0⟩;rw[ZBI]at fin;refine⟨Z,_,BV Z,_,_,Zq0 _ _,?_⟩;rcases ft (Xf (ZV d i j))with e|e
  .rw[e,Yk]at fin;rw[e,Ya rfl];exact⟨Z,Z,Z,_,Ib hj,_,Ib hi,fin⟩
  .rw[e,E2]at fin;rw[e,Yb Sm];exact⟨Z,Z,Z,_,Ib hj,_,Ib hi,fin⟩
 .intro k hk ih;apply W0.1.1.1.1;rw[An,wS hk Z];rw[Ja Z,Np Z,show(ZV d i j).getD k none=_ from ZN1 (d.Cells.getD i []) j Z]at ih;have hlen:(vals ((ZV d i j).take k)).length+1<=68719476736:=by rw[QO,Yy];omega
  refine⟨Z,_,Gw Z,Z,_,BV Z,_,_,Zq0 _ _,?_⟩;by_cases ej:k=j
  .rw[An];rw[Ya ej]at ih;refine⟨_,Ui 1,_,_,Zq0 _ _,?_⟩
   grind
  .grind
theorem ZN3:Rp d i j=some (Kx d i j):=by
 have hm:=h.v.m;have hlc:=h.v.lc;have hll:=h.v.ll;have hn:=h.v.n;have hi:=h.hi;have hj:=h.hj;have hol:=Nr d i j;refine W0.2.2.2.2 _ _ _ _ ⟨_,Z1x h.v,?_⟩;rw[Ya rfl];refine⟨_,ZM _ _ _,?_⟩;rw[Xb ⟨Z,Z⟩,show Al (i:Int) 0 ((d.Basic.length:Int)-1)=true from ZP.2 ⟨Z,Z⟩,Ya rfl];refine⟨_,ZM _ _ _,?_⟩;rw[Xb ⟨Z,Z⟩,show Al (j:Int) 0 ((d.Free.length:Int)-1)=true from ZP.2 ⟨Z,Z⟩,Ya rfl];refine⟨Z,_,Gw Z,Z,_,(Gx h.v hi hj).2.2,?_⟩;rw[Yb h.nz];have:=mT h ⟨0,0⟩ 0 (Yc _);simpa[Xf,vals]using this
end
def JK(x:Int):Bool:=Al x (-9) 9
def mU(n:Nat)(r:WL):Bool:=r.all JK && decide ((r.length:Int)=n)
def QS(p:Program):Bool:=Al p.Objective.length 1 15 && decide ((p.Rows.length:Int)<=64) && decide ((p.Rows.length:Int)=p.Limits.length) && (p.Objective.all JK && (p.Rows.all (mU p.Objective.length) && p.Limits.all λx=>Al x 0 99))
structure Ic (p:Program):Prop where
 o:p.Objective.length<=1000
 r:p.Rows.length<=1000
 l:p.Limits.length<=1000
 row:∀r∈p.Rows,r.length<=1000
def ZrN{α:Type}(q:α->Bool){xs:List α}{i:Nat}(h:i<xs.length):(xs.drop i).all q=(q xs[i] && (xs.drop (i+1)).all q):=by
 rw[Yi h,CU]
def chk(n:Nat):WA->WL->Bool
 |r::rs,l::ls=>decide ((r.length:Int)=n) && (Al l 0 99 && (r.all JK && chk n rs ls))
 |_,_=>true
theorem ZBM(n:Nat):∀(rs:WA) (ls:WL),rs.length=ls.length->chk n rs ls=(rs.all (mU n) && ls.all λx=>Al x 0 99)
 |[],[],_=>rfl
 |r::rs,l::ls,h=>by
  unfold chk;rw[ZBM n rs ls (by simpa using h),CU,CU];unfold mU
  grind
 |[],_::_,h=>by cases h
 |_::_,[],h=>by cases h
def mV(p:Program){i:Nat}(hi:i<p.Rows.length)(hr:p.Rows[i].length=p.Objective.length)(ho:p.Objective.length<=1000)(b:Bool)(c:Rl p p.Objective.length (w ((i:Int)+1))=some (Bo b,[])):∀k,k<=p.Objective.length->dU p p.Objective.length i k=some (Bo ((p.Rows[i].drop k).all JK && b),[]):=by
 refine down _ ?_ ?_
 .apply Wz.2.1.2.2
  grind
 .intro k hk ih;apply Wz.2.1.2.2;rw[An,wS hk Z,ZrN _ Z];refine⟨Z,_,gE hi,Z,_,gE Z,_,ZM _ _ _,?_⟩;rw[show Al p.Rows[i][k] (-9) 9=JK p.Rows[i][k]from rfl]
  simp_all
def mW(p:Program)(h:Ic p)(hl:p.Rows.length=p.Limits.length):∀i,i<=p.Rows.length->Rl p p.Objective.length i=some (Bo (chk p.Objective.length (p.Rows.drop i) (p.Limits.drop i)),[]):=by
 have h1:=h.o;have h2:=h.r;refine down _ ?_ ?_
 .apply Wz.2.1.2.1;rw[Ao,Ym];rfl
 .intro i hi ih;have hi2:i<p.Limits.length:=by omega
  apply Wz.2.1.2.1;rw[An,Yi hi,Yi hi2,chk];refine⟨Z,_,gE hi,?_⟩;by_cases e:(p.Rows[i].length:Int)=p.Objective.length
  .rw[Ya e,decide_eq_true e,Yk];refine⟨_,gE hi2,_,ZM _ _ _,?_⟩;rcases ft (Al p.Limits[i] 0 99)with e2|e2
   .rw[e2,Ya rfl,Yk];have:=mV p hi Z h1 _ (by rw[wS hi Z];exact ih) 0 (Yc _)
    simp_all
   .simp_all
  .simp_all
def mX(p:Program)(h:Ic p)(hl:p.Rows.length=p.Limits.length):∀k,k<=p.Objective.length->dT p p.Objective.length k=some (Bo ((p.Objective.drop k).all JK && chk p.Objective.length p.Rows p.Limits),[]):=by
 have h1:=h.o;refine down _ ?_ ?_
 .apply Wz.2.1.1;rw[Ao,Ym,List.all_nil,Yk];simpa using mW p h hl 0 (Yc _)
 .intro k hk ih;apply Wz.2.1.1;rw[An,wS hk Z,ZrN _ hk];refine⟨Z,_,gE hk,_,ZM _ _ _,?_⟩;rw[show Al p.Objective[k] (-9) 9=JK p.Objective[k]from rfl]
  simp_all
def ZBN{p:Program}(h:Ic p):Rk p=some (Bo (QS p),[]):=by
 refine Wz.2.2.1.1 _ _ ⟨_,ZM _ _ _,?_⟩;unfold QS;rcases ft (Al (p.Objective.length:Int) 1 15)with e|e
 .rw[e,Ya rfl,Yk];by_cases e2:64<(p.Rows.length:Int)
  .grind
  rw[Yb e2,decide_eq_true (show(p.Rows.length:Int)<=64 by omega),Yk];by_cases e3:(p.Rows.length:Int)=(p.Limits.length:Int)
  .rw[Ya e3,decide_eq_true e3,Yk];have:=mX p h Z 0 (Yc _)
   grind [ZBM]
  .simp_all
 .simp_all
def wh(l:WL):List Zb:=l.map λn=>⟨n,1⟩
def Qu(n:Nat):WL:=(List.range n).map λk:Nat=>(k:Int)
def Qb(n m:Nat):WL:=(List.range m).map λi:Nat=>(n:Int)+i
def VR(p:Program):Zv:=⟨Qb p.Objective.length p.Rows.length,Qu p.Objective.length,p.Rows.map wh,wh p.Limits,wh p.Objective,⟨0,1⟩⟩
def ZN4(n:Nat):Qu (n+1)=Qu n++[(n:Int)]:=by simp[Qu,DM]
def ZBO(n m:Nat):Qb n (m+1)=Qb n m++[(n:Int)+m]:=by simp[Qb,DM]
def Zq7(n:Nat):(Qu n).length=n:=by simp[Qu]
def Z1z(n m:Nat):(Qb n m).length=m:=by simp[Qb]
def SY{l:WL}{i:Nat}(h:i<l.length):wh (l.take (i+1))=wh (l.take i)++[⟨l[i],1⟩]:=by
 unfold wh;rw[Y0 h,CV];rfl
def mY(l:WL):(wh l).length=l.length:=by simp[wh]
def ZBP{l:WA}{i:Nat}(h:i<l.length):(l.take (i+1)).map wh=(l.take i).map wh++[wh l[i]]:=by
 grind [List.take_succ_eq_append_getElem]
def mZ{n i:Nat}(hn:n<=1000)(hi:i<=1000):w ((n:Int)+(i:Int))=(n:Int)+i:=Xb ⟨Z,Z⟩
section
variable{p:Program}(h:Ic p)(hm:p.Rows≠[])(hn:p.Objective≠[])
include h hm hn
end
structure OkP (p:Program):Prop where
 o:1<=p.Objective.length/\p.Objective.length<=15
 r:p.Rows.length<=64
 l:p.Rows.length=p.Limits.length
 row:∀r∈p.Rows,r.length=p.Objective.length
 lim:∀x∈p.Limits,0<=x/\x<=99
 cs:(∀x∈p.Objective,JK x=true)/\∀r∈p.Rows,∀x∈r,JK x=true
theorem Zq8{p:Program}(h:QS p=true):OkP p:=by
 unfold QS at h;simp only[Yg,decide_eq_true_eq]at h;obtain⟨⟨⟨h1,h2⟩,h3⟩,h4,h5,h6⟩:=h;have h1:=ZP.1 h1;refine⟨Z,Z,Z,λr hr=>?_,λx hx=>ZP.1 (Yp.1 h6 x hx),λx hx=>Yp.1 h4 x hx,λr hr x hx=>?_⟩
 .have:=Yp.1 h5 r hr;unfold mU at this
  grind
 .have:=Yp.1 h5 r hr;unfold mU at this
  simp_all
section
variable{p:Program}(h:OkP p)(hm:p.Rows≠[])
include h hm
omit hm in
theorem ZN5(V V1:Zb)(F:WL)(K:List Zb)(res:XS){i:Nat}(hi:i<p.Rows.length)(c:LD p V V1 ([w ((p.Objective.length:Int)+i)]) F ([wh p.Rows[i]]) ([⟨p.Limits.getD i 0,1⟩]) K p.Objective.length (w ((i:Int)+1))=some res):∀k,k<=p.Objective.length->dX p V V1 F K (wh (p.Rows[i].take k)) p.Objective.length i k=some res:=by
 have h1:=h.o;have h2:=h.r;have hl:=h.l;have hr:=h.row _ (Yf hi);refine down _ ?_ ?_
 .apply Ws.1.1.2.2;rw[Ao,<-hr,Yq,hr];exact⟨Z,_,Ib Z,_,Ui _,c⟩
 .intro k hk ih;apply Ws.1.1.2.2;rw[An,wS hk Z];rw[SY Z]at ih;exact⟨Z,_,gE hi,Z,_,gE Z,_,Ui _,by rw[mY,Yy];omega,ih⟩
omit hm in
theorem ZN6(V V1:Zb)(B F:WL)(C:List (List Zb))(L K:List Zb)(hB:B.length<=1000/\C.length<=1000/\L.length<=1000)(res:XS){i:Nat}(hi:i<p.Rows.length)(c:LD p V V1 (B++[w ((p.Objective.length:Int)+i)]) F (C++[wh p.Rows[i]]) (L++[⟨p.Limits.getD i 0,1⟩]) K p.Objective.length (w ((i:Int)+1))=some res):∀k,k<=p.Objective.length->dY p V V1 B F C L K (wh (p.Rows[i].take k)) p.Objective.length i k=some res:=by
 have h1:=h.o;have h2:=h.r;have hl:=h.l;have hr:=h.row _ (Yf hi);refine down _ ?_ ?_
 .apply Ws.1.2.1.2;rw[Ao,<-hr,Yq,hr];exact⟨Z,Z,Z,_,Ib Z,_,Ui _,Z,c⟩
 .intro k hk ih;apply Ws.1.2.1.2;rw[An,wS hk Z];rw[SY Z]at ih;exact⟨Z,_,gE hi,Z,_,gE Z,_,Ui _,by rw[mY,Yy];omega,ih⟩
omit h hm in
theorem Nu{l:WL}{i:Nat}(h:i<l.length):l[i]=l.getD i 0:=by
 simp_all
omit hm in
theorem ZN7(V V1:Zb)(F:WL)(K:List Zb):∀i,i<=p.Rows.length->0<i->LD p V V1 (Qb p.Objective.length i) F ((p.Rows.take i).map wh) (wh (p.Limits.take i)) K p.Objective.length i=some (SU true ⟨Qb p.Objective.length p.Rows.length,F,p.Rows.map wh,wh p.Limits,K,V1⟩):=by
 have h1:=h.o;have h2:=h.r;have hl:=h.l;refine down _ ?_ ?_
 .intro _;apply Ws.1.2.1.1;rw[Ao,Yq,hl,Yq];rfl
 .intro i hi ih h0;apply Ws.1.2.1.1;rw[An];have ih:=ih Z;rw[ZBO,ZBP hi,SY Z,Nu Z]at ih;have:=ZN6 h V V1 (Qb p.Objective.length i) F ((p.Rows.take i).map wh) (wh (p.Limits.take i)) K (by rw[Z1z,DL,Yy,mY,Yy];omega) _ hi (by rw[wS hi Z,mZ Z Z];exact ih) 0 (Yc _);simpa[wh]using this
theorem ZN8(V V1:Zb):∀k,k<=p.Objective.length->0<k->dW p V V1 (Qu k) (wh (p.Objective.take k)) p.Objective.length k=some (SU true ⟨Qb p.Objective.length p.Rows.length,Qu p.Objective.length,p.Rows.map wh,wh p.Limits,wh p.Objective,V1⟩):=by
 have h1:=h.o;have h2:=h.r;have hl:=h.l;refine down _ ?_ ?_
 .intro _;apply Ws.1.1.1.2;rw[Ao,Yq];have hp:0<p.Rows.length:=Y5.2 hm;apply Ws.1.1.2.1;rw[An];have ih:=ZN7 h V V1 (Qu p.Objective.length) (wh p.Objective) (0+1) Z Z;rw[ZBO,ZBP hp,SY Z,Nu Z]at ih;have:=ZN5 h V V1 (Qu p.Objective.length) (wh p.Objective) (SU true ⟨Qb p.Objective.length p.Rows.length,Qu p.Objective.length,p.Rows.map wh,wh p.Limits,wh p.Objective,V1⟩) hp (by rw[wS hp Z,mZ Z Z];simpa[Qb,wh]using ih) 0 (Yc _);simpa[wh]using this
 .intro k hk ih h0;apply Ws.1.1.1.2;rw[An,wS hk Z];have ih:=ih Z;rw[ZN4,SY hk]at ih;exact⟨by rw[Zq7];omega,Z,_,gE hk,_,Ui _,by rw[mY,Yy];omega,ih⟩
end
def ZN9{p:Program}(h:Ic p)(hm:p.Rows≠[]):dV p=some (if QS p=true then SU true (VR p)else Nq):=by
 refine Ws.1.2.2.1 _ _ ⟨_,ZBN h,?_⟩;rcases ft (QS p)with e|e
 .rw[e,Ya rfl,Ya rfl];have ho:=Zq8 e;have h1:=ho.o;refine⟨_,Ui 0,?_⟩;apply Ws.1.1.1.1;rw[An,show w (0+1)=((0+1:Nat):Int) by decide];have:=ZN8 ho hm ⟨0,0⟩ ⟨0,1⟩ (0+1) Z Z;rw[SY (show 0<p.Objective.length by omega)]at this;exact⟨Z,_,gE (i:=0) Z,_,Ui _,by simpa[Qu,wh,VR]using this⟩
 .rw[e,Yb Sm,Yb Sm];rfl
def m7{x:Int}(h:-2147483647<=x/\x<=2147483647):vR ⟨x,1⟩=true:=UX.2 ⟨by simp only;omega,by simp only;omega,Om⟩
def Nv{l:WL}(h:∀x∈l,-2147483647<=x/\x<=2147483647):Qt (wh l):=by
 intro r hr;obtain⟨x,hx,rfl⟩:=Yn.1 hr;exact m7 (h x hx)
def ZBQ{x:Int}(h:JK x=true):-2147483647<=x/\x<=2147483647:=by have:=ZP.1 h;omega
theorem ZBR{p:Program}(h:OkP p):H8 (VR p):=by
 have h1:=h.o;have h2:=h.r;refine⟨⟨by simp[VR,Qb];omega,by simp[VR,Qu];omega,by simp[VR,Qb],by simp[VR,Qb,wh,h.l],by simp[VR,Qu,wh],?_,?_,?_,?_,v0⟩,?_,by simp[VR]⟩
 .intro v hv;simp only[VR,Z1z,Zq7]at hv;simp only[VR,Yl];rcases DD v p.Objective.length with hl|hl
  .right;exact Yn.2 ⟨v,Y3.2 hl,rfl⟩
  .left;exact Yn.2 ⟨v-p.Objective.length,Y3.2 Z,Z⟩
 .intro r hr;obtain⟨x,hx,rfl⟩:=Yn.1 hr;refine⟨?_,Nv λy hy=>ZBQ (h.cs.2 x hx y hy)⟩;rw[mY];simp[VR,Zq7,h.row x hx]
 .exact Nv λx hx=>by have:=h.lim x hx;omega
 .exact Nv λx hx=>ZBQ (h.cs.1 x hx)
 .intro r hr;obtain⟨x,hx,rfl⟩:=Yn.1 hr;exact(h.lim x hx).1
def m8:XS:=(.tup [.agg [I 0,I 0,.own 0,.own 1],Bo false],[.arr 277 2 true (([]:List Zb).map Zb.c),.arr 277 2 true (([]:List Zb).map Zb.c)])
def SZ(v:Zb)(P D:List Zb):XS:=(.tup [.agg [I v.Num,I v.Den,.own 0,.own 1],Bo true],[.arr 277 2 true (P.map Zb.c),.arr 277 2 true (D.map Zb.c)])
def Ans(o:Option Zv)(r:Rs):Prop:=match o with
 |none=>r=some m8
 |some d=>∃P D:List Zb,r=some (SZ d.Value P D)
structure Zq9 (p:Program) (d:Zv):Prop where
 g:H8 d
 m:d.Basic.length=p.Rows.length
 n:d.Free.length=p.Objective.length
def m9{xs:List Zb}{k:Int}(h0:0<=k)(h:k<xs.length):∃e,xs[k.toNat]?=some e:=⟨_,gR (i:=k.toNat) Z⟩
def ZBS{n:Nat}(h:n<=1000):n*8<=room:=by unfold room;omega
def ZNA{p:Program}{d:Zv}(h:Zq9 p d)(h1:¬ent d<0)(h2:¬Ck d (ent d).toNat<0)(ok:okO d (Ck d (ent d).toNat).toNat (ent d).toNat=true):Zq9 p (Ww d (Ck d (ent d).toNat).toNat (ent d).toNat) :=
 ⟨ZB3 h.g h1 h2 ok,by simp[Ww,h.m],by simp[Ww,h.n]⟩
def ZNB{d:Zv}(h:H8 d)(h1:¬ent d<0)(h2:¬Ck d (ent d).toNat<0):Ns d (Ck d (ent d).toNat).toNat (ent d).toNat:=by
 have hk:=h.v.lk;rcases Z1r d with e|⟨e1,e2,e3⟩
 .omega
 rcases ZB2 d (ent d).toNat with l|⟨l1,l2,l3,l4⟩
 .omega
 refine⟨h.v,Z,Z,?_⟩;unfold ES at l3;omega
def S0(p:Program):Option Zv:=if QS p=true then H7 300 (VR p)else none
section
variable{p:Program}{d:Zv}(h:Zq9 p d)(hm:p.Rows≠[])
include h
theorem nA(V:Zb):∀i,i<=d.Free.length->∀x x1:List Zb,x1.length=p.Rows.length->∃P D:List Zb,Rv p V d d.Value x x1 i=some (SZ d.Value P D):=by
 have hv:=ZB6 h.g.v;have h1:=h.g.v.n;have h2:=h.g.v.m;have h3:=h.m;have h4:=h.n;have hlk:=h.g.v.lk;refine down _ ?_ ?_
 .intro x x1 hx;refine⟨x,x1,XU.1.2.2.1 _ _ _ _ _ _ _ _ ?_⟩;rw[Ao];rfl
 .intro i hi ih x x1 hx;have hb:=hv d.Free[i] (Iy _ (Yf hi));by_cases c:(p.Objective.length:Int)<=d.Free[i]
  .have hq:=mH (SR (k:=i) h.g.v.vk Z);obtain⟨P,D,Cl⟩:=ih x (x1.set (d.Free[i]-p.Objective.length).toNat ⟨w (0-(d.Costs.getD i r0).Num),(d.Costs.getD i r0).Den⟩) (by rw[EH];exact hx);refine⟨P,D,XU.1.2.2.1 _ _ _ _ _ _ _ _ ?_⟩;have hw:w (d.Free[i]-p.Objective.length)=d.Free[i]-p.Objective.length:=Xb ⟨Z,Z⟩;obtain⟨e,he⟩:=m9 (xs:=x1) (k:=d.Free[i]-p.Objective.length) Z Z;rw[An,wS hi Z];refine⟨Z,_,gE hi,?_⟩
   grind
  .obtain⟨P,D,Cl⟩:=ih x x1 hx;refine⟨P,D,XU.1.2.2.1 _ _ _ _ _ _ _ _ ?_⟩;rw[An,wS hi Z];refine⟨Z,_,gE hi,?_⟩;rw[Yb c];exact Cl
theorem nB(V:Zb):∀i,i<=d.Basic.length->∀x x1:List Zb,x.length=p.Objective.length->x1.length=p.Rows.length->∃P D:List Zb,Ru p V d d.Value x x1 i=some (SZ d.Value P D):=by
 have hv:=ZB6 h.g.v;have h1:=h.g.v.n;have h2:=h.g.v.m;have h3:=h.m;have h4:=h.n;have hll:=h.g.v.ll;refine down _ ?_ ?_
 .intro x x1 hx hx1;obtain⟨P,D,Cl⟩:=nA h V 0 (Yc _) x x1 hx1
  grind [XU.1.2.1.2]
 .intro i hi ih x x1 hx hx1;have hb:=hv d.Basic[i] (GL _ (Yf hi));by_cases c:d.Basic[i]<(p.Objective.length:Int)
  .obtain⟨P,D,Cl⟩:=ih (x.set d.Basic[i].toNat (d.Limits.getD i r0)) x1 (by rw[EH];exact hx) hx1;refine⟨P,D,XU.1.2.1.2 _ _ _ _ _ _ _ _ ?_⟩;obtain⟨e,he⟩:=m9 (xs:=x) (k:=d.Basic[i]) Z Z;rw[An,wS hi Z];refine⟨Z,_,gE hi,?_⟩
   grind
  .obtain⟨P,D,Cl⟩:=ih x x1 hx hx1;refine⟨P,D,XU.1.2.1.2 _ _ _ _ _ _ _ _ ?_⟩;rw[An,wS hi Z];refine⟨Z,_,gE hi,?_⟩;rw[Yb c];exact Cl
theorem nC(V:Zb):∀i,i<=p.Rows.length->∀x x1:List Zb,x.length=p.Objective.length->x1.length=i->∃P D:List Zb,eQ p V d d.Value x x1 i=some (SZ d.Value P D):=by
 have h2:=h.g.v.m;have h3:=h.m;refine down _ ?_ ?_
 .intro x x1 hx hx1;obtain⟨P,D,Cl⟩:=nB h V 0 (Yc _) x x1 hx hx1
  grind [XU.1.2.1.1]
 .intro i hi ih x x1 hx hx1;obtain⟨P,D,Cl⟩:=ih x (x1++[⟨0,1⟩]) hx (by simp[hx1])
  grind [XU.1.2.1.1,wS,Ui]
include hm in
theorem nD(V:Zb):∀k,k<=p.Objective.length->∀x:List Zb,x.length=k->∃P D:List Zb,eO p V d d.Value x k=some (SZ d.Value P D):=by
 have h1:=h.g.v.n;have h4:=h.n;have hp:0<p.Rows.length:=Y5.2 hm;refine down _ ?_ ?_
 .intro x hx;obtain⟨P,D,Cl⟩:=nC h V (0+1) Z x [⟨0,1⟩] hx rfl;refine⟨P,D,XU.1.1.2.1 _ _ _ _ _ _ _ ?_⟩;rw[Ao];apply XU.1.1.2.2;rw[An,show w (0+1)=((0+1:Nat):Int) by decide]
  grind [Ui]
 .intro k hk ih x hx;obtain⟨P,D,Cl⟩:=ih (x++[⟨0,1⟩]) (by simp[hx])
  grind [XU.1.1.2.1,wS,Ui]
include hm in
theorem Abj(V:Zb):∃P D:List Zb,yK p V d d.Value 0=some (SZ d.Value P D):=by
 have h1:=h.g.v.n;have h4:=h.n;obtain⟨P,D,Cl⟩:=nD h hm V (0+1) Z [⟨0,1⟩] rfl;refine⟨P,D,XU.1.1.1.2 _ _ _ _ _ _ ?_⟩;rw[An,show w (0+1)=((0+1:Nat):Int) by decide]
 grind [Ui]
end
def nE{p:Program}(hm:p.Rows≠[])(V:Zb):∀(f:Nat) (d:Zv),Zq9 p d->f<=300->Ans (H7 f d) (FY p V d (300-(f:Int))):=by
 intro f
 induction f with
 |zero =>
  intro d h hf;apply XU.1.1.1.1
  rw[Ao];rfl
 |succ f ih =>
  intro d h hf2;have hk:=h.g.v.lk;unfold H7;by_cases h1:ent d<0
  .rw[Ya h1];obtain⟨P,D,Cl⟩:=Abj h hm V;refine⟨P,D,XU.1.1.1.1 _ _ _ _ _ ?_⟩;rw[An];refine⟨_,Zq5 h.g.v,?_⟩
   simp_all
  rw[Yb h1];obtain⟨j,hj⟩:∃j:Nat,ent d=j:=⟨(ent d).toNat,Z⟩;have hjn:j<d.Free.length:=by
   grind [Z1r]
  by_cases h2:Ck d (ent d).toNat<0
  .rw[Ya h2];rw[hj,Yh]at h2;apply XU.1.1.1.1;rw[An];refine⟨_,Zq5 h.g.v,?_⟩;rw[Yb h1,hj];refine⟨_,Z1y h.g.v hjn,?_⟩;rw[Ya h2];rfl
  rw[Yb h2];have hP:=ZN3 (ZNB h.g h1 h2);have hst:=ZNA h h1 h2;rw[hj,Yh]at h2 hP hst|-;obtain⟨i,hi⟩:∃i:Nat,Ck d j=i:=⟨(Ck d j).toNat,Z⟩;rw[hi,Yh]at hP hst|-;have hwr:w ((300-((f+1:Nat):Int))+1)=300-(f:Int):=by rw[Xb ⟨Z,Z⟩];omega
  unfold Kx at hP;rcases ft (okO d i j)with ok|ok
  .rw[ok,Ya rfl]at hP|-;have ih:=ih (Ww d i j) (hst ok) Z;have key:∀r,FY p V (Ww d i j) (300-(f:Int))=some r->FY p V d (300-((f+1:Nat):Int))=some r:=by
    intro r hr;apply XU.1.1.1.1;rw[An];refine⟨_,Zq5 h.g.v,?_⟩;rw[Yb h1,hj];refine⟨_,Z1y h.g.v hjn,?_⟩;rw[hi,Ao];refine .inr ⟨_,_,_,_,_,_,_,hP,?_⟩;rw[hwr];exact hr
   cases hs:H7 f (Ww d i j)with
   |none=>rw[hs]at ih;exact key _ ih
   |some d'=>rw[hs]at ih;obtain⟨P,D,Cl⟩:=ih;exact⟨P,D,key _ Cl⟩
  .rw[ok,Yb Sm]at hP|-;apply XU.1.1.1.1;rw[An];refine⟨_,Zq5 h.g.v,?_⟩;rw[Yb h1,hj];refine⟨_,Z1y h.g.v hjn,?_⟩;rw[hi,Ao];refine .inl ⟨[],[],[],[],[],r0,false,hP,?_⟩;rw[Yb Sm];rfl
def ZNC{p:Program}(h:Ic p)(hm:p.Rows≠[]):Ans (S0 p) (eN p):=by
 have hI:=ZN9 h hm;unfold S0;rcases ft (QS p)with e|e
 .rw[e,Ya rfl]at hI|-;have ho:=Zq8 e;have hs:=nE (p:=p) hm ⟨0,0⟩ 300 (VR p) ⟨ZBR ho,by simp[VR,Z1z],by simp[VR,Zq7]⟩ Z;have key:∀r,FY p ⟨0,0⟩ (VR p) (300-((300:Nat):Int))=some r->eN p=some r:=by
   intro r hr;refine XU.1.2.2.2 _ _ ⟨_,_,_,_,_,_,_,hI,?_⟩
   simp_all
  cases hs':H7 300 (VR p)with
  |none=>rw[hs']at hs;exact key _ hs
  |some d'=>rw[hs']at hs;obtain⟨P,D,Cl⟩:=hs;exact⟨P,D,key _ Cl⟩
 .rw[e,Yb Sm]at hI|-;refine XU.1.2.2.2 _ _ ⟨[],[],[],[],[],r0,false,hI,?_⟩;rw[Yb Sm];rfl
def ZND{p:Program}{d:Zv}(h:S0 p=some d):H8 d:=by
 unfold S0 at h
 grind [ZB4,ZBR,Zq8]
set_option maxRecDepth 100000 in
def ZNE:∀n:Fin 60,Ac 1 (n.1:Int)=2 ^ n.1:=by decide
theorem ZqA{n:Int}(h0:0<=n)(h:n<60):Ac 1 n=2 ^ n.toNat:=by
 have:=ZNE ⟨n.toNat,Z⟩
 grind
theorem ZBT{n:Int}(h:n<=40):(1:Int)<=2 ^ n.toNat/\(2:Int) ^ n.toNat<=1099511627776:=by
 have h1:(2:Nat) ^ n.toNat<=2 ^ 40:=Nat.pow_le_pow_right Sm Z
 grind
def Nw{p k:Int}(h0:1<=p)(hp:p<=1099511627776)(hk:1<=k)(c:k<=5000):1<=p*k/\p*k<=5497558138880000:=by
 have h1:=Int.mul_le_mul h0 hk Z Z;have h2:=Int.mul_le_mul hp c Z Z;omega
theorem nF{k c den:Int}(hk:1<=k/\k<=5000)(hn:0<=c/\c<=40)(hd:den<=4611686018427387904):∀(n:Nat) (p i:Int),den-i=n->0<=i->1<=p->p<=2 ^ c.toNat->eS k den c p i=some (Bo (mD k (2 ^ c.toNat) n p),[]):=by
 have hB:=ZBT hn.2;intro n
 induction n with
 |zero =>
  intro p i _ _ _ _;apply XU.2.2.1.1
  rw[Ao];rfl
 |succ n ih =>
  intro p i h9 hi h0 hp;have hm:=Nw h0 Z hk.1 hk.2;apply XU.2.2.1.1;rw[An,Xb (x:=p*k) ⟨Z,Z⟩,ZqA hn.1 Z,mD]
  grind [Xb]
def ZNF{k c cc:Int}(hk:1<=k/\k<=5000)(hn:0<=cc/\cc<=40)(hd:0<=c/\c<=4611686018427387904):yO k c cc=some (Bo (mD k (2 ^ cc.toNat) c.toNat 1),[]):=by
 grind [ZBT,XU.2.2.1.2,nF]
def ZNG{r:Zb}(h:vR r=true):(-2147483647<=r.Num.tdiv r.Den/\r.Num.tdiv r.Den<=2147483647)/\KZ (r.Num.tdiv r.Den*r.Den):=by
 obtain⟨h1,h2,h3⟩:=Qa h;have e:(r.Num.tdiv r.Den).natAbs<=r.Num.natAbs:=by rw[Int.natAbs_tdiv];exact Nat.div_le_self _ _
 have hA:-2147483647<=r.Num.tdiv r.Den/\r.Num.tdiv r.Den<=2147483647:=by omega
 have:=QQ hA h2;omega
def ZNH{r:Zb}(h:vR r=true):yN r=some (I (SS r),[]):=by
 obtain⟨h1,h2⟩:=ZNG h;have h3:=Qa h;refine XU.2.1.2.1 _ _ ⟨_,U3 r,?_⟩;rw[h,Ya rfl,Xb (x:=r.Num.tdiv r.Den) ⟨Z,Z⟩,Xb h2,Xb (x:=r.Num.tdiv r.Den+1) ⟨Z,Z⟩];refine⟨Z,?_⟩;unfold SS;split<;>rfl
def ZNI{r:Zb}(h0:0<=r.Num)(hd:1<=r.Den):0<=SS r:=by
 have:0<=r.Num.tdiv r.Den:=Int.tdiv_nonneg h0 Z
 unfold SS;split<;>omega
theorem nG{r:Zb}(h:vR r=true)(h0:0<=r.Num/\r.Num<=40):∀(f:Nat) (k:Int),k=4096-f->1<=k->eU r k=some (I (pfG (2 ^ r.Num.toNat) r.Den.toNat f k),[]):=by
 have h3:=Qa h;intro f
 induction f with
 |zero =>
  intro k hk h1;apply XU.2.2.2.1
  rw[Ao];rfl
 |succ f ih =>
  intro k hk h1;apply XU.2.2.2.1;rw[An,Xb (x:=k+1) ⟨Z,Z⟩,pfG];refine⟨_,ZNF ⟨Z,Z⟩ h0 ⟨Z,Z⟩,?_⟩
  grind
theorem ZNJ{r:Zb}(h:vR r=true)(h0:0<=r.Num):eT r=some (I (mG r),[]):=by
 have h3:=Qa h;refine XU.2.2.2.2 _ _ ⟨_,U3 r,?_⟩;rw[h,Ya rfl,Ao];by_cases c:40<r.Num
 .rw[Ya c];have hc:=ZNI h0 h3.2.2;refine⟨_,ZNH h,Nk (SS r),XU.2.1.2.2 _ _ ?_,?_⟩
  .unfold Nk
   grind [ZqA]
  .unfold mG;rw[Ya c]
 .rw[Yb c];unfold mG
  grind [nG]
def ZqB(n:Int):Nat->Int->Int
 |0,b=>b
 |f+1,b=>if Ac 1 b<n then ZqB n f (b+1)else b
def Nx(n:Int):Int:=if Al n 1 4096=true then ZqB n 12 0 else -1
theorem nH{n:Int}(h:n<=4096):∀(f:Nat) (b:Int),b=12-f->0<=b->Rd n b=some (I (ZqB n f b),[]):=by
 intro f
 induction f with
 |zero =>
  intro b hb h0;refine Wo.2.2.2.2.2 _ _ _ ⟨Z,?_⟩
  rw[show b=12 by omega,Yb (by rw[show Ac 1 12=4096 by decide];omega)];rfl
 |succ f ih =>
  intro b hb h0;refine Wo.2.2.2.2.2 _ _ _ ⟨Z,?_⟩;rw[Xb (x:=b+1) ⟨Z,Z⟩,ZqB]
  grind
def ZNK(n:Int):xR n=some (I (Nx n),[]):=by
 refine QD.1.1.1 _ _ ⟨_,ZM _ _ _,?_⟩;unfold Nx;rcases ft (Al n 1 4096)with e|e
 .grind [nH,ZP]
 .simp_all
def Gy:Int->WL->Int
 |s,[]=>s
 |s,v::vs=>Gy (if Al v 0 3=true then At s (Ac 1 v)else s) vs
def nI(xs:WL)(hl:xs.length<=1000):∀i,i<=xs.length->∀s,Rb xs s i=some (I (Gy s (xs.drop i)),[]):=by
 refine down _ ?_ ?_
 .intro s;apply Wo.2.2.1.2;rw[Ao,Ym];rfl
 .intro i hi ih s;apply Wo.2.2.1.2;rw[An,wS hi Z,Yi hi,Gy]
  simp_all [gE,ZM,ft,ZP]
def ZNL{xs:WL}(hl:xs.length<=1000):dJ xs=some (I (Gy 0 xs),[]):=Wo.2.2.2.1 _ _ (by simpa using nI xs hl 0 (Yc _) 0)
def S2(m:Int):Nat->WL->WL
 |_,[]=>[]
 |k,v::vs=>if Ah (Au m k) 1=1 then v::S2 m (k+1) vs else S2 m (k+1) vs
def Ny(a:Zg)(m:Int)(h3:a.Vars.length<=3):∀i,i<=a.Vars.length->∀s,Ra a m s i=some (I (Gy s (S2 m i (a.Vars.drop i))),[]):=by
 refine down _ ?_ ?_
 .intro s;apply Wo.2.1.2.2;rw[Ao,Ym];rfl
 .intro i hi ih s;apply Wo.2.1.2.2;rw[An,An,wS hi Z,Yi hi,S2];refine⟨Z,?_⟩;by_cases c:Ah (Au m i) 1=1
  .rw[Ya c,Ya c,Gy]
   simp_all [gE,ZM,ft,ZP]
  .simp_all
def nJ{a:Zg}{m:Int}(h3:a.Vars.length<=3):dI a m=some (I (Gy 0 (S2 m 0 a.Vars)),[]):=Wo.2.2.1.1 _ _ _ (by simpa using Ny a m h3 0 (Yc _) 0)
def geI(a b:Int):Bool:=decide (b<=a)
def JL:Int->Option Int->WL->Bool
 |_,_,[]=>true
 |left,p,v::vs=>Al v 1 left && BO geI p v && JL (left-v) (some v) vs
def nK(xs:WL)(hl:Le xs):∀i,i<=xs.length->∀left,0<=left->left<=8->dG xs (8-left) i=some (Bo (JL left (Cd xs i) (xs.drop i)),[]):=by
 refine down _ ?_ ?_
 .intro left _ _;apply Wo.1.2.2.2.1;rw[Ao,Ym];rfl
 .intro i hi ih left h0 h8;apply Wo.1.2.2.2.1;rw[An,wS hi Z,Yi hi,JL,show w (8-(8-left))=left by rw[Xb ⟨Z,Z⟩];omega];refine⟨Z,_,gE hi,_,ZM _ _ _,?_⟩;rw[show Cd xs (i+1)=some xs[i]from Yd hi]at ih;rcases ft (Al xs[i] 1 left)with e|e
  .have e':=ZP.1 e;rw[e,Ya rfl,Yk,show w (8-left+xs[i])=8-(left-xs[i]) by rw[Xb ⟨Z,Z⟩];omega];have ih:=ih (left-xs[i]) Z Z;by_cases c:(0:Int)<(i:Int)
   .rw[Ya c,wP Z hi Z,l0 Z Z];refine⟨Z,_,gE Z,?_⟩;by_cases c2:xs[i-1]<xs[i]
    .rw[Ya c2];simp[BO,geI];omega
    .rw[Yb c2,ih];simp[BO,geI,show xs[i]<=xs[i-1] by omega]
   .obtain rfl:i=0:=by omega
    rw[Yb c,ih];simp[BO,Cd]
  .simp_all
def ZBU{xs:WL}(hl:Le xs):dF xs=some (Bo (JL 8 none xs),[]):=Wo.1.2.2.2.2 _ _ (by simpa[Cd]using nK xs hl 0 (Yc _) 8 Z Z)
def nL:WL->WL->Int->Int
 |x::xs,y::ys,n=>nL xs ys (w (n+w (x*y)))
 |_,_,n=>n
def Z10(a b:WL):Int:=if JL 8 none a && JL 8 none b then nL a b 0 else 0
theorem ZNM{xs ys:WL}{n:Int}(h:xs=[]\/ys=[]):nL xs ys n=n:=by
 rcases h with rfl|rfl
 .rfl
 .cases xs<;>rfl
def nN(a b:WL)(ha:Le a)(hb:Le b)(hd:(JL 8 none a && JL 8 none b)=true):∀i,i<=a.length->∀n,dH a b n i=some (I (nL (a.drop i) (b.drop i) n),[]):=by
 simp only[Yg]at hd;refine down _ ?_ ?_
 .intro n;apply Wo.2.1.1.1;rw[Ao,Ym];rfl
 .intro i hi ih n;apply Wo.2.1.1.1;rw[An];by_cases c:(i:Int)<(b.length:Int)
  .have hb':i<b.length:=by omega
   rw[Ya c,wS hi Z,Yi hi,Yi hb',nL]
   simp_all [ZBU,gE]
  .grind [ZNM,List.drop_eq_nil_of_le]
def ZNN{a b:WL}(ha:Le a)(hb:Le b):xO a b=some (I (Z10 a b),[]):=by
 apply Wo.2.1.1.2;unfold Z10;rcases ft (JL 8 none a && JL 8 none b)with e|e
 .rw[e,Ya rfl];simpa using nN a b ha hb e 0 (Yc _) 0
 .rw[e,Yb Sm];apply Wo.2.1.1.1
  simp_all [ZBU,ft,Yk]
def Z11{α:Type}[DecidableEq α]{xs ys:List α}{i:Nat}(h1:i<xs.length)(h2:i<ys.length):decide (xs.drop i=ys.drop i)=(decide (xs[i]=ys[i]) && decide (xs.drop (i+1)=ys.drop (i+1))):=by
 grind [List.drop_eq_getElem_cons,List.cons.injEq,Bool.decide_and]
