/-
  Parts of the proofs for this seat: LA SF LB LC LD LE LF LG LH LQ.
-/
import Derived.Test.YtggcnlojfngdeaaGreatP26
set_option linter.all false
set_option maxRecDepth 100000
set_option maxHeartbeats 4000000
namespace Go.Proofs.YtggcnlojfngdeaaGreat
open Go.AM
abbrev VC(x:Int):Prop:=-9223372036854775807<=x/\x<=9223372036854775807
theorem ZP{x:Int}(h:VC x):w x=x:=ZF Z Z
theorem Z9s(a b:Int):Int.gcd b (a.tmod b)=Int.gcd a b:=by
 grind [Int.gcd,Int.natAbs_tmod,Nat.gcd_comm,Nat.gcd_rec]
def ZKE:∀(n:Nat) (a b:Int),b.natAbs<=n->0<=a->0<=b->eN a b=some (I (Int.gcd a b:Int),[]):=by
 intro n
 induction n with
 |zero =>
  grind [Wj.2.2.2.2.1,Int.gcd_zero_right]
 |succ n ih =>
  intro a b hb ha hb2;apply Wj.2.2.2.2.1;by_cases h0:b=0
  .grind [Int.gcd_zero_right]
  .rw[Yb h0];have h1:(a.tmod b).natAbs<b.natAbs:=by rw[Int.natAbs_tmod];exact Nat.mod_lt _ Z
   grind [Int.tmod_nonneg,Z9s]
def Zz5{a b:Int}(ha:0<=a)(hb:0<=b):Hk a b=some (I (Int.gcd a b:Int),[]):=Wj.2.2.2.2.2 _ _ _ (ZKE _ a b (Yk _) ha hb)
def Zz6{a:Int}(ha:VC a):Hj a=some (I (a.natAbs:Int),[]):=by
 grind [Wj.2.2.2.1,ZP]
def U4(r:Zb):Va r=some (Bo (vR r),[]):=by
 refine Vc.1.1.1.1 _ _ ⟨_,ZH _ _ _,?_⟩;unfold vR;rcases tf (Ak r.Den 1 2147483647)with e|e
 .rw[e];simp
 have e':=ZM.1 e;rw[e,Ya rfl];refine⟨_,ZH _ _ _,?_⟩;rcases tf (Ak r.Num (-2147483647) 2147483647)with e2|e2
 .rw[e2];simp
 have e2':=ZM.1 e2;rw[e2,Ya rfl];refine⟨_,Zz6 ⟨Z,Z⟩,_,Zz5 Z Z,?_⟩;simp only[Yl];congr 3
 grind [Int.gcd]
def oR(o:Option Zb):XS:=(.tup [.agg ((o.getD r0).c.map .t),Bo o.isSome],[])
def Z9t:oR none=(.tup [.agg [I 0,I 0],Bo false],[]):=rfl
def H0{a b:Int}(h:VC a):VC (a.tdiv b):=by
 have h1:(a.tdiv b).natAbs<=a.natAbs:=by rw[Int.natAbs_tdiv];exact Nat.div_le_self _ _
 unfold VC at *
 omega
def Zp6{n d:Int}(hd:d≠0):¬(Int.gcd n d:Int)=0:=by
 simp_all
def Zp7{n d:Int}(hn:VC n)(hd:VC d):Hm n d=some (oR (BQ n d)):=by
 have hn':VC (0-n):=⟨Z,Z⟩;have hd':VC (0-d):=⟨Z,Z⟩;apply ZHU;unfold BQ;by_cases h0:d=0
 .simp_all [Z9t]
 rw[Yb h0,Yb h0,Ap,Ap,ZP hn',ZP hd'];by_cases hl:d<0
 .rw[Ya hl,Ya hl];have eg:Int.gcd ((0-n).natAbs:Int) (0-d)=Int.gcd (-n) (-d):=by unfold Int.gcd;simp
  refine⟨_,Zz6 hn',_,Zz5 Z Z,by rw[eg];exact Zp6 Z,_,U4 _,?_⟩;rw[eg,ZP (H0 hn'),ZP (H0 hd'),Int.zero_sub,Int.zero_sub];unfold BN;rcases tf (vR ⟨(-n).tdiv (Int.gcd (-n) (-d)),(-d).tdiv (Int.gcd (-n) (-d))⟩)with e|e
  .rw[e];rfl
  .rw[e];rfl
 .rw[Yb hl,Yb hl];have eg:Int.gcd (n.natAbs:Int) d=Int.gcd n d:=by unfold Int.gcd;simp
  refine⟨_,Zz6 hn,_,Zz5 Z Z,by rw[eg];exact Zp6 Z,_,U4 _,?_⟩;rw[eg,ZP (H0 hn),ZP (H0 hd)];unfold BN;rcases tf (vR ⟨n.tdiv (Int.gcd n d),d.tdiv (Int.gcd n d)⟩)with e|e
  .rw[e];rfl
  .rw[e];rfl
def QF{x y:Int}(hx:-2147483647<=x/\x<=2147483647)(hy:-2147483647<=y/\y<=2147483647):-4611686014132420609<=x*y/\x*y<=4611686014132420609:=by
 have:=Nat.mul_le_mul (show x.natAbs<=2147483647 by omega) (show y.natAbs<=2147483647 by omega);rw[<-Int.natAbs_mul]at this;omega
def UY{r:Zb}(h:vR r=true):(-2147483647<=r.Num/\r.Num<=2147483647)/\(-2147483647<=r.Den/\r.Den<=2147483647)/\1<=r.Den:=by
 have:=U1.1 h;omega
section
variable(a b:Zb)
theorem Zp8:Hn a b=some (oR (Wf a b)):=by
 refine Vc.2.1.1.1 _ _ _ ⟨_,U4 a,?_⟩;unfold Wf;rcases tf (vR a)with e|e
 .rw[e];rfl
 rw[e,Ya rfl];refine⟨_,U4 b,?_⟩;rcases tf (vR b)with e2|e2
 .rw[e2];rfl
 rw[e2,Ya rfl];obtain⟨a1,a2,_⟩:=UY e;obtain⟨b1,b2,_⟩:=UY e2;have h1:=QF a1 b2;have h2:=QF a2 b1;by_cases h0:b.Num=0
 .rw[Ya h0,Ya (by rfl),h0,Int.mul_zero];rfl
 rw[Yb h0];refine⟨_,_,?_,rfl⟩;rw[ZP ⟨Z,Z⟩,ZP ⟨Z,Z⟩];exact Zp7 ⟨Z,Z⟩ ⟨Z,Z⟩
theorem Z9u:FT a b=some (oR (We a b)):=by
 refine Vc.2.2.1.1 _ _ _ ⟨_,U4 a,?_⟩;unfold We;rcases tf (vR a)with e|e
 .rw[e];rfl
 rw[e,Ya rfl];refine⟨_,U4 b,?_⟩;rcases tf (vR b)with e2|e2
 .rw[e2];rfl
 rw[e2,Ya rfl];obtain⟨a1,a2,_⟩:=UY e;obtain⟨b1,b2,_⟩:=UY e2;have h1:=QF a1 b1;have h2:=QF a2 b2;refine⟨_,_,?_,rfl⟩;rw[ZP ⟨Z,Z⟩,ZP ⟨Z,Z⟩];exact Zp7 ⟨Z,Z⟩ ⟨Z,Z⟩
theorem ZKF:Ho a b=some (oR (V0 a b)):=by
 refine Vc.2.2.2.2 _ _ _ ⟨_,U4 a,?_⟩;unfold V0;rcases tf (vR a)with e|e
 .rw[e];rfl
 rw[e,Ya rfl];refine⟨_,U4 b,?_⟩;rcases tf (vR b)with e2|e2
 .rw[e2];rfl
 rw[e2,Ya rfl];obtain⟨a1,a2,_⟩:=UY e;obtain⟨b1,b2,_⟩:=UY e2;have h1:=QF a1 b2;have h2:=QF b1 a2;have h3:=QF a2 b2;refine⟨_,_,?_,rfl⟩;rw[ZP (x:=a.Num*b.Den) ⟨Z,Z⟩,ZP (x:=b.Num*a.Den) ⟨Z,Z⟩,ZP ⟨Z,Z⟩,ZP ⟨Z,Z⟩];exact Zp7 ⟨Z,Z⟩ ⟨Z,Z⟩
theorem ZKG:yN a b=some (oR (Uh a b)):=by
 refine Vc.2.2.1.2 _ _ _ ⟨_,U4 a,?_⟩;unfold Uh;rcases tf (vR a)with e|e
 .rw[e];rfl
 rw[e,Ya rfl];refine⟨_,U4 b,?_⟩;rcases tf (vR b)with e2|e2
 .rw[e2];rfl
 rw[e2,Ya rfl];obtain⟨a1,a2,_⟩:=UY e;obtain⟨b1,b2,_⟩:=UY e2;have h1:=QF a1 b2;have h2:=QF b1 a2;have h3:=QF a2 b2;refine⟨_,_,?_,rfl⟩;rw[ZP (x:=a.Num*b.Den) ⟨Z,Z⟩,ZP (x:=b.Num*a.Den) ⟨Z,Z⟩,ZP ⟨Z,Z⟩,ZP ⟨Z,Z⟩];exact Zp7 ⟨Z,Z⟩ ⟨Z,Z⟩
theorem ZKH:yL a b=some (I (Jz a b),[]):=by
 refine Vc.2.1.1.2 _ _ _ ⟨_,U4 a,?_⟩;unfold Jz;rcases tf (vR a)with e|e
 .rw[e];rfl
 rw[e,Ya rfl];refine⟨_,U4 b,?_⟩;rcases tf (vR b)with e2|e2
 .rw[e2];rfl
 rw[e2,Ya rfl];obtain⟨a1,a2,_⟩:=UY e;obtain⟨b1,b2,_⟩:=UY e2;have h1:=QF a1 b2;have h2:=QF b1 a2
 grind [ZP,Bool.and_self]
end
def Nq(a:Zb):Uh a r0=none:=by
 unfold Uh;rw[show vR r0=false by decide,Bool.and_false];rfl
def QG(a b c:Zb):Vb a b c=some (oR (Cc a b c)):=by
 apply Vc.2.2.2.1;unfold Cc;by_cases hb:b.Num=0
 .rw[Ya hb,Ya (.inl hb)];rfl
 rw[Yb hb];by_cases hc:c.Num=0
 .rw[Ya hc,Ya (.inr hc)];rfl
 rw[Yb hc,Yb (by simp[hb,hc])];refine⟨_,_,Z9u b c,_,_,ZKG a _,?_⟩
 cases e:We b c with
 |none=>rw[show((none:Option Zb).getD r0)=r0 from rfl,Nq];rfl
 |some x=>rfl
def lY{r:Zb}(h:vR r=true):VC r.Num:=by have:=UY h;exact⟨Z,Z⟩
def H1(rows:XV):XV:=QB (Nb rows)
abbrev Gi(l:XV):Prop:=l.Pairwise λa b=>Xq a b<0
def Zp9:∀{a b:XV},Gi a->Gi b->(∀x,x∈a↔x∈b)->a=b
 |[],[],_,_,_=>rfl
 |[],y::b,_,_,h=>by have:=(h y).2 Om;cases this
 |x::a,[],_,_,h=>by have:=(h x).1 Om;cases this
 |x::a,y::b,ha,hb,h=>by
  have ha':=Y9.1 ha;have hb':=Y9.1 hb;have e:x=y:=by
   have h1:=(h x).1 Om;have h2:=(h y).2 Om
   grind [Nc]
  subst e;rw[Zp9 ha'.2 hb'.2 λz=>?_]
  grind [Nd]
def Z9v:∀{l:XV},(l.Pairwise λa b=>DP a b=true)->Gi (QB l)
 |[],_=>by simp[QB]
 |[a],_=>by simp[QB]
 |a::b::l,h=>by
  have h1:=Y9.1 h;have ih:=Z9v h1.2;unfold QB;split
  .exact ih
  .rename_i e;refine Y9.2 ⟨λx hx=>?_,ih⟩;rw[Zzx]at hx;have hab:Xq a b<0:=by
    have h3:=h1.1 b Om;unfold DP at h3
    grind [Int.lt_or_eq_of_le,Kl]
   rcases Yz.1 hx with rfl|hx
   .exact hab
   .have h2:=(Y9.1 h1.2).1 x hx;unfold DP at h2
    grind [lN,Int.lt_or_eq_of_le,Kl,Nc]
def Zz7(rows:XV):Gi (H1 rows):=Z9v (ZKd rows)
def ZpA(rows:XV)(x:WL):x∈H1 rows↔x∈rows:=by unfold H1;rw[Zzx,(Z8M rows).mem_iff]
def ZKI(rows:XV):(H1 rows).length<=rows.length:=by unfold H1;rw[<-(Z8M rows).length_eq];exact Z8N _
theorem gD{xs:WL}{i:Nat}(h:i<xs.length):xs[i]?=some (xs.getD i 0):=by
 rw[DZ,Yf h];rfl
def XI(row cols:WL):WL:=cols.map λc=>row.getD c.toNat 0
def WO:XV->WL->Bool->XV
 |[],row,put=>if put=true then[]else[row]
 |e::es,row,put=>if Xq e row=0 then e::WO es row true else if 0<Xq e row then(if put=true then e::WO es row true else row::e::WO es row true)else e::WO es row put
theorem ZpB:∀(es:XV) (row:WL),WO es row true=es
 |[],_=>rfl
 |e::es,row=>by
  unfold WO;rw[ZpB es row];simp
theorem SQ:∀(es:XV) (row x:WL),x∈WO es row false↔x∈es\/x=row
 |[],row,x=>by simp[WO]
 |e::es,row,x=>by
  have ih:=SQ es row x;unfold WO
  grind [ZpB,Kl]
def Z9w:∀{es:XV} (row:WL),Gi es->Gi (WO es row false)
 |[],row,_=>by simp[WO]
 |e::es,row,h=>by
  have h':=Y9.1 h;unfold WO;rw[ZpB];by_cases h1:Xq e row=0
  .rw[Ya h1];exact h
  .rw[Yb h1];by_cases h2:0<Xq e row
   .grind [Nc,List.pairwise_cons,lN,Int.lt_or_eq_of_le,Kl]
   .rw[Yb h2];refine Y9.2 ⟨λx hx=>?_,Z9w row h'.2⟩
    grind [SQ]
def ZpC:∀(es:XV) (row:WL) (put:Bool),(WO es row put).length<=es.length+1
 |[],row,put=>by unfold WO;split<;>simp
 |e::es,row,put=>by
  unfold WO;rw[ZpB];have:=ZpC es row put
  grind
def lZ{rows:XV}{row:WL}(hl:rows.length<=5000)(h4:∀r∈rows,r.length<=4)(hr:row.length<=4):∀i,i<=rows.length->∀(out:XV) (put:Bool),out.length+2*(rows.length-i)<=20000->Ql out rows row put i=some (.own 0,[.arr 44 1 true ((out++WO (rows.drop i) row put).map AA)]):=by
 refine down _ ?_ ?_
 .intro out put ho;apply Xz.2.2.2.1;rw[Ap,Ym];rcases tf put with e|e
  .subst e;rw[Yb Sm];exact⟨Z,Z,rfl⟩
  .subst e;rw[Ya rfl];simp[WO]
 .intro i hi ih out put ho;have he:=h4 _ (Ye hi);apply Xz.2.2.2.1;rw[Ao,wS hi Z,Yh hi];refine⟨Z,_,gE hi,_,Gf _ _ Z Z,?_⟩;unfold WO
  grind
def Z9x{rows:XV}{row:WL}(hl:rows.length<=5000)(h4:∀r∈rows,r.length<=4)(hr:row.length<=4):Jd rows row=some (.own 0,[.arr 44 1 true ((WO rows row false).map AA)]) :=
 Xz.2.2.2.2.1 _ _ _ (by simpa using lZ hl h4 hr 0 (Yc _) [] false (by simp;omega))
def H2(c rows:XV):XV:=rows.foldl (λl r=>WO l r false) c
def Z9y:∀(rows c:XV) (x:WL),x∈H2 c rows↔x∈c\/x∈rows
 |[],c,x=>by simp[H2]
 |r::rows,c,x=>by
  show x∈H2 (WO c r false) rows↔_;rw[Z9y rows,SQ,Yz,or_assoc]
def Z9z:∀{rows c:XV},Gi c->Gi (H2 c rows)
 |[],c,h=>h
 |r::rows,c,h=>Z9z (rows:=rows) (Z9w r h)
def Z90(rows:XV):H2 [] rows=H1 rows :=
 Zp9 (Z9z .nil) (Zz7 rows) λx=>by rw[Z9y,ZpA];simp
theorem H3{xs:WL}{i:Nat}(h:i<xs.length):xs[((i:Nat):Int).toNat]?=some (xs.getD i 0):=by
 simp_all
def gR{xs:List Zb}{i:Nat}(h:i<xs.length):xs[i]?=some (xs.getD i r0):=by
 simp_all
def BR{xs:List Zb}{i:Nat}(h:i<xs.length):xs[((i:Nat):Int).toNat]?=some (xs.getD i r0):=by
 simp_all
def Gj{xs:List (List Zb)}{i:Nat}(h:i<xs.length):xs[((i:Nat):Int).toNat]?=some (xs.getD i []):=by
 simp_all
abbrev l0(best:Int)(n:Nat):Prop:=best=-1\/(0<=best/\best<n)
def ZKJ(d:Zv)(hl:d.Costs.length<=1000)(hF:d.Free.length=d.Costs.length):∀i,i<=d.Costs.length->∀best,l0 best d.Costs.length->Hl d best i=some (I (Gh d.Free (d.Costs.drop i) i best),[]):=by
 refine down _ ?_ ?_
 .intro best hb;apply Vc.1.2.2.1;rw[Ap,Ym];rfl
 .intro i hi ih best hb;apply Vc.1.2.2.1;rw[Ao,Yh hi,Gh,wS hi Z];refine⟨Z,_,gE hi,?_⟩
  grind
def l8(l:List Zb)(hl:l.length<=1000)(h:Qp l):∀i,i<=l.length->eO l i=some (Bo true,[]):=by
 refine down _ ?_ ?_
 .simp[Vc.1.1.1.2]
 .intro i hi ih;apply Vc.1.1.1.2;rw[Ao,wS hi Z];refine⟨Z,_,gE hi,_,U4 _,?_⟩;rw[h _ (Ye hi),Ya rfl];exact ih
theorem Zz8{l:List Zb}(hl:l.length<=1000)(h:Qp l):Ry l=some (Bo true,[]):=Vc.1.1.2.1 _ _ (l8 l hl h 0 (Yc _))
def Nr{d:Zv}(h:QE d):∀i,i<=d.Basic.length->eS d d.Basic.length d.Free.length i=some (Bo true,[]):=by
 have hm:=h.m;have hn:=h.n;have hll:=h.ll;have hlk:=h.lk;have hlc:=h.lc;refine down _ ?_ ?_
 .apply Vc.1.2.1.1;rw[Ap];refine⟨_,Zz8 Z h.vl,?_⟩;rw[Ya rfl];refine⟨_,Zz8 Z h.vk,?_⟩;rw[Ya rfl];exact⟨_,U4 _,by rw[h.vv]⟩
 .intro i hi ih;have hi':i<d.Cells.length:=by omega
  obtain⟨hr,hv⟩:=h.rw' _ (Ye hi')
  grind [Vc.1.2.1.1,wS,gE,Zz8]
def Ns{d:Zv}(h:QE d):∀i,i<=d.Basic.length+d.Free.length->eR d (d.Basic++d.Free) d.Basic.length d.Free.length i=some (Bo true,[]):=by
 have hm:=h.m;have hn:=h.n;have e:w ((d.Basic.length:Int)+(d.Free.length:Int))=((d.Basic.length+d.Free.length:Nat):Int):=by rw[ZP ⟨Z,Z⟩];omega
 refine down _ ?_ ?_
 .apply Vc.1.1.2.2;rw[e,Ap];exact Nr h 0 (Yc _)
 .intro i hi ih;apply Vc.1.1.2.2;rw[e,Ao,wS hi Z];have hh:has (d.Basic++d.Free) (i:Int)=true:=by
   have:=h.vs i hi;simpa[has]using this
  grind [Qn]
def Zz9{d:Zv}(h:QE d):LR d=some (Bo true,[]):=by
 have hm:=h.m;have hn:=h.n;have hll:=h.ll;have hlk:=h.lk;have hlc:=h.lc;apply Vc.1.2.1.2;rw[Ap];refine⟨_,ZH _ _ _,?_⟩;rw[show Ak (d.Free.length:Int) 1 15=true from ZM.2 ⟨Z,Z⟩,Ya rfl,Ao,Ao,Ao];exact⟨Z,Z,Ns h 0 (Yc _)⟩
def ZpD{d:Zv}(h:QE d):eT d=some (I (ent d),[]):=by
 have hlk:=h.lk;have hn:=h.n;refine Vc.1.2.2.2 _ _ ⟨_,Zz9 h,?_⟩;rw[Ya rfl];have:=ZKJ d Z Z 0 (Yc _) (-1) (.inl rfl);simpa[ent]using this
def Gk{d:Zv}(h:QE d){i j:Nat}(hi:i<d.Basic.length)(hj:j<d.Free.length):(d.Cells.getD i []).length=d.Free.length/\Qp (d.Cells.getD i [])/\(d.Cells.getD i [])[((j:Nat):Int).toNat]?=some (Ve d i j):=by
 have hi':i<d.Cells.length:=by have:=h.lc;omega
 have e:d.Cells.getD i []=d.Cells[i]:=by rw[DZ,Yf hi'];rfl
 obtain⟨hr,hv⟩:=h.rw' _ (Ye hi');unfold Ve
 simp_all
def ZKK{d:Zv}(h:QE d){j:Nat}(hj:j<d.Free.length):∀i,i<=d.Basic.length->∀best least,l0 best d.Basic.length->Rz d least j best i=some (I (E8 d j (d.Basic.length-i) i best least),[]):=by
 have hm:=h.m;have hll:=h.ll;have hlc:=h.lc;refine down _ ?_ ?_
 .intro best least hb;apply Vc.2.1.2.1;rw[Ap,DY];rfl
 .intro i hi ih best least hb;apply Vc.2.1.2.1;obtain⟨_,_,hc⟩:=Gk h hi hj;rw[Ao,wS hi Z,show d.Basic.length-i=(d.Basic.length-(i+1))+1 by omega,E8];refine⟨Z,_,Gj Z,Z,_,hc,?_⟩;by_cases h1:(Ve d i j).Num<=0
  .simp_all
  .rw[Yb h1,Yb h1];refine⟨_,BR Z,_,_,Zp8 _ _,?_⟩
   grind [ZKH,H3,gD]
def ZzA{d:Zv}(h:QE d){j:Nat}(hj:j<d.Free.length):eU d j=some (I (Cg d j),[]):=by
 have hn:=h.n;refine Vc.2.1.2.2 _ _ _ ⟨_,Zz9 h,?_⟩;rw[Ya rfl,ZP ⟨Z,Z⟩];refine⟨_,ZH _ _ _,?_⟩;rw[show Ak (j:Int) 0 ((d.Free.length:Int)-1)=true from ZM.2 ⟨Z,Z⟩,Ya rfl];exact ZKK h hj 0 (Yc _) (-1) r0 (.inl rfl)
def b3(x a b:Bool):(x || !(a && b))=((x || !a) || !b):=by cases x<;>cases a<;>cases b<;>rfl
def l9{O:List (Option Zb)}{k:Nat}(h:k<O.length):O[k]=O.getD k none:=by
 simp_all
def KJ{O:List (Option Zb)}{k:Nat}(h:k<O.length):vals (O.take (k+1))=vals (O.take k)++[(O.getD k none).getD r0]:=by
 rw[Y5 h,ZKy,l9 h];rfl
def Nt{O:List (Option Zb)}{k:Nat}(h:k<O.length):Xf (O.take (k+1))=(Xf (O.take k) && (O.getD k none).isSome):=by
 rw[Y5 h,ZKx,l9 h];simp[Xf]
def ZpE(l p:List Zb)(j:Nat){k:Nat}(hk:k<l.length):(X6 l p j).getD k none=KG k j (l.getD k r0) (l.getD j r0) (p.getD k r0):=by
 unfold X6
 simp_all
def ZKL(row:List Zb)(j:Nat){k:Nat}(hk:k<row.length):(U3 row j).getD k none=if k=j then Wf ⟨1,1⟩ (row.getD j r0)else Wf (row.getD k r0) (row.getD j r0):=by
 unfold U3
 simp_all
section
variable{l pr:List Zb}{a:Zb}{j:Nat}(hv:Qp l)(hp:pr.length=l.length)(hj:j<l.length)(h15:l.length<=1000)
include hv hp hj h15
end
def Nu:XS:=(.tup [.agg [.own 0,.own 1,.own 2,.own 3,.own 4,I 0,I 0],Bo false],[.arr 3 1 true (([]:WL).map ic),.arr 3 1 true (([]:WL).map ic),.arr 264 1 true (([]:List (List Zb)).map (lc 2 Zb.c)),.arr 54 2 true (([]:List Zb).map Zb.c),.arr 54 2 true (([]:List Zb).map Zb.c)])
def SR(fr:Bool)(d:Zv):XS:=(.tup [.agg [.own 0,.own 1,.own 2,.own 3,.own 4,I d.Value.Num,I d.Value.Den],Bo true],[.arr 3 1 true (d.Basic.map ic),.arr 3 1 true (d.Free.map ic),.arr 264 1 fr (d.Cells.map (lc 2 Zb.c)),.arr 54 2 true (d.Limits.map Zb.c),.arr 54 2 true (d.Costs.map Zb.c)])
def Ko(d:Zv)(i j:Nat):XS:=if okO d i j=true then SR false (Wx d i j)else Nu
def Ui(d:Zv)(i j r:Nat):List (List Zb):=((KH d i j).take r).map vals
def ZR(d:Zv)(i j:Nat):List (Option Zb):=U3 (d.Cells.getD i []) j
def BI(d:Zv)(i j r:Nat):Bool:=(Xf (ZR d i j) && (UW d i j).isSome) && (((KH d i j).take r).all Xf && Xf ((VO d i j).take r))
def W2(d:Zv)(i j:Nat):Zb:=(UW d i j).getD r0
def SS(d:Zv)(i j:Nat):(KH d i j).length=d.Cells.length:=by simp[KH]
def Nv(d:Zv)(i j:Nat):(VO d i j).length=d.Limits.length:=by simp[VO]
def Z91(d:Zv)(i j:Nat){r:Nat}(hr:r<d.Cells.length):(KH d i j)[r]'(by rw[SS];exact hr)=if r=i then ZR d i j else X6 (d.Cells.getD r []) (vals (ZR d i j)) j:=by simp[KH,ZR]
def ST(d:Zv)(i j:Nat){r:Nat}(hr:r<d.Limits.length):(VO d i j).getD r none=if r=i then UW d i j else Cc (d.Limits.getD r r0) (Ve d r j) (W2 d i j):=by
 unfold VO;rw[DZ,Tx,List.getElem?_range hr];rfl
def mA(d:Zv)(i j:Nat){r:Nat}(hr:r<d.Cells.length):Ui d i j (r+1)=Ui d i j r++[vals (if r=i then ZR d i j else X6 (d.Cells.getD r []) (vals (ZR d i j)) j)]:=by
 unfold Ui
 simp_all [Y5,SS,CE,Z91]
def mB(d:Zv)(i j:Nat){r:Nat}(hr:r<d.Cells.length)(c:r<d.Limits.length):BI d i j (r+1)=(BI d i j r && (Xf (if r=i then ZR d i j else X6 (d.Cells.getD r []) (vals (ZR d i j)) j) && (if r=i then UW d i j else Cc (d.Limits.getD r r0) (Ve d r j) (W2 d i j)).isSome)):=by
 unfold BI;rw[Y5 (by rw[SS];exact hr),List.all_append,Z91 d i j hr,Nt (by rw[Nv];exact c),ST d i j c]
 grind
def mC(d:Zv){i j:Nat}(hr:i<d.Cells.length)(c:i<d.Limits.length):BI d i j (i+1)=BI d i j i:=by
 rw[mB d i j hr c,Ya rfl,Ya rfl];unfold BI
 simp_all
def Z92{d:Zv}{i j:Nat}(hl:d.Limits.length=d.Cells.length):okO d i j=(BI d i j d.Cells.length && Xf (UX d i j) && (Kn d i j).isSome):=by
 unfold okO BI;rw[<-SS d i j,Yr,SS,<-hl,<-Nv d i j,Yr];unfold ZR
 grind
def t8{α:Type}(p:α->Bool)(l:List α)(r:Nat)(h:l.all p=true):(l.take r).all p=true:=Yn.2 λx hx=>Yn.1 h x (Dk hx)
theorem mG{d:Zv}{i j r:Nat}(h:BI d i j r=false):okO d i j=false:=by
 rcases ft (okO d i j)with e|e
 .unfold okO at e;simp only[Yd]at e;obtain⟨⟨⟨⟨⟨o1,o2⟩,o3⟩,o4⟩,o5⟩,o6⟩:=e;unfold BI ZR at h;rw[o1,o2,t8 _ _ _ o3,show Xf ((VO d i j).take r)=true from t8 _ _ _ o4]at h;cases h
 .exact e
structure Nw (d:Zv) (i j:Nat):Prop where
 v:QE d
 hi:i<d.Basic.length
 hj:j<d.Free.length
 nz:(Ve d i j).Num≠0
section
variable{d:Zv}{i j:Nat}(h:Nw d i j)
include h
theorem Nw.cj:j<(d.Cells.getD i []).length:=by have:=(Gk h.v h.hi h.hj).1;have:=h.hj;omega
theorem Nw.va:vR (Ve d i j)=true:=SO (Gk h.v h.hi h.hj).2.1 h.cj
theorem Nw.row{l:List Zb}(hl:l.length=d.Free.length)(hv:Qp l):Nk l (vals (ZR d i j)) (Ve d i j) j=X6 l (vals (ZR d i j)) j :=
 Nl h.cj (SO hv (by have:=h.hj;omega)) h.va h.nz
theorem Nw.plen:(vals (ZR d i j)).length=d.Free.length:=by
 unfold ZR;rw[QD,Z9j];exact(Gk h.v h.hi h.hj).1
omit h in
theorem Z93:BI d i j 0=(Xf (ZR d i j) && (UW d i j).isSome):=by simp[BI,Xf]
end
theorem Uj(n:Int):WB n=some (.agg ((⟨n,1⟩:Zb).c.map .t),[]):=Wj.1.2.2.1 _ _ rfl
def ZKM{O:List (Option Zb)}{k:Nat}(h:Xf (O.take k)=false):Xf O=false:=by
 rcases ft (Xf O)with e|e
 .rw[show Xf (O.take k)=true from t8 _ _ _ e]at h;cases h
 .exact e
section
variable{d:Zv}{i j:Nat}(h:Nw d i j)
include h
theorem Z94:(UX d i j).length=d.Free.length:=by unfold UX;rw[lV];exact h.v.lk
theorem Z95{k:Nat}(hk:k<d.Free.length):(UX d i j).getD k none=KG k j (d.Costs.getD k r0) (d.Costs.getD j r0) ((vals (ZR d i j)).getD k r0):=ZpE _ _ _ (by have:=h.v.lk;omega)
omit h in
theorem Nx(e:okO d i j=false):Ko d i j=Nu:=by unfold Ko;rw[e,Yb Sm]
omit h in
theorem Z96{k:Nat}(hl:d.Limits.length=d.Cells.length)(e:(BI d i j d.Cells.length && Xf ((UX d i j).take k))=false):okO d i j=false:=by
 rw[Z92 hl];rcases ft (BI d i j d.Cells.length)with e1|e1
 .rw[e1,Yl]at e;rw[ZKM e];simp
 .rw[e1];rfl
omit h in
theorem mH(V U l:Zb)(B F:WL)(C:List (List Zb))(L K p:List Zb)(k:Int):fC d V l U B F false C L K j false p k false=some Nu:=by
 apply W0.2.2.1.2;rw[Yb Sm];rfl
theorem j5c(V U:Zb)(k:Int):fC d V (W2 d i j) U (d.Basic.set i (d.Free.getD j 0)) (d.Free.set j (d.Basic.getD i 0)) false (Ui d i j d.Cells.length) (vals (VO d i j)) (vals (UX d i j)) j (BI d i j d.Cells.length && Xf (UX d i j)) (vals (ZR d i j)) k false=some (Ko d i j):=by
 have hlk:=h.v.lk;have hj:=h.hj;have hl:d.Limits.length=d.Cells.length:=by have:=h.v.ll;have:=h.v.lc;omega
 rcases ft (BI d i j d.Cells.length && Xf (UX d i j))with e|e
 .rw[e];apply W0.2.2.1.2;rw[Ya rfl];refine⟨Z,_,BR Z,_,_,Z9u _ _,_,_,ZKF _ _,?_⟩;have hO:okO d i j=(Kn d i j).isSome:=by rw[Z92 hl,e,Yl]
  have e1:BI d i j d.Cells.length=true:=by simp only[Yd]at e;exact e.1
  have eL:(UW d i j).isSome=true:=by unfold BI at e1;simp only[Yd]at e1;exact e1.1.2
  obtain⟨lim,hlim⟩:=Option.isSome_iff_exists.1 eL;have eV:W2 d i j=lim:=by unfold W2;rw[hlim];rfl
  have eP:Kn d i j=(We (d.Costs.getD j r0) lim).bind (V0 d.Value):=by
   unfold Kn;rw[hlim];exact ZKv h.v.vv (SO h.v.vk Z) (Jy hlim)
  unfold Ko;rw[hO,eP,eV]
  cases hm:We (d.Costs.getD j r0) lim with
  |none=>rfl
  |some y =>
   rw[Ya (by rfl)]
   cases ha:V0 d.Value y with
   |none=>simp only[Option.getD_some,Option.bind_some,ha];rfl
   |some z =>
    simp only[Option.getD_some,Option.bind_some,ha,Option.isSome_some,if_true];have e2:Ui d i j d.Cells.length=(KH d i j).map vals:=by
     unfold Ui;rw[<-SS d i j,Yr]
    have e3:Kn d i j=some z:=by rw[eP,hm];exact ha
    rw[e2];unfold SR Wx;rw[e3];rfl
 .rw[e,mH,Nx (Z96 (k:=(UX d i j).length) hl (by rw[Yr];exact e))]
theorem Abk(V U:Zb):∀k,k<=d.Free.length->fA d V (W2 d i j) U (d.Basic.set i (d.Free.getD j 0)) (d.Free.set j (d.Basic.getD i 0)) false (Ui d i j d.Cells.length) (vals (VO d i j)) (vals ((UX d i j).take k)) j (BI d i j d.Cells.length && Xf ((UX d i j).take k)) (vals (ZR d i j)) k=some (Ko d i j):=by
 have hlk:=h.v.lk;have hn:=h.v.n;have hj:=h.hj;have hpl:=h.plen;have hcl:=Z94 h;have hl:d.Limits.length=d.Cells.length:=by have:=h.v.ll;have:=h.v.lc;omega
 refine down _ ?_ ?_
 .grind [W0.2.1.1.2,List.take_length,j5c]
 .intro k hk ih;apply W0.2.1.1.2;rw[Ao,wS hk Z];rcases ft (BI d i j d.Cells.length && Xf ((UX d i j).take k))with e|e
  .rw[e,Ya rfl];rw[KJ Z,Nt Z,<-Bool.and_assoc,e,Yl,Z95 h hk,KG]at ih;refine⟨Z,_,BR Z,?_⟩;by_cases ej:k=j
   .rw[Ao];rw[Ya ej]at ih;exact⟨_,Uj 0,Z,_,BR Z,_,BR Z,_,_,QG _ _ _,by rw[QD,Yw];omega,ih⟩
   .rw[Ap];rw[Yb ej]at ih;exact⟨Z,_,BR Z,_,BR Z,_,_,QG _ _ _,by rw[QD,Yw];omega,ih⟩
  .grind [mH,Nx,Z96]
theorem Abl(V U:Zb):eZ d V (W2 d i j) U (d.Basic.set i (d.Free.getD j 0)) (d.Free.set j (d.Basic.getD i 0)) false (Ui d i j d.Cells.length) (vals (VO d i j)) j (BI d i j d.Cells.length) (vals (ZR d i j)) 0=some (Ko d i j):=by
 have hlk:=h.v.lk;have hn:=h.v.n;have hj:=h.hj;have hpl:=h.plen;have hcl:=Z94 h;apply W0.1.2.2.1;rw[Ao,show w (0+1)=((0+1:Nat):Int) by decide];rcases ft (BI d i j d.Cells.length)with e|e
 .rw[e,Ya rfl];have ih:=Abk h V U (0+1) Z;rw[KJ Z,Nt Z,Z95 h Z,KG,e,Yl]at ih;refine⟨Z,_,BR (i:=0) Z,?_⟩;by_cases ej:0=j
  .rw[Ao];rw[Ya ej]at ih;exact⟨_,Uj 0,Z,_,BR Z,_,BR (i:=0) Z,_,_,QG _ _ _,by simpa[Xf,vals]using ih⟩
  .rw[Ap];rw[Yb ej]at ih;exact⟨Z,_,BR Z,_,BR (i:=0) Z,_,_,QG _ _ _,by simpa[Xf,vals]using ih⟩
 .rw[e,Yb Sm,Nx (mG e)];apply W0.2.1.2.1;rw[Yb Sm];rfl
theorem Abm(V U:Zb)(C:List (List Zb))(L:List Zb):eZ d V (W2 d i j) U (d.Basic.set i (d.Free.getD j 0)) (d.Free.set j (d.Basic.getD i 0)) false C L j false (vals (ZR d i j)) 0=some Nu:=by
 have hn:=h.v.n;apply W0.1.2.2.1;rw[Ao,Yb Sm];apply W0.2.1.2.1;rw[Yb Sm];rfl
theorem mI(V U:Zb)(C:List (List Zb))(L:List Zb):yT d V (vals (ZR d i j)) (W2 d i j) U (d.Basic.set i (d.Free.getD j 0)) (d.Free.set j (d.Basic.getD i 0)) false C L j false 0=some Nu:=by
 have hn:=h.v.n;apply W0.2.2.1.1;rw[Ao,Yb Sm];apply W0.2.2.2.1;rw[Yb Sm];rfl
theorem f_3(V U:Zb):yS d V (vals (ZR d i j)) (W2 d i j) U (d.Basic.set i (d.Free.getD j 0)) (d.Free.set j (d.Basic.getD i 0)) j false 0=some Nu:=by
 have hn:=h.v.n;apply W0.1.2.1.1;rw[Ao,Yb Sm];apply W0.2.1.1.1;rw[Yb Sm];rfl
theorem l_1(V U:Zb)(res:XS){r:Nat}(hr:r<d.Basic.length)(c:LU d V (vals (ZR d i j)) (W2 d i j) U (d.Basic.set i (d.Free.getD j 0)) (d.Free.set j (d.Basic.getD i 0)) false ([vals (X6 (d.Cells.getD r []) (vals (ZR d i j)) j)]) ([(Cc (d.Limits.getD r r0) (Ve d r j) (W2 d i j)).getD r0]) i j (Xf (X6 (d.Cells.getD r []) (vals (ZR d i j)) j) && (Cc (d.Limits.getD r r0) (Ve d r j) (W2 d i j)).isSome) (w ((r:Int)+1))=some res):∀k,k<=d.Free.length->eX d V (vals (ZR d i j)) (W2 d i j) U (d.Basic.set i (d.Free.getD j 0)) (d.Free.set j (d.Basic.getD i 0)) (vals ((X6 (d.Cells.getD r []) (vals (ZR d i j)) j).take k)) i j (Xf ((X6 (d.Cells.getD r []) (vals (ZR d i j)) j).take k)) r k=some res:=by
 have hlc:=h.v.lc;have hll:=h.v.ll;have hn:=h.v.n;have hj:=h.hj;have hpl:=h.plen;obtain⟨hc1,hc2,hc3⟩:=Gk h.v hr hj;have hO:(X6 (d.Cells.getD r []) (vals (ZR d i j)) j).length=d.Free.length:=by rw[lV];exact hc1
 refine down _ ?_ ?_
 .apply W0.1.1.2.2;rw[Ap,<-hO,Yr];refine⟨Z,_,BR Z,_,Gj Z,Z,_,hc3,_,_,QG _ _ _,?_⟩
  grind
 .intro k hk ih;apply W0.1.1.2.2;rw[Ao,wS hk Z];rw[KJ Z,Nt Z,ZpE _ _ _ Z,KG]at ih;have hlen:(vals ((X6 (d.Cells.getD r []) (vals (ZR d i j)) j).take k)).length+1<=68719476736:=by rw[QD,Yw];omega
  refine⟨Z,_,Gj Z,Z,_,BR Z,?_⟩;by_cases ej:k=j
  .rw[Ao];rw[Ya ej]at ih;refine⟨_,Uj 0,Z,_,hc3,_,BR Z,_,_,QG _ _ _,?_⟩
   grind
  .rw[Ap];rw[Yb ej]at ih;refine⟨Z,_,hc3,_,BR Z,_,_,QG _ _ _,?_⟩
   grind
theorem Abn(V U:Zb)(C:List (List Zb))(L:List Zb)(hC:C.length<=1000)(hL:L.length<=1000)(res:XS){r:Nat}(hr:r<d.Basic.length)(c:Hp d V (W2 d i j) U (d.Basic.set i (d.Free.getD j 0)) (d.Free.set j (d.Basic.getD i 0)) false (C++[vals (X6 (d.Cells.getD r []) (vals (ZR d i j)) j)]) (L++[(Cc (d.Limits.getD r r0) (Ve d r j) (W2 d i j)).getD r0]) i j (Xf (X6 (d.Cells.getD r []) (vals (ZR d i j)) j) && (Cc (d.Limits.getD r r0) (Ve d r j) (W2 d i j)).isSome) (vals (ZR d i j)) (w ((r:Int)+1))=some res):∀k,k<=d.Free.length->eY d V (W2 d i j) U (d.Basic.set i (d.Free.getD j 0)) (d.Free.set j (d.Basic.getD i 0)) false C L (vals ((X6 (d.Cells.getD r []) (vals (ZR d i j)) j).take k)) i j (Xf ((X6 (d.Cells.getD r []) (vals (ZR d i j)) j).take k)) (vals (ZR d i j)) r k=some res:=by
 have hlc:=h.v.lc;have hll:=h.v.ll;have hn:=h.v.n;have hj:=h.hj;have hpl:=h.plen;obtain⟨hc1,hc2,hc3⟩:=Gk h.v hr hj;have hO:(X6 (d.Cells.getD r []) (vals (ZR d i j)) j).length=d.Free.length:=by rw[lV];exact hc1
 refine down _ ?_ ?_
 .apply W0.1.2.1.2;rw[Ap,<-hO,Yr];refine⟨Z,_,BR Z,_,Gj Z,Z,_,hc3,_,_,QG _ _ _,?_⟩
  grind
 .intro k hk ih;apply W0.1.2.1.2;rw[Ao,wS hk Z];rw[KJ Z,Nt Z,ZpE _ _ _ Z,KG]at ih;have hlen:(vals ((X6 (d.Cells.getD r []) (vals (ZR d i j)) j).take k)).length+1<=68719476736:=by rw[QD,Yw];omega
  refine⟨Z,_,Gj Z,Z,_,BR Z,?_⟩;by_cases ej:k=j
  .rw[Ao];rw[Ya ej]at ih;refine⟨_,Uj 0,Z,_,hc3,_,BR Z,_,_,QG _ _ _,?_⟩
   grind
  .rw[Ap];rw[Yb ej]at ih;refine⟨Z,_,hc3,_,BR Z,_,_,QG _ _ _,?_⟩
   grind
theorem Abp(V U:Zb)(C:List (List Zb))(L:List Zb)(hC:C.length<=1000)(hL:L.length<=1000)(res:XS){r:Nat}(hr:r<d.Basic.length)(c:LU d V (vals (ZR d i j)) (W2 d i j) U (d.Basic.set i (d.Free.getD j 0)) (d.Free.set j (d.Basic.getD i 0)) false (C++[vals (X6 (d.Cells.getD r []) (vals (ZR d i j)) j)]) (L++[(Cc (d.Limits.getD r r0) (Ve d r j) (W2 d i j)).getD r0]) i j (Xf (X6 (d.Cells.getD r []) (vals (ZR d i j)) j) && (Cc (d.Limits.getD r r0) (Ve d r j) (W2 d i j)).isSome) (w ((r:Int)+1))=some res):∀k,k<=d.Free.length->fB d V (vals (ZR d i j)) (W2 d i j) U (d.Basic.set i (d.Free.getD j 0)) (d.Free.set j (d.Basic.getD i 0)) false C L (vals ((X6 (d.Cells.getD r []) (vals (ZR d i j)) j).take k)) i j (Xf ((X6 (d.Cells.getD r []) (vals (ZR d i j)) j).take k)) r k=some res:=by
 have hlc:=h.v.lc;have hll:=h.v.ll;have hn:=h.v.n;have hj:=h.hj;have hpl:=h.plen;obtain⟨hc1,hc2,hc3⟩:=Gk h.v hr hj;have hO:(X6 (d.Cells.getD r []) (vals (ZR d i j)) j).length=d.Free.length:=by rw[lV];exact hc1
 refine down _ ?_ ?_
 .apply W0.2.1.2.2;rw[Ap,<-hO,Yr];refine⟨Z,_,BR Z,_,Gj Z,Z,_,hc3,_,_,QG _ _ _,?_⟩
  grind
 .intro k hk ih;apply W0.2.1.2.2;rw[Ao,wS hk Z];rw[KJ Z,Nt Z,ZpE _ _ _ Z,KG]at ih;have hlen:(vals ((X6 (d.Cells.getD r []) (vals (ZR d i j)) j).take k)).length+1<=68719476736:=by rw[QD,Yw];omega
  refine⟨Z,_,Gj Z,Z,_,BR Z,?_⟩;by_cases ej:k=j
  .rw[Ao];rw[Ya ej]at ih;refine⟨_,Uj 0,Z,_,hc3,_,BR Z,_,_,QG _ _ _,?_⟩
   grind
  .rw[Ap];rw[Yb ej]at ih;refine⟨Z,_,hc3,_,BR Z,_,_,QG _ _ _,?_⟩
   grind
theorem mJ(V U:Zb):∀r,r<=d.Basic.length->i<r->Hp d V (W2 d i j) U (d.Basic.set i (d.Free.getD j 0)) (d.Free.set j (d.Basic.getD i 0)) false (Ui d i j r) (vals ((VO d i j).take r)) i j (BI d i j r) (vals (ZR d i j)) r=some (Ko d i j):=by
 have hm:=h.v.m;have hlc:=h.v.lc;have hll:=h.v.ll;have hn:=h.v.n;have hi:=h.hi;have hj:=h.hj;have hol:=Nv d i j;refine down _ ?_ ?_
 .grind [W0.1.1.2.1,List.take_of_length_le,Abl]
 .intro r hr ih hir;apply W0.1.1.2.1;rw[Ao];rcases ft (BI d i j r)with e|e
  .rw[e,Ya rfl,Ap];have ih:=ih Z;rw[mA d i j Z,mB d i j Z Z,e,Yl,Ap,Ap,KJ Z,ST d i j Z,Ap]at ih;have:=Abn h V U (Ui d i j r) (vals ((VO d i j).take r)) (by simp[Ui];omega) (by rw[QD,Yw];omega) _ hr (by rw[wS hr Z];exact ih) 0 (Yc _);simpa[Xf,vals]using this
  .grind [Abm,Nx,mG]
theorem Abq(V U:Zb):∀r,r<=i->0<r->LU d V (vals (ZR d i j)) (W2 d i j) U (d.Basic.set i (d.Free.getD j 0)) (d.Free.set j (d.Basic.getD i 0)) false (Ui d i j r) (vals ((VO d i j).take r)) i j (BI d i j r) r=some (Ko d i j):=by
 have hm:=h.v.m;have hlc:=h.v.lc;have hll:=h.v.ll;have hn:=h.v.n;have hi:=h.hi;have hj:=h.hj;have hol:=Nv d i j;refine down _ ?_ ?_
 .intro hr;apply W0.1.2.2.2;rw[Ao,wS (show i<d.Basic.length by omega) Z];rcases ft (BI d i j i)with e|e
  .rw[e,Ya rfl,Ya rfl];have ih:=mJ h V U (i+1) Z Z;rw[mA d i j Z,mC d Z Z,e,Ya rfl,KJ Z,ST d i j Z,Ya rfl]at ih;exact⟨by simp[Ui];omega,by rw[QD,Yw];omega,ih⟩
  .grind [mI,Nx,mG]
 .intro r hr ih hir;have hr':r<d.Basic.length:=by omega
  apply W0.1.2.2.2;rw[Ao];rcases ft (BI d i j r)with e|e
  .rw[e,Ya rfl,Ap];have ih:=ih Z;rw[mA d i j Z,mB d i j Z Z,e,Yl,Ap,Ap,KJ Z,ST d i j Z,Ap]at ih;have:=Abp h V U (Ui d i j r) (vals ((VO d i j).take r)) (by simp[Ui];omega) (by rw[QD,Yw];omega) _ hr' (by rw[wS hr' Z];exact ih) 0 (Yc _);simpa[Xf,vals]using this
  .grind [mI,Nx,mG]
theorem l_2(V U:Zb):yQ d V (vals (ZR d i j)) (W2 d i j) U (d.Basic.set i (d.Free.getD j 0)) (d.Free.set j (d.Basic.getD i 0)) i j (BI d i j 0) 0=some (Ko d i j):=by
 have hm:=h.v.m;have hlc:=h.v.lc;have hll:=h.v.ll;have hn:=h.v.n;have hi:=h.hi;have hj:=h.hj;have hol:=Nv d i j;apply W0.1.1.1.2;rw[Ao];have w1:w (0+1)=((0+1:Nat):Int):=by decide
 rcases ft (BI d i j 0)with e|e
 .rw[e,Ya rfl];by_cases e0:i=0
  .rw[Ao,w1];have ih:=mJ h V U (0+1) Z Z;have e2:(BI d i j 0 && (Xf (ZR d i j) && (UW d i j).isSome))=BI d i j 0:=by rw[Z93,Bool.and_self]
   rw[mA d i j Z,mB d i j Z Z,Ya e0.symm,Ya e0.symm,e2,e,KJ Z,ST d i j Z,Ya e0.symm]at ih;simpa[Ui,vals,W2]using ih
  .rw[Ap];have ih:=Abq h V U (0+1) Z Z;rw[mA d i j Z,mB d i j Z Z,e,Yl,Ap,Ap,KJ Z,ST d i j Z,Ap]at ih;have:=l_1 h V U _ (show 0<d.Basic.length by omega) (by rw[show((0:Nat):Int)+1=0+1 from rfl,w1];simpa[Ui,vals]using ih) 0 (Yc _);simpa[Xf,vals]using this
 .grind [f_3,Nx,mG]
theorem mK(V:Zb):∀k,k<=d.Free.length->eW d V (Ve d i j) (vals ((ZR d i j).take k)) i j (Xf ((ZR d i j).take k)) k=some (Ko d i j):=by
 have hm:=h.v.m;have hlc:=h.v.lc;have hll:=h.v.ll;have hn:=h.v.n;have hi:=h.hi;have hj:=h.hj;have hol:=Nv d i j;have hpl:=h.plen;rw[QD]at hpl;obtain⟨hc1,hc2,hc3⟩:=Gk h.v hi hj;refine down _ ?_ ?_
 .apply W0.1.1.1.1;rw[Ap,<-hpl,Yr];have fin:=l_2 h V ⟨0,0⟩;rw[Z93]at fin;refine⟨Z,_,BR Z,_,_,Zp8 _ _,?_⟩;rcases ft (Xf (ZR d i j))with e|e
  .rw[e,Yl]at fin;rw[e,Ya rfl];exact⟨Z,Z,Z,_,H3 hj,_,H3 hi,fin⟩
  .rw[e,Gy]at fin;rw[e,Yb Sm];exact⟨Z,Z,Z,_,H3 hj,_,H3 hi,fin⟩
 .intro k hk ih;apply W0.1.1.1.1;rw[Ao,wS hk Z];rw[KJ Z,Nt Z,show(ZR d i j).getD k none=_ from ZKL (d.Cells.getD i []) j Z]at ih;have hlen:(vals ((ZR d i j).take k)).length+1<=68719476736:=by rw[QD,Yw];omega
  refine⟨Z,_,Gj Z,Z,_,BR Z,_,_,Zp8 _ _,?_⟩;by_cases ej:k=j
  .rw[Ao];rw[Ya ej]at ih;refine⟨_,Uj 1,_,_,Zp8 _ _,?_⟩
   grind
  .grind
theorem ZKN:RA d i j=some (Ko d i j):=by
 have hm:=h.v.m;have hlc:=h.v.lc;have hll:=h.v.ll;have hn:=h.v.n;have hi:=h.hi;have hj:=h.hj;have hol:=Nv d i j;refine W0.2.2.2.2 _ _ _ _ ⟨_,Zz9 h.v,?_⟩;rw[Ya rfl];refine⟨_,ZH _ _ _,?_⟩;rw[ZP ⟨Z,Z⟩,show Ak (i:Int) 0 ((d.Basic.length:Int)-1)=true from ZM.2 ⟨Z,Z⟩,Ya rfl];refine⟨_,ZH _ _ _,?_⟩;rw[ZP ⟨Z,Z⟩,show Ak (j:Int) 0 ((d.Free.length:Int)-1)=true from ZM.2 ⟨Z,Z⟩,Ya rfl];refine⟨Z,_,Gj Z,Z,_,(Gk h.v hi hj).2.2,?_⟩;rw[Yb h.nz];have:=mK h ⟨0,0⟩ 0 (Yc _);simpa[Xf,vals]using this
end
def J0(x:Int):Bool:=Ak x (-9) 9
def mL(n:Nat)(r:WL):Bool:=r.all J0 && decide ((r.length:Int)=n)
def QH(p:Program):Bool:=Ak p.Objective.length 1 15 && decide ((p.Rows.length:Int)<=64) && decide ((p.Rows.length:Int)=p.Limits.length) && (p.Objective.all J0 && (p.Rows.all (mL p.Objective.length) && p.Limits.all λx=>Ak x 0 99))
structure H4 (p:Program):Prop where
 o:p.Objective.length<=1000
 r:p.Rows.length<=1000
 l:p.Limits.length<=1000
 row:∀r∈p.Rows,r.length<=1000
def ZqY{α:Type}(q:α->Bool){xs:List α}{i:Nat}(h:i<xs.length):(xs.drop i).all q=(q xs[i] && (xs.drop (i+1)).all q):=by
 rw[Yh h,Cz]
def chk(n:Nat):XV->WL->Bool
 |r::rs,l::ls=>decide ((r.length:Int)=n) && (Ak l 0 99 && (r.all J0 && chk n rs ls))
 |_,_=>true
theorem Z97(n:Nat):∀(rs:XV) (ls:WL),rs.length=ls.length->chk n rs ls=(rs.all (mL n) && ls.all λx=>Ak x 0 99)
 |[],[],_=>rfl
 |r::rs,l::ls,h=>by
  unfold chk;rw[Z97 n rs ls (by simpa using h),Cz,Cz];unfold mL
  grind
 |[],_::_,h=>by cases h
 |_::_,[],h=>by cases h
def mM(p:Program){i:Nat}(hi:i<p.Rows.length)(hr:p.Rows[i].length=p.Objective.length)(ho:p.Objective.length<=1000)(b:Bool)(c:Rw p p.Objective.length (w ((i:Int)+1))=some (Bo b,[])):∀k,k<=p.Objective.length->eG p p.Objective.length i k=some (Bo ((p.Rows[i].drop k).all J0 && b),[]):=by
 refine down _ ?_ ?_
 .apply Wj.1.1.2.1
  grind
 .intro k hk ih;apply Wj.1.1.2.1;rw[Ao,wS hk Z,ZqY _ Z];refine⟨Z,_,gE hi,Z,_,gE Z,_,ZH _ _ _,?_⟩;rw[show Ak p.Rows[i][k] (-9) 9=J0 p.Rows[i][k]from rfl]
  simp_all
def mN(p:Program)(h:H4 p)(hl:p.Rows.length=p.Limits.length):∀i,i<=p.Rows.length->Rw p p.Objective.length i=some (Bo (chk p.Objective.length (p.Rows.drop i) (p.Limits.drop i)),[]):=by
 have h1:=h.o;have h2:=h.r;refine down _ ?_ ?_
 .apply Wj.1.1.1.2;rw[Ap,Ym];rfl
 .intro i hi ih;have hi2:i<p.Limits.length:=by omega
  apply Wj.1.1.1.2;rw[Ao,Yh hi,Yh hi2,chk];refine⟨Z,_,gE hi,?_⟩;by_cases e:(p.Rows[i].length:Int)=p.Objective.length
  .rw[Ya e,decide_eq_true e,Yl];refine⟨_,gE hi2,_,ZH _ _ _,?_⟩;rcases ft (Ak p.Limits[i] 0 99)with e2|e2
   .rw[e2,Ya rfl,Yl];have:=mM p hi Z h1 _ (by rw[wS hi Z];exact ih) 0 (Yc _)
    simp_all
   .simp_all
  .simp_all
def mO(p:Program)(h:H4 p)(hl:p.Rows.length=p.Limits.length):∀k,k<=p.Objective.length->eF p p.Objective.length k=some (Bo ((p.Objective.drop k).all J0 && chk p.Objective.length p.Rows p.Limits),[]):=by
 have h1:=h.o;refine down _ ?_ ?_
 .apply Wj.1.1.1.1;rw[Ap,Ym,List.all_nil,Yl];simpa using mN p h hl 0 (Yc _)
 .intro k hk ih;apply Wj.1.1.1.1;rw[Ao,wS hk Z,ZqY _ hk];refine⟨Z,_,gE hk,_,ZH _ _ _,?_⟩;rw[show Ak p.Objective[k] (-9) 9=J0 p.Objective[k]from rfl]
  simp_all
def Z98{p:Program}(h:H4 p):eE p=some (Bo (QH p),[]):=by
 refine Wj.1.1.2.2 _ _ ⟨_,ZH _ _ _,?_⟩;unfold QH;rcases ft (Ak (p.Objective.length:Int) 1 15)with e|e
 .rw[e,Ya rfl,Yl];by_cases e2:64<(p.Rows.length:Int)
  .grind
  rw[Yb e2,decide_eq_true (show(p.Rows.length:Int)<=64 by omega),Yl];by_cases e3:(p.Rows.length:Int)=(p.Limits.length:Int)
  .rw[Ya e3,decide_eq_true e3,Yl];have:=mO p h Z 0 (Yc _)
   grind [Z97]
  .simp_all
 .simp_all
def wh(l:WL):List Zb:=l.map λn=>⟨n,1⟩
def Qq(n:Nat):WL:=(List.range n).map λk:Nat=>(k:Int)
def UZ(n m:Nat):WL:=(List.range m).map λi:Nat=>(n:Int)+i
def VP(p:Program):Zv:=⟨UZ p.Objective.length p.Rows.length,Qq p.Objective.length,p.Rows.map wh,wh p.Limits,wh p.Objective,⟨0,1⟩⟩
def ZKO(n:Nat):Qq (n+1)=Qq n++[(n:Int)]:=by simp[Qq,DX]
def Z99(n m:Nat):UZ n (m+1)=UZ n m++[(n:Int)+m]:=by simp[UZ,DX]
def ZpF(n:Nat):(Qq n).length=n:=by simp[Qq]
def ZzB(n m:Nat):(UZ n m).length=m:=by simp[UZ]
def SU{l:WL}{i:Nat}(h:i<l.length):wh (l.take (i+1))=wh (l.take i)++[⟨l[i],1⟩]:=by
 unfold wh;rw[Y5 h,CE];rfl
def mP(l:WL):(wh l).length=l.length:=by simp[wh]
def Z9A{l:XV}{i:Nat}(h:i<l.length):(l.take (i+1)).map wh=(l.take i).map wh++[wh l[i]]:=by
 grind [List.take_succ_eq_append_getElem]
def mQ{n i:Nat}(hn:n<=1000)(hi:i<=1000):w ((n:Int)+(i:Int))=(n:Int)+i:=ZP ⟨Z,Z⟩
section
variable{p:Program}(h:H4 p)(hm:p.Rows≠[])(hn:p.Objective≠[])
include h hm hn
end
structure OkP (p:Program):Prop where
 o:1<=p.Objective.length/\p.Objective.length<=15
 r:p.Rows.length<=64
 l:p.Rows.length=p.Limits.length
 row:∀r∈p.Rows,r.length=p.Objective.length
 lim:∀x∈p.Limits,0<=x/\x<=99
 cs:(∀x∈p.Objective,J0 x=true)/\∀r∈p.Rows,∀x∈r,J0 x=true
theorem ZpG{p:Program}(h:QH p=true):OkP p:=by
 unfold QH at h;simp only[Yd,decide_eq_true_eq]at h;obtain⟨⟨⟨h1,h2⟩,h3⟩,h4,h5,h6⟩:=h;have h1:=ZM.1 h1;refine⟨Z,Z,Z,λr hr=>?_,λx hx=>ZM.1 (Yn.1 h6 x hx),λx hx=>Yn.1 h4 x hx,λr hr x hx=>?_⟩
 .have:=Yn.1 h5 r hr;unfold mL at this
  grind
 .have:=Yn.1 h5 r hr;unfold mL at this
  simp_all
section
variable{p:Program}(h:OkP p)(hm:p.Rows≠[])
include h hm
omit hm in
theorem ZKP(V V1:Zb)(F:WL)(K:List Zb)(res:XS){i:Nat}(hi:i<p.Rows.length)(c:LQ p V V1 ([w ((p.Objective.length:Int)+i)]) F ([wh p.Rows[i]]) ([⟨p.Limits.getD i 0,1⟩]) K p.Objective.length (w ((i:Int)+1))=some res):∀k,k<=p.Objective.length->eJ p V V1 F K (wh (p.Rows[i].take k)) p.Objective.length i k=some res:=by
 have h1:=h.o;have h2:=h.r;have hl:=h.l;have hr:=h.row _ (Ye hi);refine down _ ?_ ?_
 .apply Wj.2.1.2.1;rw[Ap,<-hr,Yr,hr];exact⟨Z,_,H3 Z,_,Uj _,c⟩
 .intro k hk ih;apply Wj.2.1.2.1;rw[Ao,wS hk Z];rw[SU Z]at ih;exact⟨Z,_,gE hi,Z,_,gE Z,_,Uj _,by rw[mP,Yw];omega,ih⟩
omit hm in
theorem ZKQ(V V1:Zb)(B F:WL)(C:List (List Zb))(L K:List Zb)(hB:B.length<=1000/\C.length<=1000/\L.length<=1000)(res:XS){i:Nat}(hi:i<p.Rows.length)(c:LQ p V V1 (B++[w ((p.Objective.length:Int)+i)]) F (C++[wh p.Rows[i]]) (L++[⟨p.Limits.getD i 0,1⟩]) K p.Objective.length (w ((i:Int)+1))=some res):∀k,k<=p.Objective.length->eK p V V1 B F C L K (wh (p.Rows[i].take k)) p.Objective.length i k=some res:=by
 have h1:=h.o;have h2:=h.r;have hl:=h.l;have hr:=h.row _ (Ye hi);refine down _ ?_ ?_
 .apply Wj.2.2.1.1;rw[Ap,<-hr,Yr,hr];exact⟨Z,Z,Z,_,H3 Z,_,Uj _,Z,c⟩
 .intro k hk ih;apply Wj.2.2.1.1;rw[Ao,wS hk Z];rw[SU Z]at ih;exact⟨Z,_,gE hi,Z,_,gE Z,_,Uj _,by rw[mP,Yw];omega,ih⟩
omit h hm in
theorem Ny{l:WL}{i:Nat}(h:i<l.length):l[i]=l.getD i 0:=by
 simp_all
omit hm in
theorem ZKR(V V1:Zb)(F:WL)(K:List Zb):∀i,i<=p.Rows.length->0<i->LQ p V V1 (UZ p.Objective.length i) F ((p.Rows.take i).map wh) (wh (p.Limits.take i)) K p.Objective.length i=some (SR true ⟨UZ p.Objective.length p.Rows.length,F,p.Rows.map wh,wh p.Limits,K,V1⟩):=by
 have h1:=h.o;have h2:=h.r;have hl:=h.l;refine down _ ?_ ?_
 .intro _;apply Wj.2.1.2.2;rw[Ap,Yr,hl,Yr];rfl
 .intro i hi ih h0;apply Wj.2.1.2.2;rw[Ao];have ih:=ih Z;rw[Z99,Z9A hi,SU Z,Ny Z]at ih;have:=ZKQ h V V1 (UZ p.Objective.length i) F ((p.Rows.take i).map wh) (wh (p.Limits.take i)) K (by rw[ZzB,Dy,Yw,mP,Yw];omega) _ hi (by rw[wS hi Z,mQ Z Z];exact ih) 0 (Yc _);simpa[wh]using this
theorem ZKS(V V1:Zb):∀k,k<=p.Objective.length->0<k->eI p V V1 (Qq k) (wh (p.Objective.take k)) p.Objective.length k=some (SR true ⟨UZ p.Objective.length p.Rows.length,Qq p.Objective.length,p.Rows.map wh,wh p.Limits,wh p.Objective,V1⟩):=by
 have h1:=h.o;have h2:=h.r;have hl:=h.l;refine down _ ?_ ?_
 .intro _;apply Wj.2.1.1.1;rw[Ap,Yr];have hp:0<p.Rows.length:=Y4.2 hm;apply Wj.2.1.1.2;rw[Ao];have ih:=ZKR h V V1 (Qq p.Objective.length) (wh p.Objective) (0+1) Z Z;rw[Z99,Z9A hp,SU Z,Ny Z]at ih;have:=ZKP h V V1 (Qq p.Objective.length) (wh p.Objective) (SR true ⟨UZ p.Objective.length p.Rows.length,Qq p.Objective.length,p.Rows.map wh,wh p.Limits,wh p.Objective,V1⟩) hp (by rw[wS hp Z,mQ Z Z];simpa[UZ,wh]using ih) 0 (Yc _);simpa[wh]using this
 .intro k hk ih h0;apply Wj.2.1.1.1;rw[Ao,wS hk Z];have ih:=ih Z;rw[ZKO,SU hk]at ih;exact⟨by rw[ZpF];omega,Z,_,gE hk,_,Uj _,by rw[mP,Yw];omega,ih⟩
end
def ZKT{p:Program}(h:H4 p)(hm:p.Rows≠[]):eH p=some (if QH p=true then SR true (VP p)else Nu):=by
 refine Wj.2.2.1.2 _ _ ⟨_,Z98 h,?_⟩;rcases ft (QH p)with e|e
 .rw[e,Ya rfl,Ya rfl];have ho:=ZpG e;have h1:=ho.o;refine⟨_,Uj 0,?_⟩;apply Wj.1.2.2.2;rw[Ao,show w (0+1)=((0+1:Nat):Int) by decide];have:=ZKS ho hm ⟨0,0⟩ ⟨0,1⟩ (0+1) Z Z;rw[SU (show 0<p.Objective.length by omega)]at this;exact⟨Z,_,gE (i:=0) Z,_,Uj _,by simpa[Qq,wh,VP]using this⟩
 .rw[e,Yb Sm,Yb Sm];rfl
def mR{x:Int}(h:-2147483647<=x/\x<=2147483647):vR ⟨x,1⟩=true:=U1.2 ⟨by simp only;omega,by simp only;omega,Om⟩
def Nz{l:WL}(h:∀x∈l,-2147483647<=x/\x<=2147483647):Qp (wh l):=by
 intro r hr;obtain⟨x,hx,rfl⟩:=Yp.1 hr;exact mR (h x hx)
def Z9B{x:Int}(h:J0 x=true):-2147483647<=x/\x<=2147483647:=by have:=ZM.1 h;omega
theorem Z9C{p:Program}(h:OkP p):HZ (VP p):=by
 have h1:=h.o;have h2:=h.r;refine⟨⟨by simp[VP,UZ];omega,by simp[VP,Qq];omega,by simp[VP,UZ],by simp[VP,UZ,wh,h.l],by simp[VP,Qq,wh],?_,?_,?_,?_,v0⟩,?_,by simp[VP]⟩
 .intro v hv;simp only[VP,ZzB,ZpF]at hv;simp only[VP,Yi];rcases Dl v p.Objective.length with hl|hl
  .right;exact Yp.2 ⟨v,CF.2 hl,rfl⟩
  .left;exact Yp.2 ⟨v-p.Objective.length,CF.2 Z,Z⟩
 .intro r hr;obtain⟨x,hx,rfl⟩:=Yp.1 hr;refine⟨?_,Nz λy hy=>Z9B (h.cs.2 x hx y hy)⟩;rw[mP];simp[VP,ZpF,h.row x hx]
 .exact Nz λx hx=>by have:=h.lim x hx;omega
 .exact Nz λx hx=>Z9B (h.cs.1 x hx)
 .intro r hr;obtain⟨x,hx,rfl⟩:=Yp.1 hr;exact(h.lim x hx).1
def mS:XS:=(.tup [.agg [I 0,I 0,.own 0,.own 1],Bo false],[.arr 54 2 true (([]:List Zb).map Zb.c),.arr 54 2 true (([]:List Zb).map Zb.c)])
def SV(v:Zb)(P D:List Zb):XS:=(.tup [.agg [I v.Num,I v.Den,.own 0,.own 1],Bo true],[.arr 54 2 true (P.map Zb.c),.arr 54 2 true (D.map Zb.c)])
def Ans(o:Option Zv)(r:Rs):Prop:=match o with
 |none=>r=some mS
 |some d=>∃P D:List Zb,r=some (SV d.Value P D)
structure ZpH (p:Program) (d:Zv):Prop where
 g:HZ d
 m:d.Basic.length=p.Rows.length
 n:d.Free.length=p.Objective.length
def mT{xs:List Zb}{k:Int}(h0:0<=k)(h:k<xs.length):∃e,xs[k.toNat]?=some e:=⟨_,gR (i:=k.toNat) Z⟩
def Z9D{n:Nat}(h:n<=1000):n*8<=room:=by unfold room;omega
def ZKU{p:Program}{d:Zv}(h:ZpH p d)(h1:¬ent d<0)(h2:¬Cg d (ent d).toNat<0)(ok:okO d (Cg d (ent d).toNat).toNat (ent d).toNat=true):ZpH p (Wx d (Cg d (ent d).toNat).toNat (ent d).toNat) :=
 ⟨Z9n h.g h1 h2 ok,by simp[Wx,h.m],by simp[Wx,h.n]⟩
def ZKV{d:Zv}(h:HZ d)(h1:¬ent d<0)(h2:¬Cg d (ent d).toNat<0):Nw d (Cg d (ent d).toNat).toNat (ent d).toNat:=by
 have hk:=h.v.lk;rcases Zz3 d with e|⟨e1,e2,e3⟩
 .omega
 rcases Z9m d (ent d).toNat with l|⟨l1,l2,l3,l4⟩
 .omega
 refine⟨h.v,Z,Z,?_⟩;unfold E9 at l3;omega
def SW(p:Program):Option Zv:=if QH p=true then HY 300 (VP p)else none
section
variable{p:Program}{d:Zv}(h:ZpH p d)(hm:p.Rows≠[])
include h
theorem mU(V:Zb):∀i,i<=d.Free.length->∀x x1:List Zb,x1.length=p.Rows.length->∃P D:List Zb,RF p V d d.Value x x1 i=some (SV d.Value P D):=by
 have hv:=Z9q h.g.v;have h1:=h.g.v.n;have h2:=h.g.v.m;have h3:=h.m;have h4:=h.n;have hlk:=h.g.v.lk;refine down _ ?_ ?_
 .intro x x1 hx;refine⟨x,x1,XK.1.2.2.1 _ _ _ _ _ _ _ _ ?_⟩;rw[Ap];rfl
 .intro i hi ih x x1 hx;have hb:=hv d.Free[i] (Iv _ (Ye hi));by_cases c:(p.Objective.length:Int)<=d.Free[i]
  .have hq:=lY (SO (k:=i) h.g.v.vk Z);obtain⟨P,D,Ch⟩:=ih x (x1.set (d.Free[i]-p.Objective.length).toNat ⟨w (0-(d.Costs.getD i r0).Num),(d.Costs.getD i r0).Den⟩) (by rw[CD];exact hx);refine⟨P,D,XK.1.2.2.1 _ _ _ _ _ _ _ _ ?_⟩;have hw:w (d.Free[i]-p.Objective.length)=d.Free[i]-p.Objective.length:=ZP ⟨Z,Z⟩;obtain⟨e,he⟩:=mT (xs:=x1) (k:=d.Free[i]-p.Objective.length) Z Z;rw[Ao,wS hi Z];refine⟨Z,_,gE hi,?_⟩
   grind
  .obtain⟨P,D,Ch⟩:=ih x x1 hx;refine⟨P,D,XK.1.2.2.1 _ _ _ _ _ _ _ _ ?_⟩;rw[Ao,wS hi Z];refine⟨Z,_,gE hi,?_⟩;rw[Yb c];exact Ch
theorem mV(V:Zb):∀i,i<=d.Basic.length->∀x x1:List Zb,x.length=p.Objective.length->x1.length=p.Rows.length->∃P D:List Zb,RE p V d d.Value x x1 i=some (SV d.Value P D):=by
 have hv:=Z9q h.g.v;have h1:=h.g.v.n;have h2:=h.g.v.m;have h3:=h.m;have h4:=h.n;have hll:=h.g.v.ll;refine down _ ?_ ?_
 .intro x x1 hx hx1;obtain⟨P,D,Ch⟩:=mU h V 0 (Yc _) x x1 hx1
  grind [XK.1.2.1.2]
 .intro i hi ih x x1 hx hx1;have hb:=hv d.Basic[i] (E4 _ (Ye hi));by_cases c:d.Basic[i]<(p.Objective.length:Int)
  .obtain⟨P,D,Ch⟩:=ih (x.set d.Basic[i].toNat (d.Limits.getD i r0)) x1 (by rw[CD];exact hx) hx1;refine⟨P,D,XK.1.2.1.2 _ _ _ _ _ _ _ _ ?_⟩;obtain⟨e,he⟩:=mT (xs:=x) (k:=d.Basic[i]) Z Z;rw[Ao,wS hi Z];refine⟨Z,_,gE hi,?_⟩
   grind
  .obtain⟨P,D,Ch⟩:=ih x x1 hx hx1;refine⟨P,D,XK.1.2.1.2 _ _ _ _ _ _ _ _ ?_⟩;rw[Ao,wS hi Z];refine⟨Z,_,gE hi,?_⟩;rw[Yb c];exact Ch
theorem mW(V:Zb):∀i,i<=p.Rows.length->∀x x1:List Zb,x.length=p.Objective.length->x1.length=i->∃P D:List Zb,fF p V d d.Value x x1 i=some (SV d.Value P D):=by
 have h2:=h.g.v.m;have h3:=h.m;refine down _ ?_ ?_
 .intro x x1 hx hx1;obtain⟨P,D,Ch⟩:=mV h V 0 (Yc _) x x1 hx hx1
  grind [XK.1.2.1.1]
 .intro i hi ih x x1 hx hx1;obtain⟨P,D,Ch⟩:=ih x (x1++[⟨0,1⟩]) hx (by simp[hx1])
  grind [XK.1.2.1.1,wS,Uj]
include hm in
theorem mX(V:Zb):∀k,k<=p.Objective.length->∀x:List Zb,x.length=k->∃P D:List Zb,fE p V d d.Value x k=some (SV d.Value P D):=by
 have h1:=h.g.v.n;have h4:=h.n;have hp:0<p.Rows.length:=Y4.2 hm;refine down _ ?_ ?_
 .intro x hx;obtain⟨P,D,Ch⟩:=mW h V (0+1) Z x [⟨0,1⟩] hx rfl;refine⟨P,D,XK.1.1.2.1 _ _ _ _ _ _ _ ?_⟩;rw[Ap];apply XK.1.1.2.2;rw[Ao,show w (0+1)=((0+1:Nat):Int) by decide]
  grind [Uj]
 .intro k hk ih x hx;obtain⟨P,D,Ch⟩:=ih (x++[⟨0,1⟩]) (by simp[hx])
  grind [XK.1.1.2.1,wS,Uj]
include hm in
theorem Abr(V:Zb):∃P D:List Zb,yU p V d d.Value 0=some (SV d.Value P D):=by
 have h1:=h.g.v.n;have h4:=h.n;obtain⟨P,D,Ch⟩:=mX h hm V (0+1) Z [⟨0,1⟩] rfl;refine⟨P,D,XK.1.1.1.2 _ _ _ _ _ _ ?_⟩;rw[Ao,show w (0+1)=((0+1:Nat):Int) by decide]
 grind [Uj]
end
def mY{p:Program}(hm:p.Rows≠[])(V:Zb):∀(f:Nat) (d:Zv),ZpH p d->f<=300->Ans (HY f d) (FU p V d (300-(f:Int))):=by
 intro f
 induction f with
 |zero =>
  intro d h hf;apply XK.1.1.1.1
  rw[Ap];rfl
 |succ f ih =>
  intro d h hf2;have hk:=h.g.v.lk;unfold HY;by_cases h1:ent d<0
  .rw[Ya h1];obtain⟨P,D,Ch⟩:=Abr h hm V;refine⟨P,D,XK.1.1.1.1 _ _ _ _ _ ?_⟩;rw[Ao];refine⟨_,ZpD h.g.v,?_⟩
   simp_all
  rw[Yb h1];obtain⟨j,hj⟩:∃j:Nat,ent d=j:=⟨(ent d).toNat,Z⟩;have hjn:j<d.Free.length:=by
   grind [Zz3]
  by_cases h2:Cg d (ent d).toNat<0
  .rw[Ya h2];rw[hj,Yj]at h2;apply XK.1.1.1.1;rw[Ao];refine⟨_,ZpD h.g.v,?_⟩;rw[Yb h1,hj];refine⟨_,ZzA h.g.v hjn,?_⟩;rw[Ya h2];rfl
  rw[Yb h2];have hP:=ZKN (ZKV h.g h1 h2);have hst:=ZKU h h1 h2;rw[hj,Yj]at h2 hP hst|-;obtain⟨i,hi⟩:∃i:Nat,Cg d j=i:=⟨(Cg d j).toNat,Z⟩;rw[hi,Yj]at hP hst|-;have hwr:w ((300-((f+1:Nat):Int))+1)=300-(f:Int):=by rw[ZP ⟨Z,Z⟩];omega
  unfold Ko at hP;rcases ft (okO d i j)with ok|ok
  .rw[ok,Ya rfl]at hP|-;have ih:=ih (Wx d i j) (hst ok) Z;have key:∀r,FU p V (Wx d i j) (300-(f:Int))=some r->FU p V d (300-((f+1:Nat):Int))=some r:=by
    intro r hr;apply XK.1.1.1.1;rw[Ao];refine⟨_,ZpD h.g.v,?_⟩;rw[Yb h1,hj];refine⟨_,ZzA h.g.v hjn,?_⟩;rw[hi,Ap];refine .inr ⟨_,_,_,_,_,_,_,hP,?_⟩;rw[hwr];exact hr
   cases hs:HY f (Wx d i j)with
   |none=>rw[hs]at ih;exact key _ ih
   |some d'=>rw[hs]at ih;obtain⟨P,D,Ch⟩:=ih;exact⟨P,D,key _ Ch⟩
  .rw[ok,Yb Sm]at hP|-;apply XK.1.1.1.1;rw[Ao];refine⟨_,ZpD h.g.v,?_⟩;rw[Yb h1,hj];refine⟨_,ZzA h.g.v hjn,?_⟩;rw[hi,Ap];refine .inl ⟨[],[],[],[],[],r0,false,hP,?_⟩;rw[Yb Sm];rfl
def ZKW{p:Program}(h:H4 p)(hm:p.Rows≠[]):Ans (SW p) (fD p):=by
 have hI:=ZKT h hm;unfold SW;rcases ft (QH p)with e|e
 .rw[e,Ya rfl]at hI|-;have ho:=ZpG e;have hs:=mY (p:=p) hm ⟨0,0⟩ 300 (VP p) ⟨Z9C ho,by simp[VP,ZzB],by simp[VP,ZpF]⟩ Z;have key:∀r,FU p ⟨0,0⟩ (VP p) (300-((300:Nat):Int))=some r->fD p=some r:=by
   intro r hr;refine XK.1.2.2.2 _ _ ⟨_,_,_,_,_,_,_,hI,?_⟩
   simp_all
  cases hs':HY 300 (VP p)with
  |none=>rw[hs']at hs;exact key _ hs
  |some d'=>rw[hs']at hs;obtain⟨P,D,Ch⟩:=hs;exact⟨P,D,key _ Ch⟩
 .rw[e,Yb Sm]at hI|-;refine XK.1.2.2.2 _ _ ⟨[],[],[],[],[],r0,false,hI,?_⟩;rw[Yb Sm];rfl
def ZKX{p:Program}{d:Zv}(h:SW p=some d):HZ d:=by
 unfold SW at h
 grind [Z9o,Z9C,ZpG]
set_option maxRecDepth 100000 in
def ZKY:∀n:Fin 60,Ac 1 (n.1:Int)=2 ^ n.1:=by decide
theorem ZpI{n:Int}(h0:0<=n)(h:n<60):Ac 1 n=2 ^ n.toNat:=by
 have:=ZKY ⟨n.toNat,Z⟩
 grind
theorem Z9E{n:Int}(h:n<=40):(1:Int)<=2 ^ n.toNat/\(2:Int) ^ n.toNat<=1099511627776:=by
 have h1:(2:Nat) ^ n.toNat<=2 ^ 40:=Nat.pow_le_pow_right Sm Z
 grind
def NA{p k:Int}(h0:1<=p)(hp:p<=1099511627776)(hk:1<=k)(c:k<=5000):1<=p*k/\p*k<=5497558138880000:=by
 have h1:=Int.mul_le_mul h0 hk Z Z;have h2:=Int.mul_le_mul hp c Z Z;omega
theorem mZ{k c den:Int}(hk:1<=k/\k<=5000)(hn:0<=c/\c<=40)(hd:den<=4611686018427387904):∀(n:Nat) (p i:Int),den-i=n->0<=i->1<=p->p<=2 ^ c.toNat->fH k den c p i=some (Bo (lW k (2 ^ c.toNat) n p),[]):=by
 have hB:=Z9E hn.2;intro n
 induction n with
 |zero =>
  intro p i _ _ _ _;apply XK.2.2.1.1
  rw[Ap];rfl
 |succ n ih =>
  intro p i h9 hi h0 hp;have hm:=NA h0 Z hk.1 hk.2;apply XK.2.2.1.1;rw[Ao,ZP (x:=p*k) ⟨Z,Z⟩,ZpI hn.1 Z,lW]
  grind [ZP]
def ZKZ{k den c:Int}(hk:1<=k/\k<=5000)(hn:0<=c/\c<=40)(hd:0<=den/\den<=4611686018427387904):yY k den c=some (Bo (lW k (2 ^ c.toNat) den.toNat 1),[]):=by
 grind [Z9E,XK.2.2.1.2,mZ]
def ZLa{r:Zb}(h:vR r=true):(-2147483647<=r.Num.tdiv r.Den/\r.Num.tdiv r.Den<=2147483647)/\VC (r.Num.tdiv r.Den*r.Den):=by
 obtain⟨h1,h2,h3⟩:=UY h;have e:(r.Num.tdiv r.Den).natAbs<=r.Num.natAbs:=by rw[Int.natAbs_tdiv];exact Nat.div_le_self _ _
 have hA:-2147483647<=r.Num.tdiv r.Den/\r.Num.tdiv r.Den<=2147483647:=by omega
 have:=QF hA h2;omega
def ZLb{r:Zb}(h:vR r=true):yX r=some (I (SP r),[]):=by
 obtain⟨h1,h2⟩:=ZLa h;have h3:=UY h;refine XK.2.1.2.1 _ _ ⟨_,U4 r,?_⟩;rw[h,Ya rfl,ZP (x:=r.Num.tdiv r.Den) ⟨Z,Z⟩,ZP h2,ZP (x:=r.Num.tdiv r.Den+1) ⟨Z,Z⟩];refine⟨Z,?_⟩;unfold SP;split<;>rfl
def ZLc{r:Zb}(h0:0<=r.Num)(hd:1<=r.Den):0<=SP r:=by
 have:0<=r.Num.tdiv r.Den:=Int.tdiv_nonneg h0 Z
 unfold SP;split<;>omega
theorem m7{r:Zb}(h:vR r=true)(h0:0<=r.Num/\r.Num<=40):∀(f:Nat) (k:Int),k=4096-f->1<=k->fJ r k=some (I (pfG (2 ^ r.Num.toNat) r.Den.toNat f k),[]):=by
 have h3:=UY h;intro f
 induction f with
 |zero =>
  intro k hk h1;apply XK.2.2.2.1
  rw[Ap];rfl
 |succ f ih =>
  intro k hk h1;apply XK.2.2.2.1;rw[Ao,ZP (x:=k+1) ⟨Z,Z⟩,pfG];refine⟨_,ZKZ ⟨Z,Z⟩ h0 ⟨Z,Z⟩,?_⟩
  grind
theorem ZLd{r:Zb}(h:vR r=true)(h0:0<=r.Num):fI r=some (I (lX r),[]):=by
 have h3:=UY h;refine XK.2.2.2.2 _ _ ⟨_,U4 r,?_⟩;rw[h,Ya rfl,Ap];by_cases c:40<r.Num
 .rw[Ya c];have hc:=ZLc h0 h3.2.2;refine⟨_,ZLb h,Np (SP r),XK.2.1.2.2 _ _ ?_,?_⟩
  .unfold Np
   grind [ZpI]
  .unfold lX;rw[Ya c]
 .rw[Yb c];unfold lX
  grind [m7]
def ZpJ(n:Int):Nat->Int->Int
 |0,b=>b
 |f+1,b=>if Ac 1 b<n then ZpJ n f (b+1)else b
def NB(n:Int):Int:=if Ak n 1 4096=true then ZpJ n 12 0 else -1
theorem m8{n:Int}(h:n<=4096):∀(f:Nat) (b:Int),b=12-f->0<=b->dX n b=some (I (ZpJ n f b),[]):=by
 intro f
 induction f with
 |zero =>
  intro b hb h0;refine Wr.1.2.2.1 _ _ _ ⟨Z,?_⟩
  rw[show b=12 by omega,Yb (by rw[show Ac 1 12=4096 by decide];omega)];rfl
 |succ f ih =>
  intro b hb h0;refine Wr.1.2.2.1 _ _ _ ⟨Z,?_⟩;rw[ZP (x:=b+1) ⟨Z,Z⟩,ZpJ]
  grind
def ZLe(n:Int):yB n=some (I (NB n),[]):=by
 refine Wr.1.2.2.2.1 _ _ ⟨_,ZH _ _ _,?_⟩;unfold NB;rcases ft (Ak n 1 4096)with e|e
 .grind [m8,ZM]
 .simp_all
def Gl:Int->WL->Int
 |s,[]=>s
 |s,v::vs=>Gl (if Ak v 0 3=true then Au s (Ac 1 v)else s) vs
def m9(xs:WL)(hl:xs.length<=1000):∀i,i<=xs.length->∀s,Ro xs s i=some (I (Gl s (xs.drop i)),[]):=by
 refine down _ ?_ ?_
 .intro s;apply Wr.1.1.2.2;rw[Ap,Ym];rfl
 .intro i hi ih s;apply Wr.1.1.2.2;rw[Ao,wS hi Z,Yh hi,Gl]
  simp_all [gE,ZH,ft,ZM]
def ZLf{xs:WL}(hl:xs.length<=1000):x9 xs=some (I (Gl 0 xs),[]):=Wr.1.2.1.1 _ _ (by simpa using m9 xs hl 0 (Yc _) 0)
def SY(m:Int):Nat->WL->WL
 |_,[]=>[]
 |k,v::vs=>if Aj (At m k) 1=1 then v::SY m (k+1) vs else SY m (k+1) vs
def NC(a:Zd)(m:Int)(h3:a.Vars.length<=3):∀i,i<=a.Vars.length->∀s,Rn a m s i=some (I (Gl s (SY m i (a.Vars.drop i))),[]):=by
 refine down _ ?_ ?_
 .intro s;apply Wr.1.1.1.2;rw[Ap,Ym];rfl
 .intro i hi ih s;apply Wr.1.1.1.2;rw[Ao,Ao,wS hi Z,Yh hi,SY];refine⟨Z,?_⟩;by_cases c:Aj (At m i) 1=1
  .rw[Ya c,Ya c,Gl]
   simp_all [gE,ZH,ft,ZM]
  .simp_all
def nA{a:Zd}{m:Int}(h3:a.Vars.length<=3):x6 a m=some (I (Gl 0 (SY m 0 a.Vars)),[]):=Wr.1.1.2.1 _ _ _ (by simpa using NC a m h3 0 (Yc _) 0)
def geI(a b:Int):Bool:=decide (b<=a)
def J1:Int->Option Int->WL->Bool
 |_,_,[]=>true
 |left,p,v::vs=>Ak v 1 left && BL geI p v && J1 (left-v) (some v) vs
def nB(xs:WL)(hl:Le xs):∀i,i<=xs.length->∀left,0<=left->left<=8->dU xs (8-left) i=some (Bo (J1 left (Cb xs i) (xs.drop i)),[]):=by
 refine down _ ?_ ?_
 .intro left _ _;apply HK.1.2;rw[Ap,Ym];rfl
 .intro i hi ih left h0 h8;apply HK.1.2;rw[Ao,wS hi Z,Yh hi,J1,show w (8-(8-left))=left by rw[ZP ⟨Z,Z⟩];omega];refine⟨Z,_,gE hi,_,ZH _ _ _,?_⟩;rw[show Cb xs (i+1)=some xs[i]from Yf hi]at ih;rcases ft (Ak xs[i] 1 left)with e|e
  .have e':=ZM.1 e;rw[e,Ya rfl,Yl,show w (8-left+xs[i])=8-(left-xs[i]) by rw[ZP ⟨Z,Z⟩];omega];have ih:=ih (left-xs[i]) Z Z;by_cases c:(0:Int)<(i:Int)
   .rw[Ya c,wP Z hi Z,lP Z Z];refine⟨Z,_,gE Z,?_⟩;by_cases c2:xs[i-1]<xs[i]
    .rw[Ya c2];simp[BL,geI];omega
    .rw[Yb c2,ih];simp[BL,geI,show xs[i]<=xs[i-1] by omega]
   .obtain rfl:i=0:=by omega
    rw[Yb c,ih];simp[BL,Cb]
  .simp_all
def Z9F{xs:WL}(hl:Le xs):dT xs=some (Bo (J1 8 none xs),[]):=HK.2.1 _ _ (by simpa[Cb]using nB xs hl 0 (Yc _) 8 Z Z)
def nC:WL->WL->Int->Int
 |x::xs,y::ys,n=>nC xs ys (w (n+w (x*y)))
 |_,_,n=>n
def ZzC(a b:WL):Int:=if J1 8 none a && J1 8 none b then nC a b 0 else 0
theorem ZLg{xs ys:WL}{n:Int}(h:xs=[]\/ys=[]):nC xs ys n=n:=by
 rcases h with rfl|rfl
 .rfl
 .cases xs<;>rfl
def nD(a b:WL)(ha:Le a)(hb:Le b)(hd:(J1 8 none a && J1 8 none b)=true):∀i,i<=a.length->∀n,dW a b n i=some (I (nC (a.drop i) (b.drop i) n),[]):=by
 simp only[Yd]at hd;refine down _ ?_ ?_
 .intro n;apply HK.2.2.1;rw[Ap,Ym];rfl
 .intro i hi ih n;apply HK.2.2.1;rw[Ao];by_cases c:(i:Int)<(b.length:Int)
  .have hb':i<b.length:=by omega
   rw[Ya c,wS hi Z,Yh hi,Yh hb',nC]
   simp_all [Z9F,gE]
  .grind [ZLg,List.drop_eq_nil_of_le]
def ZLh{a b:WL}(ha:Le a)(hb:Le b):dV a b=some (I (ZzC a b),[]):=by
 apply HK.2.2.2;unfold ZzC;rcases ft (J1 8 none a && J1 8 none b)with e|e
 .rw[e,Ya rfl];simpa using nD a b ha hb e 0 (Yc _) 0
 .rw[e,Yb Sm];apply HK.2.2.1
  simp_all [Z9F,ft,Yl]
def ZzD{α:Type}[DecidableEq α]{xs ys:List α}{i:Nat}(h1:i<xs.length)(h2:i<ys.length):decide (xs.drop i=ys.drop i)=(decide (xs[i]=ys[i]) && decide (xs.drop (i+1)=ys.drop (i+1))):=by
 grind [List.drop_eq_getElem_cons,List.cons.injEq,Bool.decide_and]
