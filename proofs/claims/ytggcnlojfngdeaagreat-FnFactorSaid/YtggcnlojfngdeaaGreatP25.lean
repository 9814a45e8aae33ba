/-
  Parts of the proofs for this seat: WA XP XQ CM DB XS.
-/
import Derived.Test.YtggcnlojfngdeaaGreatP24
set_option linter.all false
set_option maxRecDepth 100000
set_option maxHeartbeats 4000000
namespace Go.Proofs.YtggcnlojfngdeaaGreat
open Go.AM
def ZJV{a b c:Int}:Ak a b c=true↔b<=a/\a<=c:=by simp[Ak]
def GC(c:Zl):Prop:=0<=c.i/\c.i<=c.b.length/\c.b.length<=1048576
abbrev cB(c:Zl):Ax:=.box (c.c.map .t)
def Z8H(x:Int):0<=Aj x 255/\Aj x 255<=255:=by
 unfold Aj
 grind [Nat.le_trans,Nat.and_le_right,ZO]
def ZJW(code:WL)(hl:code.length<=1048576):∀i,i<=code.length->∀h1:Int,∃c,bD code h1 i=some (.ptr 0 0,[cB c])/\GC c:=by
 refine down _ ?_ ?_
 .intro h1;refine⟨⟨code,0,h1⟩,Xz.1.1.1.2 _ _ _ _ ?_,by simp[GC];exact hl⟩;simp
 .intro i hi ih h1;by_cases h4:(i:Int)<4000
  .obtain⟨c,e,g⟩:=ih (Aj (w ((w ((w (h1*131))+(w code[i])))+7)) 1073741823);refine⟨c,Xz.1.1.1.2 _ _ _ _ ?_,g⟩;rw[Ao,Ya h4];refine⟨Z,code[i],by simp[hi],?_⟩
   grind [ZO]
  .refine⟨⟨code,0,h1⟩,Xz.1.1.1.2 _ _ _ _ ?_,by simp[GC];exact hl⟩;rw[Ao,Yb h4];rfl
def ZJX(code:WL)(hl:code.length<=1048576):∃c,bC code=some (.ptr 0 0,[cB c])/\GC c:=by
 obtain⟨c,e,g⟩:=ZJW code hl 0 (Yc _) (w (10101+(code.length:Int)))
 grind [Xz.1.1.2.1]
def lL{c:Zl}(g:GC c):∃c' n,G7 c=some (I n,[cB c'])/\GC c'/\0<=n/\n<=255:=by
 by_cases h:c.i<(c.b.length:Int)
 .obtain⟨i,hi⟩:∃i:Nat,c.i=i:=⟨c.i.toNat,by have:=g.1;omega⟩;have hl:i<c.b.length:=by omega
  refine⟨⟨c.b,w (c.i+1),w ((w (c.h*6364136223846793005))+1442695040888963407)⟩,Aj (w ((Aj (FN (At (w ((w (c.h*6364136223846793005))+1442695040888963407)) 33) (At (w ((w (c.h*6364136223846793005))+1442695040888963407)) 45)) 255)+(w c.b[i]))) 255,Xz.1.1.2.2 _ _ ?_,?_,Z8H _⟩
  .simp_all
  .have:=g.2.2;rw[show w (c.i+1)=c.i+1 from ZO Z Z];exact⟨by show 0<=c.i+1;omega,by show c.i+1<=(c.b.length:Int);omega,this⟩
 .refine⟨⟨c.b,c.i,w ((w (c.h*6364136223846793005))+1442695040888963407)⟩,Aj (FN (At (w ((w (c.h*6364136223846793005))+1442695040888963407)) 33) (At (w ((w (c.h*6364136223846793005))+1442695040888963407)) 45)) 255,Xz.1.1.2.2 _ _ ?_,g,Z8H _⟩;rw[Yb h];rfl
def X2{c:Zl}(g:GC c)(a:Int):∃c' n,ZT c a=some (I n,[cB c'])/\GC c'/\0<=n/\(0<a->n<a):=by
 by_cases h:a<=0
 .exact⟨c,0,Xz.1.2.1.1 _ _ _ (by rw[Ya h]),g,Z,Z⟩
 .by_cases ha:a<=256
  .obtain⟨c',n,e,g',h1,h2⟩:=lL g;refine⟨c',Int.tmod n a,Xz.1.2.1.1 _ _ _ ?_,g',Int.tmod_nonneg _ h1,λ_=>Int.tmod_lt_of_pos _ Z⟩
   grind
  .obtain⟨c1,n1,e1,g1,k1,k2⟩:=lL g;obtain⟨c2,n2,e2,g2,k3,k4⟩:=lL g1;obtain⟨c3,n3,e3,g3,k5,k6⟩:=lL g2;obtain⟨c4,n4,e4,g4,k7,k8⟩:=lL g3;have q:w ((w ((w ((w (n1*16777216))+(w (n2*65536))))+(w (n3*256))))+n4)=n1*16777216+n2*65536+n3*256+n4:=by
    grind [ZO]
   refine⟨c4,Int.tmod (n1*16777216+n2*65536+n3*256+n4) a,Xz.1.2.1.1 _ _ _ ?_,g4,Int.tmod_nonneg _ Z,λ_=>Int.tmod_lt_of_pos _ Z⟩;rw[Yb h,Yb ha];exact⟨c1,n1,e1,c2,n2,e2,c3,n3,e3,c4,n4,e4,Z,by rw[q]⟩
def VN{c:Zl}(g:GC c)(a:Int):∃c' b,XJ c a=some (Bo b,[cB c'])/\GC c':=by
 obtain⟨c',n,e,g',_⟩:=X2 g a;exact⟨c',_,Xz.1.2.1.2 _ _ _ ⟨c',n,e,rfl⟩,g'⟩
def M8{α:Type}{l:List α}{n:Int}(h0:0<=n)(h1:n<l.length):∃e,l[n.toNat]?=some e/\e∈l:=by
 simp_all
def UU{c:Zl}(g:GC c)(l:WL)(h0:l≠[])(hl:l.length<=256):∃c' e,XY c l=some (I e,[cB c',.arr ZV 1 true (l.map ic)])/\GC c'/\e∈l:=by
 have hp:0<l.length:=Y4.2 h0;obtain⟨c',n,e,g',h1,h2⟩:=X2 g l.length;obtain⟨y,hy,hm⟩:=M8 h1 (h2 Z)
 grind [Xz.1.2.2.2.1]
def SJ{c:Zl}(g:GC c)(l:List V5)(h0:l≠[])(hl:l.length<=256):∃c' e,Q2 c l=some (.t (.str e),[cB c',.arr ZDj 1 true (l.map sc)])/\GC c'/\e∈l:=by
 have hp:0<l.length:=Y4.2 h0;obtain⟨c',n,e,g',h1,h2⟩:=X2 g l.length;obtain⟨y,hy,hm⟩:=M8 h1 (h2 Z)
 grind [WI.2.2.2.1]
def lM{c:Zl}(g:GC c):∃c' a1 a2 a3 a4 a5,∃l:List Z9,G8 c=some (.agg [I a1,I a2,I a3,I a4,I a5,.own 1],[cB c',.arr 188 2 true (l.map Z9.c)])/\GC c'/\l.length<=1:=by
 obtain⟨c1,n1,e1,g1,_⟩:=X2 g 5;obtain⟨c2,n2,e2,g2,_⟩:=X2 g1 4;obtain⟨c3,n3,e3,g3,_⟩:=X2 g2 4;obtain⟨c4,n4,e4,g4,_⟩:=X2 g3 3;obtain⟨c5,b5,e5,g5⟩:=VN g4 3;have tail:∀(c:Zl),GC c->∃c' b,XJ c 3=some (Bo b,[cB c'])/\∃c'' n c3,XY c' ([1,5,17,32])=some (I n,[cB c'',.arr ZV 1 true (([1,5,17,32]:WL).map ic)])/\∃k,ZT c'' 20=some (I k,[cB c3])/\GC c'/\GC c3:=by
  intro c g;obtain⟨c',b,e,g'⟩:=VN g 3;obtain⟨c'',n,e',g'',_⟩:=UU g' [1,5,17,32] Om Om;obtain⟨c3,k,e3,g3,_⟩:=X2 g'' 20
  grind
 rcases tf b5 with hb|hb
 .subst hb;obtain⟨c',b,e,c'',n,c3',e',k,e3',g',g3'⟩:=tail c5 g5;rcases tf b with hb|hb
  .subst hb;exact⟨c',_,_,_,_,_,[],Xz.1.2.2.2.2 _ _ ⟨c1,n1,e1,c2,n2,e2,c3,n3,e3,c4,n4,e4,c5,false,e5,by rw[Yb Om];exact⟨c',false,e,by rw[Yb Om]⟩⟩,g',Om⟩
  .subst hb;exact⟨c3',_,_,_,_,_,[⟨n,k⟩],Xz.1.2.2.2.2 _ _ ⟨c1,n1,e1,c2,n2,e2,c3,n3,e3,c4,n4,e4,c5,false,e5,by rw[Yb Om];exact⟨c',true,e,by rw[Ya rfl];exact⟨c'',_,n,e',c3',k,e3',rfl⟩⟩⟩,g3',Om⟩
 .subst hb;obtain⟨c6,n6,e6,g6,_⟩:=X2 g5 3;obtain⟨c',b,e,c'',n,c3',e',k,e3',g',g3'⟩:=tail c6 g6;rcases tf b with hb|hb
  .subst hb;exact⟨c',_,_,_,_,_,[],Xz.1.2.2.2.2 _ _ ⟨c1,n1,e1,c2,n2,e2,c3,n3,e3,c4,n4,e4,c5,true,e5,by rw[Ya rfl];exact⟨c6,n6,e6,c',false,e,by rw[Yb Om]⟩⟩,g',Om⟩
  .subst hb;exact⟨c3',_,_,_,_,_,[⟨n,k⟩],Xz.1.2.2.2.2 _ _ ⟨c1,n1,e1,c2,n2,e2,c3,n3,e3,c4,n4,e4,c5,true,e5,by rw[Ya rfl];exact⟨c6,n6,e6,c',true,e,by rw[Ya rfl];exact⟨c'',_,n,e',c3',k,e3',rfl⟩⟩⟩,g3',Om⟩
def SmM(m:Zf):Prop:=m.Scan.Steps.length<=3/\m.Sort_.Steps.length<=3/\m.Hash.Steps.length<=3/\m.Merge.Steps.length<=3/\m.Nested.Steps.length<=3
def SmM.le{m:Zf}(h:SmM m):Be m:=by
 obtain⟨h1,h2,h3,h4,h5⟩:=h;omega
def ZJY{c:Zl}(g:GC c):∃c',∃m:Zf,bE c=some (.agg (m.c.map .t),[cB c'])/\GC c'/\SmM m:=by
 obtain⟨c1,b,e,g1⟩:=VN g 3;rcases tf b with hb|hb
 .subst hb;obtain⟨d1,x1,x2,x3,x4,x5,l1,f1,h1,k1⟩:=lM g1;obtain⟨d2,y1,y2,y3,y4,y5,l2,f2,h2,k2⟩:=lM h1;obtain⟨d3,z1,z2,z3,z4,z5,l3,f3,h3,k3⟩:=lM h2;obtain⟨d4,u1,u2,u3,u4,u5,l4,f4,h4,k4⟩:=lM h3;obtain⟨d5,v1,v2,v3,v4,v5,l5,f5,h5,k5⟩:=lM h4;refine⟨d5,⟨⟨x1,x2,x3,x4,x5,l1⟩,⟨y1,y2,y3,y4,y5,l2⟩,⟨z1,z2,z3,z4,z5,l3⟩,⟨u1,u2,u3,u4,u5,l4⟩,⟨v1,v2,v3,v4,v5,l5⟩⟩,Xz.2.1.1.1 _ _ ⟨c1,false,e,?_⟩,h5,?_⟩
  .rw[Yb Om];exact⟨d1,l1,x1,x2,x3,x4,x5,f1,d2,l2,y1,y2,y3,y4,y5,f2,d3,l3,z1,z2,z3,z4,z5,f3,d4,l4,u1,u2,u3,u4,u5,f4,d5,l5,v1,v2,v3,v4,v5,f5,rfl⟩
  .exact⟨by show l1.length<=3;omega,by show l2.length<=3;omega,by show l3.length<=3;omega,by show l4.length<=3;omega,by show l5.length<=3;omega⟩
 .subst hb;refine⟨c1,⟨⟨1,1,0,0,0,[]⟩,⟨2,3,0,0,0,[⟨17,20⟩]⟩,⟨4,2,1,1,0,[]⟩,⟨1,1,1,1,0,[]⟩,⟨1,0,0,1,1,[]⟩⟩,Xz.2.1.1.1 _ _ ⟨c1,true,e,?_⟩,g1,?_⟩
  .rw[Ya rfl];exact⟨_,_,_,_,_,_,_,_,_,_,_,_,_,_,_,_,_,_,_,_,_,_,_,_,_,_,_,_,_,_,Xz.1.2.2.1 _ rfl,rfl⟩
  .exact⟨Om,Om,Om,Om,Om⟩
def Z8I{X:ZE}{Af t1:Nat->Option Ab}(h:∀f m,t1 f=some m->Af f=some m):∀n,ES (Wn (λ_ _ _=>none) t1 n) (Wn X Af n)
 |0=>λ_ _ _ _ h=>by cases h
 |n+1=>λf xs h0 r hr=>by
  simp only[Wn]at hr|-
  cases hm:t1 f with
  |none=>simp only[hm]at hr;cases hr
  |some m =>
   simp only[hm,h f m hm]at hr|-;split at hr
   .rename_i hl;rw[Ya hl];exact YG (Z8I h n) n hr
   .cases hr
def Zpx:List (Nat×Ab)->Nat->Option Ab
 |[],_=>none
 |(k,m)::l,f=>match Nat.beq k f with
  |true=>some m
  |false=>Zpx l f
def Z8J{Af:Nat->Option Ab}:∀(l:List (Nat×Ab)),(∀p∈l,Af p.1=some p.2)->∀f m,Zpx l f=some m->Af f=some m
 |[],_,f,m,h=>by cases h
 |(k,m')::l,hl,f,m,h=>by
  unfold Zpx at h;split at h
  .rename_i e;rw[<-Nat.eq_of_beq_eq_true e,<-Option.some.inj h];exact hl (k,m') Om
  .exact Z8J l (λp hp=>hl p (by simp[hp])) f m h
noncomputable def pqT:List (Nat×Ab):=[(86,Z35),(50,Zr2),(133,Z30),(90,ZsM),(135,Z32),(134,Z33),(137,Zr1),(107,ZrT),(172,Z34)]
def M9:∀p∈pqT,Af p.1=some p.2:=by
 intro p hp;simp only[pqT,Yz,List.not_mem_nil,or_false]at hp;rcases hp with rfl|rfl|rfl|rfl|rfl|rfl|rfl|rfl|rfl
 .exact ZEf
 .exact Z8a
 .exact ZEb
 .exact Z8d
 .exact ZEc
 .exact ZEd
 .exact Z7Z
 .exact Z8b
 .exact ZEe
def QA{f:Nat}{xs:XQ}{h0:WM}{r:XS}(h:Wn (λ_ _ _=>none) (Zpx pqT) 20000 f xs h0=some r):C f xs h0=some r :=
 Z1R 20000 f xs h0 r (Z8I (Z8J pqT M9) 20000 f xs h0 r h)
def UV(s:V5):Prop:=∃(n:Int) (x:List Zd),PP s=some (.tup [.agg [I n,.own 0],Bo true],[.xarr 105 2 (x.map Zd.c)])/\Z3 n x=true
def pq0:UV ⟨#[114,40,88,89,41]⟩:=⟨2,[⟨⟨#[114]⟩,[0,1]⟩],QA (by kernel_rfl),Sm⟩
theorem pq1:UV ⟨#[114,40,88,89,41,32,115,40,89,90,41]⟩:=⟨3,[⟨⟨#[114]⟩,[0,1]⟩,⟨⟨#[115]⟩,[1,2]⟩],QA (by kernel_rfl),Sm⟩
def pq2:UV ⟨#[114,40,88,89,41,32,115,40,89,90,41,32,116,40,90,85,41]⟩:=⟨4,[⟨⟨#[114]⟩,[0,1]⟩,⟨⟨#[115]⟩,[1,2]⟩,⟨⟨#[116]⟩,[2,3]⟩],QA (by kernel_rfl),Sm⟩
theorem pq3:UV ⟨#[114,40,88,89,41,32,115,40,89,90,41,32,116,40,90,88,41]⟩:=⟨3,[⟨⟨#[114]⟩,[0,1]⟩,⟨⟨#[115]⟩,[1,2]⟩,⟨⟨#[116]⟩,[2,0]⟩],QA (by kernel_rfl),Sm⟩
def pq4:UV ⟨#[114,40,88,89,41,32,115,40,88,90,41,32,116,40,88,85,41]⟩:=⟨4,[⟨⟨#[114]⟩,[0,1]⟩,⟨⟨#[115]⟩,[0,2]⟩,⟨⟨#[116]⟩,[0,3]⟩],QA (by kernel_rfl),Sm⟩
theorem pq5:UV ⟨#[114,40,88,89,41,32,115,40,89,90,41,32,118,40,89,41]⟩:=⟨3,[⟨⟨#[114]⟩,[0,1]⟩,⟨⟨#[115]⟩,[1,2]⟩,⟨⟨#[118]⟩,[1]⟩],QA (by kernel_rfl),Sm⟩
def pq6:UV ⟨#[117,40,88,89,90,41,32,115,40,90,85,41]⟩:=⟨4,[⟨⟨#[117]⟩,[0,1,2]⟩,⟨⟨#[115]⟩,[2,3]⟩],QA (by kernel_rfl),Sm⟩
def pq7:UV ⟨#[117,40,88,89,90,41,32,114,40,88,89,41,32,118,40,90,41]⟩:=⟨3,[⟨⟨#[117]⟩,[0,1,2]⟩,⟨⟨#[114]⟩,[0,1]⟩,⟨⟨#[118]⟩,[2]⟩],QA (by kernel_rfl),Sm⟩
def pq8:UV ⟨#[114,40,88,89,41,32,115,40,89,90,41,32,116,40,90,85,41,32,118,40,88,41]⟩:=⟨4,[⟨⟨#[114]⟩,[0,1]⟩,⟨⟨#[115]⟩,[1,2]⟩,⟨⟨#[116]⟩,[2,3]⟩,⟨⟨#[118]⟩,[0]⟩],QA (by kernel_rfl),Sm⟩
theorem pq9:UV ⟨#[114,40,88,89,41,32,114,40,89,90,41]⟩:=⟨3,[⟨⟨#[114]⟩,[0,1]⟩,⟨⟨#[114]⟩,[1,2]⟩],QA (by kernel_rfl),Sm⟩
def Abf:UV ⟨#[114,40,88,89,41,32,115,40,89,88,41]⟩:=⟨2,[⟨⟨#[114]⟩,[0,1]⟩,⟨⟨#[115]⟩,[1,0]⟩],QA (by kernel_rfl),Sm⟩
def Abg:UV ⟨#[118,40,88,41,32,114,40,88,89,41,32,115,40,89,90,41,32,116,40,90,85,41]⟩:=⟨4,[⟨⟨#[118]⟩,[0]⟩,⟨⟨#[114]⟩,[0,1]⟩,⟨⟨#[115]⟩,[1,2]⟩,⟨⟨#[116]⟩,[2,3]⟩],QA (by kernel_rfl),Sm⟩
def Abh:UV ⟨#[114,40,88,89,41,32,115,40,89,90,41,32,116,40,90,85,41,32,115,40,85,88,41]⟩:=⟨4,[⟨⟨#[114]⟩,[0,1]⟩,⟨⟨#[115]⟩,[1,2]⟩,⟨⟨#[116]⟩,[2,3]⟩,⟨⟨#[115]⟩,[3,0]⟩],QA (by kernel_rfl),Sm⟩
abbrev Zzw:List V5:=[(⟨#[114,40,88,89,41]⟩:V5),(⟨#[114,40,88,89,41,32,115,40,89,90,41]⟩:V5),(⟨#[114,40,88,89,41,32,115,40,89,90,41,32,116,40,90,85,41]⟩:V5),(⟨#[114,40,88,89,41,32,115,40,89,90,41,32,116,40,90,88,41]⟩:V5),(⟨#[114,40,88,89,41,32,115,40,88,90,41,32,116,40,88,85,41]⟩:V5),(⟨#[114,40,88,89,41,32,115,40,89,90,41,32,118,40,89,41]⟩:V5),(⟨#[117,40,88,89,90,41,32,115,40,90,85,41]⟩:V5),(⟨#[117,40,88,89,90,41,32,114,40,88,89,41,32,118,40,90,41]⟩:V5),(⟨#[114,40,88,89,41,32,115,40,89,90,41,32,116,40,90,85,41,32,118,40,88,41]⟩:V5),(⟨#[114,40,88,89,41,32,114,40,89,90,41]⟩:V5),(⟨#[114,40,88,89,41,32,115,40,89,88,41]⟩:V5),(⟨#[118,40,88,41,32,114,40,88,89,41,32,115,40,89,90,41,32,116,40,90,85,41]⟩:V5),(⟨#[114,40,88,89,41,32,115,40,89,90,41,32,116,40,90,85,41,32,115,40,85,88,41]⟩:V5)]
def ZJZ:∀s∈Zzw,UV s:=by
 intro s hs;simp only[Zzw,Yz,List.not_mem_nil,or_false]at hs;rcases hs with rfl|rfl|rfl|rfl|rfl|rfl|rfl|rfl|rfl|rfl|rfl|rfl|rfl
 .exact pq0
 .exact pq1
 .exact pq2
 .exact pq3
 .exact pq4
 .exact pq5
 .exact pq6
 .exact pq7
 .exact pq8
 .exact pq9
 .exact Abf
 .exact Abg
 .exact Abh
theorem wN(n:Nat)(h:n<=1000000000000):w ((n:Int)+1)=((n+1:Nat):Int):=by
 rw[ZO Z Z];omega
def ZKa(n:Int):cR n=some (Bo false,[]):=by
 refine Ss.1.1 _ _ ⟨_,ZH _ _ _,?_⟩;rcases tf (Ak n 1 4)with h|h
 .rw[h,Yb Om]
 .rw[h,Ya rfl];exact⟨_,ZH _ _ _,by rw[Yb Sm]⟩
def AtB(k:Nat)(x:List Zd):Prop:=x.length<=k/\∀a∈x,a.Vars.length<=1000
def AtB.le{k:Nat}{x:List Zd}(h:AtB k x)(hk:k<=1000000000)(n:Int):AS ⟨n,x⟩:=⟨by show x.length<=_;have:=h.1;omega,λa ha=>by have:=h.2 a ha;show a.Vars.length<=_;omega⟩
def AtB.add{k:Nat}{x:List Zd}(h:AtB k x)(s:V5)(vs:WL)(hv:vs.length<=1000):AtB (k+1) (x++[⟨s,vs⟩]):=by
 refine⟨by have:=h.1;simp;omega,λa ha=>?_⟩;rcases Yi.1 ha with ha|ha
 .exact h.2 a ha
 .simp at ha;subst ha;exact hv
def AtB.one(k:Nat)(s:V5)(vs:WL)(hv:vs.length<=1000):AtB (k+1) [⟨s,vs⟩]:=⟨Om,λa ha=>by simp at ha;subst ha;exact hv⟩
def GW(R:Rs):Prop:=∃(c:Zl) (n:Int) (x:List Zd),R=some (.agg [I n,.own 1],[cB c,.xarr Z28 2 (x.map Zd.c)])/\GC c/\Z3 n x=true
def GW.of{R R':Rs}(h:GW R')(k:∀r,R'=some r->R=some r):GW R:=by
 obtain⟨c,n,x,e,l⟩:=h;exact⟨c,n,x,k _ e,l⟩
section
variable(vc v1:Int)(x:List Zd)
theorem q0c(b:Nat)(hb:b<=1000)(x1:List Zd)(hx:AtB b x1)(n:Nat)(hn:n<=100)(m:Nat)(hm:m<=3)(H:∀c n2 x',GC c->AtB (b+1) x'->GW (QY c vc v1 x n2 x' n))(nm:V5):∀i,i<=m->∀c n2 vs v,GC c->vs.length<=i->GW (cX c vc v1 x n2 x1 nm vs ((n+1:Nat):Int) m v i):=by
 refine down _ ?_ ?_
 .intro c n2 vs v g hvs;refine(H c n2 (x1++[(⟨nm,vs⟩:Zd)]) g (hx.add nm vs Z)).of λr e=>Jq.2.2.1 _ _ _ _ _ _ _ _ _ _ _ _ _ ?_
  rw[Ap,show w (((n+1:Nat):Int)-1)=(n:Int) by rw[ZO Z Z];omega];refine⟨by have:=hx.1;omega,?_⟩;exact e
 .intro i hi ih c n2 vs v g hvs;refine(ih c (if n2<(w (v+1))then(w (v+1))else n2) (vs++[v]) (Int.tmod (w (v+1)) 4) g (by simp;omega)).of λr e=>Jq.2.2.1 _ _ _ _ _ _ _ _ _ _ _ _ _ ?_
  rw[Ao,wN i Z];exact⟨Z,e⟩
theorem q0b(b:Nat)(hb:b<=1000)(x1:List Zd)(hx:AtB b x1)(n:Nat)(hn:n<=100)(m:Nat)(hm:m<=3)(H:∀c n2 x',GC c->AtB (b+1) x'->GW (QY c vc v1 x n2 x' n))(nm:V5)(c:Zl)(n2 v:Int)(g:GC c):GW (cW c vc v1 x n2 x1 nm ((n+1:Nat):Int) m v 0):=by
 by_cases h:0<m
 .refine(q0c vc v1 x b hb x1 hx n hn m hm H nm 1 h c (if n2<(w (v+1))then(w (v+1))else n2) [v] (Int.tmod (w (v+1)) 4) g Om).of λr e=>Jq.2.1 _ _ _ _ _ _ _ _ _ _ _ _ ?_
  rw[Ao,show w ((0:Int)+1)=((1:Nat):Int)from by decide];exact e
 .refine(H c n2 (x1++[(⟨nm,[]⟩:Zd)]) g (hx.add nm [] Om)).of λr e=>Jq.2.1 _ _ _ _ _ _ _ _ _ _ _ _ ?_
  rw[Ap,show w (((n+1:Nat):Int)-1)=(n:Int) by rw[ZO Z Z];omega];refine⟨by have:=hx.1;omega,?_⟩;exact e
theorem q0a(b:Nat)(hb:b<=1000)(n:Nat)(hn:n<=100)(m:Nat)(hm:m<=3)(H:∀c n2 x',GC c->AtB (b+1) x'->GW (QY c vc v1 x n2 x' n))(nm:V5):∀i,i<=m->∀c n2 vs v,GC c->vs.length<=i->GW (cV c vc v1 x n2 nm vs ((n+1:Nat):Int) m v i):=by
 refine down _ ?_ ?_
 .intro c n2 vs v g hvs;refine(H c n2 [(⟨nm,vs⟩:Zd)] g (AtB.one b nm vs Z)).of λr e=>Jq.1.2 _ _ _ _ _ _ _ _ _ _ _ _ ?_
  rw[Ap,show w (((n+1:Nat):Int)-1)=(n:Int) by rw[ZO Z Z];omega];exact e
 .intro i hi ih c n2 vs v g hvs;refine(ih c (if n2<(w (v+1))then(w (v+1))else n2) (vs++[v]) (Int.tmod (w (v+1)) 4) g (by simp;omega)).of λr e=>Jq.1.2 _ _ _ _ _ _ _ _ _ _ _ _ ?_
  rw[Ao,wN i Z];exact⟨Z,e⟩
theorem q0(b:Nat)(hb:b<=1000)(n:Nat)(hn:n<=100)(m:Nat)(hm:m<=3)(H:∀c n2 x',GC c->AtB (b+1) x'->GW (QY c vc v1 x n2 x' n))(nm:V5)(c:Zl)(n2 v:Int)(g:GC c):GW (cU c vc v1 x n2 nm ((n+1:Nat):Int) m v 0):=by
 by_cases h:0<m
 .refine(q0a vc v1 x b hb n hn m hm H nm 1 h c (if n2<(w (v+1))then(w (v+1))else n2) [v] (Int.tmod (w (v+1)) 4) g Om).of λr e=>Jq.1.1 _ _ _ _ _ _ _ _ _ _ _ ?_
  rw[Ao,show w ((0:Int)+1)=((1:Nat):Int)from by decide];exact e
 .refine(H c n2 [(⟨nm,[]⟩:Zd)] g (AtB.one b nm [] Om)).of λr e=>Jq.1.1 _ _ _ _ _ _ _ _ _ _ _ ?_
  rw[Ap,show w (((n+1:Nat):Int)-1)=(n:Int) by rw[ZO Z Z];omega];exact e
theorem Na{n:Int}(h0:0<=n)(h1:n<5):(∃e2,([(⟨#[114]⟩:V5),(⟨#[115]⟩:V5),(⟨#[116]⟩:V5),(⟨#[117]⟩:V5),(⟨#[118]⟩:V5)])[n.toNat]?=some e2)/\∃m:Nat,([2,2,2,3,1]:WL)[n.toNat]?=some (m:Int)/\m<=3:=by
 obtain⟨k,rfl⟩:∃k:Nat,n=k:=⟨n.toNat,Z⟩;have hk:k=0\/k=1\/k=2\/k=3\/k=4:=by omega
 rcases hk with rfl|rfl|rfl|rfl|rfl
 .exact⟨⟨_,rfl⟩,2,rfl,Z⟩
 .exact⟨⟨_,rfl⟩,2,rfl,Z⟩
 .exact⟨⟨_,rfl⟩,2,rfl,Z⟩
 .exact⟨⟨_,rfl⟩,3,rfl,Z⟩
 .exact⟨⟨_,rfl⟩,1,rfl,Z⟩
theorem q1a(hx:Z3 v1 x=true):∀n,n<=100->∀c n2 x1,GC c->AtB (100-n) x1->GW (QY c vc v1 x n2 x1 n):=by
 intro n
 induction n with
 |zero =>
  intro _ c n2 x1 g hx1;have hq:=hx1.le Z n2;rcases tf (Z3 n2 x1)with hv|hv
  .refine⟨c,v1,x,Zzd _ _ _ _ _ _ _ _ ?_,g,hx⟩;rw[Ap];exact⟨_,MC _ hq,by rw[show Z3 (⟨n2,x1⟩:Zc).Zg (⟨n2,x1⟩:Zc).Atoms=false from hv,Yb Om]⟩
  .refine⟨c,n2,x1,Zzd _ _ _ _ _ _ _ _ ?_,g,hv⟩;rw[Ap]
   exact⟨_,MC _ hq,by rw[show Z3 (⟨n2,x1⟩:Zc).Zg (⟨n2,x1⟩:Zc).Atoms=true from hv,Ya rfl]⟩
 |succ n ih =>
  intro hn c n2 x1 g hx1;obtain⟨c1,k,e1,g1,k0,k1⟩:=X2 g 5;obtain⟨⟨nm,t1⟩,m,t2,hm⟩:=Na k0 (k1 Z);obtain⟨c2,v,e2,g2,_⟩:=X2 g1 4;refine(q0b vc v1 x (100-(n+1)) Z x1 hx1 n Z m hm (λc n2 x' g hx'=>ih Z c n2 x' g (by rw[show 100-n=100-(n+1)+1 by omega];exact hx')) nm c2 n2 v g2).of λr e=>Zzd _ _ _ _ _ _ _ _ ?_
  rw[Ao];exact⟨c1,k,e1,k0,nm,t1,m,t2,c2,v,e2,e⟩
theorem q1(hx:Z3 v1 x=true)(n:Nat)(hn:n<=99)(c:Zl)(n2:Int)(g:GC c):GW (cT c vc v1 x n2 n):=by
 cases n with
 |zero =>
  refine⟨c,v1,x,Z8f _ _ _ _ _ _ _ ?_,g,hx⟩;rw[Ap]
  exact⟨_,ZKa n2,by rw[Yb Om]⟩
 |succ n =>
  obtain⟨c1,k,e1,g1,k0,k1⟩:=X2 g 5;obtain⟨⟨nm,t1⟩,m,t2,hm⟩:=Na k0 (k1 Z);obtain⟨c2,v,e2,g2,_⟩:=X2 g1 4;refine(q0 vc v1 x (99-n) Z n Z m hm (λc n2 x' g hx'=>q1a vc v1 x hx n Z c n2 x' g (by rw[show 100-n=99-n+1 by omega];exact hx')) nm c2 n2 v g2).of λr e=>Z8f _ _ _ _ _ _ _ ?_
  rw[Ao];exact⟨c1,k,e1,k0,nm,t1,m,t2,c2,v,e2,e⟩
end
def Z8K{c:Zl}(g:GC c):GW (LE c):=by
 obtain⟨c1,s,e1,g1,hs⟩:=SJ g Zzw Om Om;obtain⟨n,x,e2,hx⟩:=ZJZ s hs;obtain⟨c3,b3,e3,g3⟩:=VN g1 4;rcases tf b3 with hb|hb
 .subst hb;exact⟨c3,n,x,Jq.2.2.2 _ _ ⟨c1,_,s,e1,x,n,true,e2,c3,false,e3,by rw[Yb Om]⟩,g3,hx⟩
 .subst hb;obtain⟨c4,k,e4,g4,k0,k1⟩:=X2 g3 4;have k4:=k1 Z;refine(q1 0 n x hx (1+k).toNat Z c4 0 g4).of λr e=>Jq.2.2.2 _ _ ⟨c1,_,s,e1,x,n,true,e2,c3,true,e3,?_⟩
  rw[Ya rfl];refine⟨c4,k,e4,?_⟩;rw[show w (1+k)=(((1+k).toNat:Nat):Int) by rw[ZO Z Z];omega];exact e
def GA(R:Rs):Prop:=∃(c:Zl) (n:Int) (x:List Zd),R=some (.agg [I n,.own 1],[cB c,.xarr Z28 2 (x.map Zd.c)])/\GC c/\AS ⟨n,x⟩
def SK{n n':Int}{x:List Zd}(h:Z3 n x=true):AS ⟨n',x⟩:=⟨by have:=WZ h;show x.length<=_;omega,λa ha=>by have:=Ps h a ha;show a.Vars.length<=_;omega⟩
def Z8L{c:Zl}(g:GC c):GA (dB c):=by
 obtain⟨c1,n,x,e1,g1,hv⟩:=Z8K g;have hl:=WZ hv;have hvv:=Ps hv;obtain⟨c2,k,e2,g2,_⟩:=X2 g1 14;by_cases h0:k=0
 .obtain⟨c3,v,e3,g3,_⟩:=UU g2 [0,5,w (n+1),9223372036854775807] Om Om;exact⟨c3,v,x,XZ.1.1.1.2 _ _ ⟨c1,x,n,e1,c2,k,e2,by rw[Ya h0];exact⟨c3,_,v,e3,rfl⟩⟩,g3,SK hv⟩
 by_cases h1:k=1
 .obtain⟨c3,v,e3,g3,_⟩:=SJ g2 [(⟨#[]⟩:V5),(⟨#[119]⟩:V5),(⟨#[114]⟩:V5)] Om Om;refine⟨c3,n,x++[(⟨v,[0]⟩:Zd)],XZ.1.1.1.2 _ _ ⟨c1,x,n,e1,c2,k,e2,by rw[Yb h0,Ya h1];exact⟨c3,_,v,e3,Z,rfl⟩⟩,g3,?_,?_⟩
  .show(x++[_]).length<=_;simp;omega
  .intro a ha;rcases Yi.1 ha with ha|ha
   .have:=hvv a ha;show a.Vars.length<=_;omega
   .simp at ha;subst ha;simp
 obtain⟨a,l,rfl⟩:∃a l,x=a::l:=by
  cases x with
  |nil=>simp at hl
  |cons a l=>exact⟨a,l,rfl⟩
 have ha:=hvv a Om;have hset:∀vs:WL,Le vs->AS ⟨n,(⟨a.Name,vs⟩:Zd)::l⟩:=by
  intro vs hvs;refine⟨by show(_::l).length<=_;simp at hl|-;omega,λb hb=>?_⟩;rcases Yz.1 hb with hb|hb
  .subst hb;exact hvs
  .have:=hvv b (by simp[hb]);show b.Vars.length<=_;omega
 by_cases h2:k=2
 .exact⟨c2,n,(⟨a.Name,[]⟩:Zd)::l,XZ.1.1.1.2 _ _ ⟨c1,_,n,e1,c2,k,e2,by rw[Yb h0,Yb h1,Ya h2];exact⟨a,rfl,rfl⟩⟩,g2,hset [] Om⟩
 by_cases h3:k=3
 .obtain⟨c3,v,e3,g3,_⟩:=UU g2 [(-1),4,1] Om Om;obtain⟨y,t,hy⟩:∃y t,a.Vars=y::t:=by
   cases hh:a.Vars with
   |nil=>rw[hh]at ha;simp at ha
   |cons y t=>exact⟨y,t,rfl⟩
  refine⟨c3,n,(⟨a.Name,(y::t).set 0 v⟩:Zd)::l,XZ.1.1.1.2 _ _ ⟨c1,_,n,e1,c2,k,e2,by rw[Yb h0,Yb h1,Yb h2,Ya h3];exact⟨a,rfl,y,t,hy,c3,_,v,e3,y,rfl,rfl⟩⟩,g3,hset _ ?_⟩
  have:(y::t).length=a.Vars.length:=by rw[hy]
  show((y::t).set 0 v).length<=_;rw[CD,this];omega
 .exact⟨c2,n,a::l,XZ.1.1.1.2 _ _ ⟨c1,_,n,e1,c2,k,e2,by rw[Yb h0,Yb h1,Yb h2,Yb h3]⟩,g2,SK hv⟩
def Xq:WL->WL->Int
 |[],[]=>0
 |[],_::_=>-1
 |_::_,[]=>1
 |a::x,b::y=>if a<b then -1 else if b<a then 1 else Xq x y
def DP(a b:WL):Bool:=decide (Xq a b<=0)
def Nb(rows:XV):XV:=rows.mergeSort DP
def QB:XV->XV
 |[]=>[]
 |[a]=>[a]
 |a::b::l=>if a=b then QB (b::l)else a::QB (b::l)
def SL(l:WL):WL:=l.mergeSort λx y=>decide (x<=y)
theorem Nc:∀a b:WL,Xq b a=- Xq a b
 |[],[]=>rfl
 |[],_::_=>rfl
 |_::_,[]=>rfl
 |x::a,y::b=>by
  have ih:=Nc a b;simp only[Xq];omega
theorem Kl:∀a b:WL,Xq a b=0->a=b
 |[],[],_=>rfl
 |[],_::_,h=>by simp[Xq]at h
 |_::_,[],h=>by simp[Xq]at h
 |x::a,y::b,h=>by
  simp only[Xq]at h;by_cases h1:x<y
  .omega
  .rw[Yb h1]at h;by_cases h2:y<x
   .omega
   .rw[Yb h2]at h;rw[Kl a b h,show x=y by omega]
theorem Nd(a:WL):Xq a a=0:=by have:=Nc a a;omega
theorem lN:∀a b c:WL,Xq a b<=0->Xq b c<=0->Xq a c<=0
 |[],_,[],_,_=>by simp[Xq]
 |[],_,_::_,_,_=>by simp[Xq]
 |_::_,[],_,h,_=>by simp[Xq]at h
 |_::_,_::_,[],_,h=>by simp[Xq]at h
 |x::a,y::b,z::c,h1,h2=>by
  simp only[Xq]at h1 h2|-;by_cases e1:x<y
  .omega
  .rw[Yb e1]at h1;by_cases e2:y<x
   .omega
   .rw[Yb e2]at h1
    have:x=y:=by omega
    subst this;by_cases e3:x<z
    .rw[Ya e3];decide
    .rw[Yb e3]at h2|-;by_cases e4:z<x
     .omega
     .rw[Yb e4]at h2|-;exact lN a b c h1 h2
def ZKb(a b c:WL)(h1:DP a b=true)(h2:DP b c=true):DP a c=true:=by
 unfold DP at *
 grind [lN]
def ZKc(a b:WL):(DP a b || DP b a)=true:=by
 unfold DP;have:=Nc a b
 grind
def Z8M(rows:XV):(Nb rows).Perm rows:=rI _ _
def ZKd(rows:XV):(Nb rows).Pairwise λa b=>DP a b=true:=List.pairwise_mergeSort ZKb ZKc rows
def Zzx:∀(l:XV) (y:WL),y∈QB l↔y∈l
 |[],y=>by simp[QB]
 |[a],y=>by simp[QB]
 |a::b::l,y=>by
  unfold QB;have ih:=Zzx (b::l) y
  grind
def Z8N:∀l:XV,(QB l).length<=l.length
 |[]=>Yk _
 |[a]=>Yk _
 |a::b::l=>by
  unfold QB;have:=Z8N (b::l)
  grind
theorem wS{i n:Nat}(h:i<n)(hn:n<=1099511627776):w ((i:Int)+1)=((i+1:Nat):Int):=by
 grind [ZF]
theorem gE{α:Type}{xs:List α}{i:Nat}(h:i<xs.length):xs[(i:Int).toNat]?=some xs[i]:=by rw[Yj];exact Yf h
abbrev dig(v:Int):Bool:=Ak v 0 9
def Ge(n:Int)(r:WL):Bool:=r.all dig && decide ((r.length:Int)=n)
def ZKe(r:WL)(n:Int)(hl:Le r):∀i,i<=r.length->bL r n i=some (Bo ((r.drop i).all dig && decide ((r.length:Int)=n)),[]):=by
 refine down _ ?_ ?_
 .simp[Xn.1.2.1.2]
 .intro i hi ih;apply Xn.1.2.1.2;rw[Ao,Yh hi,Cz,wS hi hl]
  simp_all
@[simp] def ZKf(r:WL)(n:Int)(hl:Le r):wB r n=some (Bo (Ge n r),[]):=Xn.1.2.2.1 _ _ _ (by simpa[Ge]using ZKe r n hl 0 (Yc _))
theorem Z8O(a b:WL)(i:Nat)(ha:i<=a.length)(hb:i<=b.length)(h:i=a.length\/i=b.length):bG a b i false=some (I (Xq (a.drop i) (b.drop i)),[]):=by
 apply Xz.2.2.1.1;by_cases h1:(a.length:Int)<(b.length:Int)
 .rw[Ya h1,show a.drop i=[]from OP Z,Yh (l:=b) (i:=i) Z];rfl
 .rw[Yb h1];by_cases h2:(b.length:Int)<(a.length:Int)
  .rw[Ya h2,show b.drop i=[]from OP Z,Yh (l:=a) (i:=i) Z];rfl
  .rw[Yb h2,show a.drop i=[]from OP Z,show b.drop i=[]from OP Z];rfl
def ZKg(a b:WL)(ha:Le a)(hb:Le b):∀i,i<=a.length->i<=b.length->bF a b i=some (I (Xq (a.drop i) (b.drop i)),[]):=by
 refine down _ ?_ ?_
 .simp_all [Xz.2.1.2.2,Z8O,Yk]
 .intro i hi ih h;apply Xz.2.1.2.2;rw[Ao];by_cases h2:(i:Int)<(b.length:Int)
  .have hj:i<b.length:=by omega
   rw[Ya h2];refine⟨Z,_,gE hi,_,gE hj,?_⟩;rw[wS hi ha,Yh hi,Yh hj];unfold Xq
   grind
  .grind [Z8O]
@[simp] def Gf(a b:WL)(ha:Le a)(hb:Le b):Ut a b=some (I (Xq a b),[]) :=
 Xz.2.2.1.2 _ _ _ (by simpa using ZKg a b ha hb 0 (Yc _) (Yc _))
def Cb{α:Type}(xs:List α):Nat->Option α
 |0=>none
 |k+1=>xs[k]?
def BL{α:Type}(lt:α->α->Bool)(p:Option α)(x:α):Bool:=match p with
 |none=>true
 |some q=>lt q x
def Km{α:Type}(lt:α->α->Bool):Option α->List α->Bool
 |_,[]=>true
 |p,x::xs=>BL lt p x && Km lt (some x) xs
def Z8P{α:Type}(lt:α->α->Bool){xs:List α}{i:Nat}(hi:i<xs.length):Km lt (Cb xs i) (xs.drop i)=(BL lt (Cb xs i) xs[i] && Km lt (Cb xs (i+1)) (xs.drop (i+1))):=by
 rw[Yh hi,Km,show Cb xs (i+1)=some xs[i]from Yf hi]
def lO(a b:WL):Bool:=decide (Xq a b<0)
abbrev Cn(t:Zm):Prop:=Le t.Rows/\∀r∈t.Rows,Le r
def wP{i n:Nat}(h0:0<i)(h:i<n)(hn:n<=1099511627776):w ((i:Int)-1)=((i-1:Nat):Int):=by
 grind [ZF]
def lP{α:Type}{xs:List α}{i:Nat}(h0:0<i)(h:i-1<xs.length):Cb xs i=some xs[i-1]:=by
 obtain⟨k,rfl⟩:∃k,i=k+1:=⟨i-1,Z⟩;exact Yf h
def Xb(t:Zm):Bool:=Qk t.Name && Ak t.Arity 1 3 && decide ((t.Rows.length:Int)<=8) && (t.Rows.all (Ge t.Arity) && Km lO none t.Rows)
def ZKh(t:Zm)(h:Cn t):∀i,i<=t.Rows.length->PA t i=some (Bo ((t.Rows.drop i).all (Ge t.Arity) && Km lO (Cb t.Rows i) (t.Rows.drop i)),[]):=by
 refine down _ ?_ ?_
 .apply Xn.1.2.2.2.1;rw[Ap];simp[Km]
 .intro i hi ih;have hr:=h.2 _ (Ye hi);apply Xn.1.2.2.2.1;rw[Z8P _ hi,Ao,Yh hi,Cz,wS hi h.1];refine⟨Z,_,gE hi,_,ZKf _ _ hr,?_⟩;rcases tf (Ge t.Arity t.Rows[i])with e|e
  .rw[e];simp
  rw[e,Ya rfl];by_cases h0:0<i
  .have hp:i-1<t.Rows.length:=by omega
   rw[Ao,wP h0 hi h.1,lP h0 hp];refine⟨Z,_,gE hp,_,Gf _ _ (h.2 _ (Ye hp)) hr,?_⟩;unfold BL lO at *
   grind
  .have:i=0:=by omega
   subst this;rw[Ap,ih];simp[Cb,BL]
@[simp] def Zpy(t:Zm)(h:Cn t):Je t=some (Bo (Xb t),[]):=by
 refine Xn.1.2.2.2.2 _ _ ⟨_,Zzf _,?_⟩;unfold Xb;rcases tf (Qk t.Name)with e1|e1
 .rw[e1];simp
 rw[e1,Ya rfl];refine⟨_,ZH _ _ _,?_⟩;rcases tf (Ak t.Arity 1 3)with e2|e2
 .rw[e2];simp
 rw[e2,Ya rfl];by_cases e3:8<(t.Rows.length:Int)
 .grind
 .rw[Yb e3];have:=ZKh t h 0 (Yc _);refine Yg this ?_;simp[show(t.Rows.length:Int)<=8 by omega,Cb]
def ltN(a b:Zm):Bool:=Op.bytesLess a.Name.toList b.Name.toList
abbrev Cy(d:Zq):Prop:=Le d.Tables/\∀t∈d.Tables,Cn t
def Wu(d:Zq):Bool:=d.Tables.all Xb && Km ltN none d.Tables && decide ((d.Tables.length:Int)<=6)
def ZKi(d:Zq)(h:Cy d):∀i,i<=d.Tables.length->PC d i=some (Bo ((d.Tables.drop i).all Xb && Km ltN (Cb d.Tables i) (d.Tables.drop i) && decide ((d.Tables.length:Int)<=6)),[]):=by
 refine down _ ?_ ?_
 .apply Xn.2.1.1.1;rw[Ap];simp[Km]
 .intro i hi ih;apply Xn.2.1.1.1;rw[Z8P _ hi,Ao,Yh hi,Cz,wS hi h.1];refine⟨Z,_,gE hi,_,Zpy _ (h.2 _ (Ye hi)),?_⟩;rcases tf (Xb d.Tables[i])with e|e
  .rw[e];simp
  rw[e,Ya rfl];by_cases h0:0<i
  .have hp:i-1<d.Tables.length:=by omega
   rw[Ao,wP h0 hi h.1,lP h0 hp];refine⟨Z,_,gE hp,?_⟩;unfold BL ltN at *
   simp_all
  .have:i=0:=by omega
   subst this;rw[Ap,ih];simp[Cb,BL]
@[simp] def Z8Q(d:Zq)(h:Cy d):PB d=some (Bo (Wu d),[]):=by
 apply Xn.2.1.1.2;have:=ZKi d h 0 (Yc _);refine Yg this ?_;unfold Wu;simp[Cb]
def Wv(d:Zq)(n:V5):Option Zm:=if Wu d=true then d.Tables.find? (λt=>decide (t.Name=n))else none
def HX{d:Zq}(hv:Wu d=true){t:Zm}(ht:t∈d.Tables):Xb t=true:=by
 unfold Wu at hv
 simp_all
def KE{t:Zm}(h:Xb t=true):t.Rows.length<=8:=by
 unfold Xb at h
 grind
def ZKj{t:Zm}(h:Xb t=true):∀r∈t.Rows,r.length<=3:=by
 intro r hr;unfold Xb at h;simp only[Yd]at h;have h1:=Yn.1 h.2.1 r hr;have h2:=h.1.1.2;unfold Ge at h1;simp only[Ak,Yd,decide_eq_true_eq]at h1 h2;omega
def Z8R{d:Zq}{n:V5}{t:Zm}(h:Wv d n=some t):Wu d=true/\t∈d.Tables/\t.Name=n:=by
 unfold Wv at h
 grind
def ZKk(t:Zm)(h:Cn t)(h8:t.Rows.length<=8)(h3:∀r∈t.Rows,r.length<=3)(a a':V5)(b b':Int):∀i,i<=t.Rows.length->PD t a b a' b' (t.Rows.take i) i=some (.agg [.t (.str a'),I b',.own 0],[.arr 44 1 true (t.Rows.map AA)]):=by
 refine down _ ?_ ?_
 .simp[Xn.2.1.2.2,Yr]
 .intro i hi ih;apply Xn.2.1.2.2;rw[Ao,wS hi h.1];have:=h3 _ (Ye hi);rw[Y5 hi]at ih
  grind
def ZKl(t:Zm)(h:Cn t)(h8:t.Rows.length<=8)(h3:∀r∈t.Rows,r.length<=3):K1 t=some (if t.Rows=[]then(.agg [.t (.str t.Name),I t.Arity,.t .nil],[])else(.agg [.t (.str t.Name),I t.Arity,.own 0],[.arr 44 1 true (t.Rows.map AA)])):=by
 apply Xn.2.2.1.1;apply Xn.2.1.2.1;by_cases e:t.Rows=[]
 .simp_all
 .have h0:0<t.Rows.length:=Y4.2 e;have:=h3 _ (Ye h0);rw[Ao,Yb e];refine⟨Z,_,gE h0,Z,?_⟩;have:=ZKk t h h8 h3 ⟨#[]⟩ t.Name 0 t.Arity 1 Z;rw[Y5 h0]at this;rw[show w (0+1)=1 from by decide];simpa using this
def Jx(o:Option Zm):XS:=match o with
 |none=>(.tup [.agg [.t (.str ⟨#[]⟩),I 0,.t .nil],Bo false],[])
 |some t=>if t.Rows=[]then(.tup [.agg [.t (.str t.Name),I t.Arity,.t .nil],Bo true],[])else(.tup [.agg [.t (.str t.Name),I t.Arity,.own 0],Bo true],[.arr 44 1 true (t.Rows.map AA)])
def ZKm(d:Zq)(h:Cy d)(n:V5):∀i,i<=d.Tables.length->bM d ⟨#[]⟩ 0 n i=some (Jx (if Wu d=true then(d.Tables.drop i).find? (λt=>decide (t.Name=n))else none)):=by
 refine down _ ?_ ?_
 .apply Xn.2.2.1.2;rw[Ap,Ym];split<;>rfl
 .intro i hi ih;apply Xn.2.2.1.2;rw[Ao,wS hi h.1];refine⟨_,Z8Q d h,?_⟩;rcases tf (Wu d)with e|e
  .rw[e];rfl
  rw[e,Ya rfl]at ih|-;rw[Ya rfl,Yh hi,List.find?_cons];have hm:=Ye hi;refine⟨Z,_,gE hi,?_⟩;by_cases e2:d.Tables[i].Name=n
  .rw[Ya e2];have hc:=ZKl _ (h.2 _ hm) (KE (HX e hm)) (ZKj (HX e hm));simp only[e2,decide_true,Jx]
   grind
  .simp_all
def Nf(d:Zq)(h:Cy d)(n:V5):VK d n=some (Jx (Wv d n)) :=
 Xn.2.2.2.1 _ _ _ (by simpa[Wv]using ZKm d h n 0 (Yc _))
def Zpz(d:Zq)(a:Zd):Bool:=match Wv d a.Name with
 |none=>false
 |some t=>decide (t.Arity=(a.Vars.length:Int))
def SM(d:Zq)(q:Zc):Bool:=Z3 q.Zg q.Atoms && q.Atoms.all (Zpz d)
def ZKn(d:Zq)(h:Cy d)(q:Zc)(hq:AS q):∀i,i<=q.Atoms.length->P4 d q i=some (Bo ((q.Atoms.drop i).all (Zpz d)),[]):=by
 refine down _ ?_ ?_
 .simp[XZ.2.1.1.2]
 .intro i hi ih;apply XZ.2.1.1.2;rw[Ao,Yh hi,Cz,wS hi hq.1];refine⟨Z,_,gE hi,?_⟩;have hk:=Nf d h q.Atoms[i].Name;unfold Zpz at ih|-
  cases e:Wv d q.Atoms[i].Name with
  |none =>
   rw[e]at hk
   refine .inl ⟨_,_,_,hk,Om⟩
  |some t =>
   rw[e]at hk;simp only[Jx]at hk
   grind
@[simp] def ZKo(d:Zq)(h:Cy d)(q:Zc)(hq:AS q):wZ d q=some (Bo (SM d q),[]):=by
 refine XZ.2.1.2.1 _ _ _ ⟨_,MC q hq,?_⟩;unfold SM;rcases tf (Z3 q.Zg q.Atoms)with e|e
 .rw[e];simp
 .rw[e,Ya rfl];have:=ZKn d h q hq 0 (Yc _)
  simp_all
def lQ(rows:XV)(row:WL)(hr:rows.length<=1000)(h3:∀r∈rows,r.length<=3)(c:row.length<=3):∀i,i<=rows.length->∀(out:XV) (b:Bool),out.length<=2*i->∃ys:XV,Ql out rows row b i=some (.own 0,[.arr 44 1 true ((out++ys).map AA)])/\ys.length+i<=rows.length+(if b=true then 0 else 1)/\∀r∈ys,r.length<=3:=by
 refine down _ ?_ ?_
 .intro out b ho;rcases tf b with hb|hb
  .subst hb
   grind [Xz.2.2.2.1]
  .simp_all [Xz.2.2.2.1]
 .intro i hi ih out b ho;have Dt:=h3 _ (Ye hi);have e:=Gf rows[i] row Z Z;have go:∀{r},(if Xq rows[i] row=0 then(if 0<Xq rows[i] row then(rows[i].length<=68719476736/\out.length+1<=68719476736/\Ql (out++[rows[i]]) rows row true (w ((i:Int)+1))=some r)else(rows[i].length<=68719476736/\out.length+1<=68719476736/\Ql (out++[rows[i]]) rows row true (w ((i:Int)+1))=some r))else(if 0<Xq rows[i] row then(if b=true then(rows[i].length<=68719476736/\out.length+1<=68719476736/\Ql (out++[rows[i]]) rows row true (w ((i:Int)+1))=some r)else(row.length<=68719476736/\out.length+1<=68719476736/\rows[i].length<=68719476736/\out.length+1+1<=68719476736/\Ql ((out++[row])++[rows[i]]) rows row true (w ((i:Int)+1))=some r))else(rows[i].length<=68719476736/\out.length+1<=68719476736/\Ql (out++[rows[i]]) rows row b (w ((i:Int)+1))=some r)))->Ql out rows row b i=some r:=λ{r} h=>Xz.2.2.2.1 _ _ _ _ _ r (by rw[Ao];exact⟨Z,rows[i],gE hi,_,e,h⟩)
  have one:∀b',(b=true->b'=true)->∃ys:XV,Ql (out++[rows[i]]) rows row b' (w ((i:Int)+1))=some (.own 0,[.arr 44 1 true ((out++ys).map AA)])/\ys.length+i<=rows.length+(if b=true then 0 else 1)/\∀r∈ys,r.length<=3:=by
   intro b' hb';obtain⟨ys,e,hl,hy⟩:=ih (out++[rows[i]]) b' (by simp;omega);refine⟨rows[i]::ys,?_,?_,?_⟩
   .grind [wN,List.append_assoc]
   .grind
   .simp_all
  by_cases c0:Xq rows[i] row=0
  .obtain⟨ys,e,hl,hy⟩:=one true (λ_=>rfl);exact⟨ys,go (by rw[Ya c0,Ap];exact⟨Z,Z,e⟩),hl,hy⟩
  by_cases c1:0<Xq rows[i] row
  .rcases tf b with hb|hb
   .subst hb;obtain⟨ys,e,hl,hy⟩:=ih ((out++[row])++[rows[i]]) true (by simp;omega);refine⟨row::rows[i]::ys,go (by rw[Yb c0,Ya c1,Yb Om];exact⟨Z,Z,Z,Z,by rw[wN i Z,e];simp⟩),?_,?_⟩
    .simp at hl|-;omega
    .simp_all
   .subst hb;obtain⟨ys,e,hl,hy⟩:=one true (λ_=>rfl);exact⟨ys,go (by rw[Yb c0,Ya c1,Ya rfl];exact⟨Z,Z,e⟩),hl,hy⟩
  .obtain⟨ys,e,hl,hy⟩:=one b (λh=>h);exact⟨ys,go (by rw[Yb c0,Yb c1];exact⟨Z,Z,e⟩),hl,hy⟩
def lR(rows:XV)(row:WL)(hr:rows.length<=1000)(h3:∀r∈rows,r.length<=3)(c:row.length<=3):∃ys:XV,Jd rows row=some (.own 0,[.arr 44 1 true (ys.map AA)])/\ys.length<=rows.length+1/\∀r∈ys,r.length<=3:=by
 obtain⟨ys,e,hl,hy⟩:=lQ rows row hr h3 c 0 Z [] false Om
 simp_all [Xz.2.2.2.2.1]
theorem Ng(row:WL)(h:row.length<=3):G9 row=some (.own 0,[.arr 44 1 true (([row]:XV).map AA)]) :=
 Xz.2.1.2.1 _ _ (Xz.2.1.1.2 _ _ _ _ _ (by rw[Ap,Yb Om];exact⟨Z,Om,rfl⟩))
def GT(nm:V5)(ar:Int)(k:Nat)(R:Rs):Prop:=∃(c:Zl) (x:XV),R=some (.agg [.t (.str nm),I ar,.own 1],[cB c,.arr 44 1 true (x.map AA)])/\GC c/\x.length<=k/\∀r∈x,r.length<=3
def GT.of{nm:V5}{ar:Int}{k:Nat}{R R':Rs}(h:GT nm ar k R')(q:∀r,R'=some r->R=some r):GT nm ar k R:=by
 obtain⟨c,x,e,l⟩:=h;exact⟨c,x,q _ e,l⟩
section
variable(Name:V5)(Arity:Int)(nm:V5)(ar:Int)
theorem t0a(m:Nat)(hm:m<=3)(val:Int)(n K:Nat)(hK:K<=1000)(hn:n<=1000)(x:XV)(hx:x.length+(n+1)<=K)(h3:∀r∈x,r.length<=3)(H:∀c (x:XV),GC c->x.length+n<=K->(∀r∈x,r.length<=3)->GT nm ar K (Pw c Name Arity nm ar x m val n)):∀i,i<=m->∀c row,GC c->row.length<=i->GT nm ar K (bH c Name Arity nm ar x row m val ((n+1:Nat):Int) i):=by
 refine down _ ?_ ?_
 .intro c row g hr;obtain⟨ys,e,hl,hy⟩:=lR x row Z h3 Z;refine(H c ys g Z hy).of λr er=>HJ.2.1 _ _ _ _ _ _ _ _ _ _ _ _ ?_
  grind [ZO]
 .intro i hi ih c row g hr;obtain⟨c1,v,e,g1,_⟩:=X2 g val;refine(ih c1 (row++[v]) g1 (by simp;omega)).of λr er=>HJ.2.1 _ _ _ _ _ _ _ _ _ _ _ _ ?_
  grind [wN]
theorem t1a(m:Nat)(hm:m<=3)(val:Int)(K:Nat)(hK:K<=1000):∀n:Nat,n<=1000->∀c (x:XV),GC c->x.length+n<=K->(∀r∈x,r.length<=3)->GT nm ar K (Pw c Name Arity nm ar x m val n)
 |0,_,c,x,g,hx,h3=>⟨c,x,HJ.1.2 _ _ _ _ _ _ _ _ _ _ (by rw[Ap]),g,Z,h3⟩
 |n+1,hn,c,x,g,hx,h3=>(t0a Name Arity nm ar m hm val n K hK Z x hx h3 (λc x g hx h3=>t1a m hm val K hK n Z c x g hx h3) 0 Z c [] g Om).of λr e=>HJ.1.2 _ _ _ _ _ _ _ _ _ _ (by rw[Ao];exact e)
theorem t0(m:Nat)(hm:m<=3)(val:Int)(n K:Nat)(hK:K<=1000)(hn:n+1<=K):∀i,i<=m->∀c row,GC c->row.length<=i->GT nm ar K (Pv c Name Arity nm ar row m val ((n+1:Nat):Int) i):=by
 refine down _ ?_ ?_
 .intro c row g hr;refine(t1a Name Arity nm ar m hm val K hK n Z c [row] g (by simp;omega) (by simp;omega)).of λr er=>HJ.1.1 _ _ _ _ _ _ _ _ _ _ _ ?_
  grind [ZO,Ng]
 .intro i hi ih c row g hr;obtain⟨c1,v,e,g1,_⟩:=X2 g val;refine(ih c1 (row++[v]) g1 (by simp;omega)).of λr er=>HJ.1.1 _ _ _ _ _ _ _ _ _ _ _ ?_
  grind [wN]
end
def lS{c:Zl}(g:GC c)(nm:V5)(m:Nat)(hm:m<=3)(most val:Int)(h0:0<=most)(h1:most<=100):GT nm m 100 (Vx c nm m most val):=by
 obtain⟨c1,n,e1,g1,n0,n1⟩:=X2 g (w (most+1));have hw:w (most+1)=most+1:=ZO Z Z;rw[hw]at n1 e1;have:=n1 Z;obtain⟨k,rfl⟩:∃k:Nat,n=k:=⟨n.toNat,Z⟩
 cases k with
 |zero=>exact⟨c1,[],HJ.2.2 _ _ _ _ _ _ ⟨c1,0,by rw[hw];exact e1,Xz.2.2.2.2.2 _ _ _ _ _ _ _ _ _ (by rw[Ap])⟩,g1,Om,Om⟩
 |succ k=>exact(t0 ⟨#[]⟩ 0 nm m m hm val k 100 Z Z 0 Z c1 [] g1 Om).of λr e=>HJ.2.2 _ _ _ _ _ _ ⟨c1,_,by rw[hw];exact e1,Xz.2.2.2.2.2 _ _ _ _ _ _ _ _ _ (by rw[Ao];exact e)⟩
def KF(t:Zm):Prop:=t.Rows.length<=100/\∀r∈t.Rows,r.length<=3
def GD(R:Rs):Prop:=∃(c:Zl) (d:Zq),R=some (.agg [.own 1],[cB c,.arr 150 3 true (d.Tables.map Zm.c)])/\GC c/\d.Tables.length=5/\∀t∈d.Tables,KF t
def GD.of{R R':Rs}(h:GD R')(q:∀r,R'=some r->R=some r):GD R:=by
 obtain⟨c,x,e,l⟩:=h;exact⟨c,x,q _ e,l⟩
abbrev QC:List V5:=[(⟨#[114]⟩:V5),(⟨#[115]⟩:V5),(⟨#[116]⟩:V5),(⟨#[117]⟩:V5),(⟨#[118]⟩:V5)]
def d0a(val most:Int)(h0:0<=most)(h1:most<=100):∀i,i<=5->∀c (x:List Zm),GC c->x.length=i->1<=i->(∀t∈x,KF t)->GD (QX c x QC val most 5 i):=by
 refine down _ ?_ ?_
 .intro c x g hx _ ht;obtain⟨c1,b,e1,g1⟩:=VN g 8;rcases tf b with hb|hb
  .subst hb;exact⟨c1,⟨x⟩,jQ _ _ _ _ _ _ _ _ (by rw[Ap];exact⟨c1,false,e1,by rw[Yb Om]⟩),g1,by show x.length=5;omega,ht⟩
  .subst hb;obtain⟨c2,k,e2,g2,k0,k1⟩:=X2 g1 5;obtain⟨t,he,hm⟩:=M8 (l:=x) k0 (by have:=k1 Z;omega);refine⟨c2,⟨x.set k.toNat ⟨t.Name,t.Arity,[]⟩⟩,jQ _ _ _ _ _ _ _ _ (by rw[Ap];exact⟨c1,true,e1,by rw[Ya rfl];exact⟨c2,k,e2,k0,t,he,rfl⟩⟩),g2,by show(x.set _ _).length=5;rw[CD];omega,?_⟩;intro u hu;rcases DV hu with h|h
   .exact ht u h
   .subst h;exact⟨Om,Om⟩
 .intro i hi ih c x g hx h1i ht;have go:∀(nm:V5) (m:Nat),m<=3->GT nm m 100 (Vx c nm m most val):=λnm m hm=>lS g nm m hm most val h0 h1
  have hn:QC[(i:Int).toNat]?=some QC[i]:=gE (xs:=QC) hi;have BL:∀(m:Nat),m<=3->∃c1 y,Vx c QC[i] m most val=some (.agg [.t (.str QC[i]),I m,.own 1],[cB c1,.arr 44 1 true (y.map AA)])/\GD (QX c1 (x++[(⟨QC[i],m,y⟩:Zm)]) QC val most 5 (w ((i:Int)+1))):=by
   intro m hm;obtain⟨c1,y,e,g1,hl,h3⟩:=go QC[i] m hm;refine⟨c1,y,e,?_⟩;rw[wN i Z];refine ih c1 _ g1 (by simp;omega) Z ?_;intro t hm;rcases Yi.1 hm with hm|hm
   .exact ht t hm
   .simp at hm;subst hm;exact⟨hl,h3⟩
  by_cases u:QC[i]=(⟨#[117]⟩:V5)
  .obtain⟨c1,y,e,G⟩:=BL 3 Z;refine G.of λr er=>jQ _ _ _ _ _ _ _ _ ?_
   grind
  by_cases v:QC[i]=(⟨#[118]⟩:V5)
  .obtain⟨c1,y,e,G⟩:=BL 1 Z;refine G.of λr er=>jQ _ _ _ _ _ _ _ _ ?_
   grind
  .obtain⟨c1,y,e,G⟩:=BL 2 Z;refine G.of λr er=>jQ _ _ _ _ _ _ _ _ ?_
   grind
def Z8S{c:Zl}(g:GC c):GD (Ls c):=by
 obtain⟨c1,val,e1,g1,_⟩:=UU g [2,3,4,6] Om Om;obtain⟨c2,most,e2,g2,hm⟩:=UU g1 [2,4,6,8] Om Om;have hm:0<=most/\most<=100:=by
  grind
 obtain⟨c3,y,e3,g3,hl,h3⟩:=lS g2 (⟨#[114]⟩:V5) 2 Z most val hm.1 hm.2;refine(d0a val most hm.1 hm.2 1 Z c3 [⟨(⟨#[114]⟩:V5),2,y⟩] g3 rfl Z (by intro t ht;simp at ht;subst ht;exact⟨hl,h3⟩)).of λr e=>Xn.1.1.1.1 _ _ ⟨c1,_,val,e1,c2,_,most,e2,ZHz _ _ _ _ _ _ _ ?_⟩
 rw[Ya Sm];refine⟨Z,(⟨#[114]⟩:V5),rfl,?_⟩;rw[Yb Sm,Yb Sm];exact⟨c3,y,_,_,e3,e⟩
def KF.le{d:Zq}(h5:d.Tables.length<=5)(h:∀t∈d.Tables,KF t):Cy d:=⟨Z,λt ht=>⟨by have:=(h t ht).1;omega,λr hr=>by have:=(h t ht).2 r hr;omega⟩⟩
