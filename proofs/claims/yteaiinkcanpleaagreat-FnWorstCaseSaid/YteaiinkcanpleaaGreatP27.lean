/-
  Parts of the proofs for this seat: WA XP XQ CM DB XS.
-/
import Derived.Test.YteaiinkcanpleaaGreatP26
set_option linter.all false
set_option maxRecDepth 100000
set_option maxHeartbeats 4000000
namespace Go.Proofs.YteaiinkcanpleaaGreat
open Go.AM
theorem Xn{x:Int}(h1:-9223372036854775808<=x)(h2:x<=9223372036854775807):w x=x:=ZE h1 h2
def GC(c:Zo):Prop:=0<=c.i/\c.i<=c.b.length/\c.b.length<=1048576
abbrev cB(c:Zo):AK:=.box (c.c.map .t)
def ZAZ(x:Int):0<=Ah x 255/\Ah x 255<=255:=by
 unfold Ah
 grind [Nat.le_trans,Nat.and_le_right,Xn]
def ZM9(code:WL)(hl:code.length<=1048576):∀i,i<=code.length->∀h1:Int,∃c,aR code h1 i=some (.ptr 0 0,[cB c])/\GC c:=by
 refine down _ ?_ ?_
 .intro h1;refine⟨⟨code,0,h1⟩,Xz.1.1.1.2 _ _ _ _ ?_,by simp[GC];exact hl⟩;simp
 .intro i hi ih h1;by_cases h4:(i:Int)<4000
  .obtain⟨c,e,g⟩:=ih (Ah (w ((w ((w (h1*131))+(w code[i])))+7)) 1073741823);refine⟨c,Xz.1.1.1.2 _ _ _ _ ?_,g⟩;rw[An,Ya h4];refine⟨Z,code[i],by simp[hi],?_⟩
   grind [Xn]
  .refine⟨⟨code,0,h1⟩,Xz.1.1.1.2 _ _ _ _ ?_,by simp[GC];exact hl⟩;rw[An,Yb h4];rfl
def ZMA(code:WL)(hl:code.length<=1048576):∃c,aQ code=some (.ptr 0 0,[cB c])/\GC c:=by
 obtain⟨c,e,g⟩:=ZM9 code hl 0 (Yc _) (w (10101+(code.length:Int)))
 grind [Xz.1.1.2.1]
def lW{c:Zo}(g:GC c):∃c' n,He c=some (I n,[cB c'])/\GC c'/\0<=n/\n<=255:=by
 by_cases h:c.i<(c.b.length:Int)
 .obtain⟨i,hi⟩:∃i:Nat,c.i=i:=⟨c.i.toNat,by have:=g.1;omega⟩;have hl:i<c.b.length:=by omega
  refine⟨⟨c.b,w (c.i+1),w ((w (c.h*6364136223846793005))+1442695040888963407)⟩,Ah (w ((Ah (Fy (Au (w ((w (c.h*6364136223846793005))+1442695040888963407)) 33) (Au (w ((w (c.h*6364136223846793005))+1442695040888963407)) 45)) 255)+(w c.b[i]))) 255,Xz.1.1.2.2 _ _ ?_,?_,ZAZ _⟩
  .simp_all
  .have:=g.2.2;rw[show w (c.i+1)=c.i+1 from Xn Z Z];exact⟨by show 0<=c.i+1;omega,by show c.i+1<=(c.b.length:Int);omega,this⟩
 .refine⟨⟨c.b,c.i,w ((w (c.h*6364136223846793005))+1442695040888963407)⟩,Ah (Fy (Au (w ((w (c.h*6364136223846793005))+1442695040888963407)) 33) (Au (w ((w (c.h*6364136223846793005))+1442695040888963407)) 45)) 255,Xz.1.1.2.2 _ _ ?_,g,ZAZ _⟩;rw[Yb h];rfl
def W2{c:Zo}(g:GC c)(a:Int):∃c' n,Xk c a=some (I n,[cB c'])/\GC c'/\0<=n/\(0<a->n<a):=by
 by_cases h:a<=0
 .exact⟨c,0,Xz.1.2.1.1 _ _ _ (by rw[Ya h]),g,Z,Z⟩
 .by_cases ha:a<=256
  .obtain⟨c',n,e,g',h1,h2⟩:=lW g;refine⟨c',Int.tmod n a,Xz.1.2.1.1 _ _ _ ?_,g',Int.tmod_nonneg _ h1,λ_=>Int.tmod_lt_of_pos _ Z⟩
   grind
  .obtain⟨c1,n1,e1,g1,k1,k2⟩:=lW g;obtain⟨c2,n2,e2,g2,k3,k4⟩:=lW g1;obtain⟨c3,n3,e3,g3,k5,k6⟩:=lW g2;obtain⟨c4,n4,e4,g4,k7,k8⟩:=lW g3;have q:w ((w ((w ((w (n1*16777216))+(w (n2*65536))))+(w (n3*256))))+n4)=n1*16777216+n2*65536+n3*256+n4:=by
    grind [Xn]
   refine⟨c4,Int.tmod (n1*16777216+n2*65536+n3*256+n4) a,Xz.1.2.1.1 _ _ _ ?_,g4,Int.tmod_nonneg _ Z,λ_=>Int.tmod_lt_of_pos _ Z⟩;rw[Yb h,Yb ha];exact⟨c1,n1,e1,c2,n2,e2,c3,n3,e3,c4,n4,e4,Z,by rw[q]⟩
def UV{c:Zo}(g:GC c)(a:Int):∃c' b,Wy c a=some (Bo b,[cB c'])/\GC c':=by
 obtain⟨c',n,e,g',_⟩:=W2 g a;exact⟨c',_,Xz.1.2.1.2 _ _ _ ⟨c',n,e,rfl⟩,g'⟩
def Zqn{α:Type}{l:List α}{n:Int}(h0:0<=n)(h1:n<l.length):∃e,l[n.toNat]?=some e/\e∈l:=by
 simp_all
def U0{c:Zo}(g:GC c)(l:WL)(h0:l≠[])(hl:l.length<=256):∃c' e,XI c l=some (I e,[cB c',.arr Z9 1 true (l.map ic)])/\GC c'/\e∈l:=by
 have hp:0<l.length:=Y5.2 h0;obtain⟨c',n,e,g',h1,h2⟩:=W2 g l.length;obtain⟨y,hy,hm⟩:=Zqn h1 (h2 Z)
 grind [Xz.1.2.2.2.1]
def Z1j{c:Zo}(g:GC c)(l:List V6)(h0:l≠[])(hl:l.length<=256):∃c' e,Hk c l=some (.t (.str e),[cB c',.arr ZFu 1 true (l.map sc)])/\GC c'/\e∈l:=by
 have hp:0<l.length:=Y5.2 h0;obtain⟨c',n,e,g',h1,h2⟩:=W2 g l.length;obtain⟨y,hy,hm⟩:=Zqn h1 (h2 Z)
 grind [WM.2.2.2.1]
def lX{c:Zo}(g:GC c):∃c' a1 a2 a3 a4 a5,∃l:List Zw,Hf c=some (.agg [I a1,I a2,I a3,I a4,I a5,.own 1],[cB c',.arr 147 2 true (l.map Zw.c)])/\GC c'/\l.length<=1:=by
 obtain⟨c1,n1,e1,g1,_⟩:=W2 g 5;obtain⟨c2,n2,e2,g2,_⟩:=W2 g1 4;obtain⟨c3,n3,e3,g3,_⟩:=W2 g2 4;obtain⟨c4,n4,e4,g4,_⟩:=W2 g3 3;obtain⟨c5,b5,e5,g5⟩:=UV g4 3;have tail:∀(c:Zo),GC c->∃c' b,Wy c 3=some (Bo b,[cB c'])/\∃c'' n c3,XI c' ([1,5,17,32])=some (I n,[cB c'',.arr Z9 1 true (([1,5,17,32]:WL).map ic)])/\∃k,Xk c'' 20=some (I k,[cB c3])/\GC c'/\GC c3:=by
  intro c g;obtain⟨c',b,e,g'⟩:=UV g 3;obtain⟨c'',n,e',g'',_⟩:=U0 g' [1,5,17,32] Om Om;obtain⟨c3,k,e3,g3,_⟩:=W2 g'' 20
  grind
 rcases tf b5 with hb|hb
 .subst hb;obtain⟨c',b,e,c'',n,c3',e',k,e3',g',g3'⟩:=tail c5 g5;rcases tf b with hb|hb
  .subst hb;exact⟨c',_,_,_,_,_,[],Xz.1.2.2.2.2 _ _ ⟨c1,n1,e1,c2,n2,e2,c3,n3,e3,c4,n4,e4,c5,false,e5,by rw[Yb Om];exact⟨c',false,e,by rw[Yb Om]⟩⟩,g',Om⟩
  .subst hb;exact⟨c3',_,_,_,_,_,[⟨n,k⟩],Xz.1.2.2.2.2 _ _ ⟨c1,n1,e1,c2,n2,e2,c3,n3,e3,c4,n4,e4,c5,false,e5,by rw[Yb Om];exact⟨c',true,e,by rw[Ya rfl];exact⟨c'',_,n,e',c3',k,e3',rfl⟩⟩⟩,g3',Om⟩
 .subst hb;obtain⟨c6,n6,e6,g6,_⟩:=W2 g5 3;obtain⟨c',b,e,c'',n,c3',e',k,e3',g',g3'⟩:=tail c6 g6;rcases tf b with hb|hb
  .subst hb;exact⟨c',_,_,_,_,_,[],Xz.1.2.2.2.2 _ _ ⟨c1,n1,e1,c2,n2,e2,c3,n3,e3,c4,n4,e4,c5,true,e5,by rw[Ya rfl];exact⟨c6,n6,e6,c',false,e,by rw[Yb Om]⟩⟩,g',Om⟩
  .subst hb;exact⟨c3',_,_,_,_,_,[⟨n,k⟩],Xz.1.2.2.2.2 _ _ ⟨c1,n1,e1,c2,n2,e2,c3,n3,e3,c4,n4,e4,c5,true,e5,by rw[Ya rfl];exact⟨c6,n6,e6,c',true,e,by rw[Ya rfl];exact⟨c'',_,n,e',c3',k,e3',rfl⟩⟩⟩,g3',Om⟩
def SmM(m:Zf):Prop:=m.Scan.Steps.length<=3/\m.Sort_.Steps.length<=3/\m.Hash.Steps.length<=3/\m.Merge.Steps.length<=3/\m.Nested.Steps.length<=3
def SmM.le{m:Zf}(h:SmM m):Ba m:=by
 obtain⟨h1,h2,h3,h4,h5⟩:=h;omega
def ZMB{c:Zo}(g:GC c):∃c',∃m:Zf,aS c=some (.agg (m.c.map .t),[cB c'])/\GC c'/\SmM m:=by
 obtain⟨c1,b,e,g1⟩:=UV g 3;rcases tf b with hb|hb
 .subst hb;obtain⟨d1,x1,x2,x3,x4,x5,l1,f1,h1,k1⟩:=lX g1;obtain⟨d2,y1,y2,y3,y4,y5,l2,f2,h2,k2⟩:=lX h1;obtain⟨d3,z1,z2,z3,z4,z5,l3,f3,h3,k3⟩:=lX h2;obtain⟨d4,u1,u2,u3,u4,u5,l4,f4,h4,k4⟩:=lX h3;obtain⟨d5,v1,v2,v3,v4,v5,l5,f5,h5,k5⟩:=lX h4;refine⟨d5,⟨⟨x1,x2,x3,x4,x5,l1⟩,⟨y1,y2,y3,y4,y5,l2⟩,⟨z1,z2,z3,z4,z5,l3⟩,⟨u1,u2,u3,u4,u5,l4⟩,⟨v1,v2,v3,v4,v5,l5⟩⟩,Xz.2.1.1.1 _ _ ⟨c1,false,e,?_⟩,h5,?_⟩
  .rw[Yb Om];exact⟨d1,l1,x1,x2,x3,x4,x5,f1,d2,l2,y1,y2,y3,y4,y5,f2,d3,l3,z1,z2,z3,z4,z5,f3,d4,l4,u1,u2,u3,u4,u5,f4,d5,l5,v1,v2,v3,v4,v5,f5,rfl⟩
  .exact⟨by show l1.length<=3;omega,by show l2.length<=3;omega,by show l3.length<=3;omega,by show l4.length<=3;omega,by show l5.length<=3;omega⟩
 .subst hb;refine⟨c1,⟨⟨1,1,0,0,0,[]⟩,⟨2,3,0,0,0,[⟨17,20⟩]⟩,⟨4,2,1,1,0,[]⟩,⟨1,1,1,1,0,[]⟩,⟨1,0,0,1,1,[]⟩⟩,Xz.2.1.1.1 _ _ ⟨c1,true,e,?_⟩,g1,?_⟩
  .rw[Ya rfl];exact⟨_,_,_,_,_,_,_,_,_,_,_,_,_,_,_,_,_,_,_,_,_,_,_,_,_,_,_,_,_,_,Xz.1.2.2.1 _ rfl,rfl⟩
  .exact⟨Om,Om,Om,Om,Om⟩
def ZBa{X:ZK}{Ae t1:Nat->Option Ab}(h:∀f m,t1 f=some m->Ae f=some m):∀n,Ey (Wr (λ_ _ _=>none) t1 n) (Wr X Ae n)
 |0=>λ_ _ _ _ h=>by cases h
 |n+1=>λf xs h0 r hr=>by
  simp only[Wr]at hr|-
  cases hm:t1 f with
  |none=>simp only[hm]at hr;cases hr
  |some m =>
   simp only[hm,h f m hm]at hr|-;split at hr
   .rename_i hl;rw[Ya hl];exact YC (ZBa h n) n hr
   .cases hr
def Zqo:List (Nat×Ab)->Nat->Option Ab
 |[],_=>none
 |(k,m)::l,f=>match Nat.beq k f with
  |true=>some m
  |false=>Zqo l f
def ZBb{Ae:Nat->Option Ab}:∀(l:List (Nat×Ab)),(∀p∈l,Ae p.1=some p.2)->∀f m,Zqo l f=some m->Ae f=some m
 |[],_,f,m,h=>by cases h
 |(k,m')::l,hl,f,m,h=>by
  unfold Zqo at h;split at h
  .rename_i e;rw[<-Nat.eq_of_beq_eq_true e,<-Option.some.inj h];exact hl (k,m') Om
  .exact ZBb l (λp hp=>hl p (by simp[hp])) f m h
noncomputable def pqT:List (Nat×Ab):=[(114,Z5p),(49,Zsd),(158,Z5k),(54,wH),(160,Z5m),(159,Z5n),(97,Zsc),(51,Zs4),(201,Z5o)]
def M4:∀p∈pqT,Ae p.1=some p.2:=by
 intro p hp;simp only[pqT,Y1,List.not_mem_nil,or_false]at hp;rcases hp with rfl|rfl|rfl|rfl|rfl|rfl|rfl|rfl|rfl
 .exact ZGr
 .exact ZAm
 .exact ZGn
 .exact Z0C
 .exact ZGo
 .exact ZGp
 .exact ZAl
 .exact ZAn
 .exact ZGq
def QL{f:Nat}{xs:XQ}{h0:V2}{r:XS}(h:Wr (λ_ _ _=>none) (Zqo pqT) 20000 f xs h0=some r):C f xs h0=some r :=
 Z3P 20000 f xs h0 r (ZBa (ZBb pqT M4) 20000 f xs h0 r h)
def UW(s:V6):Prop:=∃(n:Int) (x:List Zg),cF s=some (.tup [.agg [I n,.own 0],Bo true],[.arr 113 2 true (x.map Zg.c)])/\Zx n x=true
def pq0:UW ⟨#[114,40,88,89,41]⟩:=⟨2,[⟨⟨#[114]⟩,[0,1]⟩],QL (by kernel_rfl),Sm⟩
theorem pq1:UW ⟨#[114,40,88,89,41,32,115,40,89,90,41]⟩:=⟨3,[⟨⟨#[114]⟩,[0,1]⟩,⟨⟨#[115]⟩,[1,2]⟩],QL (by kernel_rfl),Sm⟩
def pq2:UW ⟨#[114,40,88,89,41,32,115,40,89,90,41,32,116,40,90,85,41]⟩:=⟨4,[⟨⟨#[114]⟩,[0,1]⟩,⟨⟨#[115]⟩,[1,2]⟩,⟨⟨#[116]⟩,[2,3]⟩],QL (by kernel_rfl),Sm⟩
theorem pq3:UW ⟨#[114,40,88,89,41,32,115,40,89,90,41,32,116,40,90,88,41]⟩:=⟨3,[⟨⟨#[114]⟩,[0,1]⟩,⟨⟨#[115]⟩,[1,2]⟩,⟨⟨#[116]⟩,[2,0]⟩],QL (by kernel_rfl),Sm⟩
def pq4:UW ⟨#[114,40,88,89,41,32,115,40,88,90,41,32,116,40,88,85,41]⟩:=⟨4,[⟨⟨#[114]⟩,[0,1]⟩,⟨⟨#[115]⟩,[0,2]⟩,⟨⟨#[116]⟩,[0,3]⟩],QL (by kernel_rfl),Sm⟩
theorem pq5:UW ⟨#[114,40,88,89,41,32,115,40,89,90,41,32,118,40,89,41]⟩:=⟨3,[⟨⟨#[114]⟩,[0,1]⟩,⟨⟨#[115]⟩,[1,2]⟩,⟨⟨#[118]⟩,[1]⟩],QL (by kernel_rfl),Sm⟩
def pq6:UW ⟨#[117,40,88,89,90,41,32,115,40,90,85,41]⟩:=⟨4,[⟨⟨#[117]⟩,[0,1,2]⟩,⟨⟨#[115]⟩,[2,3]⟩],QL (by kernel_rfl),Sm⟩
def pq7:UW ⟨#[117,40,88,89,90,41,32,114,40,88,89,41,32,118,40,90,41]⟩:=⟨3,[⟨⟨#[117]⟩,[0,1,2]⟩,⟨⟨#[114]⟩,[0,1]⟩,⟨⟨#[118]⟩,[2]⟩],QL (by kernel_rfl),Sm⟩
def pq8:UW ⟨#[114,40,88,89,41,32,115,40,89,90,41,32,116,40,90,85,41,32,118,40,88,41]⟩:=⟨4,[⟨⟨#[114]⟩,[0,1]⟩,⟨⟨#[115]⟩,[1,2]⟩,⟨⟨#[116]⟩,[2,3]⟩,⟨⟨#[118]⟩,[0]⟩],QL (by kernel_rfl),Sm⟩
theorem pq9:UW ⟨#[114,40,88,89,41,32,114,40,89,90,41]⟩:=⟨3,[⟨⟨#[114]⟩,[0,1]⟩,⟨⟨#[114]⟩,[1,2]⟩],QL (by kernel_rfl),Sm⟩
def Aa8:UW ⟨#[114,40,88,89,41,32,115,40,89,88,41]⟩:=⟨2,[⟨⟨#[114]⟩,[0,1]⟩,⟨⟨#[115]⟩,[1,0]⟩],QL (by kernel_rfl),Sm⟩
def Aa9:UW ⟨#[118,40,88,41,32,114,40,88,89,41,32,115,40,89,90,41,32,116,40,90,85,41]⟩:=⟨4,[⟨⟨#[118]⟩,[0]⟩,⟨⟨#[114]⟩,[0,1]⟩,⟨⟨#[115]⟩,[1,2]⟩,⟨⟨#[116]⟩,[2,3]⟩],QL (by kernel_rfl),Sm⟩
def Aba:UW ⟨#[114,40,88,89,41,32,115,40,89,90,41,32,116,40,90,85,41,32,115,40,85,88,41]⟩:=⟨4,[⟨⟨#[114]⟩,[0,1]⟩,⟨⟨#[115]⟩,[1,2]⟩,⟨⟨#[116]⟩,[2,3]⟩,⟨⟨#[115]⟩,[3,0]⟩],QL (by kernel_rfl),Sm⟩
abbrev Z1k:List V6:=[(⟨#[114,40,88,89,41]⟩:V6),(⟨#[114,40,88,89,41,32,115,40,89,90,41]⟩:V6),(⟨#[114,40,88,89,41,32,115,40,89,90,41,32,116,40,90,85,41]⟩:V6),(⟨#[114,40,88,89,41,32,115,40,89,90,41,32,116,40,90,88,41]⟩:V6),(⟨#[114,40,88,89,41,32,115,40,88,90,41,32,116,40,88,85,41]⟩:V6),(⟨#[114,40,88,89,41,32,115,40,89,90,41,32,118,40,89,41]⟩:V6),(⟨#[117,40,88,89,90,41,32,115,40,90,85,41]⟩:V6),(⟨#[117,40,88,89,90,41,32,114,40,88,89,41,32,118,40,90,41]⟩:V6),(⟨#[114,40,88,89,41,32,115,40,89,90,41,32,116,40,90,85,41,32,118,40,88,41]⟩:V6),(⟨#[114,40,88,89,41,32,114,40,89,90,41]⟩:V6),(⟨#[114,40,88,89,41,32,115,40,89,88,41]⟩:V6),(⟨#[118,40,88,41,32,114,40,88,89,41,32,115,40,89,90,41,32,116,40,90,85,41]⟩:V6),(⟨#[114,40,88,89,41,32,115,40,89,90,41,32,116,40,90,85,41,32,115,40,85,88,41]⟩:V6)]
def ZMC:∀s∈Z1k,UW s:=by
 intro s hs;simp only[Z1k,Y1,List.not_mem_nil,or_false]at hs;rcases hs with rfl|rfl|rfl|rfl|rfl|rfl|rfl|rfl|rfl|rfl|rfl|rfl|rfl
 .exact pq0
 .exact pq1
 .exact pq2
 .exact pq3
 .exact pq4
 .exact pq5
 .exact pq6
 .exact pq7
 .exact pq8
 .exact pq9
 .exact Aa8
 .exact Aa9
 .exact Aba
theorem wN(n:Nat)(h:n<=1000000000000):w ((n:Int)+1)=((n+1:Nat):Int):=by
 grind [Xn]
def ZMD(n:Int):cD n=some (Bo false,[]):=by
 refine ZKn _ _ ⟨_,ZM _ _ _,?_⟩;rcases tf (Al n 1 4)with h|h
 .rw[h,Yb Om]
 .rw[h,Ya rfl];exact⟨_,ZM _ _ _,by rw[Yb Sm]⟩
def AtB(k:Nat)(x:List Zg):Prop:=x.length<=k/\∀a∈x,a.Vars.length<=1000
def AtB.le{k:Nat}{x:List Zg}(h:AtB k x)(hk:k<=1000000000)(n:Int):AI ⟨n,x⟩:=⟨by show x.length<=_;have:=h.1;omega,λa ha=>by have:=h.2 a ha;show a.Vars.length<=_;omega⟩
def AtB.add{k:Nat}{x:List Zg}(h:AtB k x)(s:V6)(vs:WL)(hv:vs.length<=1000):AtB (k+1) (x++[⟨s,vs⟩]):=by
 refine⟨by have:=h.1;simp;omega,λa ha=>?_⟩;rcases Yl.1 ha with ha|ha
 .exact h.2 a ha
 .simp_all
def AtB.one(k:Nat)(s:V6)(vs:WL)(hv:vs.length<=1000):AtB (k+1) [⟨s,vs⟩]:=⟨Om,λa ha=>by simp at ha;subst ha;exact hv⟩
def GW(R:Rs):Prop:=∃(c:Zo) (n:Int) (x:List Zg),R=some (.agg [I n,.own 1],[cB c,.arr Z4q 2 true (x.map Zg.c)])/\GC c/\Zx n x=true
def GW.of{R R':Rs}(h:GW R')(k:∀r,R'=some r->R=some r):GW R:=by
 obtain⟨c,n,x,e,l⟩:=h;exact⟨c,n,x,k _ e,l⟩
section
variable(vc v1:Int)(x:List Zg)
theorem q0c(b:Nat)(hb:b<=1000)(x1:List Zg)(hx:AtB b x1)(n:Nat)(hn:n<=100)(m:Nat)(hm:m<=3)(H:∀c n2 x',GC c->AtB (b+1) x'->GW (Kf c vc v1 x n2 x' n))(nm:V6):∀i,i<=m->∀c n2 vs v,GC c->vs.length<=i->GW (cK c vc v1 x n2 x1 nm vs ((n+1:Nat):Int) m v i):=by
 refine down _ ?_ ?_
 .intro c n2 vs v g hvs;refine(H c n2 (x1++[(⟨nm,vs⟩:Zg)]) g (hx.add nm vs Z)).of λr e=>XT.1.1.2.2 _ _ _ _ _ _ _ _ _ _ _ _ _ ?_
  rw[Ao,show w (((n+1:Nat):Int)-1)=(n:Int) by rw[Xn Z Z];omega];refine⟨by have:=hx.1;omega,?_⟩;exact e
 .intro i hi ih c n2 vs v g hvs;refine(ih c (if n2<(w (v+1))then(w (v+1))else n2) (vs++[v]) (Int.tmod (w (v+1)) 4) g (by simp;omega)).of λr e=>XT.1.1.2.2 _ _ _ _ _ _ _ _ _ _ _ _ _ ?_
  grind [wN]
theorem q0b(b:Nat)(hb:b<=1000)(x1:List Zg)(hx:AtB b x1)(n:Nat)(hn:n<=100)(m:Nat)(hm:m<=3)(H:∀c n2 x',GC c->AtB (b+1) x'->GW (Kf c vc v1 x n2 x' n))(nm:V6)(c:Zo)(n2 v:Int)(g:GC c):GW (cJ c vc v1 x n2 x1 nm ((n+1:Nat):Int) m v 0):=by
 by_cases h:0<m
 .refine(q0c vc v1 x b hb x1 hx n hn m hm H nm 1 h c (if n2<(w (v+1))then(w (v+1))else n2) [v] (Int.tmod (w (v+1)) 4) g Om).of λr e=>XT.1.1.2.1 _ _ _ _ _ _ _ _ _ _ _ _ ?_
  rw[An,show w ((0:Int)+1)=((1:Nat):Int)from by decide];exact e
 .refine(H c n2 (x1++[(⟨nm,[]⟩:Zg)]) g (hx.add nm [] Om)).of λr e=>XT.1.1.2.1 _ _ _ _ _ _ _ _ _ _ _ _ ?_
  rw[Ao,show w (((n+1:Nat):Int)-1)=(n:Int) by rw[Xn Z Z];omega];refine⟨by have:=hx.1;omega,?_⟩;exact e
theorem q0a(b:Nat)(hb:b<=1000)(n:Nat)(hn:n<=100)(m:Nat)(hm:m<=3)(H:∀c n2 x',GC c->AtB (b+1) x'->GW (Kf c vc v1 x n2 x' n))(nm:V6):∀i,i<=m->∀c n2 vs v,GC c->vs.length<=i->GW (cI c vc v1 x n2 nm vs ((n+1:Nat):Int) m v i):=by
 refine down _ ?_ ?_
 .intro c n2 vs v g hvs;refine(H c n2 [(⟨nm,vs⟩:Zg)] g (AtB.one b nm vs Z)).of λr e=>XT.1.1.1.2 _ _ _ _ _ _ _ _ _ _ _ _ ?_
  grind [Xn]
 .intro i hi ih c n2 vs v g hvs;refine(ih c (if n2<(w (v+1))then(w (v+1))else n2) (vs++[v]) (Int.tmod (w (v+1)) 4) g (by simp;omega)).of λr e=>XT.1.1.1.2 _ _ _ _ _ _ _ _ _ _ _ _ ?_
  grind [wN]
theorem q0(b:Nat)(hb:b<=1000)(n:Nat)(hn:n<=100)(m:Nat)(hm:m<=3)(H:∀c n2 x',GC c->AtB (b+1) x'->GW (Kf c vc v1 x n2 x' n))(nm:V6)(c:Zo)(n2 v:Int)(g:GC c):GW (cH c vc v1 x n2 nm ((n+1:Nat):Int) m v 0):=by
 by_cases h:0<m
 .refine(q0a vc v1 x b hb n hn m hm H nm 1 h c (if n2<(w (v+1))then(w (v+1))else n2) [v] (Int.tmod (w (v+1)) 4) g Om).of λr e=>XT.1.1.1.1 _ _ _ _ _ _ _ _ _ _ _ ?_
  rw[An,show w ((0:Int)+1)=((1:Nat):Int)from by decide];exact e
 .refine(H c n2 [(⟨nm,[]⟩:Zg)] g (AtB.one b nm [] Om)).of λr e=>XT.1.1.1.1 _ _ _ _ _ _ _ _ _ _ _ ?_
  grind [Xn]
theorem M5{n:Int}(h0:0<=n)(h1:n<5):(∃e2,([(⟨#[114]⟩:V6),(⟨#[115]⟩:V6),(⟨#[116]⟩:V6),(⟨#[117]⟩:V6),(⟨#[118]⟩:V6)])[n.toNat]?=some e2)/\∃m:Nat,([2,2,2,3,1]:WL)[n.toNat]?=some (m:Int)/\m<=3:=by
 obtain⟨k,rfl⟩:∃k:Nat,n=k:=⟨n.toNat,Z⟩;have hk:k=0\/k=1\/k=2\/k=3\/k=4:=by omega
 rcases hk with rfl|rfl|rfl|rfl|rfl
 .exact⟨⟨_,rfl⟩,2,rfl,Z⟩
 .exact⟨⟨_,rfl⟩,2,rfl,Z⟩
 .exact⟨⟨_,rfl⟩,2,rfl,Z⟩
 .exact⟨⟨_,rfl⟩,3,rfl,Z⟩
 .exact⟨⟨_,rfl⟩,1,rfl,Z⟩
theorem q1a(hx:Zx v1 x=true):∀n,n<=100->∀c n2 x1,GC c->AtB (100-n) x1->GW (Kf c vc v1 x n2 x1 n):=by
 intro n
 induction n with
 |zero =>
  intro _ c n2 x1 g hx1;have hq:=hx1.le Z n2;rcases tf (Zx n2 x1)with hv|hv
  .refine⟨c,v1,x,Z0E _ _ _ _ _ _ _ _ ?_,g,hx⟩
   simp_all
  .refine⟨c,n2,x1,Z0E _ _ _ _ _ _ _ _ ?_,g,hv⟩
   simp_all
 |succ n ih =>
  intro hn c n2 x1 g hx1;obtain⟨c1,k,e1,g1,k0,k1⟩:=W2 g 5;obtain⟨⟨nm,t1⟩,m,t2,hm⟩:=M5 k0 (k1 Z);obtain⟨c2,v,e2,g2,_⟩:=W2 g1 4;refine(q0b vc v1 x (100-(n+1)) Z x1 hx1 n Z m hm (λc n2 x' g hx'=>ih Z c n2 x' g (by rw[show 100-n=100-(n+1)+1 by omega];exact hx')) nm c2 n2 v g2).of λr e=>Z0E _ _ _ _ _ _ _ _ ?_
  grind
theorem q1(hx:Zx v1 x=true)(n:Nat)(hn:n<=99)(c:Zo)(n2:Int)(g:GC c):GW (cG c vc v1 x n2 n):=by
 cases n with
 |zero =>
  refine⟨c,v1,x,ZAq _ _ _ _ _ _ _ ?_,g,hx⟩
  simp[ZMD]
 |succ n =>
  obtain⟨c1,k,e1,g1,k0,k1⟩:=W2 g 5;obtain⟨⟨nm,t1⟩,m,t2,hm⟩:=M5 k0 (k1 Z);obtain⟨c2,v,e2,g2,_⟩:=W2 g1 4;refine(q0 vc v1 x (99-n) Z n Z m hm (λc n2 x' g hx'=>q1a vc v1 x hx n Z c n2 x' g (by rw[show 100-n=99-n+1 by omega];exact hx')) nm c2 n2 v g2).of λr e=>ZAq _ _ _ _ _ _ _ ?_
  grind
end
def ZME{c:Zo}(g:GC c):GW (wL c):=by
 obtain⟨c1,s,e1,g1,hs⟩:=Z1j g Z1k Om Om;obtain⟨n,x,e2,hx⟩:=ZMC s hs;obtain⟨c3,b3,e3,g3⟩:=UV g1 4;rcases tf b3 with hb|hb
 .subst hb;exact⟨c3,n,x,XT.1.2.1.1 _ _ ⟨c1,_,s,e1,x,n,true,e2,c3,false,e3,by rw[Yb Om]⟩,g3,hx⟩
 .subst hb;obtain⟨c4,k,e4,g4,k0,k1⟩:=W2 g3 4;have k4:=k1 Z;refine(q1 0 n x hx (1+k).toNat Z c4 0 g4).of λr e=>XT.1.2.1.1 _ _ ⟨c1,_,s,e1,x,n,true,e2,c3,true,e3,?_⟩
  grind [Xn]
def GA(R:Rs):Prop:=∃(c:Zo) (n:Int) (x:List Zg),R=some (.agg [I n,.own 1],[cB c,.arr Z4q 2 true (x.map Zg.c)])/\GC c/\AI ⟨n,x⟩
def Zqp{n n':Int}{x:List Zg}(h:Zx n x=true):AI ⟨n',x⟩:=⟨by have:=W1 h;show x.length<=_;omega,λa ha=>by have:=MH h a ha;show a.Vars.length<=_;omega⟩
def Xv:WL->WL->Int
 |[],[]=>0
 |[],_::_=>-1
 |_::_,[]=>1
 |a::x,b::y=>if a<b then -1 else if b<a then 1 else Xv x y
def DI(a b:WL):Bool:=decide (Xv a b<=0)
def M6(rows:WA):WA:=rows.mergeSort DI
def QM:WA->WA
 |[]=>[]
 |[a]=>[a]
 |a::b::l=>if a=b then QM (b::l)else a::QM (b::l)
def SO(l:WL):WL:=l.mergeSort λx y=>decide (x<=y)
theorem M7:∀a b:WL,Xv b a=- Xv a b
 |[],[]=>rfl
 |[],_::_=>rfl
 |_::_,[]=>rfl
 |x::a,y::b=>by
  have ih:=M7 a b;simp only[Xv];omega
theorem Ku:∀a b:WL,Xv a b=0->a=b
 |[],[],_=>rfl
 |[],_::_,h=>by simp[Xv]at h
 |_::_,[],h=>by simp[Xv]at h
 |x::a,y::b,h=>by
  simp only[Xv]at h;by_cases h1:x<y
  .omega
  .rw[Yb h1]at h;by_cases h2:y<x
   .omega
   .rw[Yb h2]at h;rw[Ku a b h,show x=y by omega]
theorem M8(a:WL):Xv a a=0:=by have:=M7 a a;omega
theorem lY:∀a b c:WL,Xv a b<=0->Xv b c<=0->Xv a c<=0
 |[],_,[],_,_=>by simp[Xv]
 |[],_,_::_,_,_=>by simp[Xv]
 |_::_,[],_,h,_=>by simp[Xv]at h
 |_::_,_::_,[],_,h=>by simp[Xv]at h
 |x::a,y::b,z::c,h1,h2=>by
  simp only[Xv]at h1 h2|-;by_cases e1:x<y
  .omega
  .rw[Yb e1]at h1;by_cases e2:y<x
   .omega
   .rw[Yb e2]at h1
    have:x=y:=by omega
    subst this;by_cases e3:x<z
    .rw[Ya e3];decide
    .rw[Yb e3]at h2|-;by_cases e4:z<x
     .omega
     .rw[Yb e4]at h2|-;exact lY a b c h1 h2
def ZMF(a b c:WL)(h1:DI a b=true)(h2:DI b c=true):DI a c=true:=by
 unfold DI at *
 grind [lY]
def ZMG(a b:WL):(DI a b || DI b a)=true:=by
 unfold DI;have:=M7 a b
 grind
def ZBc(rows:WA):(M6 rows).Perm rows:=rV _ _
def ZMH(rows:WA):(M6 rows).Pairwise λa b=>DI a b=true:=List.pairwise_mergeSort ZMF ZMG rows
def Z1l:∀(l:WA) (y:WL),y∈QM l↔y∈l
 |[],y=>by simp[QM]
 |[a],y=>by simp[QM]
 |a::b::l,y=>by
  unfold QM;have ih:=Z1l (b::l) y
  grind
def ZBd:∀l:WA,(QM l).length<=l.length
 |[]=>Yj _
 |[a]=>Yj _
 |a::b::l=>by
  unfold QM;have:=ZBd (b::l)
  grind
theorem wS{i n:Nat}(h:i<n)(hn:n<=1099511627776):w ((i:Int)+1)=((i+1:Nat):Int):=by
 grind [ZE]
theorem gE{α:Type}{xs:List α}{i:Nat}(h:i<xs.length):xs[(i:Int).toNat]?=some xs[i]:=by rw[Yh];exact Yd h
abbrev dig(v:Int):Bool:=Al v 0 9
def Gq(n:Int)(r:WL):Bool:=r.all dig && decide ((r.length:Int)=n)
def ZMI(r:WL)(n:Int)(hl:Le r):∀i,i<=r.length->bC r n i=some (Bo ((r.drop i).all dig && decide ((r.length:Int)=n)),[]):=by
 refine down _ ?_ ?_
 .simp[Xp.1.2.1.2]
 .intro i hi ih;apply Xp.1.2.1.2;rw[An,Yi hi,CU,wS hi hl]
  simp_all
@[simp] def ZMJ(r:WL)(n:Int)(hl:Le r):vT r n=some (Bo (Gq n r),[]):=Xp.1.2.2.1 _ _ _ (by simpa[Gq]using ZMI r n hl 0 (Yc _))
theorem ZBe(a b:WL)(i:Nat)(ha:i<=a.length)(hb:i<=b.length)(h:i=a.length\/i=b.length):aU a b i false=some (I (Xv (a.drop i) (b.drop i)),[]):=by
 apply Xz.2.2.1.1;by_cases h1:(a.length:Int)<(b.length:Int)
 .rw[Ya h1,show a.drop i=[]from OS Z,Yi (l:=b) (i:=i) Z];rfl
 .rw[Yb h1];by_cases h2:(b.length:Int)<(a.length:Int)
  .rw[Ya h2,show b.drop i=[]from OS Z,Yi (l:=a) (i:=i) Z];rfl
  .rw[Yb h2,show a.drop i=[]from OS Z,show b.drop i=[]from OS Z];rfl
def ZMK(a b:WL)(ha:Le a)(hb:Le b):∀i,i<=a.length->i<=b.length->aT a b i=some (I (Xv (a.drop i) (b.drop i)),[]):=by
 refine down _ ?_ ?_
 .simp_all [Xz.2.1.2.2,ZBe,Yj]
 .intro i hi ih h;apply Xz.2.1.2.2;rw[An];by_cases h2:(i:Int)<(b.length:Int)
  .have hj:i<b.length:=by omega
   rw[Ya h2];refine⟨Z,_,gE hi,_,gE hj,?_⟩;rw[wS hi ha,Yi hi,Yi hj];unfold Xv
   grind
  .grind [ZBe]
@[simp] def Gr(a b:WL)(ha:Le a)(hb:Le b):Uq a b=some (I (Xv a b),[]) :=
 Xz.2.2.1.2 _ _ _ (by simpa using ZMK a b ha hb 0 (Yc _) (Yc _))
def Cd{α:Type}(xs:List α):Nat->Option α
 |0=>none
 |k+1=>xs[k]?
def BO{α:Type}(lt:α->α->Bool)(p:Option α)(x:α):Bool:=match p with
 |none=>true
 |some q=>lt q x
def Kv{α:Type}(lt:α->α->Bool):Option α->List α->Bool
 |_,[]=>true
 |p,x::xs=>BO lt p x && Kv lt (some x) xs
def ZBf{α:Type}(lt:α->α->Bool){xs:List α}{i:Nat}(hi:i<xs.length):Kv lt (Cd xs i) (xs.drop i)=(BO lt (Cd xs i) xs[i] && Kv lt (Cd xs (i+1)) (xs.drop (i+1))):=by
 rw[Yi hi,Kv,show Cd xs (i+1)=some xs[i]from Yd hi]
def lZ(a b:WL):Bool:=decide (Xv a b<0)
abbrev CC(t:Zs):Prop:=Le t.Rows/\∀r∈t.Rows,Le r
def wP{i n:Nat}(h0:0<i)(h:i<n)(hn:n<=1099511627776):w ((i:Int)-1)=((i-1:Nat):Int):=by
 grind [ZE]
def l0{α:Type}{xs:List α}{i:Nat}(h0:0<i)(h:i-1<xs.length):Cd xs i=some xs[i-1]:=by
 obtain⟨k,rfl⟩:∃k,i=k+1:=⟨i-1,Z⟩;exact Yd h
def Xd(t:Zs):Bool:=Qo t.Name && Al t.Arity 1 3 && decide ((t.Rows.length:Int)<=8) && (t.Rows.all (Gq t.Arity) && Kv lZ none t.Rows)
def ZML(t:Zs)(h:CC t):∀i,i<=t.Rows.length->Pn t i=some (Bo ((t.Rows.drop i).all (Gq t.Arity) && Kv lZ (Cd t.Rows i) (t.Rows.drop i)),[]):=by
 refine down _ ?_ ?_
 .apply Xp.1.2.2.2.1;rw[Ao];simp[Kv]
 .intro i hi ih;have hr:=h.2 _ (Yf hi);apply Xp.1.2.2.2.1;rw[ZBf _ hi,An,Yi hi,CU,wS hi h.1];refine⟨Z,_,gE hi,_,ZMJ _ _ hr,?_⟩;rcases tf (Gq t.Arity t.Rows[i])with e|e
  .rw[e];simp
  rw[e,Ya rfl];by_cases h0:0<i
  .have hp:i-1<t.Rows.length:=by omega
   rw[An,wP h0 hi h.1,l0 h0 hp];refine⟨Z,_,gE hp,_,Gr _ _ (h.2 _ (Yf hp)) hr,?_⟩;unfold BO lZ at *
   grind
  .have:i=0:=by omega
   subst this;rw[Ao,ih];simp[Cd,BO]
@[simp] def Zqq(t:Zs)(h:CC t):Jy t=some (Bo (Xd t),[]):=by
 refine Xp.1.2.2.2.2 _ _ ⟨_,Z0U _,?_⟩;unfold Xd;rcases tf (Qo t.Name)with e1|e1
 .rw[e1];simp
 rw[e1,Ya rfl];refine⟨_,ZM _ _ _,?_⟩;rcases tf (Al t.Arity 1 3)with e2|e2
 .rw[e2];simp
 rw[e2,Ya rfl];by_cases e3:8<(t.Rows.length:Int)
 .grind
 .rw[Yb e3];have:=ZML t h 0 (Yc _);refine Ye this ?_;simp[show(t.Rows.length:Int)<=8 by omega,Cd]
def ltN(a b:Zs):Bool:=Op.bytesLess a.Name.toList b.Name.toList
abbrev CF(d:Zt):Prop:=Le d.Tables/\∀t∈d.Tables,CC t
def Vk(d:Zt):Bool:=d.Tables.all Xd && Kv ltN none d.Tables && decide ((d.Tables.length:Int)<=6)
def ZMM(d:Zt)(h:CF d):∀i,i<=d.Tables.length->Pp d i=some (Bo ((d.Tables.drop i).all Xd && Kv ltN (Cd d.Tables i) (d.Tables.drop i) && decide ((d.Tables.length:Int)<=6)),[]):=by
 refine down _ ?_ ?_
 .apply Xp.2.1.1.1;rw[Ao];simp[Kv]
 .intro i hi ih;apply Xp.2.1.1.1;rw[ZBf _ hi,An,Yi hi,CU,wS hi h.1];refine⟨Z,_,gE hi,_,Zqq _ (h.2 _ (Yf hi)),?_⟩;rcases tf (Xd d.Tables[i])with e|e
  .rw[e];simp
  rw[e,Ya rfl];by_cases h0:0<i
  .have hp:i-1<d.Tables.length:=by omega
   rw[An,wP h0 hi h.1,l0 h0 hp];refine⟨Z,_,gE hp,?_⟩;unfold BO ltN at *
   simp_all
  .have:i=0:=by omega
   subst this;rw[Ao,ih];simp[Cd,BO]
@[simp] def ZBg(d:Zt)(h:CF d):Po d=some (Bo (Vk d),[]):=by
 apply Xp.2.1.1.2;have:=ZMM d h 0 (Yc _);refine Ye this ?_;unfold Vk;simp[Cd]
def Wv(d:Zt)(n:V6):Option Zs:=if Vk d=true then d.Tables.find? (λt=>decide (t.Name=n))else none
def H6{d:Zt}(hv:Vk d=true){t:Zs}(ht:t∈d.Tables):Xd t=true:=by
 unfold Vk at hv
 simp_all
def KV{t:Zs}(h:Xd t=true):t.Rows.length<=8:=by
 unfold Xd at h
 grind
def ZMN{t:Zs}(h:Xd t=true):∀r∈t.Rows,r.length<=3:=by
 intro r hr;unfold Xd at h;simp only[Yg]at h;have h1:=Yp.1 h.2.1 r hr;have h2:=h.1.1.2;unfold Gq at h1;simp only[Al,Yg,decide_eq_true_eq]at h1 h2;omega
def ZBh{d:Zt}{n:V6}{t:Zs}(h:Wv d n=some t):Vk d=true/\t∈d.Tables/\t.Name=n:=by
 unfold Wv at h
 grind
def ZMO(t:Zs)(h:CC t)(h8:t.Rows.length<=8)(h3:∀r∈t.Rows,r.length<=3)(a a':V6)(b b':Int):∀i,i<=t.Rows.length->Pq t a b a' b' (t.Rows.take i) i=some (.agg [.t (.str a'),I b',.own 0],[.arr 32 1 true (t.Rows.map AF)]):=by
 refine down _ ?_ ?_
 .simp[Xp.2.1.2.2,Yq]
 .intro i hi ih;apply Xp.2.1.2.2;rw[An,wS hi h.1];have:=h3 _ (Yf hi);rw[Y0 hi]at ih
  grind
def ZMP(t:Zs)(h:CC t)(h8:t.Rows.length<=8)(h3:∀r∈t.Rows,r.length<=3):KD t=some (if t.Rows=[]then(.agg [.t (.str t.Name),I t.Arity,.t .nil],[])else(.agg [.t (.str t.Name),I t.Arity,.own 0],[.arr 32 1 true (t.Rows.map AF)])):=by
 apply Xp.2.2.1.1;apply Xp.2.1.2.1;by_cases e:t.Rows=[]
 .simp_all
 .have h0:0<t.Rows.length:=Y5.2 e;have:=h3 _ (Yf h0);rw[An,Yb e];refine⟨Z,_,gE h0,Z,?_⟩;have:=ZMO t h h8 h3 ⟨#[]⟩ t.Name 0 t.Arity 1 Z;rw[Y0 h0]at this;rw[show w (0+1)=1 from by decide];simpa using this
def JH(o:Option Zs):XS:=match o with
 |none=>(.tup [.agg [.t (.str ⟨#[]⟩),I 0,.t .nil],Bo false],[])
 |some t=>if t.Rows=[]then(.tup [.agg [.t (.str t.Name),I t.Arity,.t .nil],Bo true],[])else(.tup [.agg [.t (.str t.Name),I t.Arity,.own 0],Bo true],[.arr 32 1 true (t.Rows.map AF)])
def ZMQ(d:Zt)(h:CF d)(n:V6):∀i,i<=d.Tables.length->bD d ⟨#[]⟩ 0 n i=some (JH (if Vk d=true then(d.Tables.drop i).find? (λt=>decide (t.Name=n))else none)):=by
 refine down _ ?_ ?_
 .apply Xp.2.2.1.2;rw[Ao,Ym];split<;>rfl
 .intro i hi ih;apply Xp.2.2.1.2;rw[An,wS hi h.1];refine⟨_,ZBg d h,?_⟩;rcases tf (Vk d)with e|e
  .rw[e];rfl
  rw[e,Ya rfl]at ih|-;rw[Ya rfl,Yi hi,List.find?_cons];have hm:=Yf hi;refine⟨Z,_,gE hi,?_⟩;by_cases e2:d.Tables[i].Name=n
  .rw[Ya e2];have hc:=ZMP _ (h.2 _ hm) (KV (H6 e hm)) (ZMN (H6 e hm));simp only[e2,decide_true,JH]
   grind
  .simp_all
def M9(d:Zt)(h:CF d)(n:V6):VK d n=some (JH (Wv d n)) :=
 Xp.2.2.2.1 _ _ _ (by simpa[Wv]using ZMQ d h n 0 (Yc _))
def Zqr(d:Zt)(a:Zg):Bool:=match Wv d a.Name with
 |none=>false
 |some t=>decide (t.Arity=(a.Vars.length:Int))
def SP(d:Zt)(q:Zc):Bool:=Zx q.Zh q.Atoms && q.Atoms.all (Zqr d)
def ZMR(d:Zt)(h:CF d)(q:Zc)(hq:AI q):∀i,i<=q.Atoms.length->PR d q i=some (Bo ((q.Atoms.drop i).all (Zqr d)),[]):=by
 refine down _ ?_ ?_
 .simp[XX.1.1.2.2]
 .intro i hi ih;apply XX.1.1.2.2;rw[An,Yi hi,CU,wS hi hq.1];refine⟨Z,_,gE hi,?_⟩;have hk:=M9 d h q.Atoms[i].Name;unfold Zqr at ih|-
  cases e:Wv d q.Atoms[i].Name with
  |none =>
   rw[e]at hk
   refine .inl ⟨_,_,_,hk,Om⟩
  |some t =>
   rw[e]at hk;simp only[JH]at hk
   grind
@[simp] def ZMS(d:Zt)(h:CF d)(q:Zc)(hq:AI q):wX d q=some (Bo (SP d q),[]):=by
 refine XX.1.2.1.1 _ _ _ ⟨_,kV q hq,?_⟩;unfold SP;rcases tf (Zx q.Zh q.Atoms)with e|e
 .rw[e];simp
 .rw[e,Ya rfl];have:=ZMR d h q hq 0 (Yc _)
  simp_all
def l8(rows:WA)(row:WL)(hr:rows.length<=1000)(h3:∀r∈rows,r.length<=3)(c:row.length<=3):∀i,i<=rows.length->∀(out:WA) (b:Bool),out.length<=2*i->∃ys:WA,Qm out rows row b i=some (.own 0,[.arr 32 1 true ((out++ys).map AF)])/\ys.length+i<=rows.length+(if b=true then 0 else 1)/\∀r∈ys,r.length<=3:=by
 refine down _ ?_ ?_
 .intro out b ho;rcases tf b with hb|hb
  .subst hb
   grind [Xz.2.2.2.1]
  .simp_all [Xz.2.2.2.1]
 .intro i hi ih out b ho;have Dj:=h3 _ (Yf hi);have e:=Gr rows[i] row Z Z;have go:∀{r},(if Xv rows[i] row=0 then(if 0<Xv rows[i] row then(rows[i].length<=68719476736/\out.length+1<=68719476736/\Qm (out++[rows[i]]) rows row true (w ((i:Int)+1))=some r)else(rows[i].length<=68719476736/\out.length+1<=68719476736/\Qm (out++[rows[i]]) rows row true (w ((i:Int)+1))=some r))else(if 0<Xv rows[i] row then(if b=true then(rows[i].length<=68719476736/\out.length+1<=68719476736/\Qm (out++[rows[i]]) rows row true (w ((i:Int)+1))=some r)else(row.length<=68719476736/\out.length+1<=68719476736/\rows[i].length<=68719476736/\out.length+1+1<=68719476736/\Qm ((out++[row])++[rows[i]]) rows row true (w ((i:Int)+1))=some r))else(rows[i].length<=68719476736/\out.length+1<=68719476736/\Qm (out++[rows[i]]) rows row b (w ((i:Int)+1))=some r)))->Qm out rows row b i=some r:=λ{r} h=>Xz.2.2.2.1 _ _ _ _ _ r (by rw[An];exact⟨Z,rows[i],gE hi,_,e,h⟩)
  have one:∀b',(b=true->b'=true)->∃ys:WA,Qm (out++[rows[i]]) rows row b' (w ((i:Int)+1))=some (.own 0,[.arr 32 1 true ((out++ys).map AF)])/\ys.length+i<=rows.length+(if b=true then 0 else 1)/\∀r∈ys,r.length<=3:=by
   intro b' hb';obtain⟨ys,e,hl,hy⟩:=ih (out++[rows[i]]) b' (by simp;omega);refine⟨rows[i]::ys,?_,?_,?_⟩
   .grind [wN,List.append_assoc]
   .grind
   .simp_all
  by_cases c0:Xv rows[i] row=0
  .obtain⟨ys,e,hl,hy⟩:=one true (λ_=>rfl);exact⟨ys,go (by rw[Ya c0,Ao];exact⟨Z,Z,e⟩),hl,hy⟩
  by_cases c1:0<Xv rows[i] row
  .rcases tf b with hb|hb
   .subst hb;obtain⟨ys,e,hl,hy⟩:=ih ((out++[row])++[rows[i]]) true (by simp;omega);refine⟨row::rows[i]::ys,go (by rw[Yb c0,Ya c1,Yb Om];exact⟨Z,Z,Z,Z,by rw[wN i Z,e];simp⟩),?_,?_⟩
    .simp at hl|-;omega
    .simp_all
   .subst hb;obtain⟨ys,e,hl,hy⟩:=one true (λ_=>rfl);exact⟨ys,go (by rw[Yb c0,Ya c1,Ya rfl];exact⟨Z,Z,e⟩),hl,hy⟩
  .obtain⟨ys,e,hl,hy⟩:=one b (λh=>h);exact⟨ys,go (by rw[Yb c0,Yb c1];exact⟨Z,Z,e⟩),hl,hy⟩
def l9(rows:WA)(row:WL)(hr:rows.length<=1000)(h3:∀r∈rows,r.length<=3)(c:row.length<=3):∃ys:WA,Jx rows row=some (.own 0,[.arr 32 1 true (ys.map AF)])/\ys.length<=rows.length+1/\∀r∈ys,r.length<=3:=by
 obtain⟨ys,e,hl,hy⟩:=l8 rows row hr h3 c 0 Z [] false Om
 simp_all [Xz.2.2.2.2.1]
theorem Na(row:WL)(h:row.length<=3):Hg row=some (.own 0,[.arr 32 1 true (([row]:WA).map AF)]) :=
 Xz.2.1.2.1 _ _ (Xz.2.1.1.2 _ _ _ _ _ (by rw[Ao,Yb Om];exact⟨Z,Om,rfl⟩))
def GT(nm:V6)(ar:Int)(k:Nat)(R:Rs):Prop:=∃(c:Zo) (x:WA),R=some (.agg [.t (.str nm),I ar,.own 1],[cB c,.arr 32 1 true (x.map AF)])/\GC c/\x.length<=k/\∀r∈x,r.length<=3
def GT.of{nm:V6}{ar:Int}{k:Nat}{R R':Rs}(h:GT nm ar k R')(q:∀r,R'=some r->R=some r):GT nm ar k R:=by
 obtain⟨c,x,e,l⟩:=h;exact⟨c,x,q _ e,l⟩
section
variable(Name:V6)(Arity:Int)(nm:V6)(ar:Int)
theorem t0a(m:Nat)(hm:m<=3)(val:Int)(n K:Nat)(hK:K<=1000)(hn:n<=1000)(x:WA)(hx:x.length+(n+1)<=K)(h3:∀r∈x,r.length<=3)(H:∀c (x:WA),GC c->x.length+n<=K->(∀r∈x,r.length<=3)->GT nm ar K (Pj c Name Arity nm ar x m val n)):∀i,i<=m->∀c row,GC c->row.length<=i->GT nm ar K (aV c Name Arity nm ar x row m val ((n+1:Nat):Int) i):=by
 refine down _ ?_ ?_
 .intro c row g hr;obtain⟨ys,e,hl,hy⟩:=l9 x row Z h3 Z;refine(H c ys g Z hy).of λr er=>HR.2.1 _ _ _ _ _ _ _ _ _ _ _ _ ?_
  grind [Xn]
 .intro i hi ih c row g hr;obtain⟨c1,v,e,g1,_⟩:=W2 g val;refine(ih c1 (row++[v]) g1 (by simp;omega)).of λr er=>HR.2.1 _ _ _ _ _ _ _ _ _ _ _ _ ?_
  grind [wN]
theorem t1a(m:Nat)(hm:m<=3)(val:Int)(K:Nat)(hK:K<=1000):∀n:Nat,n<=1000->∀c (x:WA),GC c->x.length+n<=K->(∀r∈x,r.length<=3)->GT nm ar K (Pj c Name Arity nm ar x m val n)
 |0,_,c,x,g,hx,h3=>⟨c,x,HR.1.2 _ _ _ _ _ _ _ _ _ _ (by rw[Ao]),g,Z,h3⟩
 |n+1,hn,c,x,g,hx,h3=>(t0a Name Arity nm ar m hm val n K hK Z x hx h3 (λc x g hx h3=>t1a m hm val K hK n Z c x g hx h3) 0 Z c [] g Om).of λr e=>HR.1.2 _ _ _ _ _ _ _ _ _ _ (by rw[An];exact e)
theorem t0(m:Nat)(hm:m<=3)(val:Int)(n K:Nat)(hK:K<=1000)(hn:n+1<=K):∀i,i<=m->∀c row,GC c->row.length<=i->GT nm ar K (Pi c Name Arity nm ar row m val ((n+1:Nat):Int) i):=by
 refine down _ ?_ ?_
 .intro c row g hr;refine(t1a Name Arity nm ar m hm val K hK n Z c [row] g (by simp;omega) (by simp;omega)).of λr er=>HR.1.1 _ _ _ _ _ _ _ _ _ _ _ ?_
  grind [Xn,Na]
 .intro i hi ih c row g hr;obtain⟨c1,v,e,g1,_⟩:=W2 g val;refine(ih c1 (row++[v]) g1 (by simp;omega)).of λr er=>HR.1.1 _ _ _ _ _ _ _ _ _ _ _ ?_
  grind [wN]
end
def ZBi{c:Zo}(g:GC c)(nm:V6)(m:Nat)(hm:m<=3)(most val:Int)(h0:0<=most)(h1:most<=100):GT nm m 100 (Q7 c nm m most val):=by
 obtain⟨c1,n,e1,g1,n0,n1⟩:=W2 g (w (most+1));have hw:w (most+1)=most+1:=Xn Z Z;rw[hw]at n1 e1;have:=n1 Z;obtain⟨k,rfl⟩:∃k:Nat,n=k:=⟨n.toNat,Z⟩
 cases k with
 |zero=>exact⟨c1,[],HR.2.2 _ _ _ _ _ _ ⟨c1,0,by rw[hw];exact e1,Xz.2.2.2.2.2 _ _ _ _ _ _ _ _ _ (by rw[Ao])⟩,g1,Om,Om⟩
 |succ k=>exact(t0 ⟨#[]⟩ 0 nm m m hm val k 100 Z Z 0 Z c1 [] g1 Om).of λr e=>HR.2.2 _ _ _ _ _ _ ⟨c1,_,by rw[hw];exact e1,Xz.2.2.2.2.2 _ _ _ _ _ _ _ _ _ (by rw[An];exact e)⟩
def Gs(t:Zs):Prop:=t.Rows.length<=100/\∀r∈t.Rows,r.length<=3
def GD(R:Rs):Prop:=∃(c:Zo) (d:Zt),R=some (.agg (d.c.map .t),[cB c])/\GC c/\d.Tables.length<=5/\∀t∈d.Tables,Gs t
def GD.of{R R':Rs}(h:GD R')(q:∀r,R'=some r->R=some r):GD R:=by
 obtain⟨c,x,e,l⟩:=h;exact⟨c,x,q _ e,l⟩
abbrev QN:List V6:=[(⟨#[114]⟩:V6),(⟨#[115]⟩:V6),(⟨#[116]⟩:V6),(⟨#[117]⟩:V6),(⟨#[118]⟩:V6)]
def d0a(val most:Int)(h0:0<=most)(h1:most<=100):∀i,i<=5->∀c (x:List Zs),GC c->x.length=i->1<=i->(∀t∈x,Gs t)->GD (Ke c x QN val most 5 i):=by
 refine down _ ?_ ?_
 .intro c x g hx _ ht;obtain⟨c1,b,e1,g1⟩:=UV g 8;rcases tf b with hb|hb
  .subst hb;exact⟨c1,⟨x⟩,jV _ _ _ _ _ _ _ _ (by rw[Ao];exact⟨c1,false,e1,by rw[Yb Om];rfl⟩),g1,by show x.length<=5;omega,ht⟩
  .subst hb;obtain⟨c2,k,e2,g2,k0,k1⟩:=W2 g1 5;obtain⟨t,he,hm⟩:=Zqn (l:=x) k0 (by have:=k1 Z;omega);refine⟨c2,⟨x.set k.toNat ⟨t.Name,t.Arity,[]⟩⟩,jV _ _ _ _ _ _ _ _ (by rw[Ao];exact⟨c1,true,e1,by rw[Ya rfl];exact⟨c2,k,e2,k0,t,he,rfl⟩⟩),g2,by show(x.set _ _).length<=5;rw[EH];omega,?_⟩;intro u hu;rcases Iw hu with h|h
   .exact ht u h
   .subst h;exact⟨Om,Om⟩
 .intro i hi ih c x g hx h1i ht;have go:∀(nm:V6) (m:Nat),m<=3->GT nm m 100 (Q7 c nm m most val):=λnm m hm=>ZBi g nm m hm most val h0 h1
  have hn:QN[(i:Int).toNat]?=some QN[i]:=gE (xs:=QN) hi;have BO:∀(m:Nat),m<=3->∃c1 y,Q7 c QN[i] m most val=some (.agg [.t (.str QN[i]),I m,.own 1],[cB c1,.arr 32 1 true (y.map AF)])/\GD (Ke c1 (x++[(⟨QN[i],m,y⟩:Zs)]) QN val most 5 (w ((i:Int)+1))):=by
   intro m hm;obtain⟨c1,y,e,g1,hl,h3⟩:=go QN[i] m hm;refine⟨c1,y,e,?_⟩;rw[wN i Z];refine ih c1 _ g1 (by simp;omega) Z ?_;intro t hm;rcases Yl.1 hm with hm|hm
   .exact ht t hm
   .simp at hm;subst hm;exact⟨hl,h3⟩
  by_cases u:QN[i]=(⟨#[117]⟩:V6)
  .obtain⟨c1,y,e,G⟩:=BO 3 Z;refine G.of λr er=>jV _ _ _ _ _ _ _ _ ?_
   grind
  by_cases v:QN[i]=(⟨#[118]⟩:V6)
  .obtain⟨c1,y,e,G⟩:=BO 1 Z;refine G.of λr er=>jV _ _ _ _ _ _ _ _ ?_
   grind
  .obtain⟨c1,y,e,G⟩:=BO 2 Z;refine G.of λr er=>jV _ _ _ _ _ _ _ _ ?_
   grind
def Nb{c:Zo}(g:GC c):GD (aY c):=by
 obtain⟨c1,val,e1,g1,_⟩:=U0 g [2,3,4,6] Om Om;obtain⟨c2,most,e2,g2,hm⟩:=U0 g1 [2,4,6,8] Om Om;have hm:0<=most/\most<=100:=by
  grind
 obtain⟨c3,y,e3,g3,hl,h3⟩:=ZBi g2 (⟨#[114]⟩:V6) 2 Z most val hm.1 hm.2;refine(d0a val most hm.1 hm.2 1 Z c3 [⟨(⟨#[114]⟩:V6),2,y⟩] g3 rfl Z (by intro t ht;simp at ht;subst ht;exact⟨hl,h3⟩)).of λr e=>Xp.1.1.1.1 _ _ ⟨c1,_,val,e1,c2,_,most,e2,ZKb _ _ _ _ _ _ _ ?_⟩
 rw[Ya Sm];refine⟨Z,(⟨#[114]⟩:V6),rfl,?_⟩;rw[Yb Sm,Yb Sm];exact⟨c3,y,_,_,e3,e⟩
def Gs.le{d:Zt}(h5:d.Tables.length<=5)(h:∀t∈d.Tables,Gs t):CF d:=⟨Z,λt ht=>⟨by have:=(h t ht).1;omega,λr hr=>by have:=(h t ht).2 r hr;omega⟩⟩
