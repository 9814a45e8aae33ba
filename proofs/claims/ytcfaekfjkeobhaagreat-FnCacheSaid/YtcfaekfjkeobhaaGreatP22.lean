/-
  Parts of the proofs for this seat: WA WB ID IN IS SJ SK SM SC SD SE SF SG SH IE IA.
-/
import Derived.Test.YtcfaekfjkeobhaaGreatP20
import Derived.Test.YtcfaekfjkeobhaaGreatP21
set_option linter.unusedSectionVars false
set_option linter.unusedSimpArgs false
set_option linter.unusedVariables false
set_option maxRecDepth 100000
set_option maxHeartbeats 4000000
namespace Go.Proofs.YtcfaekfjkeobhaaGreat
open Go.AM
theorem Ze8{a b c:Int}:inR a b c=true↔b<=a/\a<=c:=by simp[inR]
def GC(c:Zg):Prop:=0<=c.i/\c.i<=c.b.length/\c.b.length<=1048576
abbrev cB(c:Zg):Blk:=.box (c.c.map .t)
theorem and255(x:Int):0<=andI x 255/\andI x 255<=255:=by
 unfold andI;have h:(BitVec.ofInt 64 x &&& BitVec.ofInt 64 255).toNat<=255:=by
  rw[BitVec.toNat_and];exact Y0 Nat.and_le_right (by decide)
 rw[show IntKind.wrap .i64 ((BitVec.ofInt 64 x &&& BitVec.ofInt 64 255).toNat:Int)=_ from w_id (by omega) (by omega)];omega
theorem l_l1New(code:List Int)(hl:code.length<=1048576):∀i,i<=code.length->∀h1:Int,∃c,Zqt code h1 i=some (.ptr 0 0,[cB c])/\GC c:=by
 refine down _ ?_ ?_
 .intro h1;refine⟨⟨code,0,h1⟩,Z5x _ _ _ _ ?_,by simp[GC];exact hl⟩;rw[if_neg (by omega)];rfl
 .intro i hi ih h1;by_cases h4:(i:Int)<4000
  .obtain⟨c,e,g⟩:=ih (andI (w ((w ((w (h1*131))+(w code[i])))+7)) 1073741823);refine⟨c,Z5x _ _ _ _ ?_,g⟩;rw[if_pos (by omega),if_pos h4];refine⟨by omega,code[i],by simp[hi],?_⟩;rw[show w ((i:Int)+1)=((i+1:Nat):Int)from w_id (by omega) (by omega)];exact e
  .refine⟨⟨code,0,h1⟩,Z5x _ _ _ _ ?_,by simp[GC];exact hl⟩;rw[if_pos (by omega),if_neg h4];rfl
theorem Z64(code:List Int)(hl:code.length<=1048576):∃c,Zjk code=some (.ptr 0 0,[cB c])/\GC c:=by
 obtain⟨c,e,g⟩:=l_l1New code hl 0 (Yd _) (w (10101+(code.length:Int)));exact⟨c,Zbvs _ _ e,g⟩
theorem Zt6{c:Zg}(g:GC c):∃c' n,Zjl c=some (I n,[cB c'])/\GC c'/\0<=n/\n<=255:=by
 by_cases h:c.i<(c.b.length:Int)
 .obtain⟨i,hi⟩:∃i:Nat,c.i=i:=⟨c.i.toNat,by have:=g.1;omega⟩;have hl:i<c.b.length:=by omega
  refine⟨⟨c.b,w (c.i+1),w ((w (c.h*6364136223846793005))+1442695040888963407)⟩,andI (w ((andI (xorI (shrI (w ((w (c.h*6364136223846793005))+1442695040888963407)) 33) (shrI (w ((w (c.h*6364136223846793005))+1442695040888963407)) 45)) 255)+(w c.b[i]))) 255,Zbhx _ _ ?_,?_,and255 _⟩
  .rw[if_pos h];exact⟨g.1,c.b[i],by simp[hi,hl],rfl⟩
  .have:=g.2.2;rw[show w (c.i+1)=c.i+1 from w_id (by omega) (by omega)];exact⟨by show 0<=c.i+1;omega,by show c.i+1<=(c.b.length:Int);omega,this⟩
 .refine⟨⟨c.b,c.i,w ((w (c.h*6364136223846793005))+1442695040888963407)⟩,andI (xorI (shrI (w ((w (c.h*6364136223846793005))+1442695040888963407)) 33) (shrI (w ((w (c.h*6364136223846793005))+1442695040888963407)) 45)) 255,Zbhx _ _ ?_,g,and255 _⟩;rw[if_neg h];rfl
theorem Zbu{c:Zg}(g:GC c)(a:Int):∃c' n,Z2 c a=some (I n,[cB c'])/\GC c'/\0<=n/\(0<a->n<a):=by
 by_cases h:a<=0
 .exact⟨c,0,Z5y _ _ _ (by rw[if_pos h]),g,by omega,by omega⟩
 .by_cases ha:a<=256
  .obtain⟨c',n,e,g',h1,h2⟩:=Zt6 g;refine⟨c',Int.tmod n a,Z5y _ _ _ ?_,g',Int.tmod_nonneg _ h1,λ_=>Int.tmod_lt_of_pos _ (by omega)⟩;rw[if_neg h,if_pos ha];exact⟨c',n,e,by omega,rfl⟩
  .obtain⟨c1,n1,e1,g1,k1,k2⟩:=Zt6 g;obtain⟨c2,n2,e2,g2,k3,k4⟩:=Zt6 g1;obtain⟨c3,n3,e3,g3,k5,k6⟩:=Zt6 g2;obtain⟨c4,n4,e4,g4,k7,k8⟩:=Zt6 g3;have q:w ((w ((w ((w (n1*16777216))+(w (n2*65536))))+(w (n3*256))))+n4)=n1*16777216+n2*65536+n3*256+n4:=by
    rw[w_id (x:=n1*16777216) (by omega) (by omega),w_id (x:=n2*65536) (by omega) (by omega),w_id (x:=n3*256) (by omega) (by omega),w_id (x:=n1*16777216+n2*65536) (by omega) (by omega),w_id (x:=n1*16777216+n2*65536+n3*256) (by omega) (by omega),w_id (by omega) (by omega)]
   refine⟨c4,Int.tmod (n1*16777216+n2*65536+n3*256+n4) a,Z5y _ _ _ ?_,g4,Int.tmod_nonneg _ (by omega),λ_=>Int.tmod_lt_of_pos _ (by omega)⟩;rw[if_neg h,if_neg ha];exact⟨c1,n1,e1,c2,n2,e2,c3,n3,e3,c4,n4,e4,by omega,by rw[q]⟩
theorem Zi2{c:Zg}(g:GC c)(a:Int):∃c' b,Zc0 c a=some (Bo b,[cB c'])/\GC c':=by
 obtain⟨c',n,e,g',_⟩:=Zbu g a;exact⟨c',_,Zbvt _ _ _ ⟨c',n,e,rfl⟩,g'⟩
theorem Zt7{α:Type}{l:List α}{n:Int}(h0:0<=n)(h1:n<l.length):∃e,l[n.toNat]?=some e/\e∈l:=by
 have h:n.toNat<l.length:=by omega
 exact⟨l[n.toNat],by simp[h],Yf h⟩
theorem Zy4{c:Zg}(g:GC c)(l:List Int)(h0:l≠[])(hl:l.length<=256):∃c' e,Zdd c l=some (I e,[cB c',.arr Z4 1 true (l.map ic)])/\GC c'/\e∈l:=by
 have hp:0<l.length:=Ycb.2 h0;obtain⟨c',n,e,g',h1,h2⟩:=Zbu g l.length;obtain⟨y,hy,hm⟩:=Zt7 h1 (h2 (by omega));exact⟨c',y,Zbvv _ _ _ ⟨c',n,e,h1,y,hy,rfl⟩,g',hm⟩
theorem Zb2u{c:Zg}(g:GC c)(l:List Int)(h0:l≠[])(hl:l.length<=256):∃c' e,Zoj c l=some (I e,[cB c'])/\GC c'/\e∈l:=by
 have hp:0<l.length:=Ycb.2 h0;obtain⟨c',n,e,g',h1,h2⟩:=Zbu g l.length;obtain⟨y,hy,hm⟩:=Zt7 h1 (h2 (by omega));exact⟨c',y,Zbya _ _ _ ⟨c',n,e,h1,y,hy,rfl⟩,g',hm⟩
theorem x_l1Pick{c:Zg}(g:GC c)(l:List ByteArray)(h0:l≠[])(hl:l.length<=256):∃c' e,Zqv c l=some (.t (.str e),[cB c',.arr Z00 1 true (l.map sc)])/\GC c'/\e∈l:=by
 have hp:0<l.length:=Ycb.2 h0;obtain⟨c',n,e,g',h1,h2⟩:=Zbu g l.length;obtain⟨y,hy,hm⟩:=Zt7 h1 (h2 (by omega));exact⟨c',y,Zbvw _ _ _ ⟨c',n,e,h1,y,hy,rfl⟩,g',hm⟩
theorem Zb2v{c:Zg}(g:GC c)(l:List ByteArray)(h0:l≠[])(hl:l.length<=256):∃c' e,Zv1 c l=some (.t (.str e),[cB c'])/\GC c'/\e∈l:=by
 have hp:0<l.length:=Ycb.2 h0;obtain⟨c',n,e,g',h1,h2⟩:=Zbu g l.length;obtain⟨y,hy,hm⟩:=Zt7 h1 (h2 (by omega));exact⟨c',y,Zbv7 _ _ _ ⟨c',n,e,h1,y,hy,rfl⟩,g',hm⟩
theorem Zt8{c:Zg}(g:GC c):∃c' a1 a2 a3 a4 a5,∃l:List Zj,Zjm c=some (.agg [I a1,I a2,I a3,I a4,I a5,.own 1],[cB c',.arr 259 2 true (l.map Zj.c)])/\GC c'/\l.length<=1:=by
 obtain⟨c1,n1,e1,g1,_⟩:=Zbu g 5;obtain⟨c2,n2,e2,g2,_⟩:=Zbu g1 4;obtain⟨c3,n3,e3,g3,_⟩:=Zbu g2 4;obtain⟨c4,n4,e4,g4,_⟩:=Zbu g3 3;obtain⟨c5,b5,e5,g5⟩:=Zi2 g4 3;have tail:∀(c:Zg),GC c->∃c' b,Zc0 c 3=some (Bo b,[cB c'])/\∃c'' n c3,Zdd c' ([1,5,17,32])=some (I n,[cB c'',.arr Z4 1 true (([1,5,17,32]:List Int).map ic)])/\∃k,Z2 c'' 20=some (I k,[cB c3])/\GC c'/\GC c3:=by
  intro c g;obtain⟨c',b,e,g'⟩:=Zi2 g 3;obtain⟨c'',n,e',g'',_⟩:=Zy4 g' [1,5,17,32] (by simp) (by simp);obtain⟨c3,k,e3,g3,_⟩:=Zbu g'' 20;exact⟨c',b,e,c'',n,c3,e',k,e3,g',g3⟩
 rcases tf b5 with hb|hb
 .subst hb;obtain⟨c',b,e,c'',n,c3',e',k,e3',g',g3'⟩:=tail c5 g5;rcases tf b with hb|hb
  .subst hb;exact⟨c',_,_,_,_,_,[],Zye _ _ ⟨c1,n1,e1,c2,n2,e2,c3,n3,e3,c4,n4,e4,c5,false,e5,by rw[if_neg (by simp)];exact⟨c',false,e,by rw[if_neg (by simp)]⟩⟩,g',by simp⟩
  .subst hb;exact⟨c3',_,_,_,_,_,[⟨n,k⟩],Zye _ _ ⟨c1,n1,e1,c2,n2,e2,c3,n3,e3,c4,n4,e4,c5,false,e5,by rw[if_neg (by simp)];exact⟨c',true,e,by rw[if_pos rfl];exact⟨c'',_,n,e',c3',k,e3',rfl⟩⟩⟩,g3',by simp⟩
 .subst hb;obtain⟨c6,n6,e6,g6,_⟩:=Zbu g5 3;obtain⟨c',b,e,c'',n,c3',e',k,e3',g',g3'⟩:=tail c6 g6;rcases tf b with hb|hb
  .subst hb;exact⟨c',_,_,_,_,_,[],Zye _ _ ⟨c1,n1,e1,c2,n2,e2,c3,n3,e3,c4,n4,e4,c5,true,e5,by rw[if_pos rfl];exact⟨c6,n6,e6,c',false,e,by rw[if_neg (by simp)]⟩⟩,g',by simp⟩
  .subst hb;exact⟨c3',_,_,_,_,_,[⟨n,k⟩],Zye _ _ ⟨c1,n1,e1,c2,n2,e2,c3,n3,e3,c4,n4,e4,c5,true,e5,by rw[if_pos rfl];exact⟨c6,n6,e6,c',true,e,by rw[if_pos rfl];exact⟨c'',_,n,e',c3',k,e3',rfl⟩⟩⟩,g3',by simp⟩
theorem Zb2w{c:Zg}(g:GC c):∃c',∃m:Ze,Zqu c=some (.agg (m.c.map .t),[cB c'])/\GC c'/\LeM m:=by
 obtain⟨c1,b,e,g1⟩:=Zi2 g 3;rcases tf b with hb|hb
 .subst hb;obtain⟨d1,x1,x2,x3,x4,x5,l1,f1,h1,k1⟩:=Zt8 g1;obtain⟨d2,y1,y2,y3,y4,y5,l2,f2,h2,k2⟩:=Zt8 h1;obtain⟨d3,z1,z2,z3,z4,z5,l3,f3,h3,k3⟩:=Zt8 h2;obtain⟨d4,u1,u2,u3,u4,u5,l4,f4,h4,k4⟩:=Zt8 h3;obtain⟨d5,v1,v2,v3,v4,v5,l5,f5,h5,k5⟩:=Zt8 h4;refine⟨d5,⟨⟨x1,x2,x3,x4,x5,l1⟩,⟨y1,y2,y3,y4,y5,l2⟩,⟨z1,z2,z3,z4,z5,l3⟩,⟨u1,u2,u3,u4,u5,l4⟩,⟨v1,v2,v3,v4,v5,l5⟩⟩,Zbhy _ _ ⟨c1,false,e,?_⟩,h5,?_⟩
  .rw[if_neg (by simp)];exact⟨d1,l1,x1,x2,x3,x4,x5,f1,d2,l2,y1,y2,y3,y4,y5,f2,d3,l3,z1,z2,z3,z4,z5,f3,d4,l4,u1,u2,u3,u4,u5,f4,d5,l5,v1,v2,v3,v4,v5,f5,rfl⟩
  .exact⟨by show l1.length<=1099511627776;omega,by show l2.length<=1099511627776;omega,by show l3.length<=1099511627776;omega,by show l4.length<=1099511627776;omega,by show l5.length<=1099511627776;omega⟩
 .subst hb;refine⟨c1,⟨⟨1,1,0,0,0,[]⟩,⟨2,3,0,0,0,[⟨17,20⟩]⟩,⟨4,2,1,1,0,[]⟩,⟨1,1,1,1,0,[]⟩,⟨1,0,0,1,1,[]⟩⟩,Zbhy _ _ ⟨c1,true,e,?_⟩,g1,?_⟩
  .rw[if_pos rfl];exact⟨_,_,_,_,_,_,_,_,_,_,_,_,_,_,_,_,_,_,_,_,_,_,_,_,_,_,_,_,_,_,Zbvu _ rfl,rfl⟩
  .exact⟨by simp,by simp,by simp,by simp,by simp⟩
theorem wN(n:Nat)(h:n<=1000000000000):w ((n:Int)+1)=((n+1:Nat):Int):=by
 rw[w_id (by omega) (by omega)];omega
theorem l_l4Cut(s:ByteArray)(c:Int)(hs:s.size<=1000000):∀i,i<=s.size->∀(x:Nat) (out:List ByteArray),x<=i->out.length<=i->∃l:List ByteArray,Zm7 out s c x i=some (.own 0,[.arr Z00 1 true (l.map sc)])/\l.length<=s.size+1:=by
 refine down _ ?_ ?_
 .intro x out hx ho;refine⟨out++[(s.extract (x:Int).toNat s.size)],Z5z _ _ _ _ _ _ ?_,?_⟩
  .rw[if_neg (by omega)];exact⟨by omega,by omega,by omega,rfl⟩
  .simp;omega
 .intro i hi ih x out hx ho;by_cases hb:((s[i]).toNat:Int)=c
  .obtain⟨l,e,hl⟩:=ih (i+1) (out++[s.extract (x:Int).toNat (i:Int).toNat]) (by omega) (by simp;omega);refine⟨l,Z5z _ _ _ _ _ _ ?_,hl⟩;rw[if_pos (by omega)];refine⟨by omega,s[i],by simp[hi],?_⟩;rw[if_pos hb,wN i (by omega)];exact⟨by omega,by omega,by omega,by omega,e⟩
  .obtain⟨l,e,hl⟩:=ih x out (by omega) (by omega);refine⟨l,Z5z _ _ _ _ _ _ ?_,hl⟩;rw[if_pos (by omega)];refine⟨by omega,s[i],by simp[hi],?_⟩;rw[if_neg hb,wN i (by omega)];exact e
theorem x_l4Cut(s:ByteArray)(c:Int)(hs:s.size<=1000000):∃l:List ByteArray,Zqw s c=some (.own 0,[.arr Z00 1 true (l.map sc)])/\l.length<=s.size+1:=by
 obtain⟨l,e,hl⟩:=l_l4Cut s c hs 0 (by omega) 0 [] (by omega) (by simp);exact⟨l,Zbvx _ _ _ e,hl⟩
theorem Zt9(a:Int):∃s:ByteArray,Zho a=some (.t (.str s),[])/\s.size<=1:=by
 rcases tf (inR a 0 3)with h|h
 .exact⟨⟨#[]⟩,Zbhz _ _ ⟨_,Zcu _ _ _,by rw[h,if_neg (by simp)]⟩,by decide⟩
 .have ha:=Ze8.1 h;have hw:w (a+1)=a+1:=w_id (by omega) (by omega);refine⟨(⟨#[88,89,90,85]⟩:ByteArray).extract a.toNat ((w (a+1)).toNat),Zbhz _ _ ⟨_,Zcu _ _ _,?_⟩,?_⟩
  .rw[h,if_pos rfl,hw];refine⟨by omega,by omega,by omega,?_,rfl⟩;show _<=4;omega
  .simp only[hw,ByteArray.size_extract];omega
theorem Zb2x(l:List Int)(hl:l.length<=1000000):∀i,i<=l.length->∀s:ByteArray,s.size<=i->∃t:ByteArray,Zq1 l s i=some (.t (.str t),[])/\t.size<=l.length:=by
 refine down _ ?_ ?_
 .intro s hs;exact⟨s,Zbh3 _ _ _ _ (by rw[if_neg (by omega)]),hs⟩
 .intro i hi ih s hs;obtain⟨v,e,hv⟩:=Zt9 l[i];obtain⟨t,e2,ht⟩:=ih (s++v) (by simp[ByteArray.size_append];omega);refine⟨t,Zbh3 _ _ _ _ ?_,ht⟩;rw[if_pos (by omega),wN i (by omega)];exact⟨by omega,l[i],by simp[hi],v,e,by omega,e2⟩
theorem Zb2y(l:List Int)(hl:l.length<=1000000):∃t:ByteArray,Znb l=some (.t (.str t),[])/\t.size<=l.length:=by
 obtain⟨t,e,h⟩:=Zb2x l hl 0 (by omega) ⟨#[]⟩ (by decide);exact⟨t,Zbv3 _ _ e,h⟩
theorem okA{n:Int}{qa:List Atom}(hv:Zn n qa=true):∀a∈qa,a.Name.size=1/\a.Vars.length<=3:=by
 intro a ha;have h3:=(Zk3 hv a ha).2
 have:Zcr n a=true:=by
  unfold Zn at hv;simp only[Yc]at hv;exact Ym.1 (by first|exact hv.1.2|exact hv.2.1|exact hv.1.1.2|exact hv.2.2) a ha
 unfold Zcr nmOk at this;simp only[Yc]at this;have h1:=this.1.1;split at h1
 .simp only[Yc,decide_eq_true_eq]at h1;exact⟨by omega,h3⟩
 .simp at h1
theorem l_Format(q:Zc)(hq:LeQ q):∀i,i<=q.Atoms.length->∀s:ByteArray,s.size<=10*i->∃t:ByteArray,Znc q s i=some (.t (.str t),[]):=by
 rcases tf (Zn q.Zf q.Atoms)with hv|hv
 .intro i hi s hs;by_cases h:i=q.Atoms.length
  .exact⟨s,Zto _ _ _ _ (by rw[if_neg (by omega)])⟩
  .exact⟨s,Zto _ _ _ _ (by rw[if_pos (by omega)];exact⟨_,Zge q hq,by rw[hv,if_neg (by simp)]⟩)⟩
 have h4:=(Zcs hv).2;refine down _ ?_ ?_
 .intro s hs;exact⟨s,Zto _ _ _ _ (by rw[if_neg (by omega)])⟩
 .intro i hi ih s hs;have hm:=okA hv q.Atoms[i] (Yf hi);obtain⟨v,e,hv2⟩:=Zb2y q.Atoms[i].Vars (by omega);have k1:(⟨#[32]⟩:ByteArray).size=1:=rfl;have k2:(⟨#[40]⟩:ByteArray).size=1:=rfl;have k3:(⟨#[41]⟩:ByteArray).size=1:=rfl;by_cases h0:(0:Int)<i
  .obtain⟨t,e2⟩:=ih (((((s++(⟨#[32]⟩:ByteArray))++q.Atoms[i].Name)++(⟨#[40]⟩:ByteArray))++v)++(⟨#[41]⟩:ByteArray)) (by simp only[ByteArray.size_append,k1,k2,k3];omega);refine⟨t,Zto _ _ _ _ ?_⟩;rw[if_pos (by omega)];refine⟨_,Zge q hq,?_⟩;rw[hv,if_pos rfl,if_pos h0,wN i (by omega),k1,k2,k3];exact⟨by omega,by omega,q.Atoms[i],by simp[hi],by omega,by omega,v,e,by omega,by omega,e2⟩
  .obtain⟨t,e2⟩:=ih ((((s++q.Atoms[i].Name)++(⟨#[40]⟩:ByteArray))++v)++(⟨#[41]⟩:ByteArray)) (by simp only[ByteArray.size_append,k2,k3];omega);refine⟨t,Zto _ _ _ _ ?_⟩;rw[if_pos (by omega)];refine⟨_,Zge q hq,?_⟩;rw[hv,if_pos rfl,if_neg h0,wN i (by omega),k2,k3];exact⟨by omega,q.Atoms[i],by simp[hi],by omega,by omega,v,e,by omega,by omega,e2⟩
theorem x_Format(q:Zc)(hq:LeQ q):∃t:ByteArray,Zvy q=some (.t (.str t),[]):=by
 obtain⟨t,e⟩:=l_Format q hq 0 (by omega) ⟨#[]⟩ (by decide);exact⟨t,Zbv4 _ _ e⟩
theorem Zbmf(n:Int):Zk8 n=some (Bo false,[]):=by
 refine Zbvz _ _ ⟨_,Zcu _ _ _,?_⟩;rcases tf (inR n 1 4)with h|h
 .rw[h,if_neg (by simp)]
 .rw[h,if_pos rfl];exact⟨_,Zcu _ _ _,by rw[if_neg (by decide)]⟩
def SmQ(q:Zc):Prop:=q.Atoms.length<=1000000000/\∀a∈q.Atoms,a.Vars.length<=1000000000
theorem SmQ.le{q:Zc}(h:SmQ q):LeQ q:=⟨by have:=h.1;unfold Le;omega,λa ha=>by have:=h.2 a ha;unfold Le;omega⟩
def GQ(R:Rs):Prop:=∃(n:Int) (x:List Atom) (b:Bool),R=some (.tup [.agg [I n,.own 0],Bo b],[.arr Zbbe 2 true (x.map Atom.c)])/\SmQ ⟨n,x⟩
theorem gq0:GQ (some (.tup [.agg [I 0,.own 0],Bo false],[.arr Zbbe 2 true (([]:List Atom).map Atom.c)])):=⟨0,[],false,rfl,by constructor<;>simp⟩
theorem GQ.of{R R':Rs}(h:GQ R')(k:∀r,R'=some r->R=some r):GQ R:=by
 obtain⟨n,x,b,e,l⟩:=h;exact⟨n,x,b,k _ e,l⟩
def AtB(k:Nat)(x:List Atom):Prop:=x.length<=k/\∀a∈x,a.Vars.length<=1000
theorem AtB.le{k:Nat}{x:List Atom}(h:AtB k x)(hk:k<=1000000000)(n:Int):SmQ ⟨n,x⟩:=⟨by show x.length<=_;have:=h.1;omega,λa ha=>by have:=h.2 a ha;show a.Vars.length<=_;omega⟩
theorem AtB.add{k:Nat}{x:List Atom}(h:AtB k x)(s:ByteArray)(vs:List Int)(hv:vs.length<=1000):AtB (k+1) (x++[⟨s,vs⟩]):=by
 refine⟨by have:=h.1;simp;omega,λa ha=>?_⟩;rcases Yh.1 ha with ha|ha
 .exact h.2 a ha
 .simp at ha;subst ha;exact hv
theorem AtB.one(k:Nat)(s:ByteArray)(vs:List Int)(hv:vs.length<=1000):AtB (k+1) [⟨s,vs⟩]:=⟨by simp,λa ha=>by simp at ha;subst ha;exact hv⟩
section
variable(vc:Int)(w1:List ByteArray)(s:ByteArray)
theorem pj4(n i:Int)(b:Bool):GQ (Zq2 vc n w1 s i b):=by
 refine gq0.of λr e=>Zbv5 _ _ _ _ _ _ _ ⟨_,Zbmf n,?_⟩
 rw[if_neg (by simp)];exact e
theorem pj4a(n:Int)(x:List Atom)(hx:SmQ ⟨n,x⟩)(i:Int)(b:Bool):GQ (Zq4 vc n x w1 s i b):=by
 obtain⟨t,e2⟩:=x_Format ⟨n,x⟩ hx.le;rcases tf (Zn n x)with hv|hv
 .refine gq0.of λr e=>Z52 _ _ _ _ _ _ _ _ ⟨_,Zge _ hx.le,?_⟩
  rw[show Zn (⟨n,x⟩:Zc).Zf (⟨n,x⟩:Zc).Atoms=false from hv,if_neg (by simp)];exact e
 .by_cases h:t=s
  .refine⟨n,x,true,Z52 _ _ _ _ _ _ _ _ ⟨_,Zge _ hx.le,?_⟩,hx⟩;rw[show Zn (⟨n,x⟩:Zc).Zf (⟨n,x⟩:Zc).Atoms=true from hv,if_pos rfl];exact⟨t,e2,by rw[if_pos h]⟩
  .refine gq0.of λr e=>Z52 _ _ _ _ _ _ _ _ ⟨_,Zge _ hx.le,?_⟩
   rw[show Zn (⟨n,x⟩:Zc).Zf (⟨n,x⟩:Zc).Atoms=true from hv,if_pos rfl];exact⟨t,e2,by rw[if_neg h];exact e⟩
theorem p0c{i k:Nat}(hi:i<w1.length)(hl:w1.length<=1000000)(hk:k+1<=w1[i].size)(h6:w1[i].size<=6)(x:List Atom)(nm:ByteArray)(H:∀n vs,vs.length<=4*(k+1)->GQ (Zni vc n x w1 nm vs s i ((k+1:Nat):Int))):∀v,v<=4->∀n vs,vs.length<=4*k+v->GQ (Zlb vc n x w1 nm vs s i k v):=by
 refine down _ ?_ ?_
 .intro n vs hvs;refine(H n vs (by omega)).of λr e=>Z54 _ _ _ _ _ _ _ _ _ _ _ ?_
  rw[if_neg (by omega),wN k (by omega)];exact e
 .intro v hv ih n vs hvs;obtain⟨t,e1,_⟩:=Zt9 v;by_cases ht:t=w1[i].extract (k:Int).toNat (w ((k:Int)+1)).toNat
  .refine(ih (if n<(w ((v:Int)+1))then(w ((v:Int)+1))else n) (vs++[(v:Int)]) (by simp;omega)).of λr e=>Z54 _ _ _ _ _ _ _ _ _ _ _ ?_
   rw[if_pos (by omega)];refine⟨t,e1,by omega,w1[i],by simp[hi],by omega,by rw[wN k (by omega)];omega,by rw[wN k (by omega)];omega,by rw[wN k (by omega)];omega,?_⟩;rw[if_pos ht];refine⟨by omega,?_⟩;rw[wN v (by omega)]at e|-;exact e
  .refine(ih n vs (by omega)).of λr e=>Z54 _ _ _ _ _ _ _ _ _ _ _ ?_
   rw[if_pos (by omega)];refine⟨t,e1,by omega,w1[i],by simp[hi],by omega,by rw[wN k (by omega)];omega,by rw[wN k (by omega)];omega,by rw[wN k (by omega)];omega,?_⟩;rw[if_neg ht,wN v (by omega)];exact e
theorem p0b{i k:Nat}(hi:i<w1.length)(hl:w1.length<=1000000)(hk:k+1<=w1[i].size)(h6:w1[i].size<=6)(x:List Atom)(nm:ByteArray)(H:∀n vs,vs.length<=4*(k+1)->GQ (Zni vc n x w1 nm vs s i ((k+1:Nat):Int)))(H0:∀n,GQ (Zng vc n x w1 nm s i ((k+1:Nat):Int))):∀v:Nat,v<=4->∀n,GQ (Zq5 vc n x w1 nm s i k v):=by
 refine down _ ?_ ?_
 .intro n;refine(H0 n).of λr e=>Z53 _ _ _ _ _ _ _ _ _ _ ?_
  rw[if_neg (by omega),wN k (by omega)];exact e
 .intro v hv ih n;obtain⟨t,e1,_⟩:=Zt9 v;by_cases ht:t=w1[i].extract (k:Int).toNat (w ((k:Int)+1)).toNat
  .refine(p0c vc w1 s hi hl hk h6 x nm H (v+1) (by omega) (if n<(w ((v:Int)+1))then(w ((v:Int)+1))else n) [(v:Int)] (by simp;omega)).of λr e=>Z53 _ _ _ _ _ _ _ _ _ _ ?_
   rw[if_pos (by omega)];refine⟨t,e1,by omega,w1[i],by simp[hi],by omega,by rw[wN k (by omega)];omega,by rw[wN k (by omega)];omega,by rw[wN k (by omega)];omega,?_⟩;rw[if_pos ht];rw[wN v (by omega)]at e|-;exact e
  .refine(ih n).of λr e=>Z53 _ _ _ _ _ _ _ _ _ _ ?_
   rw[if_pos (by omega)];refine⟨t,e1,by omega,w1[i],by simp[hi],by omega,by rw[wN k (by omega)];omega,by rw[wN k (by omega)];omega,by rw[wN k (by omega)];omega,?_⟩;rw[if_neg ht,wN v (by omega)];exact e
theorem p1c{i:Nat}(hi:i<w1.length)(hl:w1.length<=1000000)(h4:4<=w1[i].size)(h6:w1[i].size<=6)(x:List Atom)(hx:AtB i x)(nm:ByteArray)(H:∀n x',AtB (i+1) x'->GQ (Zgt vc n x' w1 s ((i+1:Nat):Int))):∀k,k<=w1[i].size-1->∀n vs,vs.length<=4*k->GQ (Zni vc n x w1 nm vs s i k):=by
 refine down _ ?_ ?_
 .intro n vs hvs;refine(H n (x++[(⟨nm,vs⟩:Atom)]) (hx.add nm vs (by omega))).of λr e=>Zbh7 _ _ _ _ _ _ _ _ _ _ ⟨by omega,w1[i],by simp[hi],?_⟩
  rw[w_id (by omega) (by omega),if_neg (by omega),wN i (by omega)];refine⟨by have:=hx.1;omega,?_⟩;exact e
 .intro k hk ih n vs hvs;refine(p0c vc w1 s hi hl (by omega) h6 x nm ih 0 (by omega) n vs (by omega)).of λr e=>Zbh7 _ _ _ _ _ _ _ _ _ _ ⟨by omega,w1[i],by simp[hi],?_⟩
  rw[w_id (by omega) (by omega),if_pos (by omega)];exact e
theorem p1a{i:Nat}(hi:i<w1.length)(hl:w1.length<=1000000)(h4:4<=w1[i].size)(h6:w1[i].size<=6)(x:List Atom)(hx:AtB i x)(nm:ByteArray)(H:∀n x',AtB (i+1) x'->GQ (Zgt vc n x' w1 s ((i+1:Nat):Int))):∀k,k<=w1[i].size-1->∀n,GQ (Zng vc n x w1 nm s i k):=by
 refine down _ ?_ ?_
 .intro n;refine(H n (x++[(⟨nm,[]⟩:Atom)]) (hx.add nm [] (by simp))).of λr e=>Zbh5 _ _ _ _ _ _ _ _ _ ⟨by omega,w1[i],by simp[hi],?_⟩
  rw[w_id (by omega) (by omega),if_neg (by omega),wN i (by omega)];refine⟨by have:=hx.1;omega,?_⟩;exact e
 .intro k hk ih n;refine(p0b vc w1 s hi hl (by omega) h6 x nm (p1c vc w1 s hi hl h4 h6 x hx nm H (k+1) (by omega)) ih 0 (by omega) n).of λr e=>Zbh5 _ _ _ _ _ _ _ _ _ ⟨by omega,w1[i],by simp[hi],?_⟩
  rw[w_id (by omega) (by omega),if_pos (by omega)];exact e
theorem p0a{i k:Nat}(hi:i<w1.length)(hl:w1.length<=1000000)(hk:k+1<=w1[i].size)(h6:w1[i].size<=6)(nm:ByteArray)(H:∀n vs,vs.length<=4*(k+1)->GQ (Znh vc n w1 nm vs s i ((k+1:Nat):Int))):∀v,v<=4->∀n vs,vs.length<=4*k+v->GQ (Zla vc n w1 nm vs s i k v):=by
 refine down _ ?_ ?_
 .intro n vs hvs;refine(H n vs (by omega)).of λr e=>Z51 _ _ _ _ _ _ _ _ _ _ ?_
  rw[if_neg (by omega),wN k (by omega)];exact e
 .intro v hv ih n vs hvs;obtain⟨t,e1,_⟩:=Zt9 v;by_cases ht:t=w1[i].extract (k:Int).toNat (w ((k:Int)+1)).toNat
  .refine(ih (if n<(w ((v:Int)+1))then(w ((v:Int)+1))else n) (vs++[(v:Int)]) (by simp;omega)).of λr e=>Z51 _ _ _ _ _ _ _ _ _ _ ?_
   rw[if_pos (by omega)];refine⟨t,e1,by omega,w1[i],by simp[hi],by omega,by rw[wN k (by omega)];omega,by rw[wN k (by omega)];omega,by rw[wN k (by omega)];omega,?_⟩;rw[if_pos ht];refine⟨by omega,?_⟩;rw[wN v (by omega)]at e|-;exact e
  .refine(ih n vs (by omega)).of λr e=>Z51 _ _ _ _ _ _ _ _ _ _ ?_
   rw[if_pos (by omega)];refine⟨t,e1,by omega,w1[i],by simp[hi],by omega,by rw[wN k (by omega)];omega,by rw[wN k (by omega)];omega,by rw[wN k (by omega)];omega,?_⟩;rw[if_neg ht,wN v (by omega)];exact e
theorem p0{i k:Nat}(hi:i<w1.length)(hl:w1.length<=1000000)(hk:k+1<=w1[i].size)(h6:w1[i].size<=6)(nm:ByteArray)(H:∀n vs,vs.length<=4*(k+1)->GQ (Znh vc n w1 nm vs s i ((k+1:Nat):Int)))(H0:∀n,GQ (Znf vc n w1 nm s i ((k+1:Nat):Int))):∀v:Nat,v<=4->∀n,GQ (Zq3 vc n w1 nm s i k v):=by
 refine down _ ?_ ?_
 .intro n;refine(H0 n).of λr e=>Z50 _ _ _ _ _ _ _ _ _ ?_
  rw[if_neg (by omega),wN k (by omega)];exact e
 .intro v hv ih n;obtain⟨t,e1,_⟩:=Zt9 v;by_cases ht:t=w1[i].extract (k:Int).toNat (w ((k:Int)+1)).toNat
  .refine(p0a vc w1 s hi hl hk h6 nm H (v+1) (by omega) (if n<(w ((v:Int)+1))then(w ((v:Int)+1))else n) [(v:Int)] (by simp;omega)).of λr e=>Z50 _ _ _ _ _ _ _ _ _ ?_
   rw[if_pos (by omega)];refine⟨t,e1,by omega,w1[i],by simp[hi],by omega,by rw[wN k (by omega)];omega,by rw[wN k (by omega)];omega,by rw[wN k (by omega)];omega,?_⟩;rw[if_pos ht];rw[wN v (by omega)]at e|-;exact e
  .refine(ih n).of λr e=>Z50 _ _ _ _ _ _ _ _ _ ?_
   rw[if_pos (by omega)];refine⟨t,e1,by omega,w1[i],by simp[hi],by omega,by rw[wN k (by omega)];omega,by rw[wN k (by omega)];omega,by rw[wN k (by omega)];omega,?_⟩;rw[if_neg ht,wN v (by omega)];exact e
theorem p1b{i:Nat}(hi:i<w1.length)(hl:w1.length<=1000000)(h4:4<=w1[i].size)(h6:w1[i].size<=6)(nm:ByteArray)(H:∀n x',AtB (i+1) x'->GQ (Zgt vc n x' w1 s ((i+1:Nat):Int))):∀k,k<=w1[i].size-1->∀n vs,vs.length<=4*k->GQ (Znh vc n w1 nm vs s i k):=by
 refine down _ ?_ ?_
 .intro n vs hvs;refine(H n [(⟨nm,vs⟩:Atom)] (AtB.one i nm vs (by omega))).of λr e=>Zbh6 _ _ _ _ _ _ _ _ _ ⟨by omega,w1[i],by simp[hi],?_⟩
  rw[w_id (by omega) (by omega),if_neg (by omega),wN i (by omega)];exact e
 .intro k hk ih n vs hvs;refine(p0a vc w1 s hi hl (by omega) h6 nm ih 0 (by omega) n vs (by omega)).of λr e=>Zbh6 _ _ _ _ _ _ _ _ _ ⟨by omega,w1[i],by simp[hi],?_⟩
  rw[w_id (by omega) (by omega),if_pos (by omega)];exact e
theorem p1{i:Nat}(hi:i<w1.length)(hl:w1.length<=1000000)(h4:4<=w1[i].size)(h6:w1[i].size<=6)(nm:ByteArray)(H:∀n x',AtB (i+1) x'->GQ (Zgt vc n x' w1 s ((i+1:Nat):Int))):∀k,k<=w1[i].size-1->∀n,GQ (Znf vc n w1 nm s i k):=by
 refine down _ ?_ ?_
 .intro n;refine(H n [(⟨nm,[]⟩:Atom)] (AtB.one i nm [] (by simp))).of λr e=>Zbh4 _ _ _ _ _ _ _ _ ⟨by omega,w1[i],by simp[hi],?_⟩
  rw[w_id (by omega) (by omega),if_neg (by omega),wN i (by omega)];exact e
 .intro k hk ih n;refine(p0 vc w1 s hi hl (by omega) h6 nm (p1b vc w1 s hi hl h4 h6 nm H (k+1) (by omega)) ih 0 (by omega) n).of λr e=>Zbh4 _ _ _ _ _ _ _ _ ⟨by omega,w1[i],by simp[hi],?_⟩
  rw[w_id (by omega) (by omega),if_pos (by omega)];exact e
theorem p2a(hl:w1.length<=1000000):∀i,i<=w1.length->∀n x,AtB i x->GQ (Zgt vc n x w1 s i):=by
 refine down _ ?_ ?_
 .intro n x hx;refine(pj4a vc w1 s n x (hx.le (by omega) n) (w1.length:Int) false).of λr e=>Ztp _ _ _ _ _ _ _ ?_
  rw[if_neg (by omega)];exact e
 .intro i hi ih n x hx;by_cases h4:(i:Int)<=4
  .by_cases h1:(w1[i].size:Int)<4
   .refine gq0.of λr e=>Ztp _ _ _ _ _ _ _ ?_
    rw[if_pos (by omega),if_pos h4];exact⟨by omega,w1[i],by simp[hi],by rw[if_pos h1];exact e⟩
   by_cases h6:(6:Int)<(w1[i].size:Int)
   .refine gq0.of λr e=>Ztp _ _ _ _ _ _ _ ?_
    rw[if_pos (by omega),if_pos h4];exact⟨by omega,w1[i],by simp[hi],by rw[if_neg h1,if_pos h6];exact e⟩
   refine(p1a vc w1 s hi hl (by omega) (by omega) x hx (w1[i].extract 0 1) ih 2 (by omega) n).of λr e=>Ztp _ _ _ _ _ _ _ ?_
   rw[if_pos (by omega),if_pos h4];exact⟨by omega,w1[i],by simp[hi],by rw[if_neg h1,if_neg h6];exact⟨by omega,by omega,e⟩⟩
  .refine(pj4a vc w1 s n x (hx.le (by omega) n) (i:Int) false).of λr e=>Ztp _ _ _ _ _ _ _ ?_
   rw[if_pos (by omega),if_neg h4];exact e
theorem p2(hl:w1.length<=1000000)(n:Int):GQ (Zvz vc n w1 s 0):=by
 by_cases h0:0<w1.length
 .by_cases h1:(w1[0].size:Int)<4
  .refine gq0.of λr e=>Zyf _ _ _ _ _ _ ?_
   rw[if_pos (by omega),if_pos (by omega)];exact⟨by omega,w1[0],by simp[h0],by rw[if_pos h1];exact e⟩
  by_cases h6:(6:Int)<(w1[0].size:Int)
  .refine gq0.of λr e=>Zyf _ _ _ _ _ _ ?_
   rw[if_pos (by omega),if_pos (by omega)];exact⟨by omega,w1[0],by simp[h0],by rw[if_neg h1,if_pos h6];exact e⟩
  refine(p1 vc w1 s (i:=0) h0 hl (by omega) (by omega) (w1[0].extract 0 1) (p2a vc w1 s hl 1 h0) 2 (by omega) n).of λr e=>Zyf _ _ _ _ _ _ ?_
  rw[if_pos (by omega),if_pos (by omega)];exact⟨by omega,w1[0],by simp[h0],by rw[if_neg h1,if_neg h6];exact⟨by omega,by omega,e⟩⟩
 .refine(pj4 vc w1 s n 0 false).of λr e=>Zyf _ _ _ _ _ _ ?_
  rw[if_neg (by omega)];exact e
end
theorem Z65(s:ByteArray)(hs:s.size<=100000):GQ (Zk9 s):=by
 obtain⟨l,e,hl⟩:=x_l4Cut s 32 (by omega);exact(p2 0 l s (by omega) 0).of λr e2=>Zbv6 _ _ ⟨l,e,e2⟩
def GW(R:Rs):Prop:=∃(c:Zg) (q:Zc),R=some (.agg (q.c.map .t),[cB c])/\GC c/\SmQ q
theorem GW.of{R R':Rs}(h:GW R')(k:∀r,R'=some r->R=some r):GW R:=by
 obtain⟨n,x,e,l⟩:=h;exact⟨n,x,k _ e,l⟩
section
variable(vc v1:Int)(x:List Atom)
theorem q0c(b:Nat)(hb:b<=1000)(x1:List Atom)(hx:AtB b x1)(n:Nat)(hn:n<=100)(m:Nat)(hm:m<=3)(H:∀c n2 x',GC c->AtB (b+1) x'->GW (Zf3 c vc v1 x n2 x' n))(nm:ByteArray):∀i,i<=m->∀c n2 vs v,GC c->vs.length<=i->GW (Zra c vc v1 x n2 x1 nm vs ((n+1:Nat):Int) m v i):=by
 refine down _ ?_ ?_
 .intro c n2 vs v g hvs;refine(H c n2 (x1++[(⟨nm,vs⟩:Atom)]) g (hx.add nm vs (by omega))).of λr e=>Zbic _ _ _ _ _ _ _ _ _ _ _ _ _ ?_
  rw[if_neg (by omega),show w (((n+1:Nat):Int)-1)=(n:Int) by rw[w_id (by omega) (by omega)];omega];refine⟨by have:=hx.1;omega,?_⟩;exact e
 .intro i hi ih c n2 vs v g hvs;refine(ih c (if n2<(w (v+1))then(w (v+1))else n2) (vs++[v]) (Int.tmod (w (v+1)) 4) g (by simp;omega)).of λr e=>Zbic _ _ _ _ _ _ _ _ _ _ _ _ _ ?_
  rw[if_pos (by omega),wN i (by omega)];exact⟨by omega,e⟩
theorem q0b(b:Nat)(hb:b<=1000)(x1:List Atom)(hx:AtB b x1)(n:Nat)(hn:n<=100)(m:Nat)(hm:m<=3)(H:∀c n2 x',GC c->AtB (b+1) x'->GW (Zf3 c vc v1 x n2 x' n))(nm:ByteArray)(c:Zg)(n2 v:Int)(g:GC c):GW (Zq9 c vc v1 x n2 x1 nm ((n+1:Nat):Int) m v 0):=by
 by_cases h:0<m
 .refine(q0c vc v1 x b hb x1 hx n hn m hm H nm 1 h c (if n2<(w (v+1))then(w (v+1))else n2) [v] (Int.tmod (w (v+1)) 4) g (by simp)).of λr e=>Zbib _ _ _ _ _ _ _ _ _ _ _ _ ?_
  rw[if_pos (by omega),show w ((0:Int)+1)=((1:Nat):Int)from by decide];exact e
 .refine(H c n2 (x1++[(⟨nm,[]⟩:Atom)]) g (hx.add nm [] (by simp))).of λr e=>Zbib _ _ _ _ _ _ _ _ _ _ _ _ ?_
  rw[if_neg (by omega),show w (((n+1:Nat):Int)-1)=(n:Int) by rw[w_id (by omega) (by omega)];omega];refine⟨by have:=hx.1;omega,?_⟩;exact e
theorem q0a(b:Nat)(hb:b<=1000)(n:Nat)(hn:n<=100)(m:Nat)(hm:m<=3)(H:∀c n2 x',GC c->AtB (b+1) x'->GW (Zf3 c vc v1 x n2 x' n))(nm:ByteArray):∀i,i<=m->∀c n2 vs v,GC c->vs.length<=i->GW (Zq8 c vc v1 x n2 nm vs ((n+1:Nat):Int) m v i):=by
 refine down _ ?_ ?_
 .intro c n2 vs v g hvs;refine(H c n2 [(⟨nm,vs⟩:Atom)] g (AtB.one b nm vs (by omega))).of λr e=>Zbia _ _ _ _ _ _ _ _ _ _ _ _ ?_
  rw[if_neg (by omega),show w (((n+1:Nat):Int)-1)=(n:Int) by rw[w_id (by omega) (by omega)];omega];exact e
 .intro i hi ih c n2 vs v g hvs;refine(ih c (if n2<(w (v+1))then(w (v+1))else n2) (vs++[v]) (Int.tmod (w (v+1)) 4) g (by simp;omega)).of λr e=>Zbia _ _ _ _ _ _ _ _ _ _ _ _ ?_
  rw[if_pos (by omega),wN i (by omega)];exact⟨by omega,e⟩
theorem q0(b:Nat)(hb:b<=1000)(n:Nat)(hn:n<=100)(m:Nat)(hm:m<=3)(H:∀c n2 x',GC c->AtB (b+1) x'->GW (Zf3 c vc v1 x n2 x' n))(nm:ByteArray)(c:Zg)(n2 v:Int)(g:GC c):GW (Zq7 c vc v1 x n2 nm ((n+1:Nat):Int) m v 0):=by
 by_cases h:0<m
 .refine(q0a vc v1 x b hb n hn m hm H nm 1 h c (if n2<(w (v+1))then(w (v+1))else n2) [v] (Int.tmod (w (v+1)) 4) g (by simp)).of λr e=>Zbh9 _ _ _ _ _ _ _ _ _ _ _ ?_
  rw[if_pos (by omega),show w ((0:Int)+1)=((1:Nat):Int)from by decide];exact e
 .refine(H c n2 [(⟨nm,[]⟩:Atom)] g (AtB.one b nm [] (by simp))).of λr e=>Zbh9 _ _ _ _ _ _ _ _ _ _ _ ?_
  rw[if_neg (by omega),show w (((n+1:Nat):Int)-1)=(n:Int) by rw[w_id (by omega) (by omega)];omega];exact e
theorem tab5{n:Int}(h0:0<=n)(h1:n<5):(∃e2,([(⟨#[114]⟩:ByteArray),(⟨#[115]⟩:ByteArray),(⟨#[116]⟩:ByteArray),(⟨#[117]⟩:ByteArray),(⟨#[118]⟩:ByteArray)])[n.toNat]?=some e2)/\∃m:Nat,([2,2,2,3,1]:List Int)[n.toNat]?=some (m:Int)/\m<=3:=by
 obtain⟨k,rfl⟩:∃k:Nat,n=k:=⟨n.toNat,by omega⟩;have hk:k=0\/k=1\/k=2\/k=3\/k=4:=by omega
 rcases hk with rfl|rfl|rfl|rfl|rfl
 .exact⟨⟨_,rfl⟩,2,rfl,by omega⟩
 .exact⟨⟨_,rfl⟩,2,rfl,by omega⟩
 .exact⟨⟨_,rfl⟩,2,rfl,by omega⟩
 .exact⟨⟨_,rfl⟩,3,rfl,by omega⟩
 .exact⟨⟨_,rfl⟩,1,rfl,by omega⟩
theorem q1a(hx:SmQ ⟨v1,x⟩):∀n,n<=100->∀c n2 x1,GC c->AtB (100-n) x1->GW (Zf3 c vc v1 x n2 x1 n):=by
 intro n
 induction n with
 |zero =>
  intro _ c n2 x1 g hx1;have hq:=hx1.le (by omega) n2;rcases tf (Zn n2 x1)with hv|hv
  .refine⟨c,⟨v1,x⟩,Z57 ?_,g,hx⟩;rw[if_neg (by omega)];exact⟨_,Zge _ hq.le,by rw[show Zn (⟨n2,x1⟩:Zc).Zf (⟨n2,x1⟩:Zc).Atoms=false from hv,if_neg (by simp)];rfl⟩
  .refine⟨c,⟨n2,x1⟩,Z57 ?_,g,hq⟩;rw[if_neg (by omega)]
   exact⟨_,Zge _ hq.le,by rw[show Zn (⟨n2,x1⟩:Zc).Zf (⟨n2,x1⟩:Zc).Atoms=true from hv,if_pos rfl];rfl⟩
 |succ n ih =>
  intro hn c n2 x1 g hx1;obtain⟨c1,k,e1,g1,k0,k1⟩:=Zbu g 5;obtain⟨⟨nm,t1⟩,m,t2,hm⟩:=tab5 k0 (k1 (by omega));obtain⟨c2,v,e2,g2,_⟩:=Zbu g1 4;refine(q0b vc v1 x (100-(n+1)) (by omega) x1 hx1 n (by omega) m hm (λc n2 x' g hx'=>ih (by omega) c n2 x' g (by rw[show 100-n=100-(n+1)+1 by omega];exact hx')) nm c2 n2 v g2).of λr e=>Z57 ?_
  rw[if_pos (by omega)];exact⟨c1,k,e1,k0,nm,t1,m,t2,c2,v,e2,e⟩
theorem q1(hx:SmQ ⟨v1,x⟩)(n:Nat)(hn:n<=99)(c:Zg)(n2:Int)(g:GC c):GW (Zq6 c vc v1 x n2 n):=by
 cases n with
 |zero =>
  refine⟨c,⟨v1,x⟩,Zbh8 ?_,g,hx⟩;rw[if_neg (by omega)]
  exact⟨_,Zbmf n2,by rw[if_neg (by simp)];rfl⟩
 |succ n =>
  obtain⟨c1,k,e1,g1,k0,k1⟩:=Zbu g 5;obtain⟨⟨nm,t1⟩,m,t2,hm⟩:=tab5 k0 (k1 (by omega));obtain⟨c2,v,e2,g2,_⟩:=Zbu g1 4;refine(q0 vc v1 x (99-n) (by omega) n (by omega) m hm (λc n2 x' g hx'=>q1a vc v1 x hx n (by omega) c n2 x' g (by rw[show 100-n=99-n+1 by omega];exact hx')) nm c2 n2 v g2).of λr e=>Zbh8 ?_
  rw[if_pos (by omega)];exact⟨c1,k,e1,k0,nm,t1,m,t2,c2,v,e2,e⟩
end
theorem Zb2z{c:Zg}(g:GC c):GW (Zv0 c):=by
 obtain⟨c1,s,e1,g1,hs⟩:=x_l1Pick g [(⟨#[114,40,88,89,41]⟩:ByteArray),(⟨#[114,40,88,89,41,32,115,40,89,90,41]⟩:ByteArray),(⟨#[114,40,88,89,41,32,115,40,89,90,41,32,116,40,90,85,41]⟩:ByteArray),(⟨#[114,40,88,89,41,32,115,40,89,90,41,32,116,40,90,88,41]⟩:ByteArray),(⟨#[114,40,88,89,41,32,115,40,88,90,41,32,116,40,88,85,41]⟩:ByteArray),(⟨#[114,40,88,89,41,32,115,40,89,90,41,32,118,40,89,41]⟩:ByteArray),(⟨#[117,40,88,89,90,41,32,115,40,90,85,41]⟩:ByteArray),(⟨#[117,40,88,89,90,41,32,114,40,88,89,41,32,118,40,90,41]⟩:ByteArray),(⟨#[114,40,88,89,41,32,115,40,89,90,41,32,116,40,90,85,41,32,118,40,88,41]⟩:ByteArray),(⟨#[114,40,88,89,41,32,114,40,89,90,41]⟩:ByteArray),(⟨#[114,40,88,89,41,32,115,40,89,88,41]⟩:ByteArray),(⟨#[118,40,88,41,32,114,40,88,89,41,32,115,40,89,90,41,32,116,40,90,85,41]⟩:ByteArray),(⟨#[114,40,88,89,41,32,115,40,89,90,41,32,116,40,90,85,41,32,115,40,85,88,41]⟩:ByteArray)] (by simp) (by simp);have hz:s.size<=100000:=by
  simp only[Y8,List.not_mem_nil,or_false]at hs;rcases hs with h|h|h|h|h|h|h|h|h|h|h|h|h<;>(rw[h];decide)
 obtain⟨n,x,b,e2,hx⟩:=Z65 s hz;obtain⟨c3,b3,e3,g3⟩:=Zi2 g1 4;rcases tf b3 with hb|hb
 .subst hb;exact⟨c3,⟨n,x⟩,Zbid _ _ ⟨c1,_,s,e1,x,n,b,e2,c3,false,e3,by rw[if_neg (by simp)];rfl⟩,g3,hx⟩
 .subst hb;obtain⟨c4,k,e4,g4,k0,k1⟩:=Zbu g3 4;have k4:=k1 (by omega);refine(q1 0 n x hx (1+k).toNat (by omega) c4 0 g4).of λr e=>Zbid _ _ ⟨c1,_,s,e1,x,n,b,e2,c3,true,e3,?_⟩
  rw[if_pos rfl];refine⟨c4,k,e4,?_⟩;rw[show w (1+k)=(((1+k).toNat:Nat):Int) by rw[w_id (by omega) (by omega)];omega];exact e
theorem Zb20{c:Zg}(g:GC c):GW (Zv2 c):=by
 obtain⟨c1,q,e1,g1,hq⟩:=Zb2z g;by_cases h3:3<(q.Atoms.length:Int)
 .obtain⟨c2,b,e2,g2⟩:=Zi2 g1 8;rcases tf b with hb|hb
  .subst hb;obtain⟨c3,s,e3,g3,hs⟩:=Zb2v g2 [(⟨#[114,40,88,89,41,32,115,40,89,90,41]⟩:ByteArray),(⟨#[114,40,88,89,41,32,115,40,89,90,41,32,116,40,90,88,41]⟩:ByteArray),(⟨#[114,40,88,89,41,32,115,40,89,90,41,32,118,40,89,41]⟩:ByteArray),(⟨#[114,40,88,89,41,32,114,40,89,90,41]⟩:ByteArray)] (by simp) (by simp);have hz:s.size<=100000:=by
    simp only[Y8,List.not_mem_nil,or_false]at hs;rcases hs with h|h|h|h<;>(rw[h];decide)
   obtain⟨n,x,b,e4,hx⟩:=Z65 s hz;exact⟨c3,⟨n,x⟩,Z55 _ _ ⟨c1,q,e1,by rw[if_pos h3];exact⟨c2,false,e2,by rw[if_neg (by simp)];exact⟨c3,s,e3,x,n,b,e4,rfl⟩⟩⟩,g3,hx⟩
  .subst hb;exact⟨c2,q,Z55 _ _ ⟨c1,q,e1,by rw[if_pos h3];exact⟨c2,true,e2,by rw[if_pos rfl]⟩⟩,g2,hq⟩
 .exact⟨c1,q,Z55 _ _ ⟨c1,q,e1,by rw[if_neg h3]⟩,g1,hq⟩
theorem Zb21{c:Zg}(g:GC c):GW (Zie c):=by
 obtain⟨c1,q,e1,g1,hq⟩:=Zb20 g;rcases tf (Zcc q.Zf q.Atoms (Zx q.Zf q.Atoms))with hc|hc
 .obtain⟨n,x,b,e4,hx⟩:=Z65 (⟨#[114,40,88,89,41,32,115,40,89,90,41]⟩:ByteArray) (by decide);exact⟨c1,⟨n,x⟩,Zbih _ _ ⟨c1,q,e1,_,Zc1 q hq.le,_,Zkh q hq.le _,by rw[hc,if_neg (by simp)];exact⟨x,n,b,e4,rfl⟩⟩,g1,hx⟩
 .exact⟨c1,q,Zbih _ _ ⟨c1,q,e1,_,Zc1 q hq.le,_,Zkh q hq.le _,by rw[hc,if_pos rfl]⟩,g1,hq⟩
abbrev B4:=Bool×Bool×Bool×Bool
structure Ed where
 a:Bool
 b:Bool
 c:Bool
 d:Bool
 e:Bool
 f:Bool
def nearB(g:Ed)(x:B4):B4:=match x with
 |(x0,x1,x2,x3)=>(!x0 && ((x1 && g.a) || (x2 && g.b) || (x3 && g.c)),!x1 && ((x0 && g.a) || (x2 && g.d) || (x3 && g.e)),!x2 && ((x0 && g.b) || (x1 && g.d) || (x3 && g.f)),!x3 && ((x0 && g.c) || (x1 && g.e) || (x2 && g.f)))
def orB(x y:B4):B4:=match x,y with
 |(x0,x1,x2,x3),(y0,y1,y2,y3)=>(x0 || y0,x1 || y1,x2 || y2,x3 || y3)
def andB(x y:B4):B4:=match x,y with
 |(x0,x1,x2,x3),(y0,y1,y2,y3)=>(x0 && y0,x1 && y1,x2 && y2,x3 && y3)
def subB(x y:B4):B4:=match x,y with
 |(x0,x1,x2,x3),(y0,y1,y2,y3)=>(x0 && !y0,x1 && !y1,x2 && !y2,x3 && !y3)
def stepB(g:Ed)(p x:B4):B4:=orB x (andB (nearB g x) p)
def iterB(g:Ed)(p:B4):Nat->B4->B4
 |0,x=>x
 |n+1,x=>iterB g p n (stepB g p x)
def lowB:B4->B4
 |(p0,p1,p2,p3)=>(p0,!p0 && p1,!p0 && !p1 && p2,!p0 && !p1 && !p2 && p3)
def Zc9(g:Ed)(n:Nat)(p:B4):Bool:=iterB g p n (lowB p) == p
def edgeB(g:Ed)(x y:B4):Bool:=match x,y with
 |(x0,x1,x2,x3),(y0,y1,y2,y3)=>(x0 && ((y1 && g.a) || (y2 && g.b) || (y3 && g.c))) || (x1 && ((y0 && g.a) || (y2 && g.d) || (y3 && g.e))) || (x2 && ((y0 && g.b) || (y1 && g.d) || (y3 && g.f))) || (x3 && ((y0 && g.c) || (y1 && g.e) || (y2 && g.f)))
def toI(x:B4):Int:=match x with|(a,b,c,d)=>bit4 a b c d
def inN(n:Nat)(p:B4):Bool:=match p with|(p0,p1,p2,p3)=>(decide (1<=n) || !p0) && (decide (2<=n) || !p1) && (decide (3<=n) || !p2) && (decide (4<=n) || !p3)
def oneB(p:B4):Bool:=p == (true,false,false,false) || p == (false,true,false,false) || p == (false,false,true,false) || p == (false,false,false,true)
def okF1(g:Ed)(n:Nat)(p:B4):Bool:=!inN n p || !Zc9 g n p || oneB p || p == (false,false,false,false) ||
 (andB p (true,false,false,false) != (false,false,false,false) && Zc9 g n (subB p (true,false,false,false))) || (andB p (false,true,false,false) != (false,false,false,false) && Zc9 g n (subB p (false,true,false,false))) ||
 (andB p (false,false,true,false) != (false,false,false,false) && Zc9 g n (subB p (false,false,true,false))) || (andB p (false,false,false,true) != (false,false,false,false) && Zc9 g n (subB p (false,false,false,true)))
def okF2(g:Ed)(n:Nat)(p x:B4):Bool:=andB x p != x || x == (false,false,false,false) || x == p || edgeB g x (subB p x) || !inN n p || !Zc9 g n p
set_option maxRecDepth 100000 in
theorem f1:∀a b c d e f:Bool,∀p0 p1 p2 p3:Bool,okF1 ⟨a,b,c,d,e,f⟩ 1 (p0,p1,p2,p3)=true/\okF1 ⟨a,b,c,d,e,f⟩ 2 (p0,p1,p2,p3)=true/\okF1 ⟨a,b,c,d,e,f⟩ 3 (p0,p1,p2,p3)=true/\okF1 ⟨a,b,c,d,e,f⟩ 4 (p0,p1,p2,p3)=true:=by decide +kernel
set_option maxRecDepth 100000 in
theorem f2:∀a b c d e f:Bool,∀p0 p1 p2 p3 x0 x1 x2 x3:Bool,okF2 ⟨a,b,c,d,e,f⟩ 1 (p0,p1,p2,p3) (x0,x1,x2,x3)=true/\okF2 ⟨a,b,c,d,e,f⟩ 2 (p0,p1,p2,p3) (x0,x1,x2,x3)=true/\okF2 ⟨a,b,c,d,e,f⟩ 3 (p0,p1,p2,p3) (x0,x1,x2,x3)=true/\okF2 ⟨a,b,c,d,e,f⟩ 4 (p0,p1,p2,p3) (x0,x1,x2,x3)=true:=by decide +kernel
def ofI(m:Int):B4:=(Z1 m 0,Z1 m 1,Z1 m 2,Z1 m 3)
set_option maxRecDepth 100000 in
theorem to_of:∀a:Fin 16,toI (ofI (a.1:Int))=(a.1:Int):=by decide
theorem Z66{m:Int}(h:M16 m):toI (ofI m)=m:=by obtain⟨a,rfl⟩:=m16 h;exact to_of a
theorem of_to:∀a b c d:Bool,ofI (bit4 a b c d)=(a,b,c,d)/\M16 (bit4 a b c d):=by decide
theorem Zua(x:B4):ofI (toI x)=x:=(of_to x.1 x.2.1 x.2.2.1 x.2.2.2).1
theorem toI_16(x:B4):M16 (toI x):=(of_to x.1 x.2.1 x.2.2.1 x.2.2.2).2
theorem Z67{x y:B4}(h:toI x=toI y):x=y:=by rw[<-Zua x,h,Zua]
set_option maxRecDepth 100000 in
theorem Zbmg:∀a b c d e f g h:Bool,orI (bit4 a b c d) (bit4 e f g h)=bit4 (a || e) (b || f) (c || g) (d || h)/\andI (bit4 a b c d) (bit4 e f g h)=bit4 (a && e) (b && f) (c && g) (d && h):=by decide
theorem toI_or(x y:B4):orI (toI x) (toI y)=toI (orB x y):=(Zbmg x.1 x.2.1 x.2.2.1 x.2.2.2 y.1 y.2.1 y.2.2.1 y.2.2.2).1
theorem Zy5(x y:B4):andI (toI x) (toI y)=toI (andB x y):=(Zbmg x.1 x.2.1 x.2.2.1 x.2.2.2 y.1 y.2.1 y.2.2.1 y.2.2.2).2
theorem bit_low:∀a b c d:Bool,andI (bit4 a b c d) (w (0-bit4 a b c d))=toI (lowB (a,b,c,d)):=by decide
theorem bit_sub:∀a b c d e f g h:Bool,andB (e,f,g,h) (a,b,c,d)=(e,f,g,h)->bit4 a b c d-bit4 e f g h=toI (subB (a,b,c,d) (e,f,g,h)):=by decide
theorem Zbmh{x y:B4}(h:andB y x=y):toI x-toI y=toI (subB x y):=bit_sub x.1 x.2.1 x.2.2.1 x.2.2.2 y.1 y.2.1 y.2.2.1 y.2.2.2 h
theorem shl4:∀i j:Fin 4,Z1 (shlI 1 i.1) j.1=decide (i=j):=by decide
theorem pV_any(qa:List Atom)(h4:qa.length<=4)(m:Int)(u:Nat):pV m qa u=((Z1 m 0 && pV (shlI 1 (0:Nat)) qa u) || (Z1 m 1 && pV (shlI 1 (1:Nat)) qa u) || (Z1 m 2 && pV (shlI 1 (2:Nat)) qa u) || (Z1 m 3 && pV (shlI 1 (3:Nat)) qa u)):=by
 have s:∀i j:Nat,i<4->j<4->Z1 (shlI 1 (i:Nat)) j=decide (i=j):=λi j hi hj=>by
  have:=shl4 ⟨i,hi⟩ ⟨j,hj⟩;simpa[Fin.ext_iff]using this
 have s00:=s 0 0 (by omega) (by omega);have s01:=s 0 1 (by omega) (by omega);have s02:=s 0 2 (by omega) (by omega);have s03:=s 0 3 (by omega) (by omega);have s10:=s 1 0 (by omega) (by omega);have s11:=s 1 1 (by omega) (by omega);have s12:=s 1 2 (by omega) (by omega);have s13:=s 1 3 (by omega) (by omega);have s20:=s 2 0 (by omega) (by omega);have s21:=s 2 1 (by omega) (by omega);have s22:=s 2 2 (by omega) (by omega);have s23:=s 2 3 (by omega) (by omega);have s30:=s 3 0 (by omega) (by omega);have s31:=s 3 1 (by omega) (by omega);have s32:=s 3 2 (by omega) (by omega);have s33:=s 3 3 (by omega) (by omega);simp only[Nat.reduceEqDiff,decide_true,decide_false]at s00 s01 s02 s03 s10 s11 s12 s13 s20 s21 s22 s23 s30 s31 s32 s33
 match qa,h4 with
 |[],_=>simp[pV,hasV]
 |[a],_=>simp only[pV,hasV,s00,s10,s20,s30];cases Z1 m 0<;>cases Z1 m 1<;>cases Z1 m 2<;>cases Z1 m 3<;>simp
 |[a,b],_=>simp only[pV,hasV,s00,s10,s20,s30,s01,s11,s21,s31,Yp];cases Z1 m 0<;>cases Z1 m 1<;>cases Z1 m 2<;>cases Z1 m 3<;>simp
 |[a,b,c],_=>simp only[pV,hasV,s00,s10,s20,s30,s01,s11,s21,s31,s02,s12,s22,s32,Yp,Nat.reduceAdd];cases Z1 m 0<;>cases Z1 m 1<;>cases Z1 m 2<;>cases Z1 m 3<;>simp[Bool.or_assoc]
 |[a,b,c,d],_=>simp only[pV,hasV,s00,s10,s20,s30,s01,s11,s21,s31,s02,s12,s22,s32,s03,s13,s23,s33,Yp,Nat.reduceAdd];cases Z1 m 0<;>cases Z1 m 1<;>cases Z1 m 2<;>cases Z1 m 3<;>simp[Bool.or_assoc]
 |_::_::_::_::_::_,h=>simp at h
def adj(qa:List Atom)(i j:Nat):Bool:=shr qa (shlI 1 i) (shlI 1 j)
theorem Zgl(qa:List Atom)(i j:Nat):adj qa i j=adj qa j i:=by
 unfold adj shr;simp only[Bool.and_comm]
def ats(m:Int)(f:Nat->Bool):Bool:=(Z1 m 0 && f 0) || (Z1 m 1 && f 1) || (Z1 m 2 && f 2) || (Z1 m 3 && f 3)
theorem Zkm{m:Int}{f:Nat->Bool}:ats m f=true↔∃i,i<4/\Z1 m i=true/\f i=true:=by
 unfold ats;constructor
 .intro h;simp only[Ycy,Yc]at h;rcases h with((h|h)|h)|h
  .exact⟨0,by omega,h⟩
  .exact⟨1,by omega,h⟩
  .exact⟨2,by omega,h⟩
  .exact⟨3,by omega,h⟩
 .rintro⟨i,hi,h1,h2⟩;simp only[Ycy,Yc]
  match i,hi with
  |0,_=>exact .inl (.inl (.inl ⟨h1,h2⟩))
  |1,_=>exact .inl (.inl (.inr ⟨h1,h2⟩))
  |2,_=>exact .inl (.inr ⟨h1,h2⟩)
  |3,_=>exact .inr ⟨h1,h2⟩
theorem Zbmi(qa:List Atom)(h4:qa.length<=4)(x y:Int):shr qa x y=ats x λi=>ats y λj=>adj qa i j:=by
 have pv:∀m u,pV m qa u=ats m λi=>pV (shlI 1 (i:Nat)) qa u:=λm u=>pV_any qa h4 m u
 rw[Ybo,Zkm];unfold shr;rw[List.any_eq_true];constructor
 .rintro⟨u,hu,h⟩;rw[Yc,pv x u,pv y u,Zkm,Zkm]at h;obtain⟨⟨i,i1,i2,i3⟩,⟨j,j1,j2,j3⟩⟩:=h;refine⟨i,i1,i2,Zkm.2 ⟨j,j1,j2,?_⟩⟩;unfold adj shr;rw[List.any_eq_true];exact⟨u,hu,by rw[Yc];exact⟨i3,j3⟩⟩
 .rintro⟨i,i1,i2,h⟩;obtain⟨j,j1,j2,h⟩:=Zkm.1 h;unfold adj shr at h;rw[List.any_eq_true]at h;obtain⟨u,hu,h⟩:=h;rw[Yc]at h;refine⟨u,hu,?_⟩;rw[Yc,pv x u,pv y u,Zkm,Zkm];exact⟨⟨i,i1,i2,h.1⟩,⟨j,j1,j2,h.2⟩⟩
def edOf(qa:List Atom):Ed:=⟨adj qa 0 1,adj qa 0 2,adj qa 0 3,adj qa 1 2,adj qa 1 3,adj qa 2 3⟩
theorem Zy6{qa:List Atom}(h4:qa.length<=4){i:Nat}(hi:i<4)(hl:qa.length<=i)(j:Nat):adj qa i j=false:=by
 have:∀u,pV (shlI 1 (i:Nat)) qa u=false:=by
  intro u;unfold pV;have key:∀(as':List Atom) (k:Nat),k+as'.length<=i->hasV (shlI 1 (i:Nat)) as' k u=false:=by
   intro as'
   induction as' with
   |nil=>intro k _;rfl
   |cons a as' ih =>
    intro k hk;simp only[Yx]at hk;have:=shl4 ⟨i,hi⟩ ⟨k,by omega⟩;simp only[Fin.mk.injEq]at this;rw[hasV,ih (k+1) (by omega),this,decide_eq_false (by omega)];rfl
  exact key qa 0 (by omega)
 unfold adj shr;rw[Ycs];intro u _;simp[this u]
theorem shl_in(i:Nat)(hi:i<4)(f:Nat->Bool):ats (shlI 1 (i:Nat)) f=f i:=by
 have s:∀j:Nat,j<4->Z1 (shlI 1 (i:Nat)) j=decide (i=j):=λj hj=>by
  have:=shl4 ⟨i,hi⟩ ⟨j,hj⟩;simpa[Fin.ext_iff]using this
 rw[Ybo,Zkm];constructor
 .rintro⟨j,j1,j2,j3⟩;rw[s j j1]at j2
  have:i=j:=of_decide_eq_true j2
  rw[this];exact j3
 .intro h;exact⟨i,hi,by rw[s i hi];simp,h⟩
theorem near_bit{n:Int}{qa:List Atom}(hv:Zn n qa=true)(x:B4):Zg7 qa (toI x)=toI (nearB (edOf qa) x):=by
 have h4:=(Zcs hv).2;obtain⟨x0,x1,x2,x3⟩:=x;have hin:=Zua (x0,x1,x2,x3);simp only[ofI,Ybj]at hin;obtain⟨i0,i1,i2,i3⟩:=hin;have key:∀i,i<4->Zdq qa (toI (x0,x1,x2,x3)) i=(!Z1 (toI (x0,x1,x2,x3)) i && ((x0 && adj qa i 0) || (x1 && adj qa i 1) || (x2 && adj qa i 2) || (x3 && adj qa i 3))):=by
  intro i hi;unfold Zdq;rw[Zbmi qa h4,shl_in i hi];unfold ats;rw[i0,i1,i2,i3];by_cases hl:i<qa.length
  .simp[hl]
  .have a0:=Zy6 h4 hi (by omega) 0;have a1:=Zy6 h4 hi (by omega) 1;have a2:=Zy6 h4 hi (by omega) 2;have a3:=Zy6 h4 hi (by omega) 3;simp[hl,a0,a1,a2,a3]
 unfold Zg7 Zbj;rw[key 0 (by omega),key 1 (by omega),key 2 (by omega),key 3 (by omega),i0,i1,i2,i3];unfold nearB edOf toI;rw[Zgl qa 1 0,Zgl qa 2 0,Zgl qa 3 0,Zgl qa 2 1,Zgl qa 3 1,Zgl qa 3 2];cases x0<;>cases x1<;>cases x2<;>cases x3<;>simp
theorem step_bit{n:Int}{qa:List Atom}(hv:Zn n qa=true)(p x:B4):Zgi qa (toI p) (toI x)=toI (stepB (edOf qa) p x):=by
 unfold Zgi stepB;rw[near_bit hv,Zy5,toI_or]
theorem Zbmj{n:Int}{qa:List Atom}(hv:Zn n qa=true)(p:B4):∀(k:Nat) (x:B4),Zi1 qa (toI p) k (toI x)=toI (iterB (edOf qa) p k x)
 |0,x=>rfl
 |k+1,x=>by rw[Zi1,iterB,step_bit hv,Zbmj hv p k]
theorem Zub{n:Int}{qa:List Atom}(hv:Zn n qa=true)(p:B4):conn qa (toI p)=Zc9 (edOf qa) qa.length p:=by
 unfold conn Zc9;rw[show andI (toI p) (w (0-toI p))=toI (lowB p)from bit_low p.1 p.2.1 p.2.2.1 p.2.2.2,Zbmj hv,Ybo,decide_eq_true_eq,beq_iff_eq];exact⟨Z67,λh=>by rw[h]⟩
theorem edge_bit{qa:List Atom}(h4:qa.length<=4)(x y:B4)(hd:andB x y=(false,false,false,false)):shr qa (toI x) (toI y)=edgeB (edOf qa) x y:=by
 obtain⟨x0,x1,x2,x3⟩:=x;obtain⟨y0,y1,y2,y3⟩:=y;have hx:=Zua (x0,x1,x2,x3);have hy:=Zua (y0,y1,y2,y3);simp only[ofI,Prod.mk.injEq]at hx hy;obtain⟨i0,i1,i2,i3⟩:=hx;obtain⟨j0,j1,j2,j3⟩:=hy;simp only[andB,Prod.mk.injEq]at hd;rw[Zbmi qa h4];unfold ats;rw[i0,i1,i2,i3,j0,j1,j2,j3];unfold edgeB edOf;dsimp only;rw[Zgl qa 1 0,Zgl qa 2 0,Zgl qa 3 0,Zgl qa 2 1,Zgl qa 3 1,Zgl qa 3 2];obtain⟨h0,h1,h2,h3⟩:=hd;cases x0<;>cases y0<;>simp at h0<;>cases x1<;>cases y1<;>simp at h1<;>cases x2<;>cases y2<;>simp at h2<;>cases x3<;>cases y3<;>simp at h3<;>simp
structure Held (m:Ze) (sizes:List Int) (qa:List Atom) (M:Int) (E:List Za):Prop where
 ne:E≠[]
 up:E.Pairwise λa b=>a.Order<b.Order
 mask:∀e∈E,e.Mask=M
 ord:∀e∈E,-1<=e.Order/\e.Order<=3
 makes:∀e∈E,Zbp m sizes qa e.Plan.Steps M e.Order e.Cost
 len:∀e∈E,1<=e.Plan.Steps.length/\e.Plan.Steps.length+3<=4*popc M
theorem up_len:∀{E:List Za} {lo:Int},E.Pairwise (λa b=>a.Order<b.Order)->(∀e∈E,lo<=e.Order/\e.Order<=3)->lo<=4->(E.length:Int)<=4-lo
 |[],lo,_,_,h=>by simp;omega
 |e::E,lo,hp,ho,h=>by
  rw[Yc2]at hp;have he:=ho e (by simp);have:=up_len (lo:=e.Order+1) hp.2 (λx hx=>⟨by have:=hp.1 x hx;omega,(ho x (by simp[hx])).2⟩) (by omega);simp only[Yx];omega
theorem Held.le{m:Ze}{sizes:List Int}{qa:List Atom}{M:Int}{E:List Za}(h:Held m sizes qa M E):E.length<=5:=by
 have:=up_len (lo:=-1) h.up h.ord (by omega);omega
theorem Zy7:∀{E:List Za} {e:Za},E.Pairwise (λa b=>a.Order<b.Order)->e∈E->ofO E e.Order=some e
 |a::E,e,hp,he=>by
  rw[Yc2]at hp;rcases Y8.1 he with rfl|he
  .simp[ofO]
  .have:¬a.Order=e.Order:=by have:=hp.1 e he;omega
   have ih:=Zy7 hp.2 he;unfold ofO at ih|-;rw[List.find?_cons];simp[this,ih]
theorem Zbmk{c v:Int}:∀{E:List Za},E.Pairwise (λa b=>a.Order<b.Order)->E.find? (λe=>decide (e.Order=v) && decide (e.Cost<=c))=match ofO E v with
  |some e=>if e.Cost<=c then some e else none
  |none=>none
 |[],_=>by simp[ofO]
 |a::E,hp=>by
  rw[Yc2]at hp;have ih:=Zbmk (c:=c) (v:=v) hp.2;unfold ofO at ih|-;rw[List.find?_cons,List.find?_cons];by_cases e:a.Order=v
  .by_cases e2:a.Cost<=c
   .simp[e,e2]
   .have hn:E.find? (λe=>decide (e.Order=v) && decide (e.Cost<=c))=none:=by
     rw[List.find?_eq_none];intro x hx;have:=hp.1 x hx;simp;omega
    simp[e,e2];intro x hx hxv;have:=hp.1 x hx;omega
  .simp only[e,decide_false,Yde];exact ih
def srt(m:Ze)(sizes:List Int)(M:Int)(E:List Za)(v:Int):Za:=⟨M,v,w ((Z5 E).Cost+Zbg m.Sort_ (szAt sizes M) 0 (szAt sizes M)),⟨sortS (Z5 E).Plan.Steps v⟩⟩
def inp(m:Ze)(sizes:List Int)(M:Int)(E:List Za)(v:Int):Za:=match ofO E v with
 |some e=>if e.Cost<=(srt m sizes M E v).Cost then e else srt m sizes M E v
 |none=>srt m sizes M E v
def resI(x:List Zb):Option Za->AV×List Blk
 |some e=>(.agg (e.Plan.c.map .t),[])
 |none=>(.agg [.own 0],[.arr 162 3 true (x.map Zb.c)])
theorem Zb22(m:Ze)(hm:LeM m)(q:Zc)(hq:LeQ q)(sizes:List Int)(hs:Le sizes)(x:List Zb)(c:Int)(hc:Zcm m q.Zf q.Atoms x sizes=c)(v:Int)(E:List Za)(hl:E.length<=5):∀i,i<=E.length->Zo4 m q x sizes v E E.length i=some (resI x ((E.drop i).find? (λe=>decide (e.Order=v) && decide (e.Cost<=c)))):=by
 have hcost:=Z61 m hm q hq ⟨x⟩ sizes hs;rw[show Zcm m q.Zf q.Atoms (Plan.mk x).Steps sizes=c from hc]at hcost;refine down _ ?_ ?_
 .simp only[Yy,List.find?_nil];refine Zyl _ _ _ _ _ _ _ _ _ ?_;rw[if_neg (by omega)];rfl
 .intro i hi ih;have h4:=Zw (i:=i) (by omega);rw[Yi hi,List.find?_cons];have hw:w ((i:Int)+1)=((i+1:Nat):Int):=by rw[show w ((i:Int)+1)=(i:Int)+1 from h4];simp
  by_cases e:E[i].Order=v
  .by_cases e2:E[i].Cost<=c
   .simp only[e,e2,decide_true,Bool.and_self];refine Zyl _ _ _ _ _ _ _ _ _ ?_;rw[if_pos (by omega)];refine⟨by omega,E[i],by rw[Yg];exact Ya hi,?_⟩;rw[if_pos e];exact⟨c,hcost,by rw[if_pos e2];rfl⟩
   .simp only[e,e2,decide_true,decide_false,Bool.and_false];refine Zyl _ _ _ _ _ _ _ _ _ ?_;rw[if_pos (by omega)];refine⟨by omega,E[i],by rw[Yg];exact Ya hi,?_⟩;rw[if_pos e];exact⟨c,hcost,by rw[if_neg e2,hw];exact ih⟩
  .simp only[e,decide_false,Yde];refine Zyl _ _ _ _ _ _ _ _ _ ?_;rw[if_pos (by omega)];refine⟨by omega,E[i],by rw[Yg];exact Ya hi,?_⟩;rw[if_neg e,hw];exact ih
theorem Held.best{m:Ze}{sizes:List Int}{qa:List Atom}{M:Int}{E:List Za}(h:Held m sizes qa M E):Z5 E∈E:=Z63 h.ne
theorem Zeb{M:Int}(h:M16 M):popc M<=4:=by
 obtain⟨a,rfl⟩:=m16 h;exact(f_pop a).2.2.2
theorem Held.srt_makes{m:Ze}{sizes:List Int}{qa:List Atom}{M:Int}{E:List Za}(h:Held m sizes qa M E){v:Int}(hv:vin qa M v=true)(hb:(Z5 E).Order≠v):Zbp m sizes qa (srt m sizes M E v).Plan.Steps M v (srt m sizes M E v).Cost:=Zb2o (h.makes _ h.best) hv hb
theorem Z68(m:Ze)(hm:LeM m)(hg:Zbt m.Sort_)(q:Zc)(hq:LeQ q)(hv:Zn q.Zf q.Atoms=true)(sizes:List Int)(hs:Le sizes)(cc:Ze7 sizes)(cd:Zb5 q.Zf q.Atoms sizes=true){M:Int}(hM:M16 M){E:List Za}(h:Held m sizes q.Atoms M E){v:Int}(cl:vin q.Atoms M v=true) :
  Zgb m q sizes E v=some (.agg ((inp m sizes M E v).Plan.c.map .t),[])\/Zgb m q sizes E v=some (.agg [.own 0],[.arr 162 3 true ((inp m sizes M E v).Plan.Steps.map Zb.c)]):=by
 have h4:=Zeb hM;have hlen:=h.len _ h.best;by_cases e:(Z5 E).Order=v
 .left;have ho:=Zy7 h.up h.best;rw[e]at ho;have hb:=(h.makes _ h.best).bound (by omega);have hp:=Zbme hg cc M M;have hu:=Zgk m.Sort_ (szAt sizes M) 0 (szAt sizes M)
  have:inp m sizes M E v=Z5 E:=by
   unfold inp;rw[ho];simp only;rw[if_pos];unfold srt;simp only;rw[w_id (by omega) (by omega)];omega
  rw[this];exact Zbkm _ _ _ _ _ _ ⟨_,Zy2 E h.ne (by have:=h.le;omega),by rw[if_pos e]⟩
 .have hc:=Zbp.cost (h.srt_makes cl e) hv (by simp only[srt,sortS,Yj,Yx,Ybm];omega) cd;have hloop:=Zb22 m hm q hq sizes hs _ _ hc v E h.le 0 (Yd _);rw[Yk,Zbmk h.up]at hloop
  have hx:Zgb m q sizes E v=some (resI (srt m sizes M E v).Plan.Steps (match ofO E v with
   |some e=>if e.Cost<=(srt m sizes M E v).Cost then some e else none
   |none=>none)):=Zbkm _ _ _ _ _ _ ⟨_,Zy2 E h.ne (by have:=h.le;omega),by
    rw[if_neg e]
    exact⟨_,Zb2k _ _ (by omega),hloop⟩⟩
  rw[hx];unfold inp
  cases ofO E v with
  |none=>exact .inr rfl
  |some y =>
   simp only;split
   .exact .inl rfl
   .exact .inr rfl
theorem Z69(m:Ze)(hm:LeM m)(sizes:List Int)(fr:Bool)(l:List Za)(hl:l.length<=1000){M:Int}(h0:0<=M)(hM:sizes[M.toNat]?=some (szAt sizes M))(cd:ofM l M≠[])(cc:(Z5 (ofM l M)).Plan.Steps.length<=1000)(v:Int) :
  Zgv sizes fr l m M v=some (.agg ((inp m sizes M (ofM l M) v).c.map .t),[.arr 3 1 true (sizes.map ic),.arr 126 4 fr (l.map Za.c)])\/
  Zgv sizes fr l m M v=some (.agg [I (inp m sizes M (ofM l M) v).Mask,I (inp m sizes M (ofM l M) v).Order,I (inp m sizes M (ofM l M) v).Cost,.own 2],[.arr 3 1 true (sizes.map ic),.arr 126 4 fr (l.map Za.c),.arr 162 3 true ((inp m sizes M (ofM l M) v).Plan.Steps.map Zb.c)]):=by
 obtain⟨k1,k2⟩:=Zy3 cd;have hf:=Zbmb l M v;unfold inp
 cases ho:ofO (ofM l M) v with
 |none =>
  rw[ho]at hf;simp only at hf;refine .inr (Z6c _ _ _ _ _ _ _ ⟨_,Zkl l M hl,k1,_,k2,h0,_,hM,_,Zg6 _ hm.2.1 _ _ _,_,Zy0 l M v hl,?_⟩);rw[hf,if_neg (by omega)]
  exact⟨_,Zbl1 _ _ cc,rfl⟩
 |some e =>
  rw[ho]at hf;simp only at hf;simp only;by_cases hc:e.Cost<=(srt m sizes M (ofM l M) v).Cost
  .rw[if_pos hc];refine .inl (Z6c _ _ _ _ _ _ _ ⟨_,Zkl l M hl,k1,_,k2,h0,_,hM,_,Zg6 _ hm.2.1 _ _ _,_,Zy0 l M v hl,?_⟩);rw[if_pos hf.1];exact⟨_,hf.2,by rw[if_pos (show e.Cost<=w ((Z5 (ofM l M)).Cost+Zbg m.Sort_ (szAt sizes M) 0 (szAt sizes M))from hc)]⟩
  .rw[if_neg hc];refine .inr (Z6c _ _ _ _ _ _ _ ⟨_,Zkl l M hl,k1,_,k2,h0,_,hM,_,Zg6 _ hm.2.1 _ _ _,_,Zy0 l M v hl,?_⟩);rw[if_pos hf.1];exact⟨_,hf.2,by rw[if_neg (show ¬e.Cost<=w ((Z5 (ofM l M)).Cost+Zbg m.Sort_ (szAt sizes M) 0 (szAt sizes M))from hc)];exact⟨_,Zbl1 _ _ cc,rfl⟩⟩
def jc(m:Ze)(sizes:List Int)(a b:Za)(k:Int):Int:=w (w (a.Cost+b.Cost)+Zbg (mOp m k) (szAt sizes a.Mask) (szAt sizes b.Mask) (szAt sizes (orI a.Mask b.Mask)))
theorem Zuc{l:List Za}{i:Nat}{e:Za}(h:l[i]?=some e):l.set i e=l:=by
 obtain⟨h1,rfl⟩:=Yn.1 h;exact List.set_getElem_self h1
theorem Z7a(m:Ze)(hm:LeM m)(sizes:List Int)(mine:List Za)(a b:Za)(k v o:Int)(ho:-1<=o/\o<=3){e:Za}(he:mine[(o+1).toNat]?=some e)(ha:0<=a.Mask/\sizes[a.Mask.toNat]?=some (szAt sizes a.Mask))(hb:0<=b.Mask/\sizes[b.Mask.toNat]?=some (szAt sizes b.Mask))(cc:0<=orI a.Mask b.Mask/\sizes[(orI a.Mask b.Mask).toNat]?=some (szAt sizes (orI a.Mask b.Mask)))(la:a.Plan.Steps.length<=1000)(lb:b.Plan.Steps.length<=1000) :
  Zlm sizes mine m a b k v o=some (.tup [],[.arr 3 1 true (sizes.map ic),.arr 126 4 true ((mine.set (o+1).toNat (offE e (orI a.Mask b.Mask) o (jc m sizes a b k) (Zcv a.Plan.Steps b.Plan.Steps k v))).map Za.c)]):=by
 have hw:w (o+1)=o+1:=w_id (by omega) (by omega);refine Zbw5 _ _ _ _ _ _ _ _ _ ⟨mOp m k,Zpu m k,ha.1,_,ha.2,hb.1,_,hb.2,cc.1,_,cc.2,_,Zg6 _ (hm.op k) _ _ _,by omega,e,by rw[hw];exact he,?_⟩;rw[hw];by_cases e0:e.Mask=0
 .rw[if_pos e0];refine⟨_,Zkk a.Plan b.Plan _ _ la lb,?_⟩;simp[offE,e0,jc]
 .rw[if_neg e0];by_cases e1:jc m sizes a b k<e.Cost
  .have e2:=e1;unfold jc at e2;rw[if_pos e2];refine⟨_,Zkk a.Plan b.Plan _ _ la lb,?_⟩;unfold offE;rw[if_neg e0,if_pos e1];rfl
  .have e2:=e1;unfold jc at e2;rw[if_neg e2];unfold offE;rw[if_neg e0,if_neg e1,Zuc he]
theorem Zb23(m:Ze)(hm:LeM m)(sizes:List Int)(mine:List Za)(a b:Za)(k v o:Int)(ho:-1<=o/\o<=3){e:Za}(he:mine[(o+1).toNat]?=some e)(ha:0<=a.Mask/\sizes[a.Mask.toNat]?=some (szAt sizes a.Mask))(hb:0<=b.Mask/\sizes[b.Mask.toNat]?=some (szAt sizes b.Mask))(cc:0<=orI a.Mask b.Mask/\sizes[(orI a.Mask b.Mask).toNat]?=some (szAt sizes (orI a.Mask b.Mask)))(la:a.Plan.Steps.length<=1000)(lb:b.Plan.Steps.length<=1000) :
  Zrv sizes mine b.Plan.Steps m a b.Mask b.Order b.Cost k v o=some (.tup [],[.arr 3 1 true (sizes.map ic),.arr 126 4 true ((mine.set (o+1).toNat (offE e (orI a.Mask b.Mask) o (jc m sizes a b k) (Zcv a.Plan.Steps b.Plan.Steps k v))).map Za.c),.arr 162 3 true (b.Plan.Steps.map Zb.c)]):=by
 have hw:w (o+1)=o+1:=w_id (by omega) (by omega);refine Zbw8 _ _ _ _ _ _ _ _ _ _ _ _ ⟨mOp m k,Zpu m k,ha.1,_,ha.2,hb.1,_,hb.2,cc.1,_,cc.2,_,Zg6 _ (hm.op k) _ _ _,by omega,e,by rw[hw];exact he,?_⟩;rw[hw];by_cases e0:e.Mask=0
 .rw[if_pos e0];refine⟨_,Zkk a.Plan ⟨b.Plan.Steps⟩ _ _ la lb,?_⟩;simp[offE,e0,jc]
 .rw[if_neg e0];by_cases e1:jc m sizes a b k<e.Cost
  .have e2:=e1;unfold jc at e2;rw[if_pos e2];refine⟨_,Zkk a.Plan ⟨b.Plan.Steps⟩ _ _ la lb,?_⟩;unfold offE;rw[if_neg e0,if_pos e1];rfl
  .have e2:=e1;unfold jc at e2;rw[if_neg e2];unfold offE;rw[if_neg e0,if_neg e1,Zuc he]
theorem Zb24(m:Ze)(hm:LeM m)(sizes:List Int)(mine:List Za)(a b:Za)(k v o:Int)(ho:-1<=o/\o<=3){e:Za}(he:mine[(o+1).toNat]?=some e)(ha:0<=a.Mask/\sizes[a.Mask.toNat]?=some (szAt sizes a.Mask))(hb:0<=b.Mask/\sizes[b.Mask.toNat]?=some (szAt sizes b.Mask))(cc:0<=orI a.Mask b.Mask/\sizes[(orI a.Mask b.Mask).toNat]?=some (szAt sizes (orI a.Mask b.Mask)))(la:a.Plan.Steps.length<=1000)(lb:b.Plan.Steps.length<=1000) :
  Zrw sizes mine a.Plan.Steps m a.Mask a.Order a.Cost b k v o=some (.tup [],[.arr 3 1 true (sizes.map ic),.arr 126 4 true ((mine.set (o+1).toNat (offE e (orI a.Mask b.Mask) o (jc m sizes a b k) (Zcv a.Plan.Steps b.Plan.Steps k v))).map Za.c),.arr 162 3 true (a.Plan.Steps.map Zb.c)]):=by
 have hw:w (o+1)=o+1:=w_id (by omega) (by omega);refine Zbw9 _ _ _ _ _ _ _ _ _ _ _ _ ⟨mOp m k,Zpu m k,ha.1,_,ha.2,hb.1,_,hb.2,cc.1,_,cc.2,_,Zg6 _ (hm.op k) _ _ _,by omega,e,by rw[hw];exact he,?_⟩;rw[hw];by_cases e0:e.Mask=0
 .rw[if_pos e0];refine⟨_,Zkk ⟨a.Plan.Steps⟩ b.Plan _ _ la lb,?_⟩;simp[offE,e0,jc]
 .rw[if_neg e0];by_cases e1:jc m sizes a b k<e.Cost
  .have e2:=e1;unfold jc at e2;rw[if_pos e2];refine⟨_,Zkk ⟨a.Plan.Steps⟩ b.Plan _ _ la lb,?_⟩;unfold offE;rw[if_neg e0,if_pos e1];rfl
  .have e2:=e1;unfold jc at e2;rw[if_neg e2];unfold offE;rw[if_neg e0,if_neg e1,Zuc he]
theorem Zb25(m:Ze)(hm:LeM m)(sizes:List Int)(mine:List Za)(a b:Za)(k v o:Int)(ho:-1<=o/\o<=3){e:Za}(he:mine[(o+1).toNat]?=some e)(ha:0<=a.Mask/\sizes[a.Mask.toNat]?=some (szAt sizes a.Mask))(hb:0<=b.Mask/\sizes[b.Mask.toNat]?=some (szAt sizes b.Mask))(cc:0<=orI a.Mask b.Mask/\sizes[(orI a.Mask b.Mask).toNat]?=some (szAt sizes (orI a.Mask b.Mask)))(la:a.Plan.Steps.length<=1000)(lb:b.Plan.Steps.length<=1000) :
  Zrx sizes mine a.Plan.Steps b.Plan.Steps m a.Mask a.Order a.Cost b.Mask b.Order b.Cost k v o=some (.tup [],[.arr 3 1 true (sizes.map ic),.arr 126 4 true ((mine.set (o+1).toNat (offE e (orI a.Mask b.Mask) o (jc m sizes a b k) (Zcv a.Plan.Steps b.Plan.Steps k v))).map Za.c),.arr 162 3 true (a.Plan.Steps.map Zb.c),.arr 162 3 true (b.Plan.Steps.map Zb.c)]):=by
 have hw:w (o+1)=o+1:=w_id (by omega) (by omega);refine Zbxa _ _ _ _ _ _ _ _ _ _ _ _ _ _ _ ⟨mOp m k,Zpu m k,ha.1,_,ha.2,hb.1,_,hb.2,cc.1,_,cc.2,_,Zg6 _ (hm.op k) _ _ _,by omega,e,by rw[hw];exact he,?_⟩;rw[hw];by_cases e0:e.Mask=0
 .rw[if_pos e0];refine⟨_,Zkk ⟨a.Plan.Steps⟩ ⟨b.Plan.Steps⟩ _ _ la lb,?_⟩;simp[offE,e0,jc]
 .rw[if_neg e0];by_cases e1:jc m sizes a b k<e.Cost
  .have e2:=e1;unfold jc at e2;rw[if_pos e2];refine⟨_,Zkk ⟨a.Plan.Steps⟩ ⟨b.Plan.Steps⟩ _ _ la lb,?_⟩;unfold offE;rw[if_neg e0,if_pos e1];rfl
  .have e2:=e1;unfold jc at e2;rw[if_neg e2];unfold offE;rw[if_neg e0,if_neg e1,Zuc he]
def Zhb{α:Type}(f:α->Za->α)(E:List Za):Nat->Int->α->α
 |0,_,x=>x
 |n+1,o,x=>Zhb f E n (o+1) (match ofO E o with|some e=>f x e|none=>x)
theorem Zbml{α:Type}(f:α->Za->α){E F:List Za}:∀(n:Nat) (o:Int) (x:α),(∀p,o<=p->ofO E p=ofO F p)->Zhb f E n o x=Zhb f F n o x
 |0,_,_,_=>rfl
 |n+1,o,x,h=>by
  rw[Zhb,Zhb,h o (Int.le_refl o)];exact Zbml f n (o+1) _ (λp hp=>h p (by omega))
theorem Zbmm{α:Type}(f:α->Za->α):∀(n:Nat) (o:Int) (x:α),Zhb f [] n o x=x
 |0,_,_=>rfl
 |n+1,o,x=>by rw[Zhb];exact Zbmm f n (o+1) x
theorem Z7b{α:Type}(f:α->Za->α):∀(n:Nat) (E:List Za) (o:Int) (x:α),E.Pairwise (λa b=>a.Order<b.Order)->(∀e∈E,o<=e.Order/\e.Order<o+n)->Zhb f E n o x=E.foldl f x
 |0,[],_,_,_,_=>rfl
 |0,e::E,o,x,_,h=>by have:=h e (by simp);omega
 |n+1,[],o,x,_,_=>Zbmm f (n+1) o x
 |n+1,e::E,o,x,hp,h=>by
  have hc:=Yc2.1 hp;have he:=h e (by simp);rw[Zhb];by_cases eo:e.Order=o
  .have h1:ofO (e::E) o=some e:=by simp[ofO,eo]
   rw[h1,Yv];simp only;rw[Zbml f (F:=E) n (o+1) (f x e) (λp hpo=>by unfold ofO;rw[List.find?_cons];simp[show ¬e.Order=p by omega])];exact Z7b f n E (o+1) (f x e) hc.2 (λy hy=>by have:=hc.1 y hy;have:=h y (by simp[hy]);omega)
  .have h1:ofO (e::E) o=none:=by
    unfold ofO;rw[List.find?_eq_none];intro y hy
    have:e.Order<=y.Order:=by
     rcases Y8.1 hy with rfl|hy
     .exact Int.le_refl _
     .have:=hc.1 y hy;omega
    simp;omega
   rw[h1];simp only
   exact Z7b f n (e::E) (o+1) x hp (λy hy=>by
    have:=h y hy
    have:e.Order<=y.Order:=by
     rcases Y8.1 hy with rfl|hy
     .exact Int.le_refl _
     .have:=hc.1 y hy;omega
    omega)
def zE:Za:=⟨0,0,0,⟨[]⟩⟩
def offJ(m:Ze)(sizes:List Int)(a b:Za)(k v o:Int)(c:List Za):List Za :=
 c.set (o+1).toNat (offE ((c[(o+1).toNat]?).getD zE) (orI a.Mask b.Mask) o (jc m sizes a b k) (Zcv a.Plan.Steps b.Plan.Steps k v))
def Ze9(m:Ze)(sizes:List Int)(b:Za)(c:List Za)(e:Za):List Za:=offJ m sizes e b 5 0 e.Order c
def Zfq(m:Ze)(sizes:List Int)(A B:Int)(E F c:List Za)(v:Int):List Za:=offJ m sizes (inp m sizes A E v) (inp m sizes B F v) 4 v v c
def Zh4(m:Ze)(sizes:List Int)(A B:Int)(sh:List Int)(E F c:List Za):List Za :=
 sh.foldl (Zfq m sizes A B E F) (E.foldl (Ze9 m sizes (Z5 F)) (offJ m sizes (Z5 E) (Z5 F) 3 0 (-1) c))
theorem Zgm{m:Ze}{sizes:List Int}{a b:Za}{k v o:Int}{mine:List Za}:(offJ m sizes a b k v o mine).length=mine.length:=by simp[offJ]
theorem Zy8{m:Ze}{sizes:List Int}{b:Za}:∀{E c:List Za},(E.foldl (Ze9 m sizes b) c).length=c.length
 |[],_=>rfl
 |e::E,c=>by rw[Yv,Zy8];exact Zgm
theorem Zbmn{m:Ze}{sizes:List Int}{A B:Int}{E F:List Za}:∀{sh:List Int} {c:List Za},(sh.foldl (Zfq m sizes A B E F) c).length=c.length
 |[],_=>rfl
 |e::sh,c=>by rw[Yv,Zbmn];exact Zgm
theorem Zbmo{m:Ze}{sizes:List Int}{A B:Int}{sh:List Int}{E F mine:List Za}:(Zh4 m sizes A B sh E F mine).length=mine.length:=by
 unfold Zh4;rw[Zbmn,Zy8,Zgm]
structure GoodE (m:Ze) (sizes:List Int) (qa:List Atom) (M:Int) (o:Int) (e:Za):Prop where
 mask:e.Mask=M
 ord:e.Order=o
 makes:Zbp m sizes qa e.Plan.Steps M o e.Cost
 len:1<=e.Plan.Steps.length/\e.Plan.Steps.length+3<=4*popc M
def Zec(m:Ze)(sizes:List Int)(qa:List Atom)(M:Int)(c:List Za):Prop :=
 c.length=5/\∀(k:Nat) (e:Za),c[k]?=some e->e.Mask≠0->GoodE m sizes qa M ((k:Int)-1) e
theorem Zbmp(m:Ze)(sizes:List Int)(qa:List Atom)(M:Int):Zec m sizes qa M (List.replicate 5 zE):=by
 refine⟨by simp,λk e h h0=>?_⟩;rw[List.getElem?_replicate]at h;split at h
 .cases h;exact absurd rfl h0
 .cases h
theorem Zb26{m:Ze}{sizes:List Int}{qa:List Atom}{M:Int}{mine:List Za}(h:Zec m sizes qa M mine){a b:Za}{k v o:Int}(ho:-1<=o/\o<=3)(hM:orI a.Mask b.Mask=M)
  (c:Zbp m sizes qa (Zcv a.Plan.Steps b.Plan.Steps k v) M o (jc m sizes a b k)) (hl:(Zcv a.Plan.Steps b.Plan.Steps k v).length+3<=4*popc M):Zec m sizes qa M (offJ m sizes a b k v o mine):=by
 refine⟨by rw[Zgm];exact h.1,λj e hj h0=>?_⟩;have h5:=h.1;unfold offJ at hj;have hlt:(o+1).toNat<mine.length:=by omega
 rw[List.getElem?_set]at hj;by_cases ej:(o+1).toNat=j
 .rw[if_pos ej,if_pos hlt]at hj;cases hj;have eo:(j:Int)-1=o:=by omega
  rw[eo];rw[Ya hlt]at h0|-;simp only[Option.getD_some]at h0|-;have hold:=h.2 (o+1).toNat mine[(o+1).toNat] (Ya hlt);have eo2:(((o+1).toNat:Nat):Int)-1=o:=by omega
  rw[eo2]at hold;have hnew:GoodE m sizes qa M o ⟨orI a.Mask b.Mask,o,jc m sizes a b k,⟨Zcv a.Plan.Steps b.Plan.Steps k v⟩⟩:=⟨hM,rfl,c,by simp[Zcv];omega,hl⟩;unfold offE;split
  .exact hnew
  .rename_i hm0;split
   .exact hnew
   .exact hold hm0
 .rw[if_neg ej]at hj;exact h.2 j e hj h0
theorem Zb27{m:Ze}{sizes:List Int}{qa:List Atom}{M:Int}{mine:List Za}(h:Zec m sizes qa M mine)(c:mine.filter sm≠[]):Held m sizes qa M (mine.filter sm):=by
 have hg:∀e∈mine.filter sm,∃o,(-1<=o/\o<=3)/\GoodE m sizes qa M o e:=by
  intro e he;rw[Y4]at he;obtain⟨k,hk⟩:=List.mem_iff_getElem?.1 he.1;have hlt:=(Yn.1 hk).1;have h5:=h.1
  have:e.Mask≠0:=by simpa[sm]using he.2
  exact⟨(k:Int)-1,by omega,h.2 k e hk this⟩
 refine⟨c,?_,?_,?_,?_,?_⟩
 .rw[List.pairwise_filter,Yb6];intro i j hi hj hij s1 s2;have g1:=h.2 i _ (Ya hi) (by simpa[sm]using s1);have g2:=h.2 j _ (Ya hj) (by simpa[sm]using s2);rw[g1.ord,g2.ord];omega
 .intro e he;obtain⟨o,_,g⟩:=hg e he;exact g.mask
 .intro e he;obtain⟨o,ho,g⟩:=hg e he;rw[g.ord];exact ho
 .intro e he;obtain⟨o,_,g⟩:=hg e he;rw[g.ord];exact g.makes
 .intro e he;obtain⟨o,_,g⟩:=hg e he;exact g.len
theorem Zkn{m:Ze}{sizes:List Int}{qa:List Atom}{M:Int}{E:List Za}(h:Held m sizes qa M E)(hg:Zbt m.Sort_)(c:Ze7 sizes)(hM:M16 M){v:Int}(hv:vin qa M v=true) :
  (inp m sizes M E v).Mask=M/\(inp m sizes M E v).Order=v/\Zbp m sizes qa (inp m sizes M E v).Plan.Steps M v (inp m sizes M E v).Cost/\1<=(inp m sizes M E v).Plan.Steps.length/\(inp m sizes M E v).Plan.Steps.length+2<=4*popc M:=by
 have h4:=Zeb hM;have hlen:=h.len _ h.best;have hb:=(h.makes _ h.best).bound (by omega);have hp:=Zbme hg c M M;have hu:=Zgk m.Sort_ (szAt sizes M) 0 (szAt sizes M);have hsrt:(Z5 E).Order≠v->(srt m sizes M E v).Mask=M/\(srt m sizes M E v).Order=v/\Zbp m sizes qa (srt m sizes M E v).Plan.Steps M v (srt m sizes M E v).Cost/\1<=(srt m sizes M E v).Plan.Steps.length/\(srt m sizes M E v).Plan.Steps.length+2<=4*popc M:=by
  intro hne;refine⟨rfl,rfl,h.srt_makes hv hne,?_,?_⟩<;>simp only[srt,sortS,Yj,Yx,Ybm]<;>omega
 unfold inp
 cases ho:ofO E v with
 |none =>
  refine hsrt (λhe=>?_);have:=Zy7 h.up h.best;rw[he,ho]at this
  cases this
 |some e =>
  have hmem:e∈E:=List.mem_of_find?_eq_some ho;have hov:e.Order=v:=by have:=List.find?_some ho;simpa using this
  simp only;by_cases hc:e.Cost<=(srt m sizes M E v).Cost
  .rw[if_pos hc];have hm:=h.makes e hmem;rw[hov]at hm;have:=h.len e hmem;exact⟨h.mask e hmem,hov,hm,by omega,by omega⟩
  .rw[if_neg hc];refine hsrt (λhe=>hc ?_);have hx:=Zy7 h.up h.best;rw[he,ho]at hx;cases hx;unfold srt;simp only;rw[w_id (by omega) (by omega)];omega
structure Pair (qa:List Atom) (A B M:Int):Prop where
 a16:M16 A
 b16:M16 B
 or:orI A B=M
 dis:andI A B=0
 shr:shr qa A B=true
 pop:popc A+popc B=popc M
theorem Z7c{m:Ze}{sizes:List Int}{qa:List Atom}{A B M:Int}(hp:Pair qa A B M){mine:List Za}(h:Zec m sizes qa M mine){a b:Za}{k v o oa ob:Int}(ho:-1<=o/\o<=3)(hk:3<=k)(ha:a.Mask=A)(hb:b.Mask=B)(ma:Zbp m sizes qa a.Plan.Steps A oa a.Cost)(mb:Zbp m sizes qa b.Plan.Steps B ob b.Cost)(hj:Zfp qa ⟨k,0,v⟩ (A,oa) (B,ob)=some o)(hl:a.Plan.Steps.length+2<=4*popc A/\b.Plan.Steps.length+2<=4*popc B):Zec m sizes qa M (offJ m sizes a b k v o mine):=by
 have hpop:=hp.pop;refine Zb26 h ho (by rw[ha,hb];exact hp.or) ?_ (by simp only[Zcv,Yj,Yx,Ybm];omega);have:=Zbl6 (x:=⟨k,0,v⟩) ma mb hk rfl hp.dis hp.shr hj;rw[hp.or]at this;unfold jc;rw[ha,hb,hp.or];exact this
theorem Zbmq{m:Ze}{sizes:List Int}{qa:List Atom}{A B M:Int}(hp:Pair qa A B M){b:Za}{ob:Int}(hb:b.Mask=B)(mb:Zbp m sizes qa b.Plan.Steps B ob b.Cost)(lb:b.Plan.Steps.length+2<=4*popc B):∀{E c:List Za},(∀e∈E,e.Mask=A/\(-1<=e.Order/\e.Order<=3)/\Zbp m sizes qa e.Plan.Steps A e.Order e.Cost/\e.Plan.Steps.length+2<=4*popc A)->Zec m sizes qa M c->Zec m sizes qa M (E.foldl (Ze9 m sizes b) c)
 |[],_,_,h=>h
 |e::E,c,he,h=>by
  obtain⟨e1,e2,e3,e4⟩:=he e (by simp);rw[Yv];exact Zbmq hp hb mb lb (λx hx=>he x (by simp[hx])) (Z7c hp h e2 (by omega) e1 hb e3 mb nest_p ⟨e4,lb⟩)
theorem Zbmr{m:Ze}{sizes:List Int}{qa:List Atom}{A B M:Int}(hp:Pair qa A B M)(hg:Zbt m.Sort_)(cc:Ze7 sizes){E F:List Za}(hE:Held m sizes qa A E)(hF:Held m sizes qa B F):∀{sh:List Int} {c:List Za},(∀v∈sh,(-1<=v/\v<=3)/\vin qa A v=true/\vin qa B v=true)->Zec m sizes qa M c->Zec m sizes qa M (sh.foldl (Zfq m sizes A B E F) c)
 |[],_,_,h=>h
 |v::sh,c,hv,h=>by
  obtain⟨v1,v2,v3⟩:=hv v (by simp);obtain⟨a1,a2,a3,a4,a5⟩:=Zkn hE hg cc hp.a16 v2;obtain⟨b1,b2,b3,b4,b5⟩:=Zkn hF hg cc hp.b16 v3;rw[Yv];exact Zbmr hp hg cc hE hF (λx hx=>hv x (by simp[hx])) (Z7c hp h v1 (by omega) a1 b1 a3 b3 (Zbl7 v2 v3 rfl rfl) ⟨a5,b5⟩)
theorem Zb28{m:Ze}{sizes:List Int}{qa:List Atom}{A B M:Int}(hp:Pair qa A B M)(hg:Zbt m.Sort_)(c:Ze7 sizes){E F:List Za}(hE:Held m sizes qa A E)(hF:Held m sizes qa B F){sh:List Int}{mine:List Za}(hv:∀v∈sh,(-1<=v/\v<=3)/\vin qa A v=true/\vin qa B v=true)(h:Zec m sizes qa M mine):Zec m sizes qa M (Zh4 m sizes A B sh E F mine):=by
 have lE:=hE.len _ hE.best;have lF:=hF.len _ hF.best;have mE:=hE.makes _ hE.best;have mF:=hF.makes _ hF.best;unfold Zh4;refine Zbmr hp hg c hE hF hv (Zbmq hp (hF.mask _ hF.best) mF (by omega) (λe he=>⟨hE.mask e he,hE.ord e he,hE.makes e he,by have:=hE.len e he;omega⟩) ?_);exact Z7c hp h (by omega) (by omega) (hE.mask _ hE.best) (hF.mask _ hF.best) mE mF hash_p ⟨by omega,by omega⟩
def pos(e:Za):Bool:=decide (0<e.Mask)
theorem Zb29(mine:List Za)(h5:mine.length=5)(sizes:List Int)(fr1:Bool)(l:List Za):∀i:Nat,i<=5->∀(fr:Bool) (out:List Za),out.length<=i->∃fr',Zlo mine fr out sizes fr1 l i=some (.own 2,[.arr 3 1 true (sizes.map ic),.arr 126 4 fr1 (l.map Za.c),.arr 126 4 fr' ((out++(mine.drop i).filter pos).map Za.c)]):=by
 refine down _ ?_ ?_
 .intro fr out ho;refine⟨fr,Z6d _ _ _ _ _ _ _ _ ?_⟩;rw[if_neg (by omega),Yc7 (by omega)];simp
 .intro i hi ih fr out ho;have h4:=Zw (i:=i) (by omega);have hlt:i<mine.length:=by omega
  have hw:w ((i:Int)+1)=((i+1:Nat):Int):=by rw[show w ((i:Int)+1)=(i:Int)+1 from h4];simp
  rw[Yi hlt,Yct];by_cases e:0<mine[i].Mask
  .obtain⟨fr',h⟩:=ih false (out++[mine[i]]) (by simp;omega);refine⟨fr',Z6d _ _ _ _ _ _ _ _ ?_⟩;rw[if_pos (by omega)];refine⟨by omega,mine[i],by rw[Yg];exact Ya hlt,?_⟩;rw[if_pos e,hw];refine⟨by omega,?_⟩;simpa[pos,e]using h
  .obtain⟨fr',h⟩:=ih fr out (by omega);refine⟨fr',Z6d _ _ _ _ _ _ _ _ ?_⟩;rw[if_pos (by omega)];refine⟨by omega,mine[i],by rw[Yg];exact Ya hlt,?_⟩;rw[if_neg e,hw];simpa[pos,e]using h
theorem Zb3a{m:Ze}{sizes:List Int}{qa:List Atom}{M:Int}{mine:List Za}(h:Zec m sizes qa M mine)(hM:0<M):mine.filter pos=mine.filter sm:=by
 refine List.filter_congr λe he=>?_
 obtain⟨k,hk⟩:=List.mem_iff_getElem?.1 he;by_cases h0:e.Mask=0
 .simp[pos,sm,h0]
 .have:=(h.2 k e hk h0).mask;simp[pos,sm,h0];omega
def SzOk(sizes:List Int)(M:Int):Prop:=0<=M/\sizes[M.toNat]?=some (szAt sizes M)
theorem Z7d{m:Ze}{sizes:List Int}{a b:Za}{k v o:Int}{mine:List Za}{e:Za}(he:mine[(o+1).toNat]?=some e):mine.set (o+1).toNat (offE e (orI a.Mask b.Mask) o (jc m sizes a b k) (Zcv a.Plan.Steps b.Plan.Steps k v))=offJ m sizes a b k v o mine:=by
 simp[offJ,he]
theorem l_merges(m:Ze)(hm:LeM m)(hg:Zbt m.Sort_)(sizes:List Int)(c:Ze7 sizes)(qa:List Atom)(fr:Bool)(l:List Za)(hl:l.length<=1000){A B M:Int}(hp:Pair qa A B M)(hE:Held m sizes qa A (ofM l A))(hF:Held m sizes qa B (ofM l B))(zA:SzOk sizes A)(zB:SzOk sizes B)(zM:SzOk sizes M)(x:Z8)(k:Nat)(sh:List Int)(cc:x.shared[k]?=some sh)(cd:sh.length<=1000)(hv:∀v∈sh,(-1<=v/\v<=3)/\vin qa A v=true/\vin qa B v=true)(r:AV×List Blk):∀i,i<=sh.length->∀mine:List Za,mine.length=5->Zn3 sizes fr l m x ((sh.drop i).foldl (Zfq m sizes A B (ofM l A) (ofM l B)) mine) (w ((k:Int)+1))=some r->Zil sizes fr l m x mine k A B i=some r:=by
 have pA:=Zeb hp.a16;have pB:=Zeb hp.b16;refine down _ ?_ ?_
 .intro mine h5 h;refine Zbi5 _ _ _ _ _ _ _ _ _ _ _ ⟨by omega,sh,by rw[Yg];exact cc,?_⟩;rw[if_neg (by omega)];simpa using h
 .intro i hi ih mine h5 h;have h4:=Zw (i:=i) (by omega);have hw:w ((i:Int)+1)=((i+1:Nat):Int):=by rw[show w ((i:Int)+1)=(i:Int)+1 from h4];simp
  rw[Yi hi,Yv]at h;have ih:=ih _ (by rw[show(Zfq m sizes A B (ofM l A) (ofM l B) mine sh[i]).length=mine.length from Zgm];exact h5) h;obtain⟨v1,v2,v3⟩:=hv sh[i] (Yf hi);obtain⟨a1,a2,a3,a4,a5⟩:=Zkn hE hg c hp.a16 v2;obtain⟨b1,b2,b3,b4,b5⟩:=Zkn hF hg c hp.b16 v3;have hlt:(sh[i]+1).toNat<mine.length:=by omega
  have he:mine[(sh[i]+1).toNat]?=some mine[(sh[i]+1).toNat]:=Ya hlt;have ea:0<=(inp m sizes A (ofM l A) sh[i]).Mask/\sizes[(inp m sizes A (ofM l A) sh[i]).Mask.toNat]?=some (szAt sizes (inp m sizes A (ofM l A) sh[i]).Mask):=by rw[a1];exact zA
  have eb:0<=(inp m sizes B (ofM l B) sh[i]).Mask/\sizes[(inp m sizes B (ofM l B) sh[i]).Mask.toNat]?=some (szAt sizes (inp m sizes B (ofM l B) sh[i]).Mask):=by rw[b1];exact zB
  have eab:0<=orI (inp m sizes A (ofM l A) sh[i]).Mask (inp m sizes B (ofM l B) sh[i]).Mask/\sizes[(orI (inp m sizes A (ofM l A) sh[i]).Mask (inp m sizes B (ofM l B) sh[i]).Mask).toNat]?=some (szAt sizes (orI (inp m sizes A (ofM l A) sh[i]).Mask (inp m sizes B (ofM l B) sh[i]).Mask)):=by rw[a1,b1,hp.or];exact zM
  have la:(inp m sizes A (ofM l A) sh[i]).Plan.Steps.length<=1000:=by omega
  have lb:(inp m sizes B (ofM l B) sh[i]).Plan.Steps.length<=1000:=by omega
  have o0:=Z7a m hm sizes mine _ _ 4 sh[i] sh[i] v1 he ea eb eab la lb;have o1:=Zb23 m hm sizes mine _ _ 4 sh[i] sh[i] v1 he ea eb eab la lb;have o2:=Zb24 m hm sizes mine _ _ 4 sh[i] sh[i] v1 he ea eb eab la lb;have o3:=Zb25 m hm sizes mine _ _ 4 sh[i] sh[i] v1 he ea eb eab la lb;rw[Z7d he]at o0 o1 o2 o3;refine Zbi5 _ _ _ _ _ _ _ _ _ _ _ ⟨by omega,sh,by rw[Yg];exact cc,?_⟩;rw[if_pos (by omega)];refine⟨by omega,sh[i],by rw[Yg];exact Ya hi,?_⟩;rw[hw];have bA:=hE.len _ hE.best;have bB:=hF.len _ hF.best;rcases Z69 m hm sizes fr l hl zA.1 zA.2 hE.ne (by omega) sh[i]with ha|ha
  .refine .inl ⟨_,ha,?_⟩;rcases Z69 m hm sizes fr l hl zB.1 zB.2 hF.ne (by omega) sh[i]with hb|hb
   .exact .inl ⟨_,hb,_,_,o0,ih⟩
   .exact .inr ⟨_,_,_,_,hb,_,_,_,o1,ih⟩
  .refine .inr ⟨_,_,_,_,ha,?_⟩;rcases Z69 m hm sizes fr l hl zB.1 zB.2 hF.ne (by omega) sh[i]with hb|hb
   .exact .inl ⟨_,hb,_,_,_,o2,ih⟩
   .exact .inr ⟨_,_,_,_,hb,_,_,_,_,o3,ih⟩
theorem Z7e(m:Ze)(hm:LeM m)(sizes:List Int)(qa:List Atom)(fr:Bool)(l:List Za)(hl:l.length<=1000){A B M:Int}(hp:Pair qa A B M)(hE:Held m sizes qa A (ofM l A))(b:Za)(hb:b.Mask=B)(lb:b.Plan.Steps.length<=1000)(zA:SzOk sizes A)(zB:SzOk sizes B)(zM:SzOk sizes M)(x:Z8)(k:Int)(r:AV×List Blk):∀n:Nat,n<=5->∀mine:List Za,mine.length=5->Zil sizes fr l m x (Zhb (Ze9 m sizes b) (ofM l A) n (4-n) mine) k A B 0=some r->Zn4 sizes fr l m x mine b k A B (4-n)=some r
 |0,_,mine,h5,h=>by
  refine Zbi4 _ _ _ _ _ _ _ _ _ _ _ _ ?_;rw[if_neg (by omega)]
  exact h
 |n+1,hn,mine,h5,h=>by
  have pA:=Zeb hp.a16;have hw:w ((4:Int)-((n+1:Nat):Int)+1)=4-(n:Int):=by rw[w_id (by omega) (by omega)];omega
  rw[Zhb,show(4:Int)-((n+1:Nat):Int)+1=4-(n:Int) by omega]at h;have hf:=Zbmb l A (4-((n+1:Nat):Int));refine Zbi4 _ _ _ _ _ _ _ _ _ _ _ _ ?_;rw[if_pos (by omega),hw];refine⟨_,Zy0 l A _ hl,?_⟩
  cases ho:ofO (ofM l A) (4-((n+1:Nat):Int))with
  |none =>
   rw[ho]at hf h;simp only at hf h;rw[hf,if_neg (by omega)]
   exact Z7e m hm sizes qa fr l hl hp hE b hb lb zA zB zM x k r n (by omega) mine h5 h
  |some e =>
   rw[ho]at hf h;simp only at hf h;have hmem:e∈ofM l A:=List.mem_of_find?_eq_some ho;have hov:e.Order=4-((n+1:Nat):Int):=by have:=List.find?_some ho;simpa using this
   have le:=hE.len e hmem;have me:=hE.mask e hmem;have hlt:((4-((n+1:Nat):Int))+1).toNat<mine.length:=by omega
   have he:=Ya hlt;have o0:=Z7a m hm sizes mine e b 5 0 (4-((n+1:Nat):Int)) (by omega) he (by rw[me];exact zA) (by rw[hb];exact zB) (by rw[me,hb,hp.or];exact zM) (by omega) lb;rw[Z7d he]at o0;rw[if_pos hf.1];refine⟨e,hf.2,_,_,o0,?_⟩;rw[show Ze9 m sizes b mine e=offJ m sizes e b 5 0 (4-((n+1:Nat):Int)) mine by rw[Ze9,hov]]at h;exact Z7e m hm sizes qa fr l hl hp hE b hb lb zA zB zM x k r n (by omega) _ (by rw[Zgm];exact h5) h
def oneJ(m:Ze)(sizes:List Int)(M:Int)(l c:List Za)(p:Int×List Int):List Za:=Zh4 m sizes p.1 (M-p.1) p.2 (ofM l p.1) (ofM l (M-p.1)) c
structure Zi3 (m:Ze) (sizes:List Int) (qa:List Atom) (l:List Za) (M A:Int) (sh:List Int):Prop where
 pair:Pair qa A (M-A) M
 left:Held m sizes qa A (ofM l A)
 right:Held m sizes qa (M-A) (ofM l (M-A))
 zA:SzOk sizes A
 zB:SzOk sizes (M-A)
 len:sh.length<=1000
 vars:∀v∈sh,(-1<=v/\v<=3)/\vin qa A v=true/\vin qa (M-A) v=true
theorem l_splits(m:Ze)(hm:LeM m)(hg:Zbt m.Sort_)(sizes:List Int)(cc:Ze7 sizes)(qa:List Atom)(fr:Bool)(l:List Za)(hl:l.length<=1000)(x:Z8)(zM:SzOk sizes x.mask)(cd:M16 x.mask)(c:x.Zz.length=x.shared.length)(hx:x.Zz.length<=100)(ok:∀p∈x.Zz.zip x.shared,Zi3 m sizes qa l x.mask p.1 p.2)(r:AV×List Blk):∀i,i<=x.Zz.length->∀mine:List Za,mine.length=5->Zlo (((x.Zz.zip x.shared).drop i).foldl (oneJ m sizes x.mask l) mine) true [] sizes fr l 0=some r->Zn3 sizes fr l m x mine i=some r:=by
 have hz:(x.Zz.zip x.shared).length=x.Zz.length:=by simp[c]
 refine down _ ?_ ?_
 .intro mine h5 h;refine Zbi3 _ _ _ _ _ _ _ _ ?_;rw[if_neg (by omega)];rw[Yc7 (by omega)]at h;exact h
 .intro i hi ih mine h5 h;have h4:=Zw (i:=i) (by omega);have hw:w ((i:Int)+1)=((i+1:Nat):Int):=by rw[show w ((i:Int)+1)=(i:Int)+1 from h4];simp
  have hiz:i<(x.Zz.zip x.shared).length:=by omega
  have his:i<x.shared.length:=by omega
  rw[Yi hiz,Yv,List.getElem_zip]at h;have o:=ok _ (Yf hiz);rw[List.getElem_zip]at o;have ih:=ih _ (by rw[show(oneJ m sizes x.mask l mine (x.Zz[i],x.shared[i])).length=mine.length from Zbmo];exact h5) h;have hB:w (x.mask-x.Zz[i])=x.mask-x.Zz[i]:=by
   have:=o.pair.b16;have:=o.pair.a16;exact w_id (by omega) (by omega)
  obtain⟨k1,k2⟩:=Zy3 o.left.ne;obtain⟨j1,j2⟩:=Zy3 o.right.ne;have eM:=o.left.mask _ o.left.best;have fM:=o.right.mask _ o.right.best;have pA:=Zeb o.pair.a16;have pB:=Zeb o.pair.b16;have la:=o.left.len _ o.left.best;have lb:=o.right.len _ o.right.best;have hlt:((-1:Int)+1).toNat<mine.length:=by simp;omega
  have he:=Ya hlt;have o0:=Z7a m hm sizes mine _ _ 3 0 (-1) (by omega) he (by rw[eM];exact o.zA) (by rw[fM];exact o.zB) (by rw[eM,fM,o.pair.or];exact zM) (by omega) (by omega);rw[Z7d he]at o0;refine Zbi3 _ _ _ _ _ _ _ _ ?_;rw[if_pos (by omega)];refine⟨by omega,x.Zz[i],by rw[Yg];exact Ya hi,?_⟩;rw[hB];refine⟨_,Zkl l _ hl,k1,_,k2,_,Zkl l _ hl,j1,_,j2,_,_,o0,?_⟩;refine Z7e m hm sizes qa fr l hl o.pair o.left _ fM (by omega) o.zA o.zB zM x i r 5 (Ye _) _ (by rw[Zgm];exact h5) ?_;rw[Z7b _ 5 _ _ _ o.left.up (λe he=>by have:=o.left.ord e he;omega)];refine l_merges m hm hg sizes cc qa fr l hl o.pair o.left o.right o.zA o.zB zM x i _ (Ya his) o.len o.vars r 0 (Yd _) _ (by rw[Zy8,Zgm];exact h5) ?_;rw[hw,Yk];exact ih
theorem Z7f{m:Ze}{sizes:List Int}{qa:List Atom}{l:List Za}{M:Int}(hg:Zbt m.Sort_)(cc:Ze7 sizes):∀{ps:List (Int×List Int)} {c:List Za},(∀p∈ps,Zi3 m sizes qa l M p.1 p.2)->Zec m sizes qa M c->Zec m sizes qa M (ps.foldl (oneJ m sizes M l) c)
 |[],_,_,h=>h
 |p::ps,c,hp,h=>by
  have o:=hp p (by simp);rw[Yv];exact Z7f hg cc (λy hy=>hp y (by simp[hy])) (Zb28 o.pair hg cc o.left o.right o.vars h)
def Zko(m:Ze)(sizes:List Int)(M:Int)(l:List Za)(ps:List (Int×List Int)):List Za:=ps.foldl (oneJ m sizes M l) (List.replicate 5 zE)
theorem Zb3b(m:Ze)(hm:LeM m)(hg:Zbt m.Sort_)(sizes:List Int)(cc:Ze7 sizes)(qa:List Atom)(fr:Bool)(l:List Za)(hl:l.length<=1000)(x:Z8)(zM:SzOk sizes x.mask)(cl:M16 x.mask)(h0:0<x.mask)(cd:x.Zz.length=x.shared.length)(hx:x.Zz.length<=100)(ok:∀p∈x.Zz.zip x.shared,Zi3 m sizes qa l x.mask p.1 p.2) :
  ∃fr',Zwk sizes fr l m x=some (.own 2,[.arr 3 1 true (sizes.map ic),.arr 126 4 fr (l.map Za.c),.arr 126 4 fr' (((Zko m sizes x.mask l (x.Zz.zip x.shared)).filter sm).map Za.c)]):=by
 have hs:Zec m sizes qa x.mask (Zko m sizes x.mask l (x.Zz.zip x.shared)):=Z7f hg cc ok (Zbmp m sizes qa x.mask);obtain⟨fr',h⟩:=Zb29 _ hs.1 sizes fr l 0 (by omega) true [] (Ye _);rw[Yk,Ybv,Zb3a hs h0]at h;exact⟨fr',Zbxb _ _ _ _ _ _ (l_splits m hm hg sizes cc qa fr l hl x zM cl cd hx ok _ 0 (Yd _) _ (by simp) (by rw[Yk];exact h))⟩
theorem Zb3c{m:Ze}{sizes:List Int}{a b:Za}{k v o:Int}(ho:-1<=o/\o<=3)(a0 a1 a2 a3 a4:Za):offJ m sizes a b k v o [a0,a1,a2,a3,a4] =
  [offK 0 a0 (orI a.Mask b.Mask) o (jc m sizes a b k) (Zcv a.Plan.Steps b.Plan.Steps k v),offK 1 a1 (orI a.Mask b.Mask) o (jc m sizes a b k) (Zcv a.Plan.Steps b.Plan.Steps k v),offK 2 a2 (orI a.Mask b.Mask) o (jc m sizes a b k) (Zcv a.Plan.Steps b.Plan.Steps k v),offK 3 a3 (orI a.Mask b.Mask) o (jc m sizes a b k) (Zcv a.Plan.Steps b.Plan.Steps k v),offK 4 a4 (orI a.Mask b.Mask) o (jc m sizes a b k) (Zcv a.Plan.Steps b.Plan.Steps k v)]:=by
 have h5:o=-1\/o=0\/o=1\/o=2\/o=3:=by omega
 rcases h5 with rfl|rfl|rfl|rfl|rfl<;>simp[offJ,offK]
theorem five{mine:List Za}(h:mine.length=5):∃a0 a1 a2 a3 a4,mine=[a0,a1,a2,a3,a4]:=by
 match mine,h with
 |[a0,a1,a2,a3,a4],_=>exact⟨a0,a1,a2,a3,a4,rfl⟩
theorem x_offJ(m:Ze)(hm:LeM m)(q:Zc)(hq:LeQ q)(cl:Zn q.Zf q.Atoms=true)(sizes:List Int)(hs:Le sizes)(cd:Zb5 q.Zf q.Atoms sizes=true){A B M:Int}(cc:M16 M)(hM:M≠0)(hp:Pair q.Atoms A B M){a b:Za}{k v o oa ob:Int}(ho:-1<=o/\o<=3)(hk:3<=k)(ha:a.Mask=A)(hb:b.Mask=B)(ma:Zbp m sizes q.Atoms a.Plan.Steps A oa a.Cost)(mb:Zbp m sizes q.Atoms b.Plan.Steps B ob b.Cost)(hj:Zfp q.Atoms ⟨k,0,v⟩ (A,oa) (B,ob)=some o)(hl:a.Plan.Steps.length+2<=4*popc A/\b.Plan.Steps.length+2<=4*popc B)(a0 a1 a2 a3 a4:Za) :
  ∃b0 b1 b2 b3 b4 t,offJ m sizes a b k v o [a0,a1,a2,a3,a4]=[b0,b1,b2,b3,b4]/\(t=.dead\/t=.arr 162 3 true ((Zcv a.Plan.Steps b.Plan.Steps k v).map Zb.c))/\Zc6 m q sizes M a0 a1 a2 a3 a4 (sm a0) (sm a1) (sm a2) (sm a3) (sm a4) (Zcv a.Plan.Steps b.Plan.Steps k v) o=some (.tup [],[boxO m q sizes M b0 b1 b2 b3 b4 (sm b0) (sm b1) (sm b2) (sm b3) (sm b4),t]):=by
 have hpop:=hp.pop;have p4:=Zeb cc;have mk:=Zbl6 (x:=⟨k,0,v⟩) ma mb hk rfl hp.dis hp.shr hj;rw[hp.or]at mk;have hc:=Zbp.cost mk cl (by simp only[Yj,Yx,Ybm];omega) cd;obtain⟨t,ht,hx⟩:=Zbl8 m hm q hq sizes hs M hM a0 a1 a2 a3 a4 (Zcv a.Plan.Steps b.Plan.Steps k v) o ho _ hc;refine⟨_,_,_,_,_,t,Zb3c ho a0 a1 a2 a3 a4,ht,?_⟩;rw[hx];simp only[jc,ha,hb,hp.or]
theorem Zud{qa:List Atom}{M A:Int}(h:A∈Zz qa M):1<=A/\A<M/\andI A M=A/\conn qa A=true/\conn qa (M-A)=true:=by
 unfold Zz Zfn at h;rw[Y3]at h;obtain⟨k,hk,rfl⟩:=h;rw[Y4,List.mem_range'_1]at hk;obtain⟨⟨h1,h2⟩,h3⟩:=hk;simp only[Zc7,Yc,decide_eq_true_eq]at h3;exact⟨by omega,by omega,h3⟩
theorem Zb3d{qa:List Atom}{M:Int}{k:Nat}(h1:1<=k)(h2:(k:Int)<M)(h3:Zc7 qa M k=true):(k:Int)∈Zz qa M:=by
 unfold Zz Zfn;rw[Y3];exact⟨k,by rw[Y4,List.mem_range'_1];exact⟨⟨h1,by omega⟩,h3⟩,rfl⟩
theorem Z7g{qa:List Atom}{M:Int}(h:M16 M):(Zz qa M).length<=16:=by
 unfold Zz Zfn;rw[Yb1];refine Y0 (Ybr _ _) ?_;rw[List.length_range'];omega
set_option maxRecDepth 100000 in
theorem Zb3e:∀a b c d e f g h:Bool,andB (e,f,g,h) (a,b,c,d)=(e,f,g,h)->popc (toI (e,f,g,h))+popc (toI (subB (a,b,c,d) (e,f,g,h)))=popc (toI (a,b,c,d))/\orB (e,f,g,h) (subB (a,b,c,d) (e,f,g,h))=(a,b,c,d)/\andB (e,f,g,h) (subB (a,b,c,d) (e,f,g,h))=(false,false,false,false):=by decide
theorem inN_of{n:Int}{qa:List Atom}(hv:Zn n qa=true){M:Int}(h:MQ qa M):inN qa.length (ofI M)=true:=by
 have h4:=Zcs hv;have h16:=(h.m16 hv).1;obtain⟨a,rfl⟩:=m16 h16;have key:∀a:Fin 16,(a.1<2->inN 1 (ofI (a.1:Int))=true)/\(a.1<4->inN 2 (ofI (a.1:Int))=true)/\(a.1<8->inN 3 (ofI (a.1:Int))=true)/\inN 4 (ofI (a.1:Int))=true:=by decide
 have hk:=key a;have hl:qa.length=1\/qa.length=2\/qa.length=3\/qa.length=4:=by omega
 have h2:=h.2;rcases hl with e|e|e|e
 .rw[e]at h2|-;exact hk.1 (by omega)
 .rw[e]at h2|-;exact hk.2.1 (by omega)
 .rw[e]at h2|-;exact hk.2.2.1 (by omega)
 .rw[e]at h2|-;exact hk.2.2.2
theorem okf1(g:Ed){n:Nat}(hn:1<=n/\n<=4)(p:B4):okF1 g n p=true:=by
 have:=f1 g.a g.b g.c g.d g.e g.f p.1 p.2.1 p.2.2.1 p.2.2.2;have hl:n=1\/n=2\/n=3\/n=4:=by omega
 rcases hl with rfl|rfl|rfl|rfl
 .exact this.1
 .exact this.2.1
 .exact this.2.2.1
 .exact this.2.2.2
theorem okf2(g:Ed){n:Nat}(hn:1<=n/\n<=4)(p x:B4):okF2 g n p x=true:=by
 have:=f2 g.a g.b g.c g.d g.e g.f p.1 p.2.1 p.2.2.1 p.2.2.2 x.1 x.2.1 x.2.2.1 x.2.2.2;have hl:n=1\/n=2\/n=3\/n=4:=by omega
 rcases hl with rfl|rfl|rfl|rfl
 .exact this.1
 .exact this.2.1
 .exact this.2.2.1
 .exact this.2.2.2
theorem Zb3f{n:Int}{qa:List Atom}(hv:Zn n qa=true){M A:Int}(hM:MQ qa M)(hc:conn qa M=true)(h:A∈Zz qa M):Pair qa A (M-A) M:=by
 obtain⟨h1,h2,h3,_,_⟩:=Zud h;have h16:=(hM.m16 hv).1;have a16:M16 A:=by omega
 have b16:M16 (M-A):=by omega
 have eM:=Z66 h16;have eA:=Z66 a16;have hsub:andB (ofI A) (ofI M)=ofI A:=by
  apply Z67;rw[<-Zy5,eM,eA];exact h3
 have eB:=Zbmh hsub;rw[eM,eA]at eB;have hp:=Zb3e (ofI M).1 (ofI M).2.1 (ofI M).2.2.1 (ofI M).2.2.2 (ofI A).1 (ofI A).2.1 (ofI A).2.2.1 (ofI A).2.2.2 hsub;have hp1:popc (toI (ofI A))+popc (toI (subB (ofI M) (ofI A)))=popc (toI (ofI M)):=hp.1;have hp2:orB (ofI A) (subB (ofI M) (ofI A))=ofI M:=hp.2.1;have hp3:andB (ofI A) (subB (ofI M) (ofI A))=(false,false,false,false):=hp.2.2;refine⟨a16,b16,?_,?_,?_,?_⟩
 .rw[eB];have:=toI_or (ofI A) (subB (ofI M) (ofI A));rw[hp2,eM,eA]at this;exact this
 .rw[eB];have:=Zy5 (ofI A) (subB (ofI M) (ofI A));rw[hp3,eA]at this;exact this
 .rw[eB];have:=edge_bit (Zcs hv).2 (ofI A) (subB (ofI M) (ofI A)) hp3;rw[eA]at this;rw[this];have h5:=okf2 (edOf qa) (Zcs hv) (ofI M) (ofI A);have hcb:=Zub hv (ofI M);rw[eM,hc]at hcb;have hin:=inN_of hv hM;have n0:ofI A≠(false,false,false,false):=λhe=>by
   rw[he]at eA
   have:toI (false,false,false,false)=0:=rfl
   omega
  have nM:ofI A≠ofI M:=λhe=>by rw[he,eM]at eA;omega
  unfold okF2 at h5;rw[hsub,<-hcb,hin]at h5;simpa[n0,nM]using h5
 .rw[eB];rw[eM,eA]at hp1;exact hp1
theorem split_ne{n:Int}{qa:List Atom}(hv:Zn n qa=true){M:Int}(hM:MQ qa M)(h0:M≠0)(hc:conn qa M=true)(h1:oneB (ofI M)=false):Zz qa M≠[]:=by
 have h16:=(hM.m16 hv).1;have eM:=Z66 h16;have h5:=okf1 (edOf qa) (Zcs hv) (ofI M);have hcb:=Zub hv (ofI M);rw[eM,hc]at hcb;have hin:=inN_of hv hM;have nz:ofI M≠(false,false,false,false):=λhe=>by
  rw[he]at eM
  have:toI (false,false,false,false)=0:=rfl
  omega
 have one:∀(x:B4) (k:Nat),toI x=(k:Int)->1<=k->oneB x=true->andB x x=x->Zc9 (edOf qa) qa.length x=true->andB (ofI M) x≠(false,false,false,false)->(andB (ofI M) x=x)->Zc9 (edOf qa) qa.length (subB (ofI M) x)=true->Zz qa M≠[]:=by
  intro x k hk hk1 hx hxx hcx hne hsub hcs;have hsub':andB x (ofI M)=x:=by
   have:andB x (ofI M)=andB (ofI M) x:=by
    obtain⟨a,b,c,d⟩:=x;show(a && (ofI M).1,b && (ofI M).2.1,c && (ofI M).2.2.1,d && (ofI M).2.2.2)=((ofI M).1 && a,(ofI M).2.1 && b,(ofI M).2.2.1 && c,(ofI M).2.2.2 && d);simp only[Bool.and_comm]
   rw[this,hsub]
  have e1:=Zbmh hsub';rw[eM,hk]at e1;have hxm:x≠ofI M:=λhe=>by rw[<-he,hx]at h1;cases h1
  have hle:(k:Int)<M:=by
   have q1:=toI_16 (subB (ofI M) x);have q2:toI (subB (ofI M) x)≠0:=by
    intro hz;apply hxm;apply Z67;rw[eM,hk];omega
   omega
  have:(k:Int)∈Zz qa M:=by
   refine Zb3d hk1 hle ?_;unfold Zc7;rw[e1,Zub hv,hcs,<-hk,Zub hv,hcx]
   have:andI (toI x) M=toI x:=by
    have:=Zy5 x (ofI M);rw[eM,hsub']at this;exact this
   rw[this];simp
  exact List.ne_nil_of_mem this
 have c1:∀(g:Ed) (n:Nat),1<=n/\n<=4->Zc9 g n (true,false,false,false)=true/\Zc9 g n (false,true,false,false)=true/\Zc9 g n (false,false,true,false)=true/\Zc9 g n (false,false,false,true)=true:=by
  have key:∀a b c d e f:Bool,∀n:Fin 5,1<=n.1->Zc9 ⟨a,b,c,d,e,f⟩ n.1 (true,false,false,false)=true/\Zc9 ⟨a,b,c,d,e,f⟩ n.1 (false,true,false,false)=true/\Zc9 ⟨a,b,c,d,e,f⟩ n.1 (false,false,true,false)=true/\Zc9 ⟨a,b,c,d,e,f⟩ n.1 (false,false,false,true)=true:=by decide
  intro g n hn;exact key g.a g.b g.c g.d g.e g.f ⟨n,by omega⟩ hn.1
 obtain⟨k0,k1,k2,k3⟩:=c1 (edOf qa) qa.length (Zcs hv);have sel:∀a b c d:Bool,(¬andB (a,b,c,d) (true,false,false,false)=(false,false,false,false)->andB (a,b,c,d) (true,false,false,false)=(true,false,false,false))/\(¬andB (a,b,c,d) (false,true,false,false)=(false,false,false,false)->andB (a,b,c,d) (false,true,false,false)=(false,true,false,false))/\(¬andB (a,b,c,d) (false,false,true,false)=(false,false,false,false)->andB (a,b,c,d) (false,false,true,false)=(false,false,true,false))/\(¬andB (a,b,c,d) (false,false,false,true)=(false,false,false,false)->andB (a,b,c,d) (false,false,false,true)=(false,false,false,true)):=by
  intro a b c d;cases a<;>cases b<;>cases c<;>cases d<;>simp[andB]
 have hs:=sel (ofI M).1 (ofI M).2.1 (ofI M).2.2.1 (ofI M).2.2.2;unfold okF1 at h5;rw[hin,<-hcb,h1]at h5;have nz':(ofI M == (false,false,false,false))=false:=by simpa using nz
 rw[nz']at h5;simp only[Bool.not_true,Ycp,Ycy,Yc,bne_iff_ne,ne_eq]at h5;rcases h5 with((h5|h5)|h5)|h5
 .exact one _ 1 rfl (by omega) rfl rfl k0 h5.1 (hs.1 h5.1) h5.2
 .exact one _ 2 rfl (by omega) rfl rfl k1 h5.1 (hs.2.1 h5.1) h5.2
 .exact one _ 4 rfl (by omega) rfl rfl k2 h5.1 (hs.2.2.1 h5.1) h5.2
 .exact one _ 8 rfl (by omega) rfl rfl k3 h5.1 (hs.2.2.2 h5.1) h5.2
structure Base (m:Ze) (q:Zc) (sizes:List Int):Prop where
 hm:LeM m
 hg:Zbt m.Sort_
 hq:LeQ q
 hv:Zn q.Zf q.Atoms=true
 hs:Le sizes
 hcl:Ze7 sizes
 hsv:Zb5 q.Zf q.Atoms sizes=true
theorem i_merges{m:Ze}{q:Zc}{sizes:List Int}(b:Base m q sizes){A B M:Int}(cc:M16 M)(hM:M≠0)(hp:Pair q.Atoms A B M){E F:List Za}(hE:Held m sizes q.Atoms A E)(hF:Held m sizes q.Atoms B F)
  (sh:List Int) (cd:sh.length<=1000) (hv:∀v∈sh,(-1<=v/\v<=3)/\vin q.Atoms A v=true/\vin q.Atoms B v=true)
  (fr:Bool) (c:List (List Za)) (fr1:Bool) (out:List Za) (x x1:List Int) (x3 x4 x5 x6:Int) (r:AV×List Blk) :
  ∀i,i<=sh.length->∀a0 a1 a2 a3 a4:Za,(∀b0 b1 b2 b3 b4,(sh.drop i).foldl (Zfq m sizes A B E F) [a0,a1,a2,a3,a4]=[b0,b1,b2,b3,b4]->
   Zhy m q fr c fr1 out m q sizes M b0 b1 b2 b3 b4 (sm b0) (sm b1) (sm b2) (sm b3) (sm b4) x x1 sizes M x3 x4 x5 (w (x6+1))=some r)->
  Zfk m q fr c fr1 out m q sizes M a0 a1 a2 a3 a4 (sm a0) (sm a1) (sm a2) (sm a3) (sm a4) x x1 sh sizes M E F x3 x4 x5 x6 sh.length i=some r:=by
 have pA:=Zeb hp.a16;have pB:=Zeb hp.b16;refine down _ ?_ ?_
 .intro a0 a1 a2 a3 a4 h;refine Zbkr _ _ _ _ _ _ _ _ _ _ _ _ _ _ _ _ _ _ _ _ _ _ _ _ _ _ _ _ _ _ _ _ _ _ ?_;rw[if_neg (by omega)];exact h _ _ _ _ _ (by simp)
 .intro i hi ih a0 a1 a2 a3 a4 h;have h4:=Zw (i:=i) (by omega);have hw:w ((i:Int)+1)=((i+1:Nat):Int):=by rw[show w ((i:Int)+1)=(i:Int)+1 from h4];simp
  rw[Yi hi,Yv]at h;obtain⟨v1,v2,v3⟩:=hv sh[i] (Yf hi);obtain⟨k1,k2,k3,k4,k5⟩:=Zkn hE b.hg b.hcl hp.a16 v2;obtain⟨j1,j2,j3,j4,j5⟩:=Zkn hF b.hg b.hcl hp.b16 v3;obtain⟨b0,b1,b2,b3,b4,t,hJ,ht,hx⟩:=x_offJ m b.hm q b.hq b.hv sizes b.hs b.hsv cc hM hp (a:=inp m sizes A E sh[i]) (b:=inp m sizes B F sh[i]) (k:=4) (v:=sh[i]) v1 (by omega) k1 j1 k3 j3 (Zbl7 v2 v3 rfl rfl) ⟨k5,j5⟩ a0 a1 a2 a3 a4;rw[show Zfq m sizes A B E F [a0,a1,a2,a3,a4] sh[i]=[b0,b1,b2,b3,b4]from hJ]at h;have ih:=ih b0 b1 b2 b3 b4 h;refine Zbkr _ _ _ _ _ _ _ _ _ _ _ _ _ _ _ _ _ _ _ _ _ _ _ _ _ _ _ _ _ _ _ _ _ _ ?_;rw[if_pos (by omega)];refine⟨by omega,sh[i],by rw[Yg];exact Ya hi,?_⟩;rw[hw];rcases Z68 m b.hm b.hg q b.hq b.hv sizes b.hs b.hcl b.hsv hp.a16 hE v2 with ha|ha
  .refine .inl ⟨_,ha,?_⟩;rcases Z68 m b.hm b.hg q b.hq b.hv sizes b.hs b.hcl b.hsv hp.b16 hF v3 with hb|hb
   .refine .inl ⟨_,hb,_,Zpw _ _ _ _ (by omega) (by omega),?_⟩;rcases ht with rfl|rfl
    .exact .inl ⟨m,q,sizes,M,b0,b1,b2,b3,b4,_,_,_,_,_,hx,ih⟩
    .exact .inr ⟨m,q,sizes,M,b0,b1,b2,b3,b4,_,_,_,_,_,_,hx,ih⟩
   .refine .inr ⟨_,hb,_,Zpw _ ⟨(inp m sizes B F sh[i]).Plan.Steps⟩ _ _ (by omega) (by show(inp m sizes B F sh[i]).Plan.Steps.length<=1000;omega),?_⟩;rcases ht with rfl|rfl
    .exact .inl ⟨m,q,sizes,M,b0,b1,b2,b3,b4,_,_,_,_,_,hx,ih⟩
    .exact .inr ⟨m,q,sizes,M,b0,b1,b2,b3,b4,_,_,_,_,_,_,hx,ih⟩
  .refine .inr ⟨_,ha,?_⟩;rcases Z68 m b.hm b.hg q b.hq b.hv sizes b.hs b.hcl b.hsv hp.b16 hF v3 with hb|hb
   .refine .inl ⟨_,hb,_,Zpw ⟨(inp m sizes A E sh[i]).Plan.Steps⟩ _ _ _ (by show(inp m sizes A E sh[i]).Plan.Steps.length<=1000;omega) (by omega),?_⟩;rcases ht with rfl|rfl
    .exact .inl ⟨m,q,sizes,M,b0,b1,b2,b3,b4,_,_,_,_,_,hx,ih⟩
    .exact .inr ⟨m,q,sizes,M,b0,b1,b2,b3,b4,_,_,_,_,_,_,hx,ih⟩
   .refine .inr ⟨_,hb,_,Zpw ⟨(inp m sizes A E sh[i]).Plan.Steps⟩ ⟨(inp m sizes B F sh[i]).Plan.Steps⟩ _ _ (by show(inp m sizes A E sh[i]).Plan.Steps.length<=1000;omega) (by show(inp m sizes B F sh[i]).Plan.Steps.length<=1000;omega),?_⟩;rcases ht with rfl|rfl
    .exact .inl ⟨m,q,sizes,M,b0,b1,b2,b3,b4,_,_,_,_,_,hx,ih⟩
    .exact .inr ⟨m,q,sizes,M,b0,b1,b2,b3,b4,_,_,_,_,_,_,hx,ih⟩
theorem i_nested{m:Ze}{q:Zc}{sizes:List Int}(b:Base m q sizes){A B M:Int}(cc:M16 M)(hM:M≠0)(hp:Pair q.Atoms A B M){E F:List Za}(hE:Held m sizes q.Atoms A E)(hF:Held m sizes q.Atoms B F)
  (sh:List Int) (cd:Zmb q A (Zhm M A)=some (.own 0,[.arr 3 1 true (sh.map ic)]))
  (fr:Bool) (c:List (List Za)) (fr1:Bool) (out:List Za) (x x1:List Int) (x3 x4 x5 x6:Int) (r:AV×List Blk) :
  ∀i,i<=E.length->∀a0 a1 a2 a3 a4:Za,(∀b0 b1 b2 b3 b4,(E.drop i).foldl (Ze9 m sizes (Z5 F)) [a0,a1,a2,a3,a4]=[b0,b1,b2,b3,b4]->
   Zfk m q fr c fr1 out m q sizes M b0 b1 b2 b3 b4 (sm b0) (sm b1) (sm b2) (sm b3) (sm b4) x x1 sh sizes M E F x3 x4 x5 x6 sh.length 0=some r)->
  Zka m q fr c fr1 out m q sizes M a0 a1 a2 a3 a4 (sm a0) (sm a1) (sm a2) (sm a3) (sm a4) (Z5 F).Plan x x1 sizes M A E F x3 x4 x5 x6 E E.length i=some r:=by
 have pA:=Zeb hp.a16;have pB:=Zeb hp.b16;have lF:=hF.len _ hF.best;have hle:=hE.le;refine down _ ?_ ?_
 .intro a0 a1 a2 a3 a4 h;refine Zbkq _ _ _ _ _ _ _ _ _ _ _ _ _ _ _ _ _ _ _ _ _ _ _ _ _ _ _ _ _ _ _ _ _ _ _ _ ?_;rw[if_neg (by omega)];exact⟨sh,cd,h _ _ _ _ _ (by simp)⟩
 .intro i hi ih a0 a1 a2 a3 a4 h;have h4:=Zw (i:=i) (by omega);have hw:w ((i:Int)+1)=((i+1:Nat):Int):=by rw[show w ((i:Int)+1)=(i:Int)+1 from h4];simp
  rw[Yi hi,Yv]at h;have hmem:=Yf hi;have lE:=hE.len _ hmem;obtain⟨b0,b1,b2,b3,b4,t,hJ,ht,hx⟩:=x_offJ m b.hm q b.hq b.hv sizes b.hs b.hsv cc hM hp (a:=E[i]) (b:=Z5 F) (k:=5) (v:=0) (hE.ord _ hmem) (by omega) (hE.mask _ hmem) (hF.mask _ hF.best) (hE.makes _ hmem) (hF.makes _ hF.best) nest_p ⟨by omega,by omega⟩ a0 a1 a2 a3 a4;rw[show Ze9 m sizes (Z5 F) [a0,a1,a2,a3,a4] E[i]=[b0,b1,b2,b3,b4]from hJ]at h;have ih:=ih b0 b1 b2 b3 b4 h;refine Zbkq _ _ _ _ _ _ _ _ _ _ _ _ _ _ _ _ _ _ _ _ _ _ _ _ _ _ _ _ _ _ _ _ _ _ _ _ ?_;rw[if_pos (by omega)];refine⟨by omega,E[i],by rw[Yg];exact Ya hi,?_⟩;rw[hw];refine⟨_,Zpw _ _ _ _ (by omega) (by omega),?_⟩;rcases ht with rfl|rfl
  .exact .inl ⟨m,q,sizes,M,b0,b1,b2,b3,b4,_,_,_,_,_,hx,ih⟩
  .exact .inr ⟨m,q,sizes,M,b0,b1,b2,b3,b4,_,_,_,_,_,_,hx,ih⟩
end Go.Proofs.YtcfaekfjkeobhaaGreat
