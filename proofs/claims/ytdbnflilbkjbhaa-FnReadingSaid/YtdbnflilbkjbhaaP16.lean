/-
  Parts of the proofs for this seat: MK SP LS WA.
-/
import Derived.Test.YtdbnflilbkjbhaaP15
set_option linter.unusedSectionVars false
set_option linter.unusedSimpArgs false
set_option linter.unusedVariables false
set_option maxRecDepth 100000
set_option maxHeartbeats 4000000
namespace Go.Proofs.Ytdbnflilbkjbhaa
open Go.AM
def popc(x:Int):Nat:=(if andI (shrI x 0) 1=1 then 1 else 0)+(if andI (shrI x 1) 1=1 then 1 else 0)+(if andI (shrI x 2) 1=1 then 1 else 0)+(if andI (shrI x 3) 1=1 then 1 else 0)
abbrev M16(x:Int):Prop:=0<=x/\x<16
theorem m16{x:Int}(h:M16 x):∃a:Fin 16,x=(a.1:Int):=⟨⟨x.toNat,by omega⟩,by simp;omega⟩
set_option maxRecDepth 100000 in
theorem f_or:∀a b:Fin 16,M16 (orI a.1 b.1)/\andI a.1 (orI a.1 b.1)=a.1/\(orI a.1 b.1=a.1\/popc a.1+1<=popc (orI a.1 b.1)):=by decide
set_option maxRecDepth 100000 in
theorem f_and:∀a b:Fin 16,M16 (andI a.1 b.1)/\andI (andI a.1 b.1) b.1=andI a.1 b.1/\(andI (a.1:Int) b.1=a.1->popc a.1<=popc b.1/\(popc b.1<=popc a.1->a.1=b.1)):=by decide
set_option maxRecDepth 1000000 in
theorem f_sub:∀a b c:Fin 16,andI (a.1:Int) c.1=a.1->andI (b.1:Int) c.1=b.1->andI (orI a.1 b.1) c.1=orI a.1 b.1:=by decide
set_option maxRecDepth 100000 in
theorem f_bit:∀(a:Fin 16) (i:Fin 4),(andI (shrI a.1 i.1) 1=0↔¬andI (shrI a.1 i.1) 1=1):=by decide
set_option maxRecDepth 100000 in
theorem f_low:∀a:Fin 16,M16 (andI a.1 (w (0-a.1)))/\andI (andI a.1 (w (0-a.1))) a.1=andI a.1 (w (0-(a.1:Int))):=by decide
set_option maxRecDepth 100000 in
theorem f_pop:∀(a:Fin 16),(a.1<2->popc a.1<=1)/\(a.1<4->popc a.1<=2)/\(a.1<8->popc a.1<=3)/\popc a.1<=4:=by decide
theorem f_bits:∀a b c d:Bool,M16 (bit4 a b c d):=by decide
def Zc0(qa:List Atom)(m:Int):Nat->Bool:=λi=>decide (i<qa.length) && (!Zv m i && shr qa (shlI 1 i) m)
def nearM(qa:List Atom)(m:Int):Int:=Z2 (Zc0 qa m)
theorem nearM_16(qa:List Atom)(m:Int):M16 (nearM qa m):=f_bits _ _ _ _
theorem Z13{m:Int}(hm:M16 m){i:Nat}(hi:i<4):andI (shrI m i) 1=0↔Zv m i=false:=by
 obtain⟨a,rfl⟩:=m16 hm;have:=f_bit a ⟨i,hi⟩;simp only at this;rw[this,Zv,decide_eq_false_iff_not]
theorem Zbbe{qa:List Atom}{m:Int}{i:Nat}(hi:i<4)(h:Zc0 qa m i=true):addV (λu=>decide (u<i) && Zc0 qa m u) [(i:Int)]=λu=>decide (u<i+1) && Zc0 qa m u:=by
 funext u;simp only[addV,has];by_cases e:u=i
 .subst e;rw[decide_eq_true (by omega:u<u+1),h];simp
 .by_cases e2:u<i
  .rw[decide_eq_true e2,decide_eq_true (by omega)]
   have:¬((u:Int)=(i:Int)):=by omega
   simp[this]
  .rw[decide_eq_false e2,decide_eq_false (by omega)]
   have:¬((u:Int)=(i:Int)):=by omega
   simp[this]
theorem Z14{qa:List Atom}{m:Int}{i:Nat}(h:Zc0 qa m i=false):(λu=>decide (u<i) && Zc0 qa m u)=λu=>decide (u<i+1) && Zc0 qa m u:=by
 funext u;by_cases e:u=i
 .subst e;rw[h];simp
 .by_cases e2:u<i
  .rw[decide_eq_true e2,decide_eq_true (by omega)]
  .rw[decide_eq_false e2,decide_eq_false (by omega)]
theorem near_all(qa:List Atom)(m:Int):(λu=>decide (u<qa.length) && Zc0 qa m u)=Zc0 qa m:=by
 funext u;unfold Zc0;by_cases e:u<qa.length
 .rw[decide_eq_true e];simp
 .rw[decide_eq_false e];simp
theorem l_near(q:Zb)(hq:LeQ q)(hv:Zs q.Zp q.Atoms=true)(m:Int)(hm:M16 m):∀i,i<=q.Atoms.length->
  Zfp q m (Z2 λu=>decide (u<i) && Zc0 q.Atoms m u) (Z2 (pV m q.Atoms)) i=some (I (nearM q.Atoms m),[]):=by
 have h4:=(Zdv hv).2;refine down _ ?_ ?_
 .refine Z07 ?_;rw[if_neg (by omega),near_all];rfl
 .intro i hi ih;have hi4:i<4:=by omega
  have hinc:=Zbv (i:=i) (by omega);simp only[Ys,Yt]at ih;refine Z07 ?_;rw[if_pos (by omega)];refine⟨by omega,?_⟩;rw[show w ((i:Int)+1)=(i:Int)+1 from hinc];have hn:Zc0 q.Atoms m i=(!Zv m i && shr q.Atoms (shlI 1 i) m):=by
   unfold Zc0;rw[decide_eq_true hi];simp
  rcases tf (Zv m i)with e1|e1
  .rw[if_pos ((Z13 hm hi4).2 e1)];refine⟨_,Zjv q (shlI 1 i) hq (Zjh hv),?_⟩;rcases tf (shr q.Atoms (shlI 1 i) m)with e2|e2
   .rw[if_pos ((Zp7 q.Atoms (shlI 1 i) m).2 e2),Z14 (by rw[hn,e2];simp)];exact ih
   .rw[if_neg (λhc=>by rw[(Zp7 q.Atoms (shlI 1 i) m).1 hc]at e2;cases e2),or_bit _ (by simp[inR];omega),Zbbe hi4 (by rw[hn,e1,e2];rfl)];exact ih
  .rw[if_neg (λhc=>by rw[(Z13 hm hi4).1 hc]at e1;cases e1),Z14 (by rw[hn,e1];rfl)];exact ih
theorem x_near(q:Zb)(hq:LeQ q)(hv:Zs q.Zp q.Atoms=true)(m:Int)(hm:M16 m):Zly q m=some (I (nearM q.Atoms m),[]):=by
 have b:=l_near q hq hv m hm 0 (Yd _);refine Z96 ⟨_,Zjv q m hq (Zjh hv),?_⟩;simpa[Z2,bit4]using b
def Zhc(qa:List Atom)(c x:Int):Int:=orI x (andI (nearM qa x) c)
def iterM(qa:List Atom)(c:Int):Nat->Int->Int
 |0,x=>x
 |n+1,x=>iterM qa c n (Zhc qa c x)
def conn(qa:List Atom)(c:Int):Bool:=decide (iterM qa c qa.length (andI c (w (0-c)))=c)
abbrev SubM(x mask:Int):Prop:=andI x mask=x
theorem Zbbf{qa:List Atom}{mask x:Int}(hm:M16 mask)(hx:M16 x)(hs:SubM x mask):M16 (Zhc qa mask x)/\SubM (Zhc qa mask x) mask/\(Zhc qa mask x=x\/popc x+1<=popc (Zhc qa mask x)):=by
 obtain⟨a,rfl⟩:=m16 hx;obtain⟨b,rfl⟩:=m16 hm;obtain⟨c,hc⟩:=m16 (nearM_16 qa (a.1:Int));unfold Zhc;rw[hc];obtain⟨d1,d2,_⟩:=f_and c b;obtain⟨d,hd⟩:=m16 d1;rw[hd]at d2|-;obtain⟨e1,_,e3⟩:=f_or a d;exact⟨e1,f_sub a d b hs d2,e3⟩
theorem l_joined(q:Zb)(hq:LeQ q)(hv:Zs q.Zp q.Atoms=true)(c:Int)(hm:M16 c):∀i,i<=q.Atoms.length->∀x,M16 x->SubM x c->
  Zil q c x i=some (Bo (decide (iterM q.Atoms c (q.Atoms.length-i) x=c)),[]):=by
 have h4:=(Zdv hv).2;refine down _ ?_ ?_
 .intro x _ _;refine Z08 ?_;rw[if_neg (by omega),Nat.sub_self];rfl
 .intro i hi ih x hx hs;obtain⟨s1,s2,s3⟩:=Zbbf (qa:=q.Atoms) hm hx hs;have hinc:=Zbv (i:=i) (by omega);refine Z08 ?_;rw[if_pos (by omega)];refine⟨_,x_near q hq hv x hx,?_⟩;have ih:=ih _ s1 s2;simp only[Ys,Yt]at ih;rw[show w ((i:Int)+1)=(i:Int)+1 from hinc,show q.Atoms.length-i=(q.Atoms.length-(i+1))+1 by omega,iterM];exact ih
abbrev MQ(qa:List Atom)(m:Int):Prop:=0<=m/\m<2 ^ qa.length
theorem MQ.m16{n:Int}{qa:List Atom}{m:Int}(hv:Zs n qa=true)(h:MQ qa m):M16 m/\popc m<=qa.length:=by
 have hl:=Zdv hv;obtain⟨h1,h2⟩:=h;have e:qa.length=1\/qa.length=2\/qa.length=3\/qa.length=4:=by omega
 have k16:M16 m:=by rcases e with e|e|e|e<;>rw[e]at h2<;>exact⟨h1,by omega⟩
 refine⟨k16,?_⟩;obtain⟨a,rfl⟩:=Go.Proofs.Ytdbnflilbkjbhaa.m16 k16;obtain⟨p1,p2,p3,p4⟩:=f_pop a;rcases e with e|e|e|e<;>rw[e]at h2|-
 .exact p1 (by omega)
 .exact p2 (by omega)
 .exact p3 (by omega)
 .exact p4
theorem Zs4(q:Zb)(hq:LeQ q)(hv:Zs q.Zp q.Atoms=true)(m:Int)(hm:MQ q.Atoms m):Zgs q m=some (Bo (conn q.Atoms m),[]):=by
 obtain⟨k1,k2⟩:=hm.m16 hv;refine Z97 ?_;obtain⟨a,rfl⟩:=m16 k1;obtain⟨l1,l2⟩:=f_low a;exact l_joined q hq hv _ k1 0 (Yd _) _ l1 l2
theorem Zs5{n:Int}{qa:List Atom}(hv:Zs n qa=true):Zbz n qa=2 ^ qa.length-1:=by
 unfold Zbz;rw[if_pos hv,(Zny hv).2.1]
theorem Z15(q:Zb)(hq:LeQ q)(m:Int):Zik q m=some (Bo (Zs q.Zp q.Atoms && inR m 0 (Zbz q.Zp q.Atoms)),[]):=by
 refine Z94 ⟨_,Zju q hq,?_⟩;rcases tf (Zs q.Zp q.Atoms)with e|e
 .rw[e];simp
 .rw[e,if_pos rfl];refine⟨by omega,_,Zcl _ _ _,?_⟩;rw[show w (shlI 1 (q.Atoms.length:Int)-1)=shlI 1 (q.Atoms.length:Int)-1 from(Zny e).2.2.1];unfold Zbz;rw[if_pos e];simp
theorem inR_MQ{n:Int}{qa:List Atom}(hv:Zs n qa=true){m:Int}(h:inR m 0 (Zbz n qa)=true):MQ qa m:=by
 rw[Zs5 hv]at h;simp[inR]at h;exact⟨h.1,by omega⟩
def Zhd(n:Int)(qa:List Atom)(m:Int):Bool:=Zs n qa && inR m 0 (Zbz n qa) && decide (m≠0) && conn qa m
theorem Z16(q:Zb)(hq:LeQ q)(m:Int):Zlz q m=some (Bo (Zhd q.Zp q.Atoms m),[]):=by
 refine Z98 ⟨_,Z15 q hq m,?_⟩;unfold Zhd;rcases tf (Zs q.Zp q.Atoms)with e|e
 .rw[e];simp
 rcases tf (inR m 0 (Zbz q.Zp q.Atoms))with e1|e1
 .rw[e,e1];simp
 rw[e,e1,if_pos (by rfl)];have hm:=inR_MQ e e1;by_cases h0:m=0
 .rw[if_neg (by omega)];simp[h0]
 .rw[if_pos (by have:=hm.1;omega)];exact⟨_,Zs4 q hq e m hm,by simp[h0]⟩
def Ze1(qa:List Atom)(c x:Int):Bool:=decide (andI x c=x) && (conn qa x && conn qa (c-x))
def Zfx(qa:List Atom)(c:Int)(k n:Nat):List Int:=((List.range' k n).filter (λm:Nat=>Ze1 qa c (m:Int))).map (λm:Nat=>(m:Int))
theorem Zbbg{qa:List Atom}{mask:Int}{k n:Nat}:Zfx qa mask k (n+1)=(if Ze1 qa mask (k:Int)=true then[(k:Int)]else[])++Zfx qa mask (k+1) n:=by
 unfold Zfx;rw[Ycl,Ycx];split<;>simp
def Zd0(qa:List Atom)(c:Int):List Int:=Zfx qa c 1 (c.toNat-1)
theorem Zbbh(q:Zb)(hq:LeQ q)(hv:Zs q.Zp q.Atoms=true)(c:Nat)(hm:MQ q.Atoms c):∀k:Nat,k<=c->1<=k->∀out:List Int,out.length<=k->
  Zeh q out c k=some (.own 0,[.arr Zbq 1 true ((out++Zfx q.Atoms c k (c-k)).map ic)]):=by
 have m16':=(hm.m16 hv).1;refine down _ ?_ ?_
 .intro _ out _;refine Z09 ?_;rw[if_neg (by omega),Nat.sub_self];simp[Zfx]
 .intro k hk ih h1 out ho;have wk':w ((k:Int)+1)=(k:Int)+1:=Z8 (by omega) (by omega);have wd:w ((c:Int)-k)=(c:Int)-k:=Z8 (by omega) (by omega);refine Z09 ?_;rw[if_pos (by omega),show c-k=(c-(k+1))+1 by omega,Zbbg,wk',wd];have skip:Ze1 q.Atoms c k=false->Zeh q out c ((k:Int)+1)=some (.own 0,[.arr Zbq 1 true ((out++((if Ze1 q.Atoms c (k:Int)=true then[(k:Int)]else[])++Zfx q.Atoms c (k+1) (c-(k+1)))).map ic)]):=by
   intro e;have ih:=ih (by omega) out (by omega);rw[e];simpa using ih
  by_cases e1:andI (k:Int) c=k
  .rw[if_pos e1];refine⟨_,Zs4 q hq hv k ⟨by omega,by have:=hm.2;omega⟩,?_⟩;rcases tf (conn q.Atoms k)with e2|e2
   .rw[e2,if_neg (by simp)];exact skip (by simp[Ze1,e2])
   .rw[e2,if_pos rfl];refine⟨_,Zs4 q hq hv ((c:Int)-k) ⟨by omega,by have:=hm.2;omega⟩,?_⟩;rcases tf (conn q.Atoms ((c:Int)-k))with e3|e3
    .rw[e3,if_neg (by simp)];exact skip (by simp[Ze1,e3])
    .rw[e3,if_pos rfl];have es:Ze1 q.Atoms c k=true:=by simp[Ze1,e1,e2,e3]
     rw[es,if_pos rfl];have ih:=ih (by omega) (out++[(k:Int)]) (by simp;omega);exact⟨by omega,by simpa using ih⟩
  .rw[if_neg e1];exact skip (by simp[Ze1,e1])
theorem Z17(q:Zb)(hq:LeQ q)(m:Int)(hc:Zhd q.Zp q.Atoms m=true):Zim q m=some (.own 0,[.arr Zbq 1 true ((Zd0 q.Atoms m).map ic)]):=by
 have hc':=hc;simp only[Zhd,Yb,decide_eq_true_eq]at hc';obtain⟨⟨⟨hv,hr⟩,h0⟩,_⟩:=hc';have hm:=inR_MQ hv hr;obtain⟨k,rfl⟩:∃k:Nat,m=k:=⟨m.toNat,by have:=hm.1;omega⟩;refine Z1a ⟨_,Z16 q hq k,?_⟩;rw[hc,if_pos rfl];have b:=Zbbh q hq hv k hm 1 (by omega) (Yg _) [] (by simp);simpa[Zd0]using b
def Zj1(m:Int)(k n:Nat):List Int:=((List.range' k n).filter (λi:Nat=>Zv m i)).map (λi:Nat=>(i:Int))
theorem Zbbi{m:Int}{k n:Nat}:Zj1 m k (n+1)=(if Zv m k=true then[(k:Int)]else[])++Zj1 m (k+1) n:=by
 unfold Zj1;rw[Ycl,Ycx];split<;>simp
def Zs6(m:Int):List Int:=Zj1 m 0 4
theorem Zbbj(m:Int)(hm:M16 m):∀k:Nat,k<=4->∀out:List Int,out.length<=k->Zgt out m k=some (.own 0,[.arr Zbq 1 true ((out++Zj1 m k (4-k)).map ic)]):=by
 refine down _ ?_ ?_
 .intro out _;refine Z1b ?_;rw[if_neg (by omega)];simp[Zj1]
 .intro k hk ih out ho;have wk':w ((k:Int)+1)=(k:Int)+1:=Z8 (by omega) (by omega);refine Z1b ?_;rw[if_pos (by omega),show 4-k=(4-(k+1))+1 by omega,Zbbi,wk'];refine⟨_,Zcl _ _ _,?_⟩;rw[if_pos (by simp[inR];omega)];refine⟨by omega,?_⟩;by_cases e:andI (shrI m k) 1=1
  .have ih:=ih (out++[(k:Int)]) (by simp;omega);rw[if_pos e,if_pos (by simp[Zv,e])];exact⟨by omega,by simpa using ih⟩
  .have ih:=ih out (by omega);rw[if_neg e,if_neg (by simp[Zv,e])];simpa using ih
theorem Z18{m:Int}(hm:M16 m):Zl0 m=some (.own 0,[.arr Zbq 1 true ((Zs6 m).map ic)]):=by
 have b:=Zbbj m hm 0 (by omega) [] (by simp);exact Z99 (by simpa[Zs6]using b)
abbrev Zcg(q:Zb)(m:Int):List Int:=varL m q.Atoms q.Zp.toNat
def Zj2(q:Zb)(a b:Int):List Int:=(Zcg q a).filter (has (Zcg q b))
theorem Zs7(q:Zb)(hv:Zs q.Zp q.Atoms=true)(m:Int):(Zcg q m).length<=4:=by
 have:=varL_len m q.Atoms q.Zp.toNat;have:=Zky hv;unfold Zcg;omega
theorem l_l7List(p:Nat->Bool):∀k:Nat,k<=4->∀out:List Int,out.length<=k->Zgu out (Z2 p) k=some (.own 0,[.arr Zbq 1 true ((out++((List.range' k (4-k)).filter p).map (λu:Nat=>(u:Int))).map ic)]):=by
 refine down _ ?_ ?_
 .intro out _;refine Z1c ?_;rw[if_neg (by omega)];simp
 .intro k hk ih out ho;have wk':w ((k:Int)+1)=(k:Int)+1:=Z8 (by omega) (by omega);have hb:=at_bit p (v:=(k:Int)) (by simp[inR];omega);rw[Ym]at hb;refine Z1c ?_;rw[if_pos (by omega),show 4-k=(4-(k+1))+1 by omega,Ycl,Ycx,wk'];refine⟨by omega,?_⟩;rcases tf (p k)with e|e
  .have ih:=ih out (by omega);rw[if_neg (λhc=>by rw[hb.1 hc]at e;cases e),e,if_neg (by simp)];simpa using ih
  .have ih:=ih (out++[(k:Int)]) (by simp;omega);rw[if_pos (hb.2 e),e,if_pos rfl];exact⟨by omega,by simpa using ih⟩
theorem vars4(q:Zb)(hv:Zs q.Zp q.Atoms=true)(m:Int):((List.range' 0 4).filter (pV m q.Atoms)).map (λu:Nat=>(u:Int))=Zcg q m:=by
 have hn:=Zky hv;have e:List.range' 0 4=List.range q.Zp.toNat++List.range' q.Zp.toNat (4-q.Zp.toNat):=by
  have h:=List.range'_append_1 (s:=0) (m:=q.Zp.toNat) (n:=4-q.Zp.toNat);rw[Yl]at h;rw[List.range_eq_range',h];congr 1;omega
 unfold Zcg varL;rw[e,List.filter_append];have e2:(List.range' q.Zp.toNat (4-q.Zp.toNat)).filter (pV m q.Atoms)=[]:=by
  rw[Ycz];intro u hu hp;have:=pV_lt hv hp;rw[List.mem_range'_1]at hu;omega
 rw[e2];simp
theorem Zs8(q:Zb)(hq:LeQ q)(hv:Zs q.Zp q.Atoms=true)(m:Int)(hm:MQ q.Atoms m):Zgv q m=some (.own 0,[.arr Zbq 1 true ((Zcg q m).map ic)]):=by
 have b:=l_l7List (pV m q.Atoms) 0 (by omega) [] (by simp);rw[show 4-0=4 from rfl,vars4 q hv m]at b;refine Zbad ⟨_,Z15 q hq m,?_⟩
 have:inR m 0 (Zbz q.Zp q.Atoms)=true:=by rw[Zs5 hv];simp[inR];have:=hm.1;have:=hm.2;omega
 rw[hv,this,if_pos (by rfl)];exact⟨_,Zjv q m hq (Zjh hv),_,Zbac (by simpa using b),rfl⟩
theorem Zbbk(x y:List Int)(hy:Le y)(hx:x.length<=1000):∀i,i<=x.length->Zgw ((x.take i).filter (has y)) x y i=some (.own 0,[.arr Zbq 1 true ((x.filter (has y)).map ic)]):=by
 refine down _ ?_ ?_
 .refine Z1d ?_;rw[if_neg (by omega)];simp
 .intro i hi ih;have h4:=Zbv (i:=i) (by omega);have e4:((x.take i).filter (has y)).length+1<=68719476736:=by
   have:=Yc0 (has y) (x.take i);simp at this;omega
  rw[Z5d _ hi]at ih;refine Z1d ?_;rw[if_pos (by omega)];refine⟨by omega,x[i],by rw[Ym];exact Yh hi,_,Z1x y x[i] hy,?_⟩;rw[show w ((i:Int)+1)=(i:Int)+1 from h4];rcases tf (has y x[i])with e|e
  .rw[e,if_neg (by simp)];rw[e]at ih;simpa using ih
  .rw[e,if_pos rfl];rw[e]at ih;exact⟨e4,by simpa using ih⟩
theorem Zbbl(q:Zb)(hq:LeQ q)(hv:Zs q.Zp q.Atoms=true)(a b:Int)(ha:MQ q.Atoms a)(hb:MQ q.Atoms b):Zl1 q a b=some (.own 0,[.arr Zbq 1 true ((Zj2 q a b).map ic)]):=by
 have l1:=Zs7 q hv a;have l2:=Zs7 q hv b;have c:=Zbbk (Zcg q a) (Zcg q b) (by omega) (by omega) 0 (Yd _);exact Zbae ⟨_,Zs8 q hq hv a ha,_,Zs8 q hq hv b hb,by simpa[Zj2]using c⟩
theorem w_id{x:Int}(h1:-9223372036854775808<=x)(h2:x<=9223372036854775807):w x=x:=Z8 h1 h2
theorem Zj3{a b c:Int}:inR a b c=true↔b<=a/\a<=c:=by simp[inR]
def GC(c:Za):Prop:=0<=c.i/\c.i<=c.b.length/\c.b.length<=1048576
abbrev cB(c:Za):Blk:=.box (c.c.map .t)
theorem and255(x:Int):0<=andI x 255/\andI x 255<=255:=by
 unfold andI;have h:(BitVec.ofInt 64 x &&& BitVec.ofInt 64 255).toNat<=255:=by
  rw[BitVec.toNat_and];exact Yy Nat.and_le_right (by decide)
 rw[show IntKind.wrap .i64 ((BitVec.ofInt 64 x &&& BitVec.ofInt 64 255).toNat:Int)=_ from w_id (by omega) (by omega)];omega
theorem l_l1New(code:List Int)(hl:code.length<=1048576):∀i,i<=code.length->∀h1:Int,∃c,Zhu code h1 i=some (.ptr 0 0,[cB c])/\GC c:=by
 refine down _ ?_ ?_
 .intro h1;refine⟨⟨code,0,h1⟩,Zsn ?_,by simp[GC];exact hl⟩;rw[if_neg (by omega)];rfl
 .intro i hi ih h1;by_cases h4:(i:Int)<4000
  .obtain⟨c,e,g⟩:=ih (andI (w ((w ((w (h1*131))+(w code[i])))+7)) 1073741823);refine⟨c,Zsn ?_,g⟩;rw[if_pos (by omega),if_pos h4];refine⟨by omega,code[i],by simp[hi],?_⟩;rw[show w ((i:Int)+1)=((i+1:Nat):Int)from w_id (by omega) (by omega)];exact e
  .refine⟨⟨code,0,h1⟩,Zsn ?_,by simp[GC];exact hl⟩;rw[if_pos (by omega),if_neg h4];rfl
theorem Z19(code:List Int)(hl:code.length<=1048576):∃c,Zht code=some (.ptr 0 0,[cB c])/\GC c:=by
 obtain⟨c,e,g⟩:=l_l1New code hl 0 (Yd _) (w (10101+(code.length:Int)));exact⟨c,Z8o e,g⟩
theorem Zmr{c:Za}(g:GC c):∃c' n,Ze7 c=some (I n,[cB c'])/\GC c'/\0<=n/\n<=255:=by
 by_cases h:c.i<(c.b.length:Int)
 .obtain⟨i,hi⟩:∃i:Nat,c.i=i:=⟨c.i.toNat,by have:=g.1;omega⟩;have hl:i<c.b.length:=by omega
  refine⟨⟨c.b,w (c.i+1),w ((w (c.h*6364136223846793005))+1442695040888963407)⟩,andI (w ((andI (xorI (shrI (w ((w (c.h*6364136223846793005))+1442695040888963407)) 33) (shrI (w ((w (c.h*6364136223846793005))+1442695040888963407)) 45)) 255)+(w c.b[i]))) 255,Zz3 ?_,?_,and255 _⟩
  .rw[if_pos h];exact⟨g.1,c.b[i],by simp[hi,hl],rfl⟩
  .have:=g.2.2;rw[show w (c.i+1)=c.i+1 from w_id (by omega) (by omega)];exact⟨by show 0<=c.i+1;omega,by show c.i+1<=(c.b.length:Int);omega,this⟩
 .refine⟨⟨c.b,c.i,w ((w (c.h*6364136223846793005))+1442695040888963407)⟩,andI (xorI (shrI (w ((w (c.h*6364136223846793005))+1442695040888963407)) 33) (shrI (w ((w (c.h*6364136223846793005))+1442695040888963407)) 45)) 255,Zz3 ?_,g,and255 _⟩;rw[if_neg h];rfl
theorem Z7{c:Za}(g:GC c)(a:Int):∃c' n,Zq c a=some (I n,[cB c'])/\GC c'/\0<=n/\(0<a->n<a):=by
 by_cases h:a<=0
 .exact⟨c,0,Zso (by rw[if_pos h]),g,by omega,by omega⟩
 .by_cases ha:a<=256
  .obtain⟨c',n,e,g',h1,h2⟩:=Zmr g;refine⟨c',Int.tmod n a,Zso ?_,g',Int.tmod_nonneg _ h1,λ_=>Int.tmod_lt_of_pos _ (by omega)⟩;rw[if_neg h,if_pos ha];exact⟨c',n,e,by omega,rfl⟩
  .obtain⟨c1,n1,e1,g1,k1,k2⟩:=Zmr g;obtain⟨c2,n2,e2,g2,k3,k4⟩:=Zmr g1;obtain⟨c3,n3,e3,g3,k5,k6⟩:=Zmr g2;obtain⟨c4,n4,e4,g4,k7,k8⟩:=Zmr g3;have q:w ((w ((w ((w (n1*16777216))+(w (n2*65536))))+(w (n3*256))))+n4)=n1*16777216+n2*65536+n3*256+n4:=by
    rw[w_id (x:=n1*16777216) (by omega) (by omega),w_id (x:=n2*65536) (by omega) (by omega),w_id (x:=n3*256) (by omega) (by omega),w_id (x:=n1*16777216+n2*65536) (by omega) (by omega),w_id (x:=n1*16777216+n2*65536+n3*256) (by omega) (by omega),w_id (by omega) (by omega)]
   refine⟨c4,Int.tmod (n1*16777216+n2*65536+n3*256+n4) a,Zso ?_,g4,Int.tmod_nonneg _ (by omega),λ_=>Int.tmod_lt_of_pos _ (by omega)⟩;rw[if_neg h,if_neg ha];exact⟨c1,n1,e1,c2,n2,e2,c3,n3,e3,c4,n4,e4,by omega,by rw[q]⟩
theorem Zej{c:Za}(g:GC c)(a:Int):∃c' b,Zbm c a=some (Bo b,[cB c'])/\GC c':=by
 obtain⟨c',n,e,g',_⟩:=Z7 g a;exact⟨c',_,Z8p ⟨c',n,e,rfl⟩,g'⟩
theorem Zhe{α:Type}{l:List α}{n:Int}(h0:0<=n)(h1:n<l.length):∃e,l[n.toNat]?=some e/\e∈l:=by
 have h:n.toNat<l.length:=by omega
 exact⟨l[n.toNat],by simp[h],Yk h⟩
theorem Zd1{c:Za}(g:GC c)(l:List Int)(h0:l≠[])(hl:l.length<=256):∃c' e,Zbr c l=some (I e,[cB c',.arr Zbq 1 true (l.map ic)])/\GC c'/\e∈l:=by
 have hp:0<l.length:=Yb6.2 h0;obtain⟨c',n,e,g',h1,h2⟩:=Z7 g l.length;obtain⟨y,hy,hm⟩:=Zhe h1 (h2 (by omega));exact⟨c',y,Z8r ⟨c',n,e,h1,y,hy,rfl⟩,g',hm⟩
theorem Zbbm{c:Za}(g:GC c)(l:List Int)(h0:l≠[])(hl:l.length<=256):∃c' e,Zmg c l=some (I e,[cB c'])/\GC c'/\e∈l:=by
 have hp:0<l.length:=Yb6.2 h0;obtain⟨c',n,e,g',h1,h2⟩:=Z7 g l.length;obtain⟨y,hy,hm⟩:=Zhe h1 (h2 (by omega));exact⟨c',y,Zbas ⟨c',n,e,h1,y,hy,rfl⟩,g',hm⟩
theorem Z2a{c:Za}(g:GC c)(l:List ByteArray)(h0:l≠[])(hl:l.length<=256):∃c' e,Zib c l=some (.t (.str e),[cB c',.arr t_string 1 true (l.map sc)])/\GC c'/\e∈l:=by
 have hp:0<l.length:=Yb6.2 h0;obtain⟨c',n,e,g',h1,h2⟩:=Z7 g l.length;obtain⟨y,hy,hm⟩:=Zhe h1 (h2 (by omega));exact⟨c',y,Z9y ⟨c',n,e,h1,y,hy,rfl⟩,g',hm⟩
theorem Zj4{c:Za}(g:GC c):∃c' a1 a2 a3 a4 a5,∃l:List Zd,Zd8 c=some (.agg [I a1,I a2,I a3,I a4,I a5,.own 1],[cB c',.arr 60 2 true (l.map Zd.c)])/\GC c'/\l.length<=1:=by
 obtain⟨c1,n1,e1,g1,_⟩:=Z7 g 5;obtain⟨c2,n2,e2,g2,_⟩:=Z7 g1 4;obtain⟨c3,n3,e3,g3,_⟩:=Z7 g2 4;obtain⟨c4,n4,e4,g4,_⟩:=Z7 g3 3;obtain⟨c5,b5,e5,g5⟩:=Zej g4 3;have tail:∀(c:Za),GC c->∃c' b,Zbm c 3=some (Bo b,[cB c'])/\∃c'' n c3,Zbr c' ([1,5,17,32])=some (I n,[cB c'',.arr Zbq 1 true (([1,5,17,32]:List Int).map ic)])/\∃k,Zq c'' 20=some (I k,[cB c3])/\GC c'/\GC c3:=by
  intro c g;obtain⟨c',b,e,g'⟩:=Zej g 3;obtain⟨c'',n,e',g'',_⟩:=Zd1 g' [1,5,17,32] (by simp) (by simp);obtain⟨c3,k,e3,g3,_⟩:=Z7 g'' 20;exact⟨c',b,e,c'',n,c3,e',k,e3,g',g3⟩
 rcases tf b5 with hb|hb
 .subst hb;obtain⟨c',b,e,c'',n,c3',e',k,e3',g',g3'⟩:=tail c5 g5;rcases tf b with hb|hb
  .subst hb;exact⟨c',_,_,_,_,_,[],Zop ⟨c1,n1,e1,c2,n2,e2,c3,n3,e3,c4,n4,e4,c5,false,e5,by rw[if_neg (by simp)];exact⟨c',false,e,by rw[if_neg (by simp)]⟩⟩,g',by simp⟩
  .subst hb;exact⟨c3',_,_,_,_,_,[⟨n,k⟩],Zop ⟨c1,n1,e1,c2,n2,e2,c3,n3,e3,c4,n4,e4,c5,false,e5,by rw[if_neg (by simp)];exact⟨c',true,e,by rw[if_pos rfl];exact⟨c'',_,n,e',c3',k,e3',rfl⟩⟩⟩,g3',by simp⟩
 .subst hb;obtain⟨c6,n6,e6,g6,_⟩:=Z7 g5 3;obtain⟨c',b,e,c'',n,c3',e',k,e3',g',g3'⟩:=tail c6 g6;rcases tf b with hb|hb
  .subst hb;exact⟨c',_,_,_,_,_,[],Zop ⟨c1,n1,e1,c2,n2,e2,c3,n3,e3,c4,n4,e4,c5,true,e5,by rw[if_pos rfl];exact⟨c6,n6,e6,c',false,e,by rw[if_neg (by simp)]⟩⟩,g',by simp⟩
  .subst hb;exact⟨c3',_,_,_,_,_,[⟨n,k⟩],Zop ⟨c1,n1,e1,c2,n2,e2,c3,n3,e3,c4,n4,e4,c5,true,e5,by rw[if_pos rfl];exact⟨c6,n6,e6,c',true,e,by rw[if_pos rfl];exact⟨c'',_,n,e',c3',k,e3',rfl⟩⟩⟩,g3',by simp⟩
def SmM(m:Zj):Prop:=m.Scan.Steps.length<=3/\m.Sort_.Steps.length<=3/\m.Hash.Steps.length<=3/\m.Merge.Steps.length<=3/\m.Nested.Steps.length<=3
theorem SmM.le{m:Zj}(h:SmM m):LeM m:=by
 obtain⟨h1,h2,h3,h4,h5⟩:=h;exact⟨by omega,by omega,by omega,by omega,by omega⟩
theorem Z2b{c:Za}(g:GC c):∃c',∃m:Zj,Zhv c=some (.agg (m.c.map .t),[cB c'])/\GC c'/\SmM m:=by
 obtain⟨c1,b,e,g1⟩:=Zej g 3;rcases tf b with hb|hb
 .subst hb;obtain⟨d1,x1,x2,x3,x4,x5,l1,f1,h1,k1⟩:=Zj4 g1;obtain⟨d2,y1,y2,y3,y4,y5,l2,f2,h2,k2⟩:=Zj4 h1;obtain⟨d3,z1,z2,z3,z4,z5,l3,f3,h3,k3⟩:=Zj4 h2;obtain⟨d4,u1,u2,u3,u4,u5,l4,f4,h4,k4⟩:=Zj4 h3;obtain⟨d5,v1,v2,v3,v4,v5,l5,f5,h5,k5⟩:=Zj4 h4;refine⟨d5,⟨⟨x1,x2,x3,x4,x5,l1⟩,⟨y1,y2,y3,y4,y5,l2⟩,⟨z1,z2,z3,z4,z5,l3⟩,⟨u1,u2,u3,u4,u5,l4⟩,⟨v1,v2,v3,v4,v5,l5⟩⟩,Zz4 ⟨c1,false,e,?_⟩,h5,?_⟩
  .rw[if_neg (by simp)];exact⟨d1,l1,x1,x2,x3,x4,x5,f1,d2,l2,y1,y2,y3,y4,y5,f2,d3,l3,z1,z2,z3,z4,z5,f3,d4,l4,u1,u2,u3,u4,u5,f4,d5,l5,v1,v2,v3,v4,v5,f5,rfl⟩
  .exact⟨by show l1.length<=3;omega,by show l2.length<=3;omega,by show l3.length<=3;omega,by show l4.length<=3;omega,by show l5.length<=3;omega⟩
 .subst hb;refine⟨c1,⟨⟨1,1,0,0,0,[]⟩,⟨2,3,0,0,0,[⟨17,20⟩]⟩,⟨4,2,1,1,0,[]⟩,⟨1,1,1,1,0,[]⟩,⟨1,0,0,1,1,[]⟩⟩,Zz4 ⟨c1,true,e,?_⟩,g1,?_⟩
  .rw[if_pos rfl];exact⟨_,_,_,_,_,_,_,_,_,_,_,_,_,_,_,_,_,_,_,_,_,_,_,_,_,_,_,_,_,_,Z8q rfl,rfl⟩
  .exact⟨by simp,by simp,by simp,by simp,by simp⟩
end Go.Proofs.Ytdbnflilbkjbhaa
