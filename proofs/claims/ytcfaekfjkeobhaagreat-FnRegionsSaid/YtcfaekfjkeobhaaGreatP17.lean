/-
  Parts of the proofs for this seat: PC2 LS.
-/
import Derived.Test.YtcfaekfjkeobhaaGreatP16
set_option linter.unusedSectionVars false
set_option linter.unusedSimpArgs false
set_option linter.unusedVariables false
set_option maxRecDepth 100000
set_option maxHeartbeats 4000000
namespace Go.Proofs.YtcfaekfjkeobhaaGreat
open Go.AM
theorem Zbhh(m:Zd):Zg6 m=some (.bsl 1 5,[.box (m.c.map .t),.box [.ptr 0 0,.ptr 0 6,.ptr 0 12,.ptr 0 18,.ptr 0 24]]):=Zbfg _ _ rfl
theorem kinds{k:Int}(h:1<=k/\k<=5):k=1\/k=2\/k=3\/k=4\/k=5:=by omega
theorem j_SC(m:Zd)(hm:LeM m)(info:List Zf)(out:List Int)(ho:out.length<=100)(x:Zb)(hk:1<=x.Kind/\x.Kind<=5)(sizes:List Int)(i:Nat)(y:Zf)(hy:info[i]?=some y)(c:0<=y.Mask)(hs:sizes[y.Mask.toNat]?=some (szAt sizes y.Mask))(l r:Int)(x1:List Zb)(x2 x3:Int)(res:AV×List Blk)
  (h:Zb5 m info (out++[Zbb (mOp m x.Kind) l r (szAt sizes y.Mask)]) sizes x1 x2 (w (x3+1))=some res):Znq m info out x sizes i l r x1 x2 x3=some res:=by
 refine Zbtb ⟨Zbhh m,?_⟩;have ho':out.length+1<=68719476736:=by omega
 obtain⟨m1,m2,m3,m4,m5⟩:=hm;have hi:info[((i:Nat):Int).toNat]?=some y:=by rw[Yd];exact hy
 have hi0:(0:Int)<=(i:Int):=by omega
 rcases kinds hk with e|e|e|e|e<;>rw[e]at h|-
 .rw[if_pos (by decide)];exact⟨hi0,y,hi,c,_,hs,_,Zhd _ m1 _ _ _,ho',h⟩
 .rw[if_neg (by decide),if_pos (by decide)];exact⟨hi0,y,hi,c,_,hs,_,Zhd _ m2 _ _ _,ho',h⟩
 .rw[if_neg (by decide),if_neg (by decide),if_pos (by decide)];exact⟨hi0,y,hi,c,_,hs,_,Zhd _ m3 _ _ _,ho',h⟩
 .rw[if_neg (by decide),if_neg (by decide),if_neg (by decide),if_pos (by decide)];exact⟨hi0,y,hi,c,_,hs,_,Zhd _ m4 _ _ _,ho',h⟩
 .rw[if_neg (by decide),if_neg (by decide),if_neg (by decide),if_neg (by decide),if_pos (by decide)];exact⟨hi0,y,hi,c,_,hs,_,Zhd _ m5 _ _ _,ho',h⟩
theorem j_SCa(m:Zd)(hm:LeM m)(info:List Zf)(out:List Int)(ho:out.length<=100)(x:Zb)(hk:1<=x.Kind/\x.Kind<=5)(sizes:List Int)(i:Nat)(y:Zf)(hy:info[i]?=some y)(c:0<=y.Mask)(hs:sizes[y.Mask.toNat]?=some (szAt sizes y.Mask))(l r:Int)(x1:List Zb)(x2 x3:Int)(f:Bool)(res:AV×List Blk)
  (h:Zb5 m info (out++[Zbb (mOp m x.Kind) l r (szAt sizes y.Mask)]) sizes x1 x2 (w (x3+1))=some res):Znr m info out x sizes i l r x1 x2 x3 f=some res:=by
 refine Zbtc ⟨Zbhh m,?_⟩;have ho':out.length+1<=68719476736:=by omega
 obtain⟨m1,m2,m3,m4,m5⟩:=hm;have hi:info[((i:Nat):Int).toNat]?=some y:=by rw[Yd];exact hy
 have hi0:(0:Int)<=(i:Int):=by omega
 rcases kinds hk with e|e|e|e|e<;>rw[e]at h|-
 .rw[if_pos (by decide)];exact⟨hi0,y,hi,c,_,hs,_,Zhd _ m1 _ _ _,ho',h⟩
 .rw[if_neg (by decide),if_pos (by decide)];exact⟨hi0,y,hi,c,_,hs,_,Zhd _ m2 _ _ _,ho',h⟩
 .rw[if_neg (by decide),if_neg (by decide),if_pos (by decide)];exact⟨hi0,y,hi,c,_,hs,_,Zhd _ m3 _ _ _,ho',h⟩
 .rw[if_neg (by decide),if_neg (by decide),if_neg (by decide),if_pos (by decide)];exact⟨hi0,y,hi,c,_,hs,_,Zhd _ m4 _ _ _,ho',h⟩
 .rw[if_neg (by decide),if_neg (by decide),if_neg (by decide),if_neg (by decide),if_pos (by decide)];exact⟨hi0,y,hi,c,_,hs,_,Zhd _ m5 _ _ _,ho',h⟩
theorem Zbvj{m:Zd}(hm:LeM m){n:Int}{qa:List Atom}{steps:List Zb}{info:List Zf}{sizes:List Int}(hi:Zb4 n qa steps=some info)(hs:Zb6 n qa sizes=true):∀i,i<=steps.length->∀out:List Int,out.length=i->
  Zb5 m info out sizes steps steps.length i=some (.own 0,[.arr Z1 1 true ((out++Zb7 m info sizes (steps.drop i) (info.drop i)).map ic)]):=by
 obtain⟨l1,l2,l3,l4⟩:=Zho hi;obtain⟨p1,_⟩:=Z7u hi;refine down _ ?_ ?_
 .intro out _;refine Zbfv _ _ _ _ _ _ _ _ ?_;rw[if_neg (by omega),Yba];simp[Zb7]
 .intro i h' ih out ho;have h4:=Zw (i:=i) (by omega);have h:i<info.length:=by omega
  have ok:=Zbhe hi i info[i] steps[i] (Yb h) (Yb h');have s0:=Zoj hs (p1 _ (Yh h));have hm0:=(p1 _ (Yh h)).1;have ih:=ih (out++[Zcx m info sizes steps[i] info[i]]) (by simp[ho]);simp only[Yn,Yo,Ybb,List.singleton_append]at ih;rw[<-Zbhg m info sizes h' h,<-show w ((i:Int)+1)=(i:Int)+1 from h4]at ih;unfold Zcx at ih;refine Zbfv _ _ _ _ _ _ _ _ ?_;rw[if_pos (by omega)];refine⟨by omega,steps[i],by rw[Yd];exact Yb h',info[i],by rw[Yd];exact Yb h,hm0,_,s0,?_⟩;rcases ok.refs with⟨a,b⟩|⟨a,b⟩
  .have c1:info[i].Left<0:=by omega
   have c2:info[i].Right<0:=by omega
   have d1:¬0<=info[i].Left:=by omega
   have d2:¬0<=info[i].Right:=by omega
   simp only[if_pos c1,if_pos c2]at ih;simp only[if_neg d1,if_neg d2];exact j_SCa m hm info out (by omega) _ ok.kind sizes i info[i] (Yb h) hm0 s0 _ _ _ _ _ _ _ ih
  .obtain⟨y1,y2,y3,y4⟩:=Zwe a (by omega:i<=info.length);have s1:=Zoj hs (p1 _ y3);have hm1:=(p1 _ y3).1;have c1:¬info[i].Left<0:=by omega
   simp only[if_neg c1,y4]at ih;rw[if_pos a.1];refine⟨y1,y2,hm1,_,s1,?_⟩;rcases b with b|b
   .have c2:info[i].Right<0:=by omega
    have d2:¬0<=info[i].Right:=by omega
    simp only[if_pos c2]at ih;rw[if_neg d2];exact j_SCa m hm info out (by omega) _ ok.kind sizes i info[i] (Yb h) hm0 s0 _ _ _ _ _ _ _ ih
   .obtain⟨z1,z2,z3,z4⟩:=Zwe b (by omega:i<=info.length);have s2:=Zoj hs (p1 _ z3);have hm2:=(p1 _ z3).1;have c2:¬info[i].Right<0:=by omega
    simp only[if_neg c2,z4]at ih;rw[if_pos b.1];refine⟨z1,z2,hm2,_,s2,?_⟩;exact j_SC m hm info out (by omega) _ ok.kind sizes i info[i] (Yb h) hm0 s0 _ _ _ _ _ _ ih
theorem Z3p{m:Zd}{info:List Zf}{sizes:List Int}:∀{xs:List Zb} {ys:List Zf},xs.length=ys.length->(Zb7 m info sizes xs ys).length=xs.length
 |[],[],_=>rfl
 |[],_::_,h=>by simp at h
 |_::_,[],h=>by simp at h
 |x::xs,y::ys,h=>by rw[Zb7,Yt,Z3p (by simpa using h)];rfl
def Zhf(n:Int)(qa:List Atom)(steps:List Zb)(sizes:List Int):Bool:=(Zb4 n qa steps).isSome && Zb6 n qa sizes
theorem Z3q{m:Zd}{n:Int}{qa:List Atom}{steps:List Zb}{sizes:List Int}:Zfe m n qa steps sizes≠[]↔Zhf n qa steps sizes=true:=by
 unfold Zfe Zhf
 cases hi:Zb4 n qa steps with
 |none=>simp
 |some info =>
  obtain⟨l1,l2,l3,l4⟩:=Zho hi;rcases tf (Zb6 n qa sizes)with e|e
  .simp[e]
  .have:=Z3p (m:=m) (info:=info) (sizes:=sizes) (xs:=steps) (ys:=info) l2.symm;simp only[e,if_true,Option.isSome_some,Bool.and_self,iff_true];intro hc;rw[hc]at this;simp at this;omega
theorem Zbvk(m:Zd)(hm:LeM m)(q:Zc)(hq:LeQ q)(p:Plan)(sizes:List Int)(hs:Le sizes) :
  Zlh m q p sizes=if Zhf q.Ze q.Atoms p.Steps sizes=true then some (.own 0,[.arr Z1 1 true ((Zfe m q.Ze q.Atoms p.Steps sizes).map ic)])else some (.t .nil,[]):=by
 have q1:=Zbgv q p hq;unfold Zfe Zhf
 cases hi:Zb4 q.Ze q.Atoms p.Steps with
 |none=>rw[hi]at q1;simp only[Option.isSome_none,Yc5,Ybp,if_false];exact Z3e _ _ _ _ _ (.inl ⟨q1,rfl⟩)
 |some info =>
  rw[hi]at q1;have hv:=Zbhf q hq sizes hs;rcases tf (Zb6 q.Ze q.Atoms sizes)with e|e
  .simp only[e,Option.isSome_some,Bool.and_false,Ybp,if_false];exact Z3e _ _ _ _ _ (.inr ⟨info,q1,false,by rw[hv,e],by rw[if_neg (by simp)]⟩)
  .simp only[e,Option.isSome_some,Bool.and_self,if_true];refine Z3e _ _ _ _ _ (.inr ⟨info,q1,true,by rw[hv,e],?_⟩);rw[if_pos rfl];have b:=Zbvj hm hi e 0 (Ye _) [] rfl;simpa using b
def sumW(xs:List Int)(n:Int):Int:=xs.foldl (λa b=>w (a+b)) n
theorem l_sum(xs:List Int)(hx:Le xs):∀i,i<=xs.length->∀n,Zrd n xs xs.length i=some (I (sumW (xs.drop i) n),[]):=by
 refine down _ ?_ ?_
 .intro n;refine Zbfw _ _ _ _ _ ?_;simp[sumW]
 .intro i hi ih n;have h4:=Zw (i:=i) (by omega);refine Zbfw _ _ _ _ _ ?_;simp only[Yn,Yo]at ih;rw[Yj hi,sumW,Yr];simp[hi,h4,ih,sumW]
theorem x_sum(xs:List Int)(hx:Le xs):Zrc xs=some (I (sumW xs 0),[]):=Zbs6 _ _ (l_sum xs hx 0 (Ye _) 0)
theorem Zbvl(xs:List Int)(hx:Le xs):∀i,i<=xs.length->∀n,Zqu xs n i=some (I (sumW (xs.drop i) n),[]):=by
 refine down _ ?_ ?_
 .intro n;refine Zbe0 _ _ _ _ ?_;simp[sumW]
 .intro i hi ih n;have h4:=Zw (i:=i) (by omega);refine Zbe0 _ _ _ _ ?_;simp only[Yn,Yo]at ih;rw[Yj hi,sumW,Yr];simp[hi,h4,ih,sumW]
def Zcc(m:Zd)(n:Int)(qa:List Atom)(steps:List Zb)(sizes:List Int):Int:=if Zhf n qa steps sizes=true then sumW (Zfe m n qa steps sizes) 0 else -1
theorem Zbhi{m:Zd}{n:Int}{qa:List Atom}{steps:List Zb}{sizes:List Int}:(Zfe m n qa steps sizes).length<=14:=by
 unfold Zfe
 cases hi:Zb4 n qa steps with
 |none=>simp
 |some info =>
  obtain⟨l1,l2,l3,l4⟩:=Zho hi;simp only;split
  .rw[Z3p l2.symm];omega
  .simp
theorem Z3r(m:Zd)(hm:LeM m)(q:Zc)(hq:LeQ q)(p:Plan)(sizes:List Int)(hs:Le sizes):Zh8 m q p sizes=some (I (Zcc m q.Ze q.Atoms p.Steps sizes),[]):=by
 have h1:=Zbvk m hm q hq p sizes hs;refine Zbtd ?_;unfold Zcc;rcases tf (Zhf q.Ze q.Atoms p.Steps sizes)with e|e
 .rw[e,if_neg (by simp)]at h1;rw[e];exact .inl ⟨h1,by simp⟩
 .rw[e,if_pos rfl]at h1;rw[e];exact .inr ⟨_,h1,Z3q.2 e,_,x_sum _ (by have:=Zbhi (m:=m) (n:=q.Ze) (qa:=q.Atoms) (steps:=p.Steps) (sizes:=sizes);omega),by simp⟩
theorem Zbvm(m:Zd)(hm:LeM m)(q:Zc)(hq:LeQ q)(p:Plan)(sizes:List Int)(hs:Le sizes):Zuw m q p sizes=some (I (Zcc m q.Ze q.Atoms p.Steps sizes),[]):=by
 refine Zbr3 _ _ _ _ _ ⟨_,Zbvi m hm q hq p sizes hs,?_⟩;unfold Zcc;by_cases e:Zfe m q.Ze q.Atoms p.Steps sizes=[]
 .have e2:Zhf q.Ze q.Atoms p.Steps sizes=false:=by
   rcases tf (Zhf q.Ze q.Atoms p.Steps sizes)with h|h
   .exact h
   .exact absurd e (Z3q.2 h)
  rw[e2,e];simp
 .have e2:=Z3q.1 e;have e3:¬((Zfe m q.Ze q.Atoms p.Steps sizes).length:Int)=0:=λhc=>e (Ycj.1 (by omega))
  rw[if_neg e3,e2,if_pos rfl];exact Zbvl _ (by have:=Zbhi (m:=m) (n:=q.Ze) (qa:=q.Atoms) (steps:=p.Steps) (sizes:=sizes);omega) 0 (Ye _) 0
theorem Zbvn(l:List Int)(hl:l.length<=4294967296):∀i,i<=l.length->∀out:List Int,out.length<=i->Zlf out l l l.length i=if Z9 l=true then some (.own 0,[.arr Z1 1 true ((out++(l.drop i).map Zbl).map ic)])else some (.t .nil,[]):=by
 refine down _ ?_ ?_
 .intro out _;rcases tf (Z9 l)with e|e
  .rw[e];refine Z3d _ _ _ _ _ _ ?_;rw[if_neg (by omega)];exact⟨_,Zv4 l (by omega),by rw[e,if_neg (by simp)]⟩
  .rw[e,if_pos rfl];refine Z3d _ _ _ _ _ _ ?_;rw[if_neg (by omega)];exact⟨_,Zv4 l (by omega),by rw[e,if_pos rfl];simp⟩
 .intro i hi ih out ho;have h4:=Zw (i:=i) (by omega);have ih:=ih (out++[Zbl l[i]]) (by simp;omega);simp only[Yn,Yo]at ih;have go:∀r,Zlf (out++[Zbl l[i]]) l l l.length ((i:Int)+1)=some r->Zlf out l l l.length i=some r:=by
   intro r hr;refine Z3d _ _ _ _ _ _ ?_;rw[if_pos (by omega)];refine⟨by omega,l[i],by rw[Yd];exact Yb hi,_,Zbuw _,by omega,?_⟩;rw[show w ((i:Int)+1)=(i:Int)+1 from h4];exact hr
  rw[Yj hi,Yw];rcases tf (Z9 l)with e|e
  .rw[e]at ih|-;exact go _ (by simpa using ih)
  .rw[e,if_pos rfl]at ih|-;exact go _ (by simpa using ih)
def Zbh(l:List Int):List Int:=l.map Zbl
theorem Zbhj(l:List Int)(hl:l.length<=4294967296):Zh7 l=if Z9 l=true then some (.own 0,[.arr Z1 1 true ((Zbh l).map ic)])else some (.t .nil,[]):=by
 have b:=Zbvn l hl 0 (Ye _) [] (by simp);rcases tf (Z9 l)with e|e
 .rw[e]at b|-;exact Zbft _ _ b
 .rw[e,if_pos rfl]at b|-;exact Zbft _ _ (by simpa[Zbh]using b)
theorem Zbvo(l:List Int)(hl:l.length<=4294967296)(h:Z9 l=true):∀i,i<=l.length->∀out:List Int,out.length<=i->Zqc out l i=some (.own 0,[.arr Z1 1 true ((out++(l.drop i).map Zbl).map ic)]):=by
 refine down _ ?_ ?_
 .intro out _;refine Z21 _ _ _ _ ?_;rw[if_neg (by omega)];simp
 .intro i hi ih out ho;have h4:=Zw (i:=i) (by omega);have ih:=ih (out++[Zbl l[i]]) (by simp;omega);simp only[Yn,Yo]at ih;refine Z21 _ _ _ _ ?_;rw[if_pos (by omega)];refine⟨_,Zv3 l (by omega),?_⟩;rw[h,if_pos rfl];refine⟨by omega,l[i],by rw[Yd];exact Yb hi,_,Zbux _,by omega,?_⟩;rw[show w ((i:Int)+1)=(i:Int)+1 from h4,Yj hi,Yw];simpa using ih
theorem Zwf(l:List Int)(hl:l.length<=4294967296):Zhw l=some (.own 0,[.arr Z1 1 true ((if Z9 l=true then Zbh l else[]).map ic)]):=by
 rcases tf (Z9 l)with e|e
 .rw[e];refine Zbed _ _ (Z21 _ _ _ _ ?_);by_cases h:(0:Int)<l.length
  .rw[if_pos h];exact⟨_,Zv3 l (by omega),by rw[e,if_neg (by simp)];rfl⟩
  .rw[if_neg h];rfl
 .have b:=Zbvo l hl e 0 (Ye _) [] (by simp);rw[e,if_pos rfl];exact Zbed _ _ (by simpa[Zbh]using b)
theorem Zbhk(m:Zd)(hm:LeM m)(q:Zc)(hq:LeQ q)(p:Plan)(l:List Int)(hl:l.length<=4294967296)(h:Z9 l=true):Zns m q p l=some (I (Zcc m q.Ze q.Atoms p.Steps (Zbh l)),[]):=by
 have b:=Zbhj l hl;rw[h,if_pos rfl]at b;exact Zbs7 _ _ _ _ _ (.inl ⟨_,b,_,Z3r m hm q hq p (Zbh l) (by simp[Zbh];omega),rfl⟩)
theorem Zbhl(m:Zd)(hm:LeM m)(q:Zc)(hq:LeQ q)(p:Plan)(l:List Int)(hl:l.length<=4294967296)(h:Z9 l=true):Zk1 m q p l=some (I (Zcc m q.Ze q.Atoms p.Steps (Zbh l)),[]):=by
 have b:=Zwf l hl;rw[h,if_pos rfl]at b;exact Zbr4 _ _ _ _ _ ⟨_,b,_,Zbvm m hm q hq p (Zbh l) (by simp[Zbh];omega),rfl⟩
abbrev Zey(q:Zc)(m:Int):List Int:=varL m q.Atoms q.Ze.toNat
theorem Zbhm(q:Zc)(hq:LeQ q)(hv:Zk q.Ze q.Atoms=true)(m:Int)(hm:MQ q.Atoms m):Zia q m=some (.own 0,[.arr Z1 1 true ((Zey q m).map ic)]):=by
 refine Zbti _ _ _ ⟨_,Zbg6 q hq m,?_⟩
 have:inR m 0 (Zu q.Ze q.Atoms)=true:=by rw[Zgm hv];simp[inR];have:=hm.1;have:=hm.2;omega
 rw[hv,this,if_pos (by rfl)];exact⟨_,Zsg q m hq hv,rfl⟩
def Zep(q:Zc)(a b:Int):List Int:=(Zey q a).filter (has (Zey q b))
theorem Zsl(q:Zc)(hv:Zk q.Ze q.Atoms=true)(m:Int):(Zey q m).length<=4:=by
 have:=Zmd m q.Atoms q.Ze.toNat;have:=Zfq hv;unfold Zey;omega
theorem Zbvp(q:Zc)(hq:LeQ q)(hv:Zk q.Ze q.Atoms=true)(a b:Int)(ha:MQ q.Atoms a)(hb:MQ q.Atoms b):Zlj q a b=some (.own 0,[.arr Z1 1 true ((Zep q a b).map ic)]):=by
 have l1:=Zsl q hv a;have l2:=Zsl q hv b;exact Zbtj _ _ _ _ (.inl ⟨_,Zbhm q hq hv a ha,.inl ⟨_,Zbhm q hq hv b hb,_,x_both _ _ (by omega) (by omega),rfl⟩⟩)
theorem l_l7List(p:Nat->Bool):∀k:Nat,k<=4->∀out:List Int,out.length<=k->Zmu out (Zbf p) k=some (.own 0,[.arr Z1 1 true ((out++((List.range' k (4-k)).filter p).map (λu:Nat=>(u:Int))).map ic)]):=by
 refine down _ ?_ ?_
 .intro out _;refine Zbd8 _ _ _ _ ?_;rw[if_neg (by omega)];simp
 .intro k hk ih out ho;have wk':w ((k:Int)+1)=(k:Int)+1:=Z4 (by omega) (by omega);have hb:=at_bit p (v:=(k:Int)) (by simp[inR];omega);rw[Yd]at hb;refine Zbd8 _ _ _ _ ?_;rw[if_pos (by omega),show 4-k=(4-(k+1))+1 by omega,Ycx,Yck,wk'];refine⟨by omega,?_⟩;rcases tf (p k)with e|e
  .have ih:=ih out (by omega);rw[if_neg (λhc=>by rw[hb.1 hc]at e;cases e),e,if_neg (by simp)];simpa using ih
  .have ih:=ih (out++[(k:Int)]) (by simp;omega);rw[if_pos (hb.2 e),e,if_pos rfl];exact⟨by omega,by simpa using ih⟩
theorem vars4(q:Zc)(hv:Zk q.Ze q.Atoms=true)(m:Int):((List.range' 0 4).filter (pV m q.Atoms)).map (λu:Nat=>(u:Int))=Zey q m:=by
 have hn:=Zfq hv;have e:List.range' 0 4=List.range q.Ze.toNat++List.range' q.Ze.toNat (4-q.Ze.toNat):=by
  have h:=List.range'_append_1 (s:=0) (m:=q.Ze.toNat) (n:=4-q.Ze.toNat);rw[Yp]at h;rw[List.range_eq_range',h];congr 1;omega
 unfold Zey varL;rw[e,Ydb];have e2:(List.range' q.Ze.toNat (4-q.Ze.toNat)).filter (pV m q.Atoms)=[]:=by
  rw[Ycu];intro u hu hp;have:=pV_lt hv hp;rw[List.mem_range'_1]at hu;omega
 rw[e2];simp
theorem Zbhn(q:Zc)(hq:LeQ q)(hv:Zk q.Ze q.Atoms=true)(m:Int)(hm:MQ q.Atoms m):Zp9 q m=some (.own 0,[.arr Z1 1 true ((Zey q m).map ic)]):=by
 have b:=l_l7List (pV m q.Atoms) 0 (by omega) [] (by simp);rw[show 4-0=4 from rfl,vars4 q hv m]at b;refine Zbq2 _ _ _ ⟨_,Zbg7 q hq m,?_⟩
 have:inR m 0 (Zu q.Ze q.Atoms)=true:=by rw[Zgm hv];simp[inR];have:=hm.1;have:=hm.2;omega
 rw[hv,this,if_pos (by rfl)];exact⟨_,Zob q m hq (Zkd hv),_,Zbq1 _ _ (by simpa using b),rfl⟩
theorem Zbvq(x y:List Int)(hy:Le y)(hx:x.length<=1000):∀i,i<=x.length->Zmv ((x.take i).filter (has y)) x y i=some (.own 0,[.arr Z1 1 true ((x.filter (has y)).map ic)]):=by
 refine down _ ?_ ?_
 .refine Zbd9 _ _ _ _ _ ?_;rw[if_neg (by omega)];simp
 .intro i hi ih;have h4:=Zw (i:=i) (by omega);have e4:((x.take i).filter (has y)).length+1<=68719476736:=by
   have:=Ybr (has y) (x.take i);simp at this;omega
  rw[Zx9 _ hi]at ih;refine Zbd9 _ _ _ _ _ ?_;rw[if_pos (by omega)];refine⟨by omega,x[i],by rw[Yd];exact Yb hi,_,Zbgr y x[i] hy,?_⟩;rw[show w ((i:Int)+1)=(i:Int)+1 from h4];rcases tf (has y x[i])with e|e
  .rw[e,if_neg (by simp)];rw[e]at ih;simpa using ih
  .rw[e,if_pos rfl];rw[e]at ih;exact⟨e4,by simpa using ih⟩
theorem Zbho(q:Zc)(hq:LeQ q)(hv:Zk q.Ze q.Atoms=true)(a b:Int)(ha:MQ q.Atoms a)(hb:MQ q.Atoms b):Zhu q a b=some (.own 0,[.arr Z1 1 true ((Zep q a b).map ic)]):=by
 have l1:=Zsl q hv a;have l2:=Zsl q hv b;have c:=Zbvq (Zey q a) (Zey q b) (by omega) (by omega) 0 (Ye _);exact Zbq3 _ _ _ _ ⟨_,Zbhn q hq hv a ha,_,Zbhn q hq hv b hb,by simpa[Zep]using c⟩
end Go.Proofs.YtcfaekfjkeobhaaGreat
