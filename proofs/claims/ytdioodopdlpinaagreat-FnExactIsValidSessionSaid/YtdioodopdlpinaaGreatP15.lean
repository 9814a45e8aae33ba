/-
  Parts of the proofs for this seat: PC2 LS ID TB PA PB OF OE TC CB IN IS SJ SK SM SC SD SE SF SG SH IE IA IC IF.
-/
import Derived.Test.YtdioodopdlpinaaGreatP14
set_option linter.unusedSimpArgs false
set_option linter.unusedVariables false
set_option maxRecDepth 100000
set_option maxHeartbeats 4000000
namespace Go.Proofs.YtdioodopdlpinaaGreat
open Go.AM
theorem Zboh(m:Zb):Zhe m=some (.bsl 1 5,[.box (m.c.map .t),.box [.ptr 0 0,.ptr 0 6,.ptr 0 12,.ptr 0 18,.ptr 0 24]]):=Zbjb rfl
theorem kinds{k:Int}(h:1<=k/\k<=5):k=1\/k=2\/k=3\/k=4\/k=5:=by omega
theorem j_SC(m:Zb)(hm:LeM m)(info:List Zj)(out:List Int)(ho:out.length<=100)(x:Zc)(hk:1<=x.Kind/\x.Kind<=5)(sizes:List Int)(i:Nat)(y:Zj)(hy:info[i]?=some y)(c:0<=y.Mask)(hs:sizes[y.Mask.toNat]?=some (szAt sizes y.Mask))(l r:Int)(x1:List Zc)(x2 x3:Int)(res:AV×List Blk)
  (h:Zce m info (out++[Zb0 (mOp m x.Kind) l r (szAt sizes y.Mask)]) sizes x1 x2 (w (x3+1))=some res):Znu m info out x sizes i l r x1 x2 x3=some res:=by
 refine Zb37 ⟨Zboh m,?_⟩;have ho':out.length+1<=68719476736:=by omega
 obtain⟨m1,m2,m3,m4,m5⟩:=hm;have hi:info[((i:Nat):Int).toNat]?=some y:=by rw[Yg];exact hy
 have hi0:(0:Int)<=(i:Int):=by omega
 rcases kinds hk with e|e|e|e|e<;>rw[e]at h|-
 .rw[if_pos (by decide)];exact⟨hi0,y,hi,c,_,hs,_,Zho _ m1 _ _ _,ho',h⟩
 .rw[if_neg (by decide),if_pos (by decide)];exact⟨hi0,y,hi,c,_,hs,_,Zho _ m2 _ _ _,ho',h⟩
 .rw[if_neg (by decide),if_neg (by decide),if_pos (by decide)];exact⟨hi0,y,hi,c,_,hs,_,Zho _ m3 _ _ _,ho',h⟩
 .rw[if_neg (by decide),if_neg (by decide),if_neg (by decide),if_pos (by decide)];exact⟨hi0,y,hi,c,_,hs,_,Zho _ m4 _ _ _,ho',h⟩
 .rw[if_neg (by decide),if_neg (by decide),if_neg (by decide),if_neg (by decide),if_pos (by decide)];exact⟨hi0,y,hi,c,_,hs,_,Zho _ m5 _ _ _,ho',h⟩
theorem j_SCa(m:Zb)(hm:LeM m)(info:List Zj)(out:List Int)(ho:out.length<=100)(x:Zc)(hk:1<=x.Kind/\x.Kind<=5)(sizes:List Int)(i:Nat)(y:Zj)(hy:info[i]?=some y)(c:0<=y.Mask)(hs:sizes[y.Mask.toNat]?=some (szAt sizes y.Mask))(l r:Int)(x1:List Zc)(x2 x3:Int)(f:Bool)(res:AV×List Blk)
  (h:Zce m info (out++[Zb0 (mOp m x.Kind) l r (szAt sizes y.Mask)]) sizes x1 x2 (w (x3+1))=some res):Znv m info out x sizes i l r x1 x2 x3 f=some res:=by
 refine Zb38 ⟨Zboh m,?_⟩;have ho':out.length+1<=68719476736:=by omega
 obtain⟨m1,m2,m3,m4,m5⟩:=hm;have hi:info[((i:Nat):Int).toNat]?=some y:=by rw[Yg];exact hy
 have hi0:(0:Int)<=(i:Int):=by omega
 rcases kinds hk with e|e|e|e|e<;>rw[e]at h|-
 .rw[if_pos (by decide)];exact⟨hi0,y,hi,c,_,hs,_,Zho _ m1 _ _ _,ho',h⟩
 .rw[if_neg (by decide),if_pos (by decide)];exact⟨hi0,y,hi,c,_,hs,_,Zho _ m2 _ _ _,ho',h⟩
 .rw[if_neg (by decide),if_neg (by decide),if_pos (by decide)];exact⟨hi0,y,hi,c,_,hs,_,Zho _ m3 _ _ _,ho',h⟩
 .rw[if_neg (by decide),if_neg (by decide),if_neg (by decide),if_pos (by decide)];exact⟨hi0,y,hi,c,_,hs,_,Zho _ m4 _ _ _,ho',h⟩
 .rw[if_neg (by decide),if_neg (by decide),if_neg (by decide),if_neg (by decide),if_pos (by decide)];exact⟨hi0,y,hi,c,_,hs,_,Zho _ m5 _ _ _,ho',h⟩
theorem Zcaq{m:Zb}(hm:LeM m){n:Int}{qa:List Atom}{steps:List Zc}{info:List Zj}{sizes:List Int}(hi:Zcm n qa steps=some info)(hs:Zcu n qa sizes=true):∀i,i<=steps.length->∀out:List Int,out.length=i->
  Zce m info out sizes steps steps.length i=some (.own 0,[.arr Zbc 1 true ((out++Ze9 m info sizes (steps.drop i) (info.drop i)).map ic)]):=by
 obtain⟨l1,l2,l3,l4⟩:=Zkl hi;obtain⟨p1,_⟩:=Zbcb hi;refine down _ ?_ ?_
 .intro out _;refine Zbj1 ?_;rw[if_neg (by omega),Yk];simp[Ze9]
 .intro i h' ih out ho;have h4:=Z6 (i:=i) (by omega);have h:i<info.length:=by omega
  have ok:=Zboe hi i info[i] steps[i] (Yc h) (Yc h');have s0:=Zpy hs (p1 _ (Yd h));have hm0:=(p1 _ (Yd h)).1;have ih:=ih (out++[Zd4 m info sizes steps[i] info[i]]) (by simp[ho]);simp only[Yt,Yu,Y8,List.singleton_append]at ih;rw[<-Zbog m info sizes h' h,<-show w ((i:Int)+1)=(i:Int)+1 from h4]at ih;unfold Zd4 at ih;refine Zbj1 ?_;rw[if_pos (by omega)];refine⟨by omega,steps[i],by rw[Yg];exact Yc h',info[i],by rw[Yg];exact Yc h,hm0,_,s0,?_⟩;rcases ok.refs with⟨a,b⟩|⟨a,b⟩
  .have c1:info[i].Left<0:=by omega
   have c2:info[i].Right<0:=by omega
   have d1:¬0<=info[i].Left:=by omega
   have d2:¬0<=info[i].Right:=by omega
   simp only[if_pos c1,if_pos c2]at ih;simp only[if_neg d1,if_neg d2];exact j_SCa m hm info out (by omega) _ ok.kind sizes i info[i] (Yc h) hm0 s0 _ _ _ _ _ _ _ ih
  .obtain⟨y1,y2,y3,y4⟩:=Zzc a (by omega:i<=info.length);have s1:=Zpy hs (p1 _ y3);have hm1:=(p1 _ y3).1;have c1:¬info[i].Left<0:=by omega
   simp only[if_neg c1,y4]at ih;rw[if_pos a.1];refine⟨y1,y2,hm1,_,s1,?_⟩;rcases b with b|b
   .have c2:info[i].Right<0:=by omega
    have d2:¬0<=info[i].Right:=by omega
    simp only[if_pos c2]at ih;rw[if_neg d2];exact j_SCa m hm info out (by omega) _ ok.kind sizes i info[i] (Yc h) hm0 s0 _ _ _ _ _ _ _ ih
   .obtain⟨z1,z2,z3,z4⟩:=Zzc b (by omega:i<=info.length);have s2:=Zpy hs (p1 _ z3);have hm2:=(p1 _ z3).1;have c2:¬info[i].Right<0:=by omega
    simp only[if_neg c2,z4]at ih;rw[if_pos b.1];refine⟨z1,z2,hm2,_,s2,?_⟩;exact j_SC m hm info out (by omega) _ ok.kind sizes i info[i] (Yc h) hm0 s0 _ _ _ _ _ _ ih
theorem Z8e{m:Zb}{info:List Zj}{sizes:List Int}:∀{xs:List Zc} {ys:List Zj},xs.length=ys.length->(Ze9 m info sizes xs ys).length=xs.length
 |[],[],_=>rfl
 |[],_::_,h=>by simp at h
 |_::_,[],h=>by simp at h
 |x::xs,y::ys,h=>by rw[Ze9,Yw,Z8e (by simpa using h)];rfl
def Zis(n:Int)(qa:List Atom)(steps:List Zc)(sizes:List Int):Bool:=(Zcm n qa steps).isSome && Zcu n qa sizes
theorem Z8f{m:Zb}{n:Int}{qa:List Atom}{steps:List Zc}{sizes:List Int}:Zgf m n qa steps sizes≠[]↔Zis n qa steps sizes=true:=by
 unfold Zgf Zis
 cases hi:Zcm n qa steps with
 |none=>simp
 |some info =>
  obtain⟨l1,l2,l3,l4⟩:=Zkl hi;rcases tf (Zcu n qa sizes)with e|e
  .simp[e]
  .have:=Z8e (m:=m) (info:=info) (sizes:=sizes) (xs:=steps) (ys:=info) l2.symm;simp only[e,if_true,Option.isSome_some,Bool.and_self,iff_true];intro hc;rw[hc]at this;simp at this;omega
theorem Zcar(m:Zb)(hm:LeM m)(q:Ze)(hq:LeQ q)(p:Plan)(sizes:List Int)(hs:Le sizes) :
  Zk5 m q p sizes=if Zis q.Zg q.Atoms p.Steps sizes=true then some (.own 0,[.arr Zbc 1 true ((Zgf m q.Zg q.Atoms p.Steps sizes).map ic)])else some (.t .nil,[]):=by
 have q1:=Zbmh q p hq;unfold Zgf Zis
 cases hi:Zcm q.Zg q.Atoms p.Steps with
 |none=>rw[hi]at q1;simp only[Option.isSome_none,Ydi,Ycj,if_false];exact Z7u (.inl ⟨q1,rfl⟩)
 |some info =>
  rw[hi]at q1;have hv:=Zbof q hq sizes hs;rcases tf (Zcu q.Zg q.Atoms sizes)with e|e
  .simp only[e,Option.isSome_some,Bool.and_false,Ycj,if_false];exact Z7u (.inr ⟨info,q1,false,by rw[hv,e],by rw[if_neg (by simp)]⟩)
  .simp only[e,Option.isSome_some,Bool.and_self,if_true];refine Z7u (.inr ⟨info,q1,true,by rw[hv,e],?_⟩);rw[if_pos rfl];have b:=Zcaq hm hi e 0 (Ya _) [] rfl;simpa using b
def sumW(xs:List Int)(n:Int):Int:=xs.foldl (λa b=>w (a+b)) n
theorem l_sum(xs:List Int)(hx:Le xs):∀i,i<=xs.length->∀n,Zr5 n xs xs.length i=some (I (sumW (xs.drop i) n),[]):=by
 refine down _ ?_ ?_
 .intro n;refine Zbj2 ?_;simp[sumW]
 .intro i hi ih n;have h4:=Z6 (i:=i) (by omega);refine Zbj2 ?_;simp only[Yt,Yu]at ih;rw[Yf hi,sumW,Y1];simp[hi,h4,ih,sumW]
theorem x_sum(xs:List Int)(hx:Le xs):Zr4 xs=some (I (sumW xs 0),[]):=Zb32 (l_sum xs hx 0 (Ya _) 0)
theorem Zcas(xs:List Int)(hx:Le xs):∀i,i<=xs.length->∀n,Zt7 xs n i=some (I (sumW (xs.drop i) n),[]):=by
 refine down _ ?_ ?_
 .intro n;refine Zbmc ?_;simp[sumW]
 .intro i hi ih n;have h4:=Z6 (i:=i) (by omega);refine Zbmc ?_;simp only[Yt,Yu]at ih;rw[Yf hi,sumW,Y1];simp[hi,h4,ih,sumW]
def Zfa(m:Zb)(n:Int)(qa:List Atom)(steps:List Zc)(sizes:List Int):Int:=if Zis n qa steps sizes=true then sumW (Zgf m n qa steps sizes) 0 else -1
theorem Zboi{m:Zb}{n:Int}{qa:List Atom}{steps:List Zc}{sizes:List Int}:(Zgf m n qa steps sizes).length<=14:=by
 unfold Zgf
 cases hi:Zcm n qa steps with
 |none=>simp
 |some info =>
  obtain⟨l1,l2,l3,l4⟩:=Zkl hi;simp only;split
  .rw[Z8e l2.symm];omega
  .simp
theorem Z8g(m:Zb)(hm:LeM m)(q:Ze)(hq:LeQ q)(p:Plan)(sizes:List Int)(hs:Le sizes):Zh6 m q p sizes=some (I (Zfa m q.Zg q.Atoms p.Steps sizes),[]):=by
 have h1:=Zcar m hm q hq p sizes hs;refine Zb39 ?_;unfold Zfa;rcases tf (Zis q.Zg q.Atoms p.Steps sizes)with e|e
 .rw[e,if_neg (by simp)]at h1;rw[e];exact .inl ⟨h1,by simp⟩
 .rw[e,if_pos rfl]at h1;rw[e];exact .inr ⟨_,h1,Z8f.2 e,_,x_sum _ (by have:=Zboi (m:=m) (n:=q.Zg) (qa:=q.Atoms) (steps:=p.Steps) (sizes:=sizes);omega),by simp⟩
theorem Zcat(m:Zb)(hm:LeM m)(q:Ze)(hq:LeQ q)(p:Plan)(sizes:List Int)(hs:Le sizes):Zyg m q p sizes=some (I (Zfa m q.Zg q.Atoms p.Steps sizes),[]):=by
 refine Zb7c ⟨_,Zcap m hm q hq p sizes hs,?_⟩;unfold Zfa;by_cases e:Zgf m q.Zg q.Atoms p.Steps sizes=[]
 .have e2:Zis q.Zg q.Atoms p.Steps sizes=false:=by
   rcases tf (Zis q.Zg q.Atoms p.Steps sizes)with h|h
   .exact h
   .exact absurd e (Z8f.2 h)
  rw[e2,e];simp
 .have e2:=Z8f.1 e;have e3:¬((Zgf m q.Zg q.Atoms p.Steps sizes).length:Int)=0:=λhc=>e (Yc3.1 (by omega))
  rw[if_neg e3,e2,if_pos rfl];exact Zcas _ (by have:=Zboi (m:=m) (n:=q.Zg) (qa:=q.Atoms) (steps:=p.Steps) (sizes:=sizes);omega) 0 (Ya _) 0
theorem Zcau(l:List Int)(hl:l.length<=4294967296):∀i,i<=l.length->∀out:List Int,out.length<=i->Zk3 out l l l.length i=if Zb8 l=true then some (.own 0,[.arr Zbc 1 true ((out++(l.drop i).map Zcs).map ic)])else some (.t .nil,[]):=by
 refine down _ ?_ ?_
 .intro out _;rcases tf (Zb8 l)with e|e
  .rw[e];refine Z7t ?_;rw[if_neg (by omega)];exact⟨_,Zyr l (by omega),by rw[e,if_neg (by simp)]⟩
  .rw[e,if_pos rfl];refine Z7t ?_;rw[if_neg (by omega)];exact⟨_,Zyr l (by omega),by rw[e,if_pos rfl];simp⟩
 .intro i hi ih out ho;have h4:=Z6 (i:=i) (by omega);have ih:=ih (out++[Zcs l[i]]) (by simp;omega);simp only[Yt,Yu]at ih;have go:∀r,Zk3 (out++[Zcs l[i]]) l l l.length ((i:Int)+1)=some r->Zk3 out l l l.length i=some r:=by
   intro r hr;refine Z7t ?_;rw[if_pos (by omega)];refine⟨by omega,l[i],by rw[Yg];exact Yc hi,_,Zb77 _,by omega,?_⟩;rw[show w ((i:Int)+1)=(i:Int)+1 from h4];exact hr
  rw[Yf hi,Yo];rcases tf (Zb8 l)with e|e
  .rw[e]at ih|-;exact go _ (by simpa using ih)
  .rw[e,if_pos rfl]at ih|-;exact go _ (by simpa using ih)
def Zc0(l:List Int):List Int:=l.map Zcs
theorem Zboj(l:List Int)(hl:l.length<=4294967296):Zh5 l=if Zb8 l=true then some (.own 0,[.arr Zbc 1 true ((Zc0 l).map ic)])else some (.t .nil,[]):=by
 have b:=Zcau l hl 0 (Ya _) [] (by simp);rcases tf (Zb8 l)with e|e
 .rw[e]at b|-;exact Zbjz b
 .rw[e,if_pos rfl]at b|-;exact Zbjz (by simpa[Zc0]using b)
theorem Zcav(l:List Int)(hl:l.length<=4294967296)(h:Zb8 l=true):∀i,i<=l.length->∀out:List Int,out.length<=i->Ztv out l i=some (.own 0,[.arr Zbc 1 true ((out++(l.drop i).map Zcs).map ic)]):=by
 refine down _ ?_ ?_
 .intro out _;refine Z7y ?_;rw[if_neg (by omega)];simp
 .intro i hi ih out ho;have h4:=Z6 (i:=i) (by omega);have ih:=ih (out++[Zcs l[i]]) (by simp;omega);simp only[Yt,Yu]at ih;refine Z7y ?_;rw[if_pos (by omega)];refine⟨_,Zyq l (by omega),?_⟩;rw[h,if_pos rfl];refine⟨by omega,l[i],by rw[Yg];exact Yc hi,_,Zb78 _,by omega,?_⟩;rw[show w ((i:Int)+1)=(i:Int)+1 from h4,Yf hi,Yo];simpa using ih
theorem Zbok(l:List Int)(hl:l.length<=4294967296):Zpc l=some (.own 0,[.arr Zbc 1 true ((if Zb8 l=true then Zc0 l else[]).map ic)]):=by
 rcases tf (Zb8 l)with e|e
 .rw[e];refine Zbl3 (Z7y ?_);by_cases h:(0:Int)<l.length
  .rw[if_pos h];exact⟨_,Zyq l (by omega),by rw[e,if_neg (by simp)];rfl⟩
  .rw[if_neg h];rfl
 .have b:=Zcav l hl e 0 (Ya _) [] (by simp);rw[e,if_pos rfl];exact Zbl3 (by simpa[Zc0]using b)
theorem Zcaw(m:Zb)(hm:LeM m)(q:Ze)(hq:LeQ q)(p:Plan)(l:List Int)(hl:l.length<=4294967296)(h:Zb8 l=true):Zr6 m q p l=some (I (Zfa m q.Zg q.Atoms p.Steps (Zc0 l)),[]):=by
 have b:=Zboj l hl;rw[h,if_pos rfl]at b;exact Zb33 (.inl ⟨_,b,_,Z8g m hm q hq p (Zc0 l) (by simp[Zc0];omega),rfl⟩)
theorem Zcax(m:Zb)(hm:LeM m)(q:Ze)(hq:LeQ q)(p:Plan)(l:List Int)(hl:l.length<=4294967296)(h:Zb8 l=true):Zyh m q p l=some (I (Zfa m q.Zg q.Atoms p.Steps (Zc0 l)),[]):=by
 have b:=Zbok l hl;rw[h,if_pos rfl]at b;exact Zb7d ⟨_,b,_,Zcat m hm q hq p (Zc0 l) (by simp[Zc0];omega),rfl⟩
abbrev Zfb(q:Ze)(m:Int):List Int:=varL m q.Atoms q.Zg.toNat
theorem Zbol(q:Ze)(hq:LeQ q)(hv:Zx q.Zg q.Atoms=true)(m:Int)(hm:MQ q.Atoms m):Zh9 q m=some (.own 0,[.arr Zbc 1 true ((Zfb q m).map ic)]):=by
 refine Zb4f ⟨_,Zbn5 q hq m,?_⟩
 have:inR m 0 (Zbd q.Zg q.Atoms)=true:=by rw[Zg2 hv];simp[inR];have:=hm.1;have:=hm.2;omega
 rw[hv,this,if_pos (by rfl)];exact⟨_,Zuh q m hq hv,rfl⟩
def Zg4(q:Ze)(a b:Int):List Int:=(Zfb q a).filter (has (Zfb q b))
theorem Zup(q:Ze)(hv:Zx q.Zg q.Atoms=true)(m:Int):(Zfb q m).length<=4:=by
 have:=Zm2 m q.Atoms q.Zg.toNat;have:=Zfy hv;unfold Zfb;omega
theorem Zcay(q:Ze)(hq:LeQ q)(hv:Zx q.Zg q.Atoms=true)(a b:Int)(ha:MQ q.Atoms a)(hb:MQ q.Atoms b):Zk7 q a b=some (.own 0,[.arr Zbc 1 true ((Zg4 q a b).map ic)]):=by
 have l1:=Zup q hv a;have l2:=Zup q hv b;exact Zb4g (.inl ⟨_,Zbol q hq hv a ha,.inl ⟨_,Zbol q hq hv b hb,_,x_both _ _ (by omega) (by omega),rfl⟩⟩)
theorem l_l7List(p:Nat->Bool):∀k:Nat,k<=4->∀out:List Int,out.length<=k->Zo9 out (Zbm p) k=some (.own 0,[.arr Zbc 1 true ((out++((List.range' k (4-k)).filter p).map (λu:Nat=>(u:Int))).map ic)]):=by
 refine down _ ?_ ?_
 .intro out _;refine Zblz ?_;rw[if_neg (by omega)];simp
 .intro k hk ih out ho;have wk':w ((k:Int)+1)=(k:Int)+1:=Z2 (by omega) (by omega);have hb:=at_bit p (v:=(k:Int)) (by simp[inR];omega);rw[Yg]at hb;refine Zblz ?_;rw[if_pos (by omega),show 4-k=(4-(k+1))+1 by omega,Yc5,Yb6,wk'];refine⟨by omega,?_⟩;rcases tf (p k)with e|e
  .have ih:=ih out (by omega);rw[if_neg (λhc=>by rw[hb.1 hc]at e;cases e),e,if_neg (by simp)];simpa using ih
  .have ih:=ih (out++[(k:Int)]) (by simp;omega);rw[if_pos (hb.2 e),e,if_pos rfl];exact⟨by omega,by simpa using ih⟩
theorem vars4(q:Ze)(hv:Zx q.Zg q.Atoms=true)(m:Int):((List.range' 0 4).filter (pV m q.Atoms)).map (λu:Nat=>(u:Int))=Zfb q m:=by
 have hn:=Zfy hv;have e:List.range' 0 4=List.range q.Zg.toNat++List.range' q.Zg.toNat (4-q.Zg.toNat):=by
  have h:=List.range'_append_1 (s:=0) (m:=q.Zg.toNat) (n:=4-q.Zg.toNat);rw[Ym]at h;rw[List.range_eq_range',h];congr 1;omega
 unfold Zfb varL;rw[e,Yc9];have e2:(List.range' q.Zg.toNat (4-q.Zg.toNat)).filter (pV m q.Atoms)=[]:=by
  rw[Yce];intro u hu hp;have:=pV_lt hv hp;rw[List.mem_range'_1]at hu;omega
 rw[e2];simp
theorem Zbom(q:Ze)(hq:LeQ q)(hv:Zx q.Zg q.Atoms=true)(m:Int)(hm:MQ q.Atoms m):Ztq q m=some (.own 0,[.arr Zbc 1 true ((Zfb q m).map ic)]):=by
 have b:=l_l7List (pV m q.Atoms) 0 (by omega) [] (by simp);rw[show 4-0=4 from rfl,vars4 q hv m]at b;refine Zb6s ⟨_,Zbn6 q hq m,?_⟩
 have:inR m 0 (Zbd q.Zg q.Atoms)=true:=by rw[Zg2 hv];simp[inR];have:=hm.1;have:=hm.2;omega
 rw[hv,this,if_pos (by rfl)];exact⟨_,Zpm q m hq (Zkj hv),_,Zb6r (by simpa using b),rfl⟩
theorem Zcaz(x y:List Int)(hy:Le y)(hx:x.length<=1000):∀i,i<=x.length->Zpb ((x.take i).filter (has y)) x y i=some (.own 0,[.arr Zbc 1 true ((x.filter (has y)).map ic)]):=by
 refine down _ ?_ ?_
 .refine Zbl0 ?_;rw[if_neg (by omega)];simp
 .intro i hi ih;have h4:=Z6 (i:=i) (by omega);have e4:((x.take i).filter (has y)).length+1<=68719476736:=by
   have:=Ybv (has y) (x.take i);simp at this;omega
  rw[Z1l _ hi]at ih;refine Zbl0 ?_;rw[if_pos (by omega)];refine⟨by omega,x[i],by rw[Yg];exact Yc hi,_,Zyo y x[i] hy,?_⟩;rw[show w ((i:Int)+1)=(i:Int)+1 from h4];rcases tf (has y x[i])with e|e
  .rw[e,if_neg (by simp)];rw[e]at ih;simpa using ih
  .rw[e,if_pos rfl];rw[e]at ih;exact⟨e4,by simpa using ih⟩
theorem Zca0(q:Ze)(hq:LeQ q)(hv:Zx q.Zg q.Atoms=true)(a b:Int)(ha:MQ q.Atoms a)(hb:MQ q.Atoms b):Zpa q a b=some (.own 0,[.arr Zbc 1 true ((Zg4 q a b).map ic)]):=by
 have l1:=Zup q hv a;have l2:=Zup q hv b;have c:=Zcaz (Zfb q a) (Zfb q b) (by omega) (by omega) 0 (Ya _);exact Zb6t ⟨_,Zbom q hq hv a ha,_,Zbom q hq hv b hb,by simpa[Zg4]using c⟩
abbrev B4:=Bool×Bool×Bool×Bool
structure Ed where
 a:Bool
 b:Bool
 c:Bool
 d:Bool
 e:Bool
 f:Bool
def nearB(g:Ed)(x:B4):B4:=match x with
 |(x0,x1,x2,x3)=>(!x0 && ((x1 && g.a) || (x2 && g.b) || (x3 && g.c)),!x1 && ((x0 && g.a) || (x2 && g.d) || (x3 && g.e)),!x2 && ((x0 && g.b) || (x1 && g.d) || (x3 && g.f)),!x3 && ((x0 && g.c) || (x1 && g.e) || (x2 && g.f)))
def orB(x y:B4):B4:=match x,y with
 |(x0,x1,x2,x3),(y0,y1,y2,y3)=>(x0 || y0,x1 || y1,x2 || y2,x3 || y3)
def andB(x y:B4):B4:=match x,y with
 |(x0,x1,x2,x3),(y0,y1,y2,y3)=>(x0 && y0,x1 && y1,x2 && y2,x3 && y3)
def subB(x y:B4):B4:=match x,y with
 |(x0,x1,x2,x3),(y0,y1,y2,y3)=>(x0 && !y0,x1 && !y1,x2 && !y2,x3 && !y3)
def stepB(g:Ed)(p x:B4):B4:=orB x (andB (nearB g x) p)
def iterB(g:Ed)(p:B4):Nat->B4->B4
 |0,x=>x
 |n+1,x=>iterB g p n (stepB g p x)
def lowB:B4->B4
 |(p0,p1,p2,p3)=>(p0,!p0 && p1,!p0 && !p1 && p2,!p0 && !p1 && !p2 && p3)
def Zda(g:Ed)(n:Nat)(p:B4):Bool:=iterB g p n (lowB p) == p
def edgeB(g:Ed)(x y:B4):Bool:=match x,y with
 |(x0,x1,x2,x3),(y0,y1,y2,y3)=>(x0 && ((y1 && g.a) || (y2 && g.b) || (y3 && g.c))) || (x1 && ((y0 && g.a) || (y2 && g.d) || (y3 && g.e))) || (x2 && ((y0 && g.b) || (y1 && g.d) || (y3 && g.f))) || (x3 && ((y0 && g.c) || (y1 && g.e) || (y2 && g.f)))
def toI(x:B4):Int:=match x with|(a,b,c,d)=>bit4 a b c d
def inN(n:Nat)(p:B4):Bool:=match p with|(p0,p1,p2,p3)=>(decide (1<=n) || !p0) && (decide (2<=n) || !p1) && (decide (3<=n) || !p2) && (decide (4<=n) || !p3)
def oneB(p:B4):Bool:=p == (true,false,false,false) || p == (false,true,false,false) || p == (false,false,true,false) || p == (false,false,false,true)
def okF1(g:Ed)(n:Nat)(p:B4):Bool:=!inN n p || !Zda g n p || oneB p || p == (false,false,false,false) ||
 (andB p (true,false,false,false) != (false,false,false,false) && Zda g n (subB p (true,false,false,false))) || (andB p (false,true,false,false) != (false,false,false,false) && Zda g n (subB p (false,true,false,false))) ||
 (andB p (false,false,true,false) != (false,false,false,false) && Zda g n (subB p (false,false,true,false))) || (andB p (false,false,false,true) != (false,false,false,false) && Zda g n (subB p (false,false,false,true)))
def okF2(g:Ed)(n:Nat)(p x:B4):Bool:=andB x p != x || x == (false,false,false,false) || x == p || edgeB g x (subB p x) || !inN n p || !Zda g n p
set_option maxRecDepth 100000 in
theorem f1:∀a b c d e f:Bool,∀p0 p1 p2 p3:Bool,okF1 ⟨a,b,c,d,e,f⟩ 1 (p0,p1,p2,p3)=true/\okF1 ⟨a,b,c,d,e,f⟩ 2 (p0,p1,p2,p3)=true/\okF1 ⟨a,b,c,d,e,f⟩ 3 (p0,p1,p2,p3)=true/\okF1 ⟨a,b,c,d,e,f⟩ 4 (p0,p1,p2,p3)=true:=by decide +kernel
set_option maxRecDepth 100000 in
theorem f2:∀a b c d e f:Bool,∀p0 p1 p2 p3 x0 x1 x2 x3:Bool,okF2 ⟨a,b,c,d,e,f⟩ 1 (p0,p1,p2,p3) (x0,x1,x2,x3)=true/\okF2 ⟨a,b,c,d,e,f⟩ 2 (p0,p1,p2,p3) (x0,x1,x2,x3)=true/\okF2 ⟨a,b,c,d,e,f⟩ 3 (p0,p1,p2,p3) (x0,x1,x2,x3)=true/\okF2 ⟨a,b,c,d,e,f⟩ 4 (p0,p1,p2,p3) (x0,x1,x2,x3)=true:=by decide +kernel
def ofI(m:Int):B4:=(Z9 m 0,Z9 m 1,Z9 m 2,Z9 m 3)
set_option maxRecDepth 100000 in
theorem to_of:∀a:Fin 16,toI (ofI (a.1:Int))=(a.1:Int):=by decide
theorem Z8h{m:Int}(h:M16 m):toI (ofI m)=m:=by obtain⟨a,rfl⟩:=m16 h;exact to_of a
theorem of_to:∀a b c d:Bool,ofI (bit4 a b c d)=(a,b,c,d)/\M16 (bit4 a b c d):=by decide
theorem Zuq(x:B4):ofI (toI x)=x:=(of_to x.1 x.2.1 x.2.2.1 x.2.2.2).1
theorem toI_16(x:B4):M16 (toI x):=(of_to x.1 x.2.1 x.2.2.1 x.2.2.2).2
theorem Z8i{x y:B4}(h:toI x=toI y):x=y:=by rw[<-Zuq x,h,Zuq]
set_option maxRecDepth 100000 in
theorem Zbon:∀a b c d e f g h:Bool,orI (bit4 a b c d) (bit4 e f g h)=bit4 (a || e) (b || f) (c || g) (d || h)/\andI (bit4 a b c d) (bit4 e f g h)=bit4 (a && e) (b && f) (c && g) (d && h):=by decide
theorem toI_or(x y:B4):orI (toI x) (toI y)=toI (orB x y):=(Zbon x.1 x.2.1 x.2.2.1 x.2.2.2 y.1 y.2.1 y.2.2.1 y.2.2.2).1
theorem Zzd(x y:B4):andI (toI x) (toI y)=toI (andB x y):=(Zbon x.1 x.2.1 x.2.2.1 x.2.2.2 y.1 y.2.1 y.2.2.1 y.2.2.2).2
theorem bit_low:∀a b c d:Bool,andI (bit4 a b c d) (w (0-bit4 a b c d))=toI (lowB (a,b,c,d)):=by decide
theorem bit_sub:∀a b c d e f g h:Bool,andB (e,f,g,h) (a,b,c,d)=(e,f,g,h)->bit4 a b c d-bit4 e f g h=toI (subB (a,b,c,d) (e,f,g,h)):=by decide
theorem Zboo{x y:B4}(h:andB y x=y):toI x-toI y=toI (subB x y):=bit_sub x.1 x.2.1 x.2.2.1 x.2.2.2 y.1 y.2.1 y.2.2.1 y.2.2.2 h
theorem shl4:∀i j:Fin 4,Z9 (shlI 1 i.1) j.1=decide (i=j):=by decide
theorem pV_any(qa:List Atom)(h4:qa.length<=4)(m:Int)(u:Nat):pV m qa u=((Z9 m 0 && pV (shlI 1 (0:Nat)) qa u) || (Z9 m 1 && pV (shlI 1 (1:Nat)) qa u) || (Z9 m 2 && pV (shlI 1 (2:Nat)) qa u) || (Z9 m 3 && pV (shlI 1 (3:Nat)) qa u)):=by
 have s:∀i j:Nat,i<4->j<4->Z9 (shlI 1 (i:Nat)) j=decide (i=j):=λi j hi hj=>by
  have:=shl4 ⟨i,hi⟩ ⟨j,hj⟩;simpa[Fin.ext_iff]using this
 have s00:=s 0 0 (by omega) (by omega);have s01:=s 0 1 (by omega) (by omega);have s02:=s 0 2 (by omega) (by omega);have s03:=s 0 3 (by omega) (by omega);have s10:=s 1 0 (by omega) (by omega);have s11:=s 1 1 (by omega) (by omega);have s12:=s 1 2 (by omega) (by omega);have s13:=s 1 3 (by omega) (by omega);have s20:=s 2 0 (by omega) (by omega);have s21:=s 2 1 (by omega) (by omega);have s22:=s 2 2 (by omega) (by omega);have s23:=s 2 3 (by omega) (by omega);have s30:=s 3 0 (by omega) (by omega);have s31:=s 3 1 (by omega) (by omega);have s32:=s 3 2 (by omega) (by omega);have s33:=s 3 3 (by omega) (by omega);simp only[Nat.reduceEqDiff,decide_true,decide_false]at s00 s01 s02 s03 s10 s11 s12 s13 s20 s21 s22 s23 s30 s31 s32 s33
 match qa,h4 with
 |[],_=>simp[pV,hasV]
 |[a],_=>simp only[pV,hasV,s00,s10,s20,s30];cases Z9 m 0<;>cases Z9 m 1<;>cases Z9 m 2<;>cases Z9 m 3<;>simp
 |[a,b],_=>simp only[pV,hasV,s00,s10,s20,s30,s01,s11,s21,s31,Ym];cases Z9 m 0<;>cases Z9 m 1<;>cases Z9 m 2<;>cases Z9 m 3<;>simp
 |[a,b,c],_=>simp only[pV,hasV,s00,s10,s20,s30,s01,s11,s21,s31,s02,s12,s22,s32,Ym,Nat.reduceAdd];cases Z9 m 0<;>cases Z9 m 1<;>cases Z9 m 2<;>cases Z9 m 3<;>simp[Bool.or_assoc]
 |[a,b,c,d],_=>simp only[pV,hasV,s00,s10,s20,s30,s01,s11,s21,s31,s02,s12,s22,s32,s03,s13,s23,s33,Ym,Nat.reduceAdd];cases Z9 m 0<;>cases Z9 m 1<;>cases Z9 m 2<;>cases Z9 m 3<;>simp[Bool.or_assoc]
 |_::_::_::_::_::_,h=>simp at h
def adj(qa:List Atom)(i j:Nat):Bool:=shr qa (shlI 1 i) (shlI 1 j)
theorem Zgg(qa:List Atom)(i j:Nat):adj qa i j=adj qa j i:=by
 unfold adj shr;simp only[Bool.and_comm]
def ats(m:Int)(f:Nat->Bool):Bool:=(Z9 m 0 && f 0) || (Z9 m 1 && f 1) || (Z9 m 2 && f 2) || (Z9 m 3 && f 3)
theorem Zj4{m:Int}{f:Nat->Bool}:ats m f=true↔∃i,i<4/\Z9 m i=true/\f i=true:=by
 unfold ats;constructor
 .intro h;simp only[Ycz,Ye]at h;rcases h with((h|h)|h)|h
  .exact⟨0,by omega,h⟩
  .exact⟨1,by omega,h⟩
  .exact⟨2,by omega,h⟩
  .exact⟨3,by omega,h⟩
 .rintro⟨i,hi,h1,h2⟩;simp only[Ycz,Ye]
  match i,hi with
  |0,_=>exact .inl (.inl (.inl ⟨h1,h2⟩))
  |1,_=>exact .inl (.inl (.inr ⟨h1,h2⟩))
  |2,_=>exact .inl (.inr ⟨h1,h2⟩)
  |3,_=>exact .inr ⟨h1,h2⟩
theorem Zbop(qa:List Atom)(h4:qa.length<=4)(x y:Int):shr qa x y=ats x λi=>ats y λj=>adj qa i j:=by
 have pv:∀m u,pV m qa u=ats m λi=>pV (shlI 1 (i:Nat)) qa u:=λm u=>pV_any qa h4 m u
 rw[Ybk,Zj4];unfold shr;rw[List.any_eq_true];constructor
 .rintro⟨u,hu,h⟩;rw[Ye,pv x u,pv y u,Zj4,Zj4]at h;obtain⟨⟨i,i1,i2,i3⟩,⟨j,j1,j2,j3⟩⟩:=h;refine⟨i,i1,i2,Zj4.2 ⟨j,j1,j2,?_⟩⟩;unfold adj shr;rw[List.any_eq_true];exact⟨u,hu,by rw[Ye];exact⟨i3,j3⟩⟩
 .rintro⟨i,i1,i2,h⟩;obtain⟨j,j1,j2,h⟩:=Zj4.1 h;unfold adj shr at h;rw[List.any_eq_true]at h;obtain⟨u,hu,h⟩:=h;rw[Ye]at h;refine⟨u,hu,?_⟩;rw[Ye,pv x u,pv y u,Zj4,Zj4];exact⟨⟨i,i1,i2,h.1⟩,⟨j,j1,j2,h.2⟩⟩
def edOf(qa:List Atom):Ed:=⟨adj qa 0 1,adj qa 0 2,adj qa 0 3,adj qa 1 2,adj qa 1 3,adj qa 2 3⟩
theorem Zze{qa:List Atom}(h4:qa.length<=4){i:Nat}(hi:i<4)(hl:qa.length<=i)(j:Nat):adj qa i j=false:=by
 have:∀u,pV (shlI 1 (i:Nat)) qa u=false:=by
  intro u;unfold pV;have key:∀(as':List Atom) (k:Nat),k+as'.length<=i->hasV (shlI 1 (i:Nat)) as' k u=false:=by
   intro as'
   induction as' with
   |nil=>intro k _;rfl
   |cons a as' ih =>
    intro k hk;simp only[Yw]at hk;have:=shl4 ⟨i,hi⟩ ⟨k,by omega⟩;simp only[Fin.mk.injEq]at this;rw[hasV,ih (k+1) (by omega),this,decide_eq_false (by omega)];rfl
  exact key qa 0 (by omega)
 unfold adj shr;rw[Yc8];intro u _;simp[this u]
theorem shl_in(i:Nat)(hi:i<4)(f:Nat->Bool):ats (shlI 1 (i:Nat)) f=f i:=by
 have s:∀j:Nat,j<4->Z9 (shlI 1 (i:Nat)) j=decide (i=j):=λj hj=>by
  have:=shl4 ⟨i,hi⟩ ⟨j,hj⟩;simpa[Fin.ext_iff]using this
 rw[Ybk,Zj4];constructor
 .rintro⟨j,j1,j2,j3⟩;rw[s j j1]at j2
  have:i=j:=of_decide_eq_true j2
  rw[this];exact j3
 .intro h;exact⟨i,hi,by rw[s i hi];simp,h⟩
theorem near_bit{n:Int}{qa:List Atom}(hv:Zx n qa=true)(x:B4):Zg1 qa (toI x)=toI (nearB (edOf qa) x):=by
 have h4:=(Zcx hv).2;obtain⟨x0,x1,x2,x3⟩:=x;have hin:=Zuq (x0,x1,x2,x3);simp only[ofI,Ybl]at hin;obtain⟨i0,i1,i2,i3⟩:=hin;have key:∀i,i<4->Zdr qa (toI (x0,x1,x2,x3)) i=(!Z9 (toI (x0,x1,x2,x3)) i && ((x0 && adj qa i 0) || (x1 && adj qa i 1) || (x2 && adj qa i 2) || (x3 && adj qa i 3))):=by
  intro i hi;unfold Zdr;rw[Zbop qa h4,shl_in i hi];unfold ats;rw[i0,i1,i2,i3];by_cases hl:i<qa.length
  .simp[hl]
  .have a0:=Zze h4 hi (by omega) 0;have a1:=Zze h4 hi (by omega) 1;have a2:=Zze h4 hi (by omega) 2;have a3:=Zze h4 hi (by omega) 3;simp[hl,a0,a1,a2,a3]
 unfold Zg1 Zbm;rw[key 0 (by omega),key 1 (by omega),key 2 (by omega),key 3 (by omega),i0,i1,i2,i3];unfold nearB edOf toI;rw[Zgg qa 1 0,Zgg qa 2 0,Zgg qa 3 0,Zgg qa 2 1,Zgg qa 3 1,Zgg qa 3 2];cases x0<;>cases x1<;>cases x2<;>cases x3<;>simp
theorem step_bit{n:Int}{qa:List Atom}(hv:Zx n qa=true)(p x:B4):Zgd qa (toI p) (toI x)=toI (stepB (edOf qa) p x):=by
 unfold Zgd stepB;rw[near_bit hv,Zzd,toI_or]
theorem Zboq{n:Int}{qa:List Atom}(hv:Zx n qa=true)(p:B4):∀(k:Nat) (x:B4),Zir qa (toI p) k (toI x)=toI (iterB (edOf qa) p k x)
 |0,x=>rfl
 |k+1,x=>by rw[Zir,iterB,step_bit hv,Zboq hv p k]
theorem Zur{n:Int}{qa:List Atom}(hv:Zx n qa=true)(p:B4):conn qa (toI p)=Zda (edOf qa) qa.length p:=by
 unfold conn Zda;rw[show andI (toI p) (w (0-toI p))=toI (lowB p)from bit_low p.1 p.2.1 p.2.2.1 p.2.2.2,Zboq hv,Ybk,decide_eq_true_eq,beq_iff_eq];exact⟨Z8i,λh=>by rw[h]⟩
theorem edge_bit{qa:List Atom}(h4:qa.length<=4)(x y:B4)(hd:andB x y=(false,false,false,false)):shr qa (toI x) (toI y)=edgeB (edOf qa) x y:=by
 obtain⟨x0,x1,x2,x3⟩:=x;obtain⟨y0,y1,y2,y3⟩:=y;have hx:=Zuq (x0,x1,x2,x3);have hy:=Zuq (y0,y1,y2,y3);simp only[ofI,Prod.mk.injEq]at hx hy;obtain⟨i0,i1,i2,i3⟩:=hx;obtain⟨j0,j1,j2,j3⟩:=hy;simp only[andB,Prod.mk.injEq]at hd;rw[Zbop qa h4];unfold ats;rw[i0,i1,i2,i3,j0,j1,j2,j3];unfold edgeB edOf;dsimp only;rw[Zgg qa 1 0,Zgg qa 2 0,Zgg qa 3 0,Zgg qa 2 1,Zgg qa 3 1,Zgg qa 3 2];obtain⟨h0,h1,h2,h3⟩:=hd;cases x0<;>cases y0<;>simp at h0<;>cases x1<;>cases y1<;>simp at h1<;>cases x2<;>cases y2<;>simp at h2<;>cases x3<;>cases y3<;>simp at h3<;>simp
theorem Zca1(a:Int):Zr8 a=some (.agg [.own 0],[.arr 287 3 true (([(⟨1,a,0⟩:Zc)]).map Zc.c)]):=Zb36 rfl
theorem Zca2(a:Int):Ztx a=some (.agg [.own 0],[.arr 287 3 true (([(⟨1,a,0⟩:Zc)]).map Zc.c)]):=Zb6x rfl
theorem Zzf(p:Plan)(h:p.Steps.length<=1000):Zh8 p=some (.agg [.own 0],[.arr 287 3 true (p.Steps.map Zc.c)]):=Zb4c ⟨by omega,rfl⟩
def Zcv(a b:List Zc)(k v:Int):List Zc:=a++b++[(⟨k,0,v⟩:Zc)]
def sortS(a:List Zc)(v:Int):List Zc:=a++[(⟨2,0,v⟩:Zc)]
theorem Zpz(a b:Plan)(k v:Int)(ha:a.Steps.length<=1000)(hb:b.Steps.length<=1000):Zhh a b k v=some (.agg [.own 0],[.arr 287 3 true ((Zcv a.Steps b.Steps k v).map Zc.c)]) :=
 Zb4d ⟨_,Zzf a ha,by omega,by omega,rfl⟩
theorem Zj5(a b:Plan)(k v:Int)(ha:a.Steps.length<=1000)(hb:b.Steps.length<=1000):Zf6 a b k v=some (.agg [.own 0],[.arr 287 3 true ((Zcv a.Steps b.Steps k v).map Zc.c)]) :=
 Zb6z ⟨by omega,by omega,by omega,rfl⟩
theorem Zca3(a:Plan)(v:Int)(ha:a.Steps.length<=1000):Zwz a v=some (.agg [.own 0],[.arr 287 3 true ((sortS a.Steps v).map Zc.c)]) :=
 Zb4h ⟨_,Zzf a ha,by omega,rfl⟩
theorem Zbor(a:Plan)(v:Int)(ha:a.Steps.length<=1000):Zty a v=some (.agg [.own 0],[.arr 287 3 true ((sortS a.Steps v).map Zc.c)]) :=
 Zb62 ⟨by omega,by omega,rfl⟩
def Zcw(l:List Za)(c:Int):Nat->Int
 |0=>-1
 |k+1=>match l[k]? with
  |none=>Zcw l c k
  |some e=>if e.Mask=c then(match l[(Zcw l c k).toNat]? with
    |some b=>if Zcw l c k<0 then(k:Int)else if e.Cost<b.Cost then(k:Int)else Zcw l c k
    |none=>(k:Int))else Zcw l c k
theorem Zbos(l:List Za)(c:Int):∀k,-1<=Zcw l c k/\Zcw l c k<k
 |0=>by simp[Zcw]
 |k+1=>by
  have ih:=Zbos l c k;unfold Zcw
  repeat' split
  all_goals omega
def low(l:List Za)(c:Int):Int:=Zcw l c l.length
theorem l_low(l:List Za)(c:Int)(hl:l.length<=1000):∀i,i<=l.length->Zjx l c (Zcw l c i) i=some (I (low l c),[]):=by
 refine down _ ?_ ?_
 .refine Zbl5 ?_;rw[if_neg (by omega)];rfl
 .intro i hi ih;have h4:=Z6 (i:=i) (by omega);have hb:=Zbos l c i;refine Zbl5 ?_;rw[if_pos (by omega)];refine⟨by omega,l[i],by rw[Yg];exact Yc hi,?_⟩;rw[show w ((i:Int)+1)=((i+1:Nat):Int)from by rw[show w ((i:Int)+1)=(i:Int)+1 from h4];simp];unfold Zcw at ih;rw[Yc hi]at ih;by_cases e:l[i].Mask=c
  .rw[if_pos e];simp only[if_pos e]at ih;by_cases e0:Zcw l c i<0
   .rw[if_pos e0];simp only[if_pos e0]at ih;split at ih<;>exact ih
   .rw[if_neg e0];have hk:(Zcw l c i).toNat<l.length:=by omega
    refine⟨by omega,l[(Zcw l c i).toNat],Yc hk,?_⟩;rw[Yc hk]at ih;simp only[if_neg e0]at ih;by_cases e2:l[i].Cost<l[(Zcw l c i).toNat].Cost
    .rw[if_pos e2]at ih|-;exact ih
    .rw[if_neg e2]at ih|-;exact ih
  .rw[if_neg e];simp only[if_neg e]at ih;exact ih
theorem x_low(l:List Za)(c:Int)(hl:l.length<=1000):Zii l c=some (I (low l c),[]):=Zb6y (l_low l c hl 0 (Ya _))
def Zhq(cc c:Int):List Za->Nat->Int
 |[],_=>-1
 |e::l,k=>if e.Mask=cc/\e.Order=c then(k:Int)else Zhq cc c l (k+1)
theorem l_find(l:List Za)(cc c:Int)(hl:l.length<=1000):∀i,i<=l.length->Zpf l cc c i=some (I (Zhq cc c (l.drop i) i),[]):=by
 refine down _ ?_ ?_
 .refine Zbl6 ?_;rw[if_neg (by omega)];simp[Zhq]
 .intro i hi ih;have h4:=Z6 (i:=i) (by omega);refine Zbl6 ?_;rw[if_pos (by omega),Yf hi];refine⟨by omega,l[i],by rw[Yg];exact Yc hi,?_⟩;rw[show w ((i:Int)+1)=((i+1:Nat):Int)from by rw[show w ((i:Int)+1)=(i:Int)+1 from h4];simp];unfold Zhq;by_cases e:l[i].Mask=cc
  .rw[if_pos e];by_cases e2:l[i].Order=c
   .rw[if_pos e2,if_pos ⟨e,e2⟩]
   .rw[if_neg e2,if_neg (λh=>e2 h.2)];exact ih
  .rw[if_neg e,if_neg (λh=>e h.1)];exact ih
def find(l:List Za)(cc c:Int):Int:=Zhq cc c l 0
theorem Zzg(l:List Za)(cc c:Int)(hl:l.length<=1000):Zpe l cc c=some (I (find l cc c),[]):=Zb61 (l_find l cc c hl 0 (Ya _))
abbrev MO:=Int×Int
def Zfq(qa:List Atom)(x:Zc)(y z:MO):Option Int:=Zc7 qa x ⟨y.1,y.2,0,0⟩ ⟨z.1,z.2,0,0⟩
theorem joinP_eq(qa:List Atom)(x:Zc)(y z:Zj):Zfq qa x (y.Mask,y.Order) (z.Mask,z.Order)=Zc7 qa x y z:=by
 unfold Zfq Zc7;rfl
def Zdb(m:Zb)(sizes:List Int)(qa:List Atom)(x:Zc)(S:List MO):Option (List MO×Int) :=
 if x.Kind=1 then(if inR x.Atom 0 (qa.length-1)=true/\x.Order=0 then some ((shlI 1 x.Atom,(match qa[x.Atom.toNat]? with|some a=>a.Vars.headD 0|none=>0))::S,Zb0 (mOp m 1) (szAt sizes (shlI 1 x.Atom)) 0 (szAt sizes (shlI 1 x.Atom)))else none)
 else if x.Atom≠0 then none
 else if x.Kind=2 then(match S with
  |y::S=>if vin qa y.1 x.Order=true/\y.2≠x.Order then some ((y.1,x.Order)::S,Zb0 (mOp m 2) (szAt sizes y.1) 0 (szAt sizes y.1))else none
  |[]=>none)
 else match S with
  |z::y::S=>if andI y.1 z.1=0/\shr qa y.1 z.1=true then(Zfq qa x y z).map (λo=>((orI y.1 z.1,o)::S,Zb0 (mOp m x.Kind) (szAt sizes y.1) (szAt sizes z.1) (szAt sizes (orI y.1 z.1))))else none
  |_=>none
def runS(m:Zb)(sizes:List Int)(qa:List Atom):List Zc->List MO->Int->Option (List MO×Int)
 |[],S,c=>some (S,c)
 |x::xs,S,c=>match Zdb m sizes qa x S with
  |none=>none
  |some (S',k)=>runS m sizes qa xs S' (w (c+k))
def ordAt(info:List Zj)(i:Int):Int:=match info[i.toNat]? with|some y=>y.Order|none=>0
def vw(info:List Zj)(rs:List Int):List MO:=rs.map λs=>(Zds info s,ordAt info s)
theorem top1{info:List Zj}{s:Int}{rs:List Int}:Zcg (s::rs).reverse info 1=(info[s.toNat]?).map (s,·):=by
 simp[Zcg]
theorem top2{info:List Zj}{t s:Int}{rs:List Int}:Zcg (t::s::rs).reverse info 2=(info[s.toNat]?).map (s,·):=by
 simp[Zcg]
theorem top0{info:List Zj}:Zcg [] info 1=none:=by simp[Zcg]
theorem top02{info:List Zj}:Zcg [] info 2=none:=by simp[Zcg]
theorem top12{info:List Zj}{s:Int}:Zcg [s] info 2=none:=by simp[Zcg]
theorem Zca4(m:Zb)(sizes:List Int)(qa:List Atom)(x:Zc)(info:List Zj)(rs:List Int)(hs:StOk info rs.reverse):match Zd1 qa x info rs.reverse with
  |none=>Zdb m sizes qa x (vw info rs)=none
  |some y=>Zdb m sizes qa x (vw info rs)=some ((y.Mask,y.Order)::(vw info rs).drop (pops y),Zd4 m info sizes x y):=by
 unfold Zd1 Zdb;by_cases k1:x.Kind=1
 .simp only[if_pos k1];by_cases c:inR x.Atom 0 (qa.length-1)=true/\x.Order=0
  .simp[if_pos c,pops,Zd4,k1];rfl
  .simp[if_neg c]
 .simp only[if_neg k1];by_cases ka:x.Atom≠0
  .simp[if_pos ka]
  .simp only[if_neg ka];by_cases k2:x.Kind=2
   .simp only[if_pos k2]
    cases rs with
    |nil=>simp[vw,top0]
    |cons s rs =>
     obtain⟨h0,h1⟩:=hs s (by simp);have e:info[s.toNat]?=some info[s.toNat]:=Yc h1;rw[top1,e];simp only[Option.map_some,vw,Yo,Zds,ordAt,e];by_cases c:vin qa info[s.toNat].Mask x.Order=true/\info[s.toNat].Order≠x.Order
     .have hn:¬s<0:=by omega
      simp[if_pos c,pops,Zd4,k2,Zds,e,h0,hn]
     .simp[if_neg c]
   .simp only[if_neg k2]
    match rs,hs with
    |[],_=>simp[vw,top02]
    |[s],_=>simp[vw,top12]
    |t::s::rs,hs =>
     obtain⟨h0,h1⟩:=hs s (by simp);obtain⟨t0,t1⟩:=hs t (by simp);have e:info[s.toNat]?=some info[s.toNat]:=Yc h1;have et:info[t.toNat]?=some info[t.toNat]:=Yc t1;rw[top1,top2,e,et];simp only[Option.map_some,vw,Yo,Zds,ordAt,e,et];by_cases c:andI info[s.toNat].Mask info[t.toNat].Mask=0/\shr qa info[s.toNat].Mask info[t.toNat].Mask=true
     .simp only[if_pos c,joinP_eq]
      cases ho:Zc7 qa x info[s.toNat] info[t.toNat]with
      |none=>simp
      |some o =>
       have hn:¬s<0:=by omega
       have tn:¬t<0:=by omega
       simp[pops,Zd4,Zds,e,et,h0,t0,hn,tn]
     .simp[if_neg c]
theorem vw_ext{info tail:List Zj}{rs:List Int}(hs:∀s∈rs,0<=s/\s.toNat<info.length):vw (info++tail) rs=vw info rs:=by
 unfold vw;refine Yb1 λs h=>?_
 have:=(hs s h).2;simp[Zds,ordAt,Ycp this]
theorem Zca5{m:Zb}{sizes:List Int}{info tail:List Zj}{x:Zc}{y:Zj}(h:Zl4 info.length x y):Zd4 m (info++tail) sizes x y=Zd4 m info sizes x y:=by
 unfold Zd4;rcases h.refs with⟨a,b⟩|⟨⟨a,a'⟩,b⟩
 .simp[a,b]
 .have e1:Zds (info++tail) y.Left=Zds info y.Left:=by simp[Zds,Ycp a']
  rcases b with b|⟨b,b'⟩
  .simp[b,e1]
  .have e2:Zds (info++tail) y.Right=Zds info y.Right:=by simp[Zds,Ycp b']
   simp[e1,e2]
theorem Zbot(m:Zb)(sizes:List Int)(qa:List Atom):∀(xs:List Zc) (info:List Zj) (rs:List Int) (c:Int),StOk info rs.reverse->
  match Zcl qa xs info.length info rs.reverse with
  |none=>runS m sizes qa xs (vw info rs) c=none
  |some (info',st')=>∃tail,info'=info++tail/\tail.length=xs.length/\runS m sizes qa xs (vw info rs) c=some (vw info' st'.reverse,sumW (Ze9 m info' sizes xs tail) c)
 |[],info,rs,c,hs=>by
  simp only[Zcl,runS]
  exact⟨[],by simp,rfl,by simp[Ze9,sumW]⟩
 |x::xs,info,rs,c,hs=>by
  have hv:=Zca4 m sizes qa x info rs hs;rw[Zcl,runS]
  cases hy:Zd1 qa x info rs.reverse with
  |none=>rw[hy]at hv;simp only at hv;rw[hv]
  |some y =>
   rw[hy]at hv;simp only at hv;rw[hv];simp only;have ho:=Zboc hs hy;have hn:=Zqs hs y (rs.reverse.length-pops y);have er:rs.reverse.take (rs.reverse.length-pops y)++[(info.length:Int)]=((info.length:Int)::rs.drop (pops y)).reverse:=by
    rw[List.reverse_cons,List.reverse_drop,List.length_reverse]
   rw[er]at hn|-;have ih:=Zbot m sizes qa xs (info++[y]) ((info.length:Int)::rs.drop (pops y)) (w (c+Zd4 m info sizes x y)) hn;have ev:vw (info++[y]) ((info.length:Int)::rs.drop (pops y))=(y.Mask,y.Order)::(vw info rs).drop (pops y):=by
    have:=vw_ext (info:=info) (tail:=[y]) (rs:=rs.drop (pops y)) (λs h=>hs s (by simp;exact Ybr h));rw[show vw (info++[y]) ((info.length:Int)::rs.drop (pops y))=(Zds (info++[y]) info.length,ordAt (info++[y]) info.length)::vw (info++[y]) (rs.drop (pops y))from rfl,this];simp[Zds,ordAt,vw,List.map_drop]
   rw[ev]at ih;rw[show(info++[y]).length=info.length+1 by simp]at ih;split at ih
   .exact ih
   .rename_i info' st' hg;obtain⟨tail,a,b,d⟩:=ih;refine⟨y::tail,by simp[a],by simp[b],?_⟩;rw[d];have e2:Zd4 m info' sizes x y=Zd4 m info sizes x y:=by rw[a,Y8];exact Zca5 ho
    simp[Ze9,sumW,e2]
theorem run_cost{m:Zb}{n:Int}{qa:List Atom}{sizes:List Int}{steps:List Zc}{y:MO}{c:Int}(hv:Zx n qa=true)(hl:1<=steps.length/\steps.length<=14)(hs:Zcu n qa sizes=true)(h:runS m sizes qa steps [] 0=some ([y],c)):Zfa m n qa steps sizes=c:=by
 have g:=Zbot m sizes qa steps [] [] 0 (λs h=>by simp at h);simp only[Ybn,List.reverse_nil]at g;have hr:inR (steps.length:Int) 1 14=true:=by simp[inR];omega
 cases hg:Zcl qa steps 0 [] []with
 |none=>rw[hg]at g;simp only[vw,Yc0]at g;rw[g]at h;cases h
 |some p =>
  obtain⟨info',st'⟩:=p;rw[hg]at g;obtain⟨tail,a,b,d⟩:=g;simp only[vw,Yc0]at d;rw[d]at h;simp only[Yb0]at a;subst a
  cases h':st'.reverse with
  |nil=>rw[h']at h;simp at h
  |cons s rs =>
   rw[h']at h;simp only[Yo,Ybg,Ybl,Yc2,List.map_eq_nil_iff]at h;have hlen:st'.length=1:=by rw[<-List.length_reverse,h',h.1.2];rfl
   have hi:Zcm n qa steps=some info':=by simp[Zcm,hv,hr,hg,hlen]
   simp[Zfa,Zis,Zgf,hi,hs,h.2]
theorem w_eq(x:Int):w x=(x+9223372036854775808) % 18446744073709551616-9223372036854775808:=by
 simp only[w,IntKind.wrap,IntKind.signed,IntKind.bits,Yx];split
 .rename_i h;have h:=of_decide_eq_true h;omega
 .rename_i h;simp at h;omega
theorem w_w(x:Int):w (w x)=w x:=by rw[w_eq,w_eq];omega
theorem Zzh(m:Zb)(sizes:List Int)(qa:List Atom):∀(xs ys:List Zc) (S:List MO) (c:Int),runS m sizes qa (xs++ys) S c=match runS m sizes qa xs S c with
  |none=>none
  |some (S',c')=>runS m sizes qa ys S' c'
 |[],ys,S,c=>by simp[runS]
 |x::xs,ys,S,c=>by
  rw[Yc1,runS,runS]
  cases Zdb m sizes qa x S with
  |none=>rfl
  |some p=>simp only;exact Zzh m sizes qa xs ys p.1 _
theorem Zca6{m:Zb}{sizes:List Int}{qa:List Atom}{x:Zc}{S S' B:List MO}{c:Int}(h:Zdb m sizes qa x S=some (S',c)):Zdb m sizes qa x (S++B)=some (S'++B,c):=by
 unfold Zdb at h|-;by_cases k1:x.Kind=1
 .simp only[if_pos k1]at h|-;split at h
  .rename_i hc;rw[if_pos hc];cases h;rfl
  .cases h
 .simp only[if_neg k1]at h|-;by_cases ka:x.Atom≠0
  .simp[if_pos ka]at h
  .simp only[if_neg ka]at h|-;by_cases k2:x.Kind=2
   .simp only[if_pos k2]at h|-
    match S,h with
    |[],h=>cases h
    |y::S,h =>
     simp only[Yc1]at h|-;split at h
     .rename_i hc;rw[if_pos hc];cases h;rfl
     .cases h
   .simp only[if_neg k2]at h|-
    match S,h with
    |[],h=>cases h
    |[y],h=>cases h
    |z::y::S,h =>
     simp only[Yc1]at h|-;split at h
     .rename_i hc;rw[if_pos hc]
      cases ho:Zfq qa x y z with
      |none=>rw[ho]at h;cases h
      |some o=>rw[ho]at h;cases h;rfl
     .cases h
theorem Zbou{m:Zb}{sizes:List Int}{qa:List Atom}{B:List MO}:∀{xs:List Zc} {S S':List MO} {c c':Int},runS m sizes qa xs S c=some (S',c')->runS m sizes qa xs (S++B) c=some (S'++B,c')
 |[],S,S',c,c',h=>by simp[runS]at h|-;simp[h]
 |x::xs,S,S',c,c',h=>by
  rw[runS]at h|-
  cases hs:Zdb m sizes qa x S with
  |none=>rw[hs]at h;cases h
  |some p=>rw[hs]at h;rw[Zca6 hs];exact Zbou h
theorem Zbov{m:Zb}{sizes:List Int}{qa:List Atom}:∀{xs:List Zc} {S S':List MO} {a k:Int},runS m sizes qa xs S a=some (S',k)->∀c,w c=c->runS m sizes qa xs S c=some (S',w (c+(k-a)))
 |[],S,S',a,k,h,c,hc=>by
  simp[runS]at h|-;obtain⟨rfl,rfl⟩:=h;rw[show c+(a-a)=c by omega]
  exact⟨rfl,hc.symm⟩
 |x::xs,S,S',a,k,h,c,hc=>by
  rw[runS]at h|-
  cases hs:Zdb m sizes qa x S with
  |none=>rw[hs]at h;cases h
  |some p =>
   obtain⟨S1,e⟩:=p;rw[hs]at h;simp only at h|-;rw[Zbov h (w (c+e)) (w_w _)]
   have:w (w (c+e)+(k-w (a+e)))=w (c+(k-a)):=by simp only[w_eq];omega
   rw[this]
theorem Zbow{m:Zb}{sizes:List Int}{qa:List Atom}:∀{xs:List Zc} {S S':List MO} {a k:Int},runS m sizes qa xs S a=some (S',k)->w a=a->w k=k
 |[],S,S',a,k,h,ha=>by simp[runS]at h;rw[<-h.2];exact ha
 |x::xs,S,S',a,k,h,ha=>by
  rw[runS]at h
  cases hs:Zdb m sizes qa x S with
  |none=>rw[hs]at h;cases h
  |some p=>rw[hs]at h;exact Zbow h (w_w _)
def Zbv(m:Zb)(sizes:List Int)(qa:List Atom)(xs:List Zc)(cd cc c:Int):Prop:=runS m sizes qa xs [] 0=some ([(cd,cc)],c)
theorem Zbv.can{m:Zb}{sizes:List Int}{qa:List Atom}{xs:List Zc}{a o c:Int}(h:Zbv m sizes qa xs a o c):w c=c:=Zbow h rfl
theorem Zbv.on{m:Zb}{sizes:List Int}{qa:List Atom}{xs:List Zc}{a o c:Int}(h:Zbv m sizes qa xs a o c)(B:List MO)(d:Int)(hd:w d=d):runS m sizes qa xs B d=some ((a,o)::B,w (d+c)):=by
 have:=Zbou (B:=B) (Zbov h d hd);rw[show c-0=c by omega]at this;simpa using this
theorem Zbox{m:Zb}{sizes:List Int}{qa:List Atom}{xs ys:List Zc}{a o c b p d:Int}{x:Zc}{r:Int}(hx:Zbv m sizes qa xs a o c)(hy:Zbv m sizes qa ys b p d)(hk:3<=x.Kind)(cc:x.Atom=0)(hd:andI a b=0)(cd:shr qa a b=true)(ho:Zfq qa x (a,o) (b,p)=some r) :
  Zbv m sizes qa (xs++ys++[x]) (orI a b) r (w (w (c+d)+Zb0 (mOp m x.Kind) (szAt sizes a) (szAt sizes b) (szAt sizes (orI a b)))):=by
 unfold Zbv at *
 rw[Zzh,Zzh,hx];simp only;rw[Zbv.on hy _ _ (Zbv.can hx)];simp only;rw[runS];have hs:Zdb m sizes qa x [(b,p),(a,o)]=some ([(orI a b,r)],Zb0 (mOp m x.Kind) (szAt sizes a) (szAt sizes b) (szAt sizes (orI a b))):=by
  unfold Zdb;rw[if_neg (by omega),if_neg (by simp[cc]),if_neg (by omega)];simp[hd,cd,ho]
 rw[hs];rfl
theorem Zca7{m:Zb}{sizes:List Int}{qa:List Atom}{xs:List Zc}{a o c v:Int}(hx:Zbv m sizes qa xs a o c)(hv:vin qa a v=true)(ho:o≠v) :
  Zbv m sizes qa (sortS xs v) a v (w (c+Zb0 m.Sort_ (szAt sizes a) 0 (szAt sizes a))):=by
 unfold Zbv at *
 rw[sortS,Zzh,hx];simp only;rw[runS];have hs:Zdb m sizes qa ⟨2,0,v⟩ [(a,o)]=some ([(a,v)],Zb0 m.Sort_ (szAt sizes a) 0 (szAt sizes a)):=by
  unfold Zdb;simp[hv,ho,mOp]
 rw[hs];rfl
theorem Zca8{m:Zb}{sizes:List Int}{qa:List Atom}{i:Nat}(h:i<qa.length) :
  Zbv m sizes qa [⟨1,i,0⟩] (shlI 1 i) (qa[i].Vars.headD 0) (w (Zb0 m.Scan (szAt sizes (shlI 1 i)) 0 (szAt sizes (shlI 1 i)))):=by
 unfold Zbv;rw[runS];have hi:inR (i:Int) 0 (qa.length-1)=true:=by simp[inR];omega
 have hs:Zdb m sizes qa ⟨1,i,0⟩ []=some ([(shlI 1 i,qa[i].Vars.headD 0)],Zb0 m.Scan (szAt sizes (shlI 1 i)) 0 (szAt sizes (shlI 1 i))):=by
  unfold Zdb;simp[hi,mOp,Yc h]
 rw[hs];simp[runS]
theorem Zbv.cost{m:Zb}{sizes:List Int}{n:Int}{qa:List Atom}{xs:List Zc}{a o c:Int}(h:Zbv m sizes qa xs a o c)(hv:Zx n qa=true)(hl:1<=xs.length/\xs.length<=14)(hs:Zcu n qa sizes=true):Zfa m n qa xs sizes=c:=run_cost hv hl hs h
theorem hash_p{qa:List Atom}{y z:MO}:Zfq qa ⟨3,0,0⟩ y z=some (-1):=by simp[Zfq,Zc7]
theorem nest_p{qa:List Atom}{y z:MO}:Zfq qa ⟨5,0,0⟩ y z=some y.2:=by simp[Zfq,Zc7]
theorem Zboy{qa:List Atom}{y z:MO}{v:Int}(h1:vin qa y.1 v=true)(h2:vin qa z.1 v=true)(h3:y.2=v)(h4:z.2=v):Zfq qa ⟨4,0,v⟩ y z=some v:=by simp[Zfq,Zc7,h1,h2,h3,h4]
def Zdt(b e:Za):Za:=if e.Cost<b.Cost then e else b
theorem l_bestOf(a b c:Int)(l:List Za)(hl:l.length<=1000):∀i,i<=l.length->∀best,Znz a b c best l l.length i=some (.agg (((l.drop i).foldl Zdt best).c.map .t),[]):=by
 refine down _ ?_ ?_
 .intro best;refine Zbj7 ?_;rw[if_neg (by omega)];simp
 .intro i hi ih best;have h4:=Z6 (i:=i) (by omega);refine Zbj7 ?_;rw[if_pos (by omega),Yf hi,Y1];refine⟨by omega,l[i],by rw[Yg];exact Yc hi,?_⟩;rw[show w ((i:Int)+1)=((i+1:Nat):Int)from by rw[show w ((i:Int)+1)=(i:Int)+1 from h4];simp];by_cases e:l[i].Cost<best.Cost
  .rw[if_pos e,show Zdt best l[i]=l[i] by simp[Zdt,e]];exact ih _
  .rw[if_neg e,show Zdt best l[i]=best by simp[Zdt,e]];exact ih _
def Zbh(l:List Za):Za:=match l with|[]=>⟨0,0,0,⟨[]⟩⟩|e::l=>(e::l).foldl Zdt e
theorem Zzi(l:List Za)(h0:l≠[])(hl:l.length<=1000):Zk6 l=some (.agg ((Zbh l).c.map .t),[]):=by
 cases l with
 |nil=>exact absurd rfl h0
 |cons e l =>
  refine Zb4b ⟨e,rfl,?_⟩;have:=l_bestOf 0 0 0 (e::l) hl 0 (Ya _) e;simpa[Zbh]using this
def offE(e:Za)(cc a c:Int)(x:List Zc):Za:=if e.Mask=0 then⟨cc,a,c,⟨x⟩⟩else if c<e.Cost then⟨cc,a,c,⟨x⟩⟩else e
def sm(e:Za):Bool:=decide (e.Mask≠0)
theorem sm_off{e:Za}{c a cc:Int}{x:List Zc}(h:c≠0):sm (offE e c a cc x)=true:=by
 unfold offE sm;split
 .simp[h]
 .split
  .simp[h]
  .simp[*]
def offK(k:Int)(e:Za)(cc a c:Int)(x:List Zc):Za:=if a+1=k then offE e cc a c x else e
theorem Zboz(m:Zb)(hm:LeM m)(q:Ze)(hq:LeQ q)(sizes:List Int)(hs:Le sizes)(cc:Int)(h0:cc≠0)(a0 a1 a2 a3 a4:Za)(x:List Zc)(a:Int)(ha:-1<=a/\a<=3)(c:Int)(hc:Zfa m q.Zg q.Atoms x sizes=c):∃t,(t=.dead\/t=.arr 287 3 true (x.map Zc.c))/\
  Zc8 m q sizes cc a0 a1 a2 a3 a4 (sm a0) (sm a1) (sm a2) (sm a3) (sm a4) x a=some (.tup [],[boxO m q sizes cc (offK 0 a0 cc a c x) (offK 1 a1 cc a c x) (offK 2 a2 cc a c x) (offK 3 a3 cc a c x) (offK 4 a4 cc a c x) (sm (offK 0 a0 cc a c x)) (sm (offK 1 a1 cc a c x)) (sm (offK 2 a2 cc a c x)) (sm (offK 3 a3 cc a c x)) (sm (offK 4 a4 cc a c x)),t]):=by
 have hcost:=Z8g m hm q hq ⟨x⟩ sizes hs;rw[show Zfa m q.Zg q.Atoms (Plan.mk x).Steps sizes=c from hc]at hcost;have h5:a=-1\/a=0\/a=1\/a=2\/a=3:=by omega
 have key:∀e:Za,(sm e=true/\c<e.Cost/\offE e cc a c x=⟨cc,a,c,⟨x⟩⟩)\/(sm e=true/\¬c<e.Cost/\offE e cc a c x=e)\/(sm e=false/\offE e cc a c x=⟨cc,a,c,⟨x⟩⟩):=by
  intro e;by_cases e0:e.Mask=0
  .exact .inr (.inr ⟨by simp[sm,e0],by simp[offE,e0]⟩)
  .by_cases e1:c<e.Cost
   .exact .inl ⟨by simp[sm,e0],e1,by simp[offE,e0,e1]⟩
   .exact .inr (.inl ⟨by simp[sm,e0],e1,by simp[offE,e0,e1]⟩)
 have hsm:sm ⟨cc,a,c,⟨x⟩⟩=true:=by simp[sm,h0]
 have w0:w 0=0:=by decide
 have w1:w 1=1:=by decide
 have w2:w 2=2:=by decide
 have w3:w 3=3:=by decide
 have w4:w 4=4:=by decide
 rcases h5 with rfl|rfl|rfl|rfl|rfl
 .rcases key a0 with⟨k1,k2,k3⟩|⟨k1,k2,k3⟩|⟨k1,k3⟩
  .exact⟨_,.inl rfl,Zet ⟨c,hcost,by simp[offK,k1,k2,k3,hsm,w0,w1,w2,w3,w4]⟩⟩
  .exact⟨_,.inr rfl,Zet ⟨c,hcost,by simp[offK,k1,k2,k3,hsm,w0,w1,w2,w3,w4]⟩⟩
  .exact⟨_,.inl rfl,Zet ⟨c,hcost,by simp[offK,k1,k3,hsm,w0,w1,w2,w3,w4]⟩⟩
 .rcases key a1 with⟨k1,k2,k3⟩|⟨k1,k2,k3⟩|⟨k1,k3⟩
  .exact⟨_,.inl rfl,Zet ⟨c,hcost,by simp[offK,k1,k2,k3,hsm,w0,w1,w2,w3,w4]⟩⟩
  .exact⟨_,.inr rfl,Zet ⟨c,hcost,by simp[offK,k1,k2,k3,hsm,w0,w1,w2,w3,w4]⟩⟩
  .exact⟨_,.inl rfl,Zet ⟨c,hcost,by simp[offK,k1,k3,hsm,w0,w1,w2,w3,w4]⟩⟩
 .rcases key a2 with⟨k1,k2,k3⟩|⟨k1,k2,k3⟩|⟨k1,k3⟩
  .exact⟨_,.inl rfl,Zet ⟨c,hcost,by simp[offK,k1,k2,k3,hsm,w0,w1,w2,w3,w4]⟩⟩
  .exact⟨_,.inr rfl,Zet ⟨c,hcost,by simp[offK,k1,k2,k3,hsm,w0,w1,w2,w3,w4]⟩⟩
  .exact⟨_,.inl rfl,Zet ⟨c,hcost,by simp[offK,k1,k3,hsm,w0,w1,w2,w3,w4]⟩⟩
 .rcases key a3 with⟨k1,k2,k3⟩|⟨k1,k2,k3⟩|⟨k1,k3⟩
  .exact⟨_,.inl rfl,Zet ⟨c,hcost,by simp[offK,k1,k2,k3,hsm,w0,w1,w2,w3,w4]⟩⟩
  .exact⟨_,.inr rfl,Zet ⟨c,hcost,by simp[offK,k1,k2,k3,hsm,w0,w1,w2,w3,w4]⟩⟩
  .exact⟨_,.inl rfl,Zet ⟨c,hcost,by simp[offK,k1,k3,hsm,w0,w1,w2,w3,w4]⟩⟩
 .rcases key a4 with⟨k1,k2,k3⟩|⟨k1,k2,k3⟩|⟨k1,k3⟩
  .exact⟨_,.inl rfl,Zet ⟨c,hcost,by simp[offK,k1,k2,k3,hsm,w0,w1,w2,w3,w4]⟩⟩
  .exact⟨_,.inr rfl,Zet ⟨c,hcost,by simp[offK,k1,k2,k3,hsm,w0,w1,w2,w3,w4]⟩⟩
  .exact⟨_,.inl rfl,Zet ⟨c,hcost,by simp[offK,k1,k3,hsm,w0,w1,w2,w3,w4]⟩⟩
def sel(y:Bool)(e:Za):List Za:=if y=true then[e]else[]
section
variable(m:Zb)(q:Ze)(sizes:List Int)(mask:Int)(a0 a1 a2 a3 a4:Za)(s0 s1 s2 s3 s4:Bool)
theorem en5(fr:Bool)(out:List Za)(y0 y1 y2 y3 y4:Bool):∃fr',Zb5 m q sizes mask a0 a1 a2 a3 a4 s0 s1 s2 s3 s4 fr out y0 y1 y2 y3 y4 5=some (.own 1,[boxO m q sizes mask a0 a1 a2 a3 a4 s0 s1 s2 s3 s4,.arr 206 4 fr' (out.map Za.c)]) :=
 ⟨fr,Zgv (by rw[if_neg (by omega)])⟩
theorem en4(fr:Bool)(out:List Za)(hl:out.length<=4)(y0 y1 y2 y3 y4:Bool):∃fr',Zb5 m q sizes mask a0 a1 a2 a3 a4 s0 s1 s2 s3 s4 fr out y0 y1 y2 y3 y4 4=some (.own 1,[boxO m q sizes mask a0 a1 a2 a3 a4 s0 s1 s2 s3 s4,.arr 206 4 fr' ((out++sel y4 a4).map Za.c)]):=by
 have hw:w (4+1)=5:=by decide
 cases hy:y4 with
 |true =>
  obtain⟨fr',h⟩:=en5 m q sizes mask a0 a1 a2 a3 a4 s0 s1 s2 s3 s4 false (out++[a4]) y0 y1 y2 y3 true;refine⟨fr',Zgv ?_⟩;rw[if_pos (by omega),if_neg (by omega),if_neg (by omega),if_neg (by omega),if_neg (by omega),if_pos rfl,if_pos rfl,hw]
  exact⟨by omega,by simpa[sel]using h⟩
 |false =>
  obtain⟨fr',h⟩:=en5 m q sizes mask a0 a1 a2 a3 a4 s0 s1 s2 s3 s4 fr out y0 y1 y2 y3 false;refine⟨fr',Zgv ?_⟩;rw[if_pos (by omega),if_neg (by omega),if_neg (by omega),if_neg (by omega),if_neg (by omega),if_pos rfl,if_neg (by simp),hw];simpa[sel]using h
theorem en3(fr:Bool)(out:List Za)(hl:out.length<=3)(y0 y1 y2 y3 y4:Bool):∃fr',Zb5 m q sizes mask a0 a1 a2 a3 a4 s0 s1 s2 s3 s4 fr out y0 y1 y2 y3 y4 3=some (.own 1,[boxO m q sizes mask a0 a1 a2 a3 a4 s0 s1 s2 s3 s4,.arr 206 4 fr' ((out++sel y3 a3++sel y4 a4).map Za.c)]):=by
 have hw:w (3+1)=4:=by decide
 cases hy:y3 with
 |true =>
  obtain⟨fr',h⟩:=en4 m q sizes mask a0 a1 a2 a3 a4 s0 s1 s2 s3 s4 false (out++[a3]) (by simp only[Yp,Yw,Ybn];omega) y0 y1 y2 true y4;refine⟨fr',Zgv ?_⟩;rw[if_pos (by omega),if_neg (by omega),if_neg (by omega),if_neg (by omega),if_pos rfl,if_pos rfl,hw]
  exact⟨by omega,by simpa[sel]using h⟩
 |false =>
  obtain⟨fr',h⟩:=en4 m q sizes mask a0 a1 a2 a3 a4 s0 s1 s2 s3 s4 fr out (by omega) y0 y1 y2 false y4;refine⟨fr',Zgv ?_⟩;rw[if_pos (by omega),if_neg (by omega),if_neg (by omega),if_neg (by omega),if_pos rfl,if_neg (by simp),hw];simpa[sel]using h
theorem en2(fr:Bool)(out:List Za)(hl:out.length<=2)(y0 y1 y2 y3 y4:Bool):∃fr',Zb5 m q sizes mask a0 a1 a2 a3 a4 s0 s1 s2 s3 s4 fr out y0 y1 y2 y3 y4 2=some (.own 1,[boxO m q sizes mask a0 a1 a2 a3 a4 s0 s1 s2 s3 s4,.arr 206 4 fr' ((out++sel y2 a2++sel y3 a3++sel y4 a4).map Za.c)]):=by
 have hw:w (2+1)=3:=by decide
 cases hy:y2 with
 |true =>
  obtain⟨fr',h⟩:=en3 m q sizes mask a0 a1 a2 a3 a4 s0 s1 s2 s3 s4 false (out++[a2]) (by simp only[Yp,Yw,Ybn];omega) y0 y1 true y3 y4;refine⟨fr',Zgv ?_⟩;rw[if_pos (by omega),if_neg (by omega),if_neg (by omega),if_pos rfl,if_pos rfl,hw]
  exact⟨by omega,by simpa[sel]using h⟩
 |false =>
  obtain⟨fr',h⟩:=en3 m q sizes mask a0 a1 a2 a3 a4 s0 s1 s2 s3 s4 fr out (by omega) y0 y1 false y3 y4;refine⟨fr',Zgv ?_⟩;rw[if_pos (by omega),if_neg (by omega),if_neg (by omega),if_pos rfl,if_neg (by simp),hw];simpa[sel]using h
theorem en1(fr:Bool)(out:List Za)(hl:out.length<=1)(y0 y1 y2 y3 y4:Bool):∃fr',Zb5 m q sizes mask a0 a1 a2 a3 a4 s0 s1 s2 s3 s4 fr out y0 y1 y2 y3 y4 1=some (.own 1,[boxO m q sizes mask a0 a1 a2 a3 a4 s0 s1 s2 s3 s4,.arr 206 4 fr' ((out++sel y1 a1++sel y2 a2++sel y3 a3++sel y4 a4).map Za.c)]):=by
 have hw:w (1+1)=2:=by decide
 cases hy:y1 with
 |true =>
  obtain⟨fr',h⟩:=en2 m q sizes mask a0 a1 a2 a3 a4 s0 s1 s2 s3 s4 false (out++[a1]) (by simp only[Yp,Yw,Ybn];omega) y0 true y2 y3 y4;refine⟨fr',Zgv ?_⟩;rw[if_pos (by omega),if_neg (by omega),if_pos rfl,if_pos rfl,hw]
  exact⟨by omega,by simpa[sel]using h⟩
 |false =>
  obtain⟨fr',h⟩:=en2 m q sizes mask a0 a1 a2 a3 a4 s0 s1 s2 s3 s4 fr out (by omega) y0 false y2 y3 y4;refine⟨fr',Zgv ?_⟩;rw[if_pos (by omega),if_neg (by omega),if_pos rfl,if_neg (by simp),hw];simpa[sel]using h
theorem en0(fr:Bool)(out:List Za)(hl:out.length<=0)(y0 y1 y2 y3 y4:Bool):∃fr',Zb5 m q sizes mask a0 a1 a2 a3 a4 s0 s1 s2 s3 s4 fr out y0 y1 y2 y3 y4 0=some (.own 1,[boxO m q sizes mask a0 a1 a2 a3 a4 s0 s1 s2 s3 s4,.arr 206 4 fr' ((out++sel y0 a0++sel y1 a1++sel y2 a2++sel y3 a3++sel y4 a4).map Za.c)]):=by
 have hw:w (0+1)=1:=by decide
 cases hy:y0 with
 |true =>
  obtain⟨fr',h⟩:=en1 m q sizes mask a0 a1 a2 a3 a4 s0 s1 s2 s3 s4 false (out++[a0]) (by simp only[Yp,Yw,Ybn];omega) true y1 y2 y3 y4;refine⟨fr',Zgv ?_⟩;rw[if_pos (by omega),if_pos rfl,if_pos rfl,hw]
  exact⟨by omega,by simpa[sel]using h⟩
 |false =>
  obtain⟨fr',h⟩:=en1 m q sizes mask a0 a1 a2 a3 a4 s0 s1 s2 s3 s4 fr out (by omega) false y1 y2 y3 y4;refine⟨fr',Zgv ?_⟩;rw[if_pos (by omega),if_pos rfl,if_neg (by simp),hw];simpa[sel]using h
end
def there(a0 a1 a2 a3 a4:Za):List Za:=[a0,a1,a2,a3,a4].filter sm
theorem Zca9(m:Zb)(q:Ze)(sizes:List Int)(cc:Int)(a0 a1 a2 a3 a4:Za):∃fr,Zsb m q sizes cc a0 a1 a2 a3 a4 (sm a0) (sm a1) (sm a2) (sm a3) (sm a4)=some (.own 1,[boxO m q sizes cc a0 a1 a2 a3 a4 (sm a0) (sm a1) (sm a2) (sm a3) (sm a4),.arr 206 4 fr ((there a0 a1 a2 a3 a4).map Za.c)]):=by
 obtain⟨fr,h⟩:=en0 m q sizes cc a0 a1 a2 a3 a4 (sm a0) (sm a1) (sm a2) (sm a3) (sm a4) true [] (Yh _) (sm a0) (sm a1) (sm a2) (sm a3) (sm a4);refine⟨fr,Zb4e ?_⟩;have e:[]++sel (sm a0) a0++sel (sm a1) a1++sel (sm a2) a2++sel (sm a3) a3++sel (sm a4) a4=there a0 a1 a2 a3 a4:=by
  unfold there sel;simp only[Yb6,List.filter_nil];cases sm a0<;>cases sm a1<;>cases sm a2<;>cases sm a3<;>cases sm a4<;>rfl
 rw[e]at h;exact h
def ofM(l:List Za)(c:Int):List Za:=l.filter λe=>decide (e.Mask=c)
theorem Zcba(e:Za):Zbh [e]=e:=by simp[Zbh,Zdt]
theorem Zcbb{l:List Za}(h:l≠[])(e:Za):Zbh (l++[e])=Zdt (Zbh l) e:=by
 cases l with
 |nil=>exact absurd rfl h
 |cons a l=>simp[Zbh,List.foldl_append]
theorem Z8j{l:List Za}(h:l≠[]):Zbh l∈l:=by
 have:∀(l:List Za) (b:Za),l.foldl Zdt b=b\/l.foldl Zdt b∈l:=by
  intro l
  induction l with
  |nil=>intro b;exact .inl rfl
  |cons a l ih =>
   intro b;rw[Y1];rcases ih (Zdt b a)with h|h
   .rw[h];unfold Zdt;split
    .exact .inr (by simp)
    .exact .inl rfl
   .exact .inr (List.mem_cons_of_mem _ h)
 cases l with
 |nil=>exact absurd rfl h
 |cons a l =>
  rcases this (a::l) a with e|e
  .rw[show Zbh (a::l)=a from e];simp
  .exact e
theorem Zbo0(l:List Za)(c:Int){k:Nat}(h:k<l.length):ofM (l.take (k+1)) c=ofM (l.take k) c++(if l[k].Mask=c then[l[k]]else[]):=by
 unfold ofM;rw[Z1l _ h];by_cases e:l[k].Mask=c<;>simp[e]
theorem low_at(l:List Za)(c:Int):∀k,k<=l.length->(ofM (l.take k) c=[]->Zcw l c k=-1)/\(ofM (l.take k) c≠[]->0<=Zcw l c k/\l[(Zcw l c k).toNat]?=some (Zbh (ofM (l.take k) c)))
 |0,_=>by simp[Zcw,ofM]
 |k+1,h=>by
  obtain⟨i1,i2⟩:=low_at l c k (by omega);have hk:k<l.length:=by omega
  rw[Zbo0 l c hk];unfold Zcw;rw[Yc hk];by_cases e:l[k].Mask=c
  .simp only[if_pos e];refine⟨λh=>by simp at h,λ_=>?_⟩;by_cases e0:ofM (l.take k) c=[]
   .have i:=i1 e0;rw[e0,Yb0,Zcba]
    cases hc:l[(Zcw l c k).toNat]? with
    |none=>exact⟨by simp,by simp[Yc hk]⟩
    |some b =>
     simp only;rw[if_pos (by omega)];exact⟨by omega,by simp[Yc hk]⟩
   .obtain⟨j1,j2⟩:=i2 e0;rw[j2,Zcbb e0];simp only;rw[if_neg (by omega)];unfold Zdt;split
    .exact⟨by omega,by simp[Yc hk]⟩
    .exact⟨j1,j2⟩
  .simp only[if_neg e,Ybm];exact⟨i1,i2⟩
theorem Zzj{l:List Za}{c:Int}(h:ofM l c≠[]):0<=low l c/\l[(low l c).toNat]?=some (Zbh (ofM l c)):=by
 have:=(low_at l c l.length (Yh _)).2;rw[Y2]at this;exact this h
def ofO(l:List Za)(o:Int):Option Za:=l.find? λe=>decide (e.Order=o)
theorem Zbo1(l:List Za)(c o:Int):∀(xs:List Za) (k:Nat),l.drop k=xs->match ofO (ofM xs c) o with
  |none=>Zhq c o xs k=-1
  |some e=>0<=Zhq c o xs k/\l[(Zhq c o xs k).toNat]?=some e
 |[],k,h=>by simp[ofM,ofO,Zhq]
 |x::xs,k,h=>by
  have hk:l[k]?=some x:=by
   have:=congrArg (·[0]?) h;simpa using this
  have hd:l.drop (k+1)=xs:=by
   have:=congrArg (List.drop 1) h;simpa[Nat.add_comm]using this
  have ih:=Zbo1 l c o xs (k+1) hd;unfold Zhq;by_cases e:x.Mask=c
  .have e1:ofM (x::xs) c=x::ofM xs c:=by simp[ofM,e]
   rw[e1];by_cases e2:x.Order=o
   .have:ofO (x::ofM xs c) o=some x:=by simp[ofO,e2]
    rw[this,if_pos ⟨e,e2⟩];exact⟨by omega,by simpa using hk⟩
   .have:ofO (x::ofM xs c) o=ofO (ofM xs c) o:=by simp[ofO,e2]
    rw[this,if_neg (λh=>e2 h.2)];exact ih
  .have e1:ofM (x::xs) c=ofM xs c:=by simp[ofM,e]
   rw[e1,if_neg (λh=>e h.1)];exact ih
theorem Zbo2(l:List Za)(c o:Int):match ofO (ofM l c) o with
  |none=>find l c o=-1
  |some e=>0<=find l c o/\l[(find l c o).toNat]?=some e:=Zbo1 l c o l 0 rfl
theorem mul_b{a l:Int}{A L:Nat}(h1:-(A:Int)<=a)(h2:a<=A)(h3:0<=l)(h4:l<=L):-((A:Int)*L)<=a*l/\a*l<=(A:Int)*L:=by
 have e1:a*l<=(A:Int)*l:=Int.mul_le_mul_of_nonneg_right h2 h3;have e2:-(A:Int)*l<=a*l:=Int.mul_le_mul_of_nonneg_right h1 h3;have e3:(A:Int)*l<=(A:Int)*L:=Int.mul_le_mul_of_nonneg_left h4 (by omega);rw[Int.neg_mul]at e2;omega
theorem Zus{a:Int}(h:Zeb a=true):-99<=a/\a<=99:=by simp[Zeb,inR]at h;omega
theorem w_id{x:Int}(h1:-9223372036854775808<=x)(h2:x<=9223372036854775807):w x=x:=Z2 h1 h2
theorem base_b{o:Zq}{l r n:Int}(hv:Zcb o=true)(hl:0<=l/\l<=4096)(hr:0<=r/\r<=4096)(hn:0<=n/\n<=4096):-1700000000<=Zil o l r n/\Zil o l r n<=1700000000:=by
 simp only[Zcb,Ye]at hv;obtain⟨⟨⟨⟨⟨⟨v1,v2⟩,v3⟩,v4⟩,v5⟩,v6⟩,v7⟩:=hv;have b1:=Zus v1;have b2:=Zus v2;have b3:=Zus v3;have b4:=Zus v4;have b5:=Zus v5;have m2:=mul_b (A:=99) (L:=4096) b2.1 b2.2 hl.1 hl.2;have m3:=mul_b (A:=99) (L:=4096) b3.1 b3.2 hr.1 hr.2;have m4:=mul_b (A:=99) (L:=4096) b4.1 b4.2 hn.1 hn.2;have m5:=mul_b (A:=99) (L:=4096) b5.1 b5.2 hl.1 hl.2;have m6:=mul_b (A:=405504) (L:=4096) (a:=o.Zt*l) (l:=r) (by simpa using m5.1) (by simpa using m5.2) hr.1 hr.2;simp at m2 m3 m4 m5 m6;unfold Zil;rw[w_id (x:=o.Zr*l) (by omega) (by omega),w_id (x:=o.Zs*r) (by omega) (by omega),w_id (x:=o.Zu*n) (by omega) (by omega),w_id (x:=o.Zt*l) (by omega) (by omega),w_id (x:=o.Zt*l*r) (by omega) (by omega)];rw[w_id (x:=o.Fixed+o.Zr*l) (by omega) (by omega),w_id (x:=o.Fixed+o.Zr*l+o.Zs*r) (by omega) (by omega),w_id (x:=o.Fixed+o.Zr*l+o.Zs*r+o.Zu*n) (by omega) (by omega),w_id (by omega) (by omega)];omega
theorem Zbo3{l r:Int}:∀{st:List Zf} {p n B:Int},Zf7 p st=true->B+99*st.length<=1000000000000->-B<=n/\n<=B->-(B+99*st.length)<=st.foldl (Zf8 l r) n/\st.foldl (Zf8 l r) n<=B+99*st.length
 |[],p,n,B,_,_,h=>by simp;omega
 |s::st,p,n,B,hs,hB,h=>by
  simp only[Zf7,Ye]at hs;have ha:=hs.1.1.2;simp[inR]at ha;simp only[Yw]at hB|-;have e:-(B+99)<=Zf8 l r n s/\Zf8 l r n s<=B+99:=by
   unfold Zf8;split
   .rw[w_id (by omega) (by omega)];omega
   .omega
  have g:=Zbo3 (l:=l) (r:=r) hs.2 (by omega) e;rw[Y1];omega
theorem Zp0(o:Zq)(l r n:Int):-2000000000<=Zb0 o l r n/\Zb0 o l r n<=2000000000:=by
 unfold Zb0;split
 .rename_i h;simp only[Ye]at h;obtain⟨⟨⟨hv,hl⟩,hr⟩,hn⟩:=h;simp[inR]at hl hr hn;have b:=base_b hv hl hr hn;simp only[Zcb,Ye,decide_eq_true_eq]at hv;have:=Zbo3 (l:=l) (r:=r) (B:=1700000000) hv.2 (by have:=hv.1.2;omega) b;have:=hv.1.2;unfold Zpn;omega
 .omega
theorem cost_pos{o:Zq}(h:Zcc o){a b c:Int}(ha:0<=a/\a<=7)(hb:0<=b/\b<=7)(hc:0<=c/\c<=7):1<=Zb0 o (Zcs a) (Zcs b) (Zcs c):=by
 have h3:¬tcl o [a,b,c]<1:=λhh=>h.2.2 ⟨[a,b,c],⟨a,b,c,rfl,ha,hb,hc⟩,hh⟩
 simp[Zb0,h.1,Zpo ha.1 ha.2,Zpo hb.1 hb.2,Zpo hc.1 hc.2];simp[tcl]at h3;omega
def Zfc(sizes:List Int):Prop:=∀s∈sizes,∃a,(0<=a/\a<=7)/\s=Zcs a
theorem Zbo4{sizes:List Int}(h:Zfc sizes)(k:Int):∃a,(0<=a/\a<=7)/\szAt sizes k=Zcs a:=by
 unfold szAt
 cases e:sizes[k.toNat]? with
 |none=>exact⟨0,by omega,by decide⟩
 |some s=>exact h s (Y4 e)
theorem Zbo5{o:Zq}(h:Zcc o){sizes:List Int}(hs:Zfc sizes)(a b:Int):1<=Zb0 o (szAt sizes a) 0 (szAt sizes b):=by
 obtain⟨x,hx,ex⟩:=Zbo4 hs a;obtain⟨y,hy,ey⟩:=Zbo4 hs b;rw[ex,ey,show(0:Int)=Zcs 0 by decide];exact cost_pos h hx (by omega) hy
theorem Zcbc{l:List Int}(h:Zb8 l=true):Zfc (Zc0 l):=by
 intro s hs;simp only[Zc0,Ys]at hs;obtain⟨a,ha,rfl⟩:=hs;refine⟨a,?_,rfl⟩;simp only[Zb8,Ye,Zi7,Yr]at h;have:=h.1 a ha;simp[inR]at this;omega
theorem runS_b{m:Zb}{sizes:List Int}{qa:List Atom}:∀{xs:List Zc} {S S':List MO} {c k B:Int},runS m sizes qa xs S c=some (S',k)->-B<=c/\c<=B->B+2000000000*xs.length<=1000000000000->-(B+2000000000*xs.length)<=k/\k<=B+2000000000*xs.length
 |[],S,S',c,k,B,h,hc,hB=>by simp[runS]at h;simp;omega
 |x::xs,S,S',c,k,B,h,hc,hB=>by
  rw[runS]at h;simp only[Yw]at hB|-
  cases hs:Zdb m sizes qa x S with
  |none=>rw[hs]at h;cases h
  |some p =>
   obtain⟨S1,e⟩:=p;rw[hs]at h;have he:-2000000000<=e/\e<=2000000000:=by
    unfold Zdb at hs;split at hs
    .split at hs
     .cases hs;exact Zp0 _ _ _ _
     .cases hs
    .split at hs
     .cases hs
     .split at hs
      .split at hs
       .split at hs
        .cases hs;exact Zp0 _ _ _ _
        .cases hs
       .cases hs
      .split at hs
       .split at hs
        .rw[Yl]at hs;obtain⟨o,_,ho⟩:=hs;cases ho;exact Zp0 _ _ _ _
        .cases hs
       .cases hs
   have:=runS_b (B:=B+2000000000) h (by rw[w_id (by omega) (by omega)];omega) (by omega);omega
theorem Zbv.bound{m:Zb}{sizes:List Int}{qa:List Atom}{xs:List Zc}{a o c:Int}(h:Zbv m sizes qa xs a o c)(hl:xs.length<=100):-200000000000<=c/\c<=200000000000:=by
 have:=runS_b (B:=0) h (by omega) (by omega);omega
structure Held (m:Zb) (sizes:List Int) (qa:List Atom) (M:Int) (E:List Za):Prop where
 ne:E≠[]
 up:E.Pairwise λa b=>a.Order<b.Order
 mask:∀e∈E,e.Mask=M
 ord:∀e∈E,-1<=e.Order/\e.Order<=3
 makes:∀e∈E,Zbv m sizes qa e.Plan.Steps M e.Order e.Cost
 len:∀e∈E,1<=e.Plan.Steps.length/\e.Plan.Steps.length+3<=4*popc M
theorem up_len:∀{E:List Za} {lo:Int},E.Pairwise (λa b=>a.Order<b.Order)->(∀e∈E,lo<=e.Order/\e.Order<=3)->lo<=4->(E.length:Int)<=4-lo
 |[],lo,_,_,h=>by simp;omega
 |e::E,lo,hp,ho,h=>by
  rw[Ybw]at hp;have he:=ho e (by simp);have:=up_len (lo:=e.Order+1) hp.2 (λx hx=>⟨by have:=hp.1 x hx;omega,(ho x (by simp[hx])).2⟩) (by omega);simp only[Yw];omega
theorem Held.le{m:Zb}{sizes:List Int}{qa:List Atom}{M:Int}{E:List Za}(h:Held m sizes qa M E):E.length<=5:=by
 have:=up_len (lo:=-1) h.up h.ord (by omega);omega
theorem Zzk:∀{E:List Za} {e:Za},E.Pairwise (λa b=>a.Order<b.Order)->e∈E->ofO E e.Order=some e
 |a::E,e,hp,he=>by
  rw[Ybw]at hp;rcases Yz.1 he with rfl|he
  .simp[ofO]
  .have:¬a.Order=e.Order:=by have:=hp.1 e he;omega
   have ih:=Zzk hp.2 he;unfold ofO at ih|-;rw[List.find?_cons];simp[this,ih]
theorem Zbo6{c v:Int}:∀{E:List Za},E.Pairwise (λa b=>a.Order<b.Order)->E.find? (λe=>decide (e.Order=v) && decide (e.Cost<=c))=match ofO E v with
  |some e=>if e.Cost<=c then some e else none
  |none=>none
 |[],_=>by simp[ofO]
 |a::E,hp=>by
  rw[Ybw]at hp;have ih:=Zbo6 (c:=c) (v:=v) hp.2;unfold ofO at ih|-;rw[List.find?_cons,List.find?_cons];by_cases e:a.Order=v
  .by_cases e2:a.Cost<=c
   .simp[e,e2]
   .have hn:E.find? (λe=>decide (e.Order=v) && decide (e.Cost<=c))=none:=by
     rw[List.find?_eq_none];intro x hx;have:=hp.1 x hx;simp;omega
    simp[e,e2];intro x hx hxv;have:=hp.1 x hx;omega
  .simp only[e,decide_false,Ydi];exact ih
def srt(m:Zb)(sizes:List Int)(M:Int)(E:List Za)(v:Int):Za:=⟨M,v,w ((Zbh E).Cost+Zb0 m.Sort_ (szAt sizes M) 0 (szAt sizes M)),⟨sortS (Zbh E).Plan.Steps v⟩⟩
def inp(m:Zb)(sizes:List Int)(M:Int)(E:List Za)(v:Int):Za:=match ofO E v with
 |some e=>if e.Cost<=(srt m sizes M E v).Cost then e else srt m sizes M E v
 |none=>srt m sizes M E v
def resI(x:List Zc):Option Za->AV×List Blk
 |some e=>(.agg (e.Plan.c.map .t),[])
 |none=>(.agg [.own 0],[.arr 287 3 true (x.map Zc.c)])
theorem Zcbd(m:Zb)(hm:LeM m)(q:Ze)(hq:LeQ q)(sizes:List Int)(hs:Le sizes)(x:List Zc)(c:Int)(hc:Zfa m q.Zg q.Atoms x sizes=c)(v:Int)(E:List Za)(hl:E.length<=5):∀i,i<=E.length->Zn0 m q x sizes v E E.length i=some (resI x ((E.drop i).find? (λe=>decide (e.Order=v) && decide (e.Cost<=c)))):=by
 have hcost:=Z8g m hm q hq ⟨x⟩ sizes hs;rw[show Zfa m q.Zg q.Atoms (Plan.mk x).Steps sizes=c from hc]at hcost;refine down _ ?_ ?_
 .simp only[Yk,List.find?_nil];refine Zyn ?_;rw[if_neg (by omega)];rfl
 .intro i hi ih;have h4:=Z6 (i:=i) (by omega);rw[Yf hi,List.find?_cons];have hw:w ((i:Int)+1)=((i+1:Nat):Int):=by rw[show w ((i:Int)+1)=(i:Int)+1 from h4];simp
  by_cases e:E[i].Order=v
  .by_cases e2:E[i].Cost<=c
   .simp only[e,e2,decide_true,Bool.and_self];refine Zyn ?_;rw[if_pos (by omega)];refine⟨by omega,E[i],by rw[Yg];exact Yc hi,?_⟩;rw[if_pos e];exact⟨c,hcost,by rw[if_pos e2];rfl⟩
   .simp only[e,e2,decide_true,decide_false,Bool.and_false];refine Zyn ?_;rw[if_pos (by omega)];refine⟨by omega,E[i],by rw[Yg];exact Yc hi,?_⟩;rw[if_pos e];exact⟨c,hcost,by rw[if_neg e2,hw];exact ih⟩
  .simp only[e,decide_false,Ydi];refine Zyn ?_;rw[if_pos (by omega)];refine⟨by omega,E[i],by rw[Yg];exact Yc hi,?_⟩;rw[if_neg e,hw];exact ih
theorem Held.best{m:Zb}{sizes:List Int}{qa:List Atom}{M:Int}{E:List Za}(h:Held m sizes qa M E):Zbh E∈E:=Z8j h.ne
theorem Zeu{M:Int}(h:M16 M):popc M<=4:=by
 obtain⟨a,rfl⟩:=m16 h;exact(f_pop a).2.2.2
theorem Held.srt_makes{m:Zb}{sizes:List Int}{qa:List Atom}{M:Int}{E:List Za}(h:Held m sizes qa M E){v:Int}(hv:vin qa M v=true)(hb:(Zbh E).Order≠v):Zbv m sizes qa (srt m sizes M E v).Plan.Steps M v (srt m sizes M E v).Cost:=Zca7 (h.makes _ h.best) hv hb
theorem Z8k(m:Zb)(hm:LeM m)(hg:Zcc m.Sort_)(q:Ze)(hq:LeQ q)(hv:Zx q.Zg q.Atoms=true)(sizes:List Int)(hs:Le sizes)(cc:Zfc sizes)(cd:Zcu q.Zg q.Atoms sizes=true){M:Int}(hM:M16 M){E:List Za}(h:Held m sizes q.Atoms M E){v:Int}(cl:vin q.Atoms M v=true) :
  Zf1 m q sizes E v=some (.agg ((inp m sizes M E v).Plan.c.map .t),[])\/Zf1 m q sizes E v=some (.agg [.own 0],[.arr 287 3 true ((inp m sizes M E v).Plan.Steps.map Zc.c)]):=by
 have h4:=Zeu hM;have hlen:=h.len _ h.best;by_cases e:(Zbh E).Order=v
 .left;have ho:=Zzk h.up h.best;rw[e]at ho;have hb:=(h.makes _ h.best).bound (by omega);have hp:=Zbo5 hg cc M M;have hu:=Zp0 m.Sort_ (szAt sizes M) 0 (szAt sizes M)
  have:inp m sizes M E v=Zbh E:=by
   unfold inp;rw[ho];simp only;rw[if_pos];unfold srt;simp only;rw[w_id (by omega) (by omega)];omega
  rw[this];exact Zbj8 ⟨_,Zzi E h.ne (by have:=h.le;omega),by rw[if_pos e]⟩
 .have hc:=Zbv.cost (h.srt_makes cl e) hv (by simp only[srt,sortS,Yp,Yw,Ybn];omega) cd;have hloop:=Zcbd m hm q hq sizes hs _ _ hc v E h.le 0 (Ya _);rw[Yj,Zbo6 h.up]at hloop
  have hx:Zf1 m q sizes E v=some (resI (srt m sizes M E v).Plan.Steps (match ofO E v with
   |some e=>if e.Cost<=(srt m sizes M E v).Cost then some e else none
   |none=>none)):=Zbj8 ⟨_,Zzi E h.ne (by have:=h.le;omega),by
    rw[if_neg e]
    exact⟨_,Zca3 _ _ (by omega),hloop⟩⟩
  rw[hx];unfold inp
  cases ofO E v with
  |none=>exact .inr rfl
  |some y =>
   simp only;split
   .exact .inl rfl
   .exact .inr rfl
theorem Z8l(m:Zb)(hm:LeM m)(sizes:List Int)(fr:Bool)(l:List Za)(hl:l.length<=1000){M:Int}(h0:0<=M)(hM:sizes[M.toNat]?=some (szAt sizes M))(cd:ofM l M≠[])(cc:(Zbh (ofM l M)).Plan.Steps.length<=1000)(v:Int) :
  Zgu sizes fr l m M v=some (.agg ((inp m sizes M (ofM l M) v).c.map .t),[.arr 3 1 true (sizes.map ic),.arr 206 4 fr (l.map Za.c)])\/
  Zgu sizes fr l m M v=some (.agg [I (inp m sizes M (ofM l M) v).Mask,I (inp m sizes M (ofM l M) v).Order,I (inp m sizes M (ofM l M) v).Cost,.own 2],[.arr 3 1 true (sizes.map ic),.arr 206 4 fr (l.map Za.c),.arr 287 3 true ((inp m sizes M (ofM l M) v).Plan.Steps.map Zc.c)]):=by
 obtain⟨k1,k2⟩:=Zzj cd;have hf:=Zbo2 l M v;unfold inp
 cases ho:ofO (ofM l M) v with
 |none =>
  rw[ho]at hf;simp only at hf;refine .inr (Z7z ⟨_,x_low l M hl,k1,_,k2,h0,_,hM,_,Zgy _ hm.2.1 _ _ _,_,Zzg l M v hl,?_⟩);rw[hf,if_neg (by omega)]
  exact⟨_,Zbor _ _ cc,rfl⟩
 |some e =>
  rw[ho]at hf;simp only at hf;simp only;by_cases hc:e.Cost<=(srt m sizes M (ofM l M) v).Cost
  .rw[if_pos hc];refine .inl (Z7z ⟨_,x_low l M hl,k1,_,k2,h0,_,hM,_,Zgy _ hm.2.1 _ _ _,_,Zzg l M v hl,?_⟩);rw[if_pos hf.1];exact⟨_,hf.2,by rw[if_pos (show e.Cost<=w ((Zbh (ofM l M)).Cost+Zb0 m.Sort_ (szAt sizes M) 0 (szAt sizes M))from hc)]⟩
  .rw[if_neg hc];refine .inr (Z7z ⟨_,x_low l M hl,k1,_,k2,h0,_,hM,_,Zgy _ hm.2.1 _ _ _,_,Zzg l M v hl,?_⟩);rw[if_pos hf.1];exact⟨_,hf.2,by rw[if_neg (show ¬e.Cost<=w ((Zbh (ofM l M)).Cost+Zb0 m.Sort_ (szAt sizes M) 0 (szAt sizes M))from hc)];exact⟨_,Zbor _ _ cc,rfl⟩⟩
def jc(m:Zb)(sizes:List Int)(a b:Za)(k:Int):Int:=w (w (a.Cost+b.Cost)+Zb0 (mOp m k) (szAt sizes a.Mask) (szAt sizes b.Mask) (szAt sizes (orI a.Mask b.Mask)))
theorem Zut{l:List Za}{i:Nat}{e:Za}(h:l[i]?=some e):l.set i e=l:=by
 obtain⟨h1,rfl⟩:=Y0.1 h;exact List.set_getElem_self h1
theorem Z8m(m:Zb)(hm:LeM m)(sizes:List Int)(cc:List Za)(a b:Za)(k v o:Int)(ho:-1<=o/\o<=3){e:Za}(he:cc[(o+1).toNat]?=some e)(ha:0<=a.Mask/\sizes[a.Mask.toNat]?=some (szAt sizes a.Mask))(hb:0<=b.Mask/\sizes[b.Mask.toNat]?=some (szAt sizes b.Mask))(cd:0<=orI a.Mask b.Mask/\sizes[(orI a.Mask b.Mask).toNat]?=some (szAt sizes (orI a.Mask b.Mask)))(la:a.Plan.Steps.length<=1000)(lb:b.Plan.Steps.length<=1000) :
  Zls sizes cc m a b k v o=some (.tup [],[.arr 3 1 true (sizes.map ic),.arr 206 4 true ((cc.set (o+1).toNat (offE e (orI a.Mask b.Mask) o (jc m sizes a b k) (Zcv a.Plan.Steps b.Plan.Steps k v))).map Za.c)]):=by
 have hw:w (o+1)=o+1:=w_id (by omega) (by omega);refine Zb60 ⟨mOp m k,Zpt m k,ha.1,_,ha.2,hb.1,_,hb.2,cd.1,_,cd.2,_,Zgy _ (hm.op k) _ _ _,by omega,e,by rw[hw];exact he,?_⟩;rw[hw];by_cases e0:e.Mask=0
 .rw[if_pos e0];refine⟨_,Zj5 a.Plan b.Plan _ _ la lb,?_⟩;simp[offE,e0,jc]
 .rw[if_neg e0];by_cases e1:jc m sizes a b k<e.Cost
  .have e2:=e1;unfold jc at e2;rw[if_pos e2];refine⟨_,Zj5 a.Plan b.Plan _ _ la lb,?_⟩;unfold offE;rw[if_neg e0,if_pos e1];rfl
  .have e2:=e1;unfold jc at e2;rw[if_neg e2];unfold offE;rw[if_neg e0,if_neg e1,Zut he]
theorem Zcbe(m:Zb)(hm:LeM m)(sizes:List Int)(cc:List Za)(a b:Za)(k v o:Int)(ho:-1<=o/\o<=3){e:Za}(he:cc[(o+1).toNat]?=some e)(ha:0<=a.Mask/\sizes[a.Mask.toNat]?=some (szAt sizes a.Mask))(hb:0<=b.Mask/\sizes[b.Mask.toNat]?=some (szAt sizes b.Mask))(cd:0<=orI a.Mask b.Mask/\sizes[(orI a.Mask b.Mask).toNat]?=some (szAt sizes (orI a.Mask b.Mask)))(la:a.Plan.Steps.length<=1000)(lb:b.Plan.Steps.length<=1000) :
  Ztz sizes cc b.Plan.Steps m a b.Mask b.Order b.Cost k v o=some (.tup [],[.arr 3 1 true (sizes.map ic),.arr 206 4 true ((cc.set (o+1).toNat (offE e (orI a.Mask b.Mask) o (jc m sizes a b k) (Zcv a.Plan.Steps b.Plan.Steps k v))).map Za.c),.arr 287 3 true (b.Plan.Steps.map Zc.c)]):=by
 have hw:w (o+1)=o+1:=w_id (by omega) (by omega);refine Zb63 ⟨mOp m k,Zpt m k,ha.1,_,ha.2,hb.1,_,hb.2,cd.1,_,cd.2,_,Zgy _ (hm.op k) _ _ _,by omega,e,by rw[hw];exact he,?_⟩;rw[hw];by_cases e0:e.Mask=0
 .rw[if_pos e0];refine⟨_,Zj5 a.Plan ⟨b.Plan.Steps⟩ _ _ la lb,?_⟩;simp[offE,e0,jc]
 .rw[if_neg e0];by_cases e1:jc m sizes a b k<e.Cost
  .have e2:=e1;unfold jc at e2;rw[if_pos e2];refine⟨_,Zj5 a.Plan ⟨b.Plan.Steps⟩ _ _ la lb,?_⟩;unfold offE;rw[if_neg e0,if_pos e1];rfl
  .have e2:=e1;unfold jc at e2;rw[if_neg e2];unfold offE;rw[if_neg e0,if_neg e1,Zut he]
theorem Zcbf(m:Zb)(hm:LeM m)(sizes:List Int)(cc:List Za)(a b:Za)(k v o:Int)(ho:-1<=o/\o<=3){e:Za}(he:cc[(o+1).toNat]?=some e)(ha:0<=a.Mask/\sizes[a.Mask.toNat]?=some (szAt sizes a.Mask))(hb:0<=b.Mask/\sizes[b.Mask.toNat]?=some (szAt sizes b.Mask))(cd:0<=orI a.Mask b.Mask/\sizes[(orI a.Mask b.Mask).toNat]?=some (szAt sizes (orI a.Mask b.Mask)))(la:a.Plan.Steps.length<=1000)(lb:b.Plan.Steps.length<=1000) :
  Zt0 sizes cc a.Plan.Steps m a.Mask a.Order a.Cost b k v o=some (.tup [],[.arr 3 1 true (sizes.map ic),.arr 206 4 true ((cc.set (o+1).toNat (offE e (orI a.Mask b.Mask) o (jc m sizes a b k) (Zcv a.Plan.Steps b.Plan.Steps k v))).map Za.c),.arr 287 3 true (a.Plan.Steps.map Zc.c)]):=by
 have hw:w (o+1)=o+1:=w_id (by omega) (by omega);refine Zb64 ⟨mOp m k,Zpt m k,ha.1,_,ha.2,hb.1,_,hb.2,cd.1,_,cd.2,_,Zgy _ (hm.op k) _ _ _,by omega,e,by rw[hw];exact he,?_⟩;rw[hw];by_cases e0:e.Mask=0
 .rw[if_pos e0];refine⟨_,Zj5 ⟨a.Plan.Steps⟩ b.Plan _ _ la lb,?_⟩;simp[offE,e0,jc]
 .rw[if_neg e0];by_cases e1:jc m sizes a b k<e.Cost
  .have e2:=e1;unfold jc at e2;rw[if_pos e2];refine⟨_,Zj5 ⟨a.Plan.Steps⟩ b.Plan _ _ la lb,?_⟩;unfold offE;rw[if_neg e0,if_pos e1];rfl
  .have e2:=e1;unfold jc at e2;rw[if_neg e2];unfold offE;rw[if_neg e0,if_neg e1,Zut he]
theorem Zcbg(m:Zb)(hm:LeM m)(sizes:List Int)(cc:List Za)(a b:Za)(k v o:Int)(ho:-1<=o/\o<=3){e:Za}(he:cc[(o+1).toNat]?=some e)(ha:0<=a.Mask/\sizes[a.Mask.toNat]?=some (szAt sizes a.Mask))(hb:0<=b.Mask/\sizes[b.Mask.toNat]?=some (szAt sizes b.Mask))(cd:0<=orI a.Mask b.Mask/\sizes[(orI a.Mask b.Mask).toNat]?=some (szAt sizes (orI a.Mask b.Mask)))(la:a.Plan.Steps.length<=1000)(lb:b.Plan.Steps.length<=1000) :
  Zt1 sizes cc a.Plan.Steps b.Plan.Steps m a.Mask a.Order a.Cost b.Mask b.Order b.Cost k v o=some (.tup [],[.arr 3 1 true (sizes.map ic),.arr 206 4 true ((cc.set (o+1).toNat (offE e (orI a.Mask b.Mask) o (jc m sizes a b k) (Zcv a.Plan.Steps b.Plan.Steps k v))).map Za.c),.arr 287 3 true (a.Plan.Steps.map Zc.c),.arr 287 3 true (b.Plan.Steps.map Zc.c)]):=by
 have hw:w (o+1)=o+1:=w_id (by omega) (by omega);refine Zb65 ⟨mOp m k,Zpt m k,ha.1,_,ha.2,hb.1,_,hb.2,cd.1,_,cd.2,_,Zgy _ (hm.op k) _ _ _,by omega,e,by rw[hw];exact he,?_⟩;rw[hw];by_cases e0:e.Mask=0
 .rw[if_pos e0];refine⟨_,Zj5 ⟨a.Plan.Steps⟩ ⟨b.Plan.Steps⟩ _ _ la lb,?_⟩;simp[offE,e0,jc]
 .rw[if_neg e0];by_cases e1:jc m sizes a b k<e.Cost
  .have e2:=e1;unfold jc at e2;rw[if_pos e2];refine⟨_,Zj5 ⟨a.Plan.Steps⟩ ⟨b.Plan.Steps⟩ _ _ la lb,?_⟩;unfold offE;rw[if_neg e0,if_pos e1];rfl
  .have e2:=e1;unfold jc at e2;rw[if_neg e2];unfold offE;rw[if_neg e0,if_neg e1,Zut he]
def Zg5{α:Type}(f:α->Za->α)(E:List Za):Nat->Int->α->α
 |0,_,x=>x
 |n+1,o,x=>Zg5 f E n (o+1) (match ofO E o with|some e=>f x e|none=>x)
theorem Zbo7{α:Type}(f:α->Za->α){E F:List Za}:∀(n:Nat) (o:Int) (x:α),(∀p,o<=p->ofO E p=ofO F p)->Zg5 f E n o x=Zg5 f F n o x
 |0,_,_,_=>rfl
 |n+1,o,x,h=>by
  rw[Zg5,Zg5,h o (Int.le_refl o)];exact Zbo7 f n (o+1) _ (λp hp=>h p (by omega))
theorem Zbo8{α:Type}(f:α->Za->α):∀(n:Nat) (o:Int) (x:α),Zg5 f [] n o x=x
 |0,_,_=>rfl
 |n+1,o,x=>by rw[Zg5];exact Zbo8 f n (o+1) x
theorem Z8n{α:Type}(f:α->Za->α):∀(n:Nat) (E:List Za) (o:Int) (x:α),E.Pairwise (λa b=>a.Order<b.Order)->(∀e∈E,o<=e.Order/\e.Order<o+n)->Zg5 f E n o x=E.foldl f x
 |0,[],_,_,_,_=>rfl
 |0,e::E,o,x,_,h=>by have:=h e (by simp);omega
 |n+1,[],o,x,_,_=>Zbo8 f (n+1) o x
 |n+1,e::E,o,x,hp,h=>by
  have hc:=Ybw.1 hp;have he:=h e (by simp);rw[Zg5];by_cases eo:e.Order=o
  .have h1:ofO (e::E) o=some e:=by simp[ofO,eo]
   rw[h1,Y1];simp only;rw[Zbo7 f (F:=E) n (o+1) (f x e) (λp hpo=>by unfold ofO;rw[List.find?_cons];simp[show ¬e.Order=p by omega])];exact Z8n f n E (o+1) (f x e) hc.2 (λy hy=>by have:=hc.1 y hy;have:=h y (by simp[hy]);omega)
  .have h1:ofO (e::E) o=none:=by
    unfold ofO;rw[List.find?_eq_none];intro y hy
    have:e.Order<=y.Order:=by
     rcases Yz.1 hy with rfl|hy
     .exact Int.le_refl _
     .have:=hc.1 y hy;omega
    simp;omega
   rw[h1];simp only
   exact Z8n f n (e::E) (o+1) x hp (λy hy=>by
    have:=h y hy
    have:e.Order<=y.Order:=by
     rcases Yz.1 hy with rfl|hy
     .exact Int.le_refl _
     .have:=hc.1 y hy;omega
    omega)
def zE:Za:=⟨0,0,0,⟨[]⟩⟩
def offJ(m:Zb)(sizes:List Int)(a b:Za)(k v o:Int)(c:List Za):List Za :=
 c.set (o+1).toNat (offE ((c[(o+1).toNat]?).getD zE) (orI a.Mask b.Mask) o (jc m sizes a b k) (Zcv a.Plan.Steps b.Plan.Steps k v))
def Zg6(m:Zb)(sizes:List Int)(b:Za)(c:List Za)(e:Za):List Za:=offJ m sizes e b 5 0 e.Order c
def Zhr(m:Zb)(sizes:List Int)(A B:Int)(E F c:List Za)(v:Int):List Za:=offJ m sizes (inp m sizes A E v) (inp m sizes B F v) 4 v v c
def Zl5(m:Zb)(sizes:List Int)(A B:Int)(sh:List Int)(E F c:List Za):List Za :=
 sh.foldl (Zhr m sizes A B E F) (E.foldl (Zg6 m sizes (Zbh F)) (offJ m sizes (Zbh E) (Zbh F) 3 0 (-1) c))
theorem Zgh{m:Zb}{sizes:List Int}{a b:Za}{k v o:Int}{c:List Za}:(offJ m sizes a b k v o c).length=c.length:=by simp[offJ]
theorem Zzl{m:Zb}{sizes:List Int}{b:Za}:∀{E c:List Za},(E.foldl (Zg6 m sizes b) c).length=c.length
 |[],_=>rfl
 |e::E,c=>by rw[Y1,Zzl];exact Zgh
theorem Zbo9{m:Zb}{sizes:List Int}{A B:Int}{E F:List Za}:∀{sh:List Int} {c:List Za},(sh.foldl (Zhr m sizes A B E F) c).length=c.length
 |[],_=>rfl
 |e::sh,c=>by rw[Y1,Zbo9];exact Zgh
theorem Zbpa{m:Zb}{sizes:List Int}{A B:Int}{sh:List Int}{E F c:List Za}:(Zl5 m sizes A B sh E F c).length=c.length:=by
 unfold Zl5;rw[Zbo9,Zzl,Zgh]
structure GoodE (m:Zb) (sizes:List Int) (qa:List Atom) (M:Int) (o:Int) (e:Za):Prop where
 mask:e.Mask=M
 ord:e.Order=o
 makes:Zbv m sizes qa e.Plan.Steps M o e.Cost
 len:1<=e.Plan.Steps.length/\e.Plan.Steps.length+3<=4*popc M
def Zeh(m:Zb)(sizes:List Int)(qa:List Atom)(M:Int)(c:List Za):Prop :=
 c.length=5/\∀(k:Nat) (e:Za),c[k]?=some e->e.Mask≠0->GoodE m sizes qa M ((k:Int)-1) e
theorem Zbpb(m:Zb)(sizes:List Int)(qa:List Atom)(M:Int):Zeh m sizes qa M (List.replicate 5 zE):=by
 refine⟨by simp,λk e h h0=>?_⟩;rw[List.getElem?_replicate]at h;split at h
 .cases h;exact absurd rfl h0
 .cases h
theorem Zcbh{m:Zb}{sizes:List Int}{qa:List Atom}{M:Int}{c:List Za}(h:Zeh m sizes qa M c){a b:Za}{k v o:Int}(ho:-1<=o/\o<=3)(hM:orI a.Mask b.Mask=M)
  (cc:Zbv m sizes qa (Zcv a.Plan.Steps b.Plan.Steps k v) M o (jc m sizes a b k)) (hl:(Zcv a.Plan.Steps b.Plan.Steps k v).length+3<=4*popc M):Zeh m sizes qa M (offJ m sizes a b k v o c):=by
 refine⟨by rw[Zgh];exact h.1,λj e hj h0=>?_⟩;have h5:=h.1;unfold offJ at hj;have hlt:(o+1).toNat<c.length:=by omega
 rw[List.getElem?_set]at hj;by_cases ej:(o+1).toNat=j
 .rw[if_pos ej,if_pos hlt]at hj;cases hj;have eo:(j:Int)-1=o:=by omega
  rw[eo];rw[Yc hlt]at h0|-;simp only[Option.getD_some]at h0|-;have hold:=h.2 (o+1).toNat c[(o+1).toNat] (Yc hlt);have eo2:(((o+1).toNat:Nat):Int)-1=o:=by omega
  rw[eo2]at hold;have hnew:GoodE m sizes qa M o ⟨orI a.Mask b.Mask,o,jc m sizes a b k,⟨Zcv a.Plan.Steps b.Plan.Steps k v⟩⟩:=⟨hM,rfl,cc,by simp[Zcv];omega,hl⟩;unfold offE;split
  .exact hnew
  .rename_i hm0;split
   .exact hnew
   .exact hold hm0
 .rw[if_neg ej]at hj;exact h.2 j e hj h0
theorem Zcbi{m:Zb}{sizes:List Int}{qa:List Atom}{M:Int}{c:List Za}(h:Zeh m sizes qa M c)(cc:c.filter sm≠[]):Held m sizes qa M (c.filter sm):=by
 have hg:∀e∈c.filter sm,∃o,(-1<=o/\o<=3)/\GoodE m sizes qa M o e:=by
  intro e he;rw[Ybe]at he;obtain⟨k,hk⟩:=List.mem_iff_getElem?.1 he.1;have hlt:=(Y0.1 hk).1;have h5:=h.1
  have:e.Mask≠0:=by simpa[sm]using he.2
  exact⟨(k:Int)-1,by omega,h.2 k e hk this⟩
 refine⟨cc,?_,?_,?_,?_,?_⟩
 .rw[List.pairwise_filter,Yci];intro i j hi hj hij s1 s2;have g1:=h.2 i _ (Yc hi) (by simpa[sm]using s1);have g2:=h.2 j _ (Yc hj) (by simpa[sm]using s2);rw[g1.ord,g2.ord];omega
 .intro e he;obtain⟨o,_,g⟩:=hg e he;exact g.mask
 .intro e he;obtain⟨o,ho,g⟩:=hg e he;rw[g.ord];exact ho
 .intro e he;obtain⟨o,_,g⟩:=hg e he;rw[g.ord];exact g.makes
 .intro e he;obtain⟨o,_,g⟩:=hg e he;exact g.len
theorem Zj6{m:Zb}{sizes:List Int}{qa:List Atom}{M:Int}{E:List Za}(h:Held m sizes qa M E)(hg:Zcc m.Sort_)(c:Zfc sizes)(hM:M16 M){v:Int}(hv:vin qa M v=true) :
  (inp m sizes M E v).Mask=M/\(inp m sizes M E v).Order=v/\Zbv m sizes qa (inp m sizes M E v).Plan.Steps M v (inp m sizes M E v).Cost/\1<=(inp m sizes M E v).Plan.Steps.length/\(inp m sizes M E v).Plan.Steps.length+2<=4*popc M:=by
 have h4:=Zeu hM;have hlen:=h.len _ h.best;have hb:=(h.makes _ h.best).bound (by omega);have hp:=Zbo5 hg c M M;have hu:=Zp0 m.Sort_ (szAt sizes M) 0 (szAt sizes M);have hsrt:(Zbh E).Order≠v->(srt m sizes M E v).Mask=M/\(srt m sizes M E v).Order=v/\Zbv m sizes qa (srt m sizes M E v).Plan.Steps M v (srt m sizes M E v).Cost/\1<=(srt m sizes M E v).Plan.Steps.length/\(srt m sizes M E v).Plan.Steps.length+2<=4*popc M:=by
  intro hne;refine⟨rfl,rfl,h.srt_makes hv hne,?_,?_⟩<;>simp only[srt,sortS,Yp,Yw,Ybn]<;>omega
 unfold inp
 cases ho:ofO E v with
 |none =>
  refine hsrt (λhe=>?_);have:=Zzk h.up h.best;rw[he,ho]at this
  cases this
 |some e =>
  have hmem:e∈E:=List.mem_of_find?_eq_some ho;have hov:e.Order=v:=by have:=List.find?_some ho;simpa using this
  simp only;by_cases hc:e.Cost<=(srt m sizes M E v).Cost
  .rw[if_pos hc];have hm:=h.makes e hmem;rw[hov]at hm;have:=h.len e hmem;exact⟨h.mask e hmem,hov,hm,by omega,by omega⟩
  .rw[if_neg hc];refine hsrt (λhe=>hc ?_);have hx:=Zzk h.up h.best;rw[he,ho]at hx;cases hx;unfold srt;simp only;rw[w_id (by omega) (by omega)];omega
structure Pair (qa:List Atom) (A B M:Int):Prop where
 a16:M16 A
 b16:M16 B
 or:orI A B=M
 dis:andI A B=0
 shr:shr qa A B=true
 pop:popc A+popc B=popc M
theorem Z8o{m:Zb}{sizes:List Int}{qa:List Atom}{A B M:Int}(hp:Pair qa A B M){c:List Za}(h:Zeh m sizes qa M c){a b:Za}{k v o oa ob:Int}(ho:-1<=o/\o<=3)(hk:3<=k)(ha:a.Mask=A)(hb:b.Mask=B)(ma:Zbv m sizes qa a.Plan.Steps A oa a.Cost)(mb:Zbv m sizes qa b.Plan.Steps B ob b.Cost)(hj:Zfq qa ⟨k,0,v⟩ (A,oa) (B,ob)=some o)(hl:a.Plan.Steps.length+2<=4*popc A/\b.Plan.Steps.length+2<=4*popc B):Zeh m sizes qa M (offJ m sizes a b k v o c):=by
 have hpop:=hp.pop;refine Zcbh h ho (by rw[ha,hb];exact hp.or) ?_ (by simp only[Zcv,Yp,Yw,Ybn];omega);have:=Zbox (x:=⟨k,0,v⟩) ma mb hk rfl hp.dis hp.shr hj;rw[hp.or]at this;unfold jc;rw[ha,hb,hp.or];exact this
theorem Zbpc{m:Zb}{sizes:List Int}{qa:List Atom}{A B M:Int}(hp:Pair qa A B M){b:Za}{ob:Int}(hb:b.Mask=B)(mb:Zbv m sizes qa b.Plan.Steps B ob b.Cost)(lb:b.Plan.Steps.length+2<=4*popc B):∀{E c:List Za},(∀e∈E,e.Mask=A/\(-1<=e.Order/\e.Order<=3)/\Zbv m sizes qa e.Plan.Steps A e.Order e.Cost/\e.Plan.Steps.length+2<=4*popc A)->Zeh m sizes qa M c->Zeh m sizes qa M (E.foldl (Zg6 m sizes b) c)
 |[],_,_,h=>h
 |e::E,c,he,h=>by
  obtain⟨e1,e2,e3,e4⟩:=he e (by simp);rw[Y1];exact Zbpc hp hb mb lb (λx hx=>he x (by simp[hx])) (Z8o hp h e2 (by omega) e1 hb e3 mb nest_p ⟨e4,lb⟩)
theorem Zbpd{m:Zb}{sizes:List Int}{qa:List Atom}{A B M:Int}(hp:Pair qa A B M)(hg:Zcc m.Sort_)(cc:Zfc sizes){E F:List Za}(hE:Held m sizes qa A E)(hF:Held m sizes qa B F):∀{sh:List Int} {c:List Za},(∀v∈sh,(-1<=v/\v<=3)/\vin qa A v=true/\vin qa B v=true)->Zeh m sizes qa M c->Zeh m sizes qa M (sh.foldl (Zhr m sizes A B E F) c)
 |[],_,_,h=>h
 |v::sh,c,hv,h=>by
  obtain⟨v1,v2,v3⟩:=hv v (by simp);obtain⟨a1,a2,a3,a4,a5⟩:=Zj6 hE hg cc hp.a16 v2;obtain⟨b1,b2,b3,b4,b5⟩:=Zj6 hF hg cc hp.b16 v3;rw[Y1];exact Zbpd hp hg cc hE hF (λx hx=>hv x (by simp[hx])) (Z8o hp h v1 (by omega) a1 b1 a3 b3 (Zboy v2 v3 rfl rfl) ⟨a5,b5⟩)
theorem Zcbj{m:Zb}{sizes:List Int}{qa:List Atom}{A B M:Int}(hp:Pair qa A B M)(hg:Zcc m.Sort_)(cc:Zfc sizes){E F:List Za}(hE:Held m sizes qa A E)(hF:Held m sizes qa B F){sh:List Int}{c:List Za}(hv:∀v∈sh,(-1<=v/\v<=3)/\vin qa A v=true/\vin qa B v=true)(h:Zeh m sizes qa M c):Zeh m sizes qa M (Zl5 m sizes A B sh E F c):=by
 have lE:=hE.len _ hE.best;have lF:=hF.len _ hF.best;have mE:=hE.makes _ hE.best;have mF:=hF.makes _ hF.best;unfold Zl5;refine Zbpd hp hg cc hE hF hv (Zbpc hp (hF.mask _ hF.best) mF (by omega) (λe he=>⟨hE.mask e he,hE.ord e he,hE.makes e he,by have:=hE.len e he;omega⟩) ?_);exact Z8o hp h (by omega) (by omega) (hE.mask _ hE.best) (hF.mask _ hF.best) mE mF hash_p ⟨by omega,by omega⟩
def pos(e:Za):Bool:=decide (0<e.Mask)
theorem Zcbk(cc:List Za)(h5:cc.length=5)(sizes:List Int)(fr1:Bool)(l:List Za):∀i:Nat,i<=5->∀(fr:Bool) (out:List Za),out.length<=i->∃fr',Zlt cc fr out sizes fr1 l i=some (.own 2,[.arr 3 1 true (sizes.map ic),.arr 206 4 fr1 (l.map Za.c),.arr 206 4 fr' ((out++(cc.drop i).filter pos).map Za.c)]):=by
 refine down _ ?_ ?_
 .intro fr out ho;refine⟨fr,Z70 ?_⟩;rw[if_neg (by omega),Ybo (by omega)];simp
 .intro i hi ih fr out ho;have h4:=Z6 (i:=i) (by omega);have hlt:i<cc.length:=by omega
  have hw:w ((i:Int)+1)=((i+1:Nat):Int):=by rw[show w ((i:Int)+1)=(i:Int)+1 from h4];simp
  rw[Yf hlt,Yb6];by_cases e:0<cc[i].Mask
  .obtain⟨fr',h⟩:=ih false (out++[cc[i]]) (by simp;omega);refine⟨fr',Z70 ?_⟩;rw[if_pos (by omega)];refine⟨by omega,cc[i],by rw[Yg];exact Yc hlt,?_⟩;rw[if_pos e,hw];refine⟨by omega,?_⟩;simpa[pos,e]using h
  .obtain⟨fr',h⟩:=ih fr out (by omega);refine⟨fr',Z70 ?_⟩;rw[if_pos (by omega)];refine⟨by omega,cc[i],by rw[Yg];exact Yc hlt,?_⟩;rw[if_neg e,hw];simpa[pos,e]using h
theorem Zcbl{m:Zb}{sizes:List Int}{qa:List Atom}{M:Int}{c:List Za}(h:Zeh m sizes qa M c)(hM:0<M):c.filter pos=c.filter sm:=by
 refine List.filter_congr λe he=>?_
 obtain⟨k,hk⟩:=List.mem_iff_getElem?.1 he;by_cases h0:e.Mask=0
 .simp[pos,sm,h0]
 .have:=(h.2 k e hk h0).mask;simp[pos,sm,h0];omega
def SzOk(sizes:List Int)(M:Int):Prop:=0<=M/\sizes[M.toNat]?=some (szAt sizes M)
theorem Z8p{m:Zb}{sizes:List Int}{a b:Za}{k v o:Int}{c:List Za}{e:Za}(he:c[(o+1).toNat]?=some e):c.set (o+1).toNat (offE e (orI a.Mask b.Mask) o (jc m sizes a b k) (Zcv a.Plan.Steps b.Plan.Steps k v))=offJ m sizes a b k v o c:=by
 simp[offJ,he]
theorem l_merges(m:Zb)(hm:LeM m)(hg:Zcc m.Sort_)(sizes:List Int)(c:Zfc sizes)(qa:List Atom)(fr:Bool)(l:List Za)(hl:l.length<=1000){A B M:Int}(hp:Pair qa A B M)(hE:Held m sizes qa A (ofM l A))(hF:Held m sizes qa B (ofM l B))(zA:SzOk sizes A)(zB:SzOk sizes B)(zM:SzOk sizes M)(x:Zbj)(k:Nat)(sh:List Int)(cc:x.shared[k]?=some sh)(cd:sh.length<=1000)(hv:∀v∈sh,(-1<=v/\v<=3)/\vin qa A v=true/\vin qa B v=true)(r:AV×List Blk):∀i,i<=sh.length->∀mine:List Za,mine.length=5->Zpg sizes fr l m x ((sh.drop i).foldl (Zhr m sizes A B (ofM l A) (ofM l B)) mine) (w ((k:Int)+1))=some r->Zij sizes fr l m x mine k A B i=some r:=by
 have pA:=Zeu hp.a16;have pB:=Zeu hp.b16;refine down _ ?_ ?_
 .intro mine h5 h;refine Zbl9 ⟨by omega,sh,by rw[Yg];exact cc,?_⟩;rw[if_neg (by omega)];simpa using h
 .intro i hi ih mine h5 h;have h4:=Z6 (i:=i) (by omega);have hw:w ((i:Int)+1)=((i+1:Nat):Int):=by rw[show w ((i:Int)+1)=(i:Int)+1 from h4];simp
  rw[Yf hi,Y1]at h;have ih:=ih _ (by rw[show(Zhr m sizes A B (ofM l A) (ofM l B) mine sh[i]).length=mine.length from Zgh];exact h5) h;obtain⟨v1,v2,v3⟩:=hv sh[i] (Yd hi);obtain⟨a1,a2,a3,a4,a5⟩:=Zj6 hE hg c hp.a16 v2;obtain⟨b1,b2,b3,b4,b5⟩:=Zj6 hF hg c hp.b16 v3;have hlt:(sh[i]+1).toNat<mine.length:=by omega
  have he:mine[(sh[i]+1).toNat]?=some mine[(sh[i]+1).toNat]:=Yc hlt;have ea:0<=(inp m sizes A (ofM l A) sh[i]).Mask/\sizes[(inp m sizes A (ofM l A) sh[i]).Mask.toNat]?=some (szAt sizes (inp m sizes A (ofM l A) sh[i]).Mask):=by rw[a1];exact zA
  have eb:0<=(inp m sizes B (ofM l B) sh[i]).Mask/\sizes[(inp m sizes B (ofM l B) sh[i]).Mask.toNat]?=some (szAt sizes (inp m sizes B (ofM l B) sh[i]).Mask):=by rw[b1];exact zB
  have eab:0<=orI (inp m sizes A (ofM l A) sh[i]).Mask (inp m sizes B (ofM l B) sh[i]).Mask/\sizes[(orI (inp m sizes A (ofM l A) sh[i]).Mask (inp m sizes B (ofM l B) sh[i]).Mask).toNat]?=some (szAt sizes (orI (inp m sizes A (ofM l A) sh[i]).Mask (inp m sizes B (ofM l B) sh[i]).Mask)):=by rw[a1,b1,hp.or];exact zM
  have la:(inp m sizes A (ofM l A) sh[i]).Plan.Steps.length<=1000:=by omega
  have lb:(inp m sizes B (ofM l B) sh[i]).Plan.Steps.length<=1000:=by omega
  have o0:=Z8m m hm sizes mine _ _ 4 sh[i] sh[i] v1 he ea eb eab la lb;have o1:=Zcbe m hm sizes mine _ _ 4 sh[i] sh[i] v1 he ea eb eab la lb;have o2:=Zcbf m hm sizes mine _ _ 4 sh[i] sh[i] v1 he ea eb eab la lb;have o3:=Zcbg m hm sizes mine _ _ 4 sh[i] sh[i] v1 he ea eb eab la lb;rw[Z8p he]at o0 o1 o2 o3;refine Zbl9 ⟨by omega,sh,by rw[Yg];exact cc,?_⟩;rw[if_pos (by omega)];refine⟨by omega,sh[i],by rw[Yg];exact Yc hi,?_⟩;rw[hw];have bA:=hE.len _ hE.best;have bB:=hF.len _ hF.best;rcases Z8l m hm sizes fr l hl zA.1 zA.2 hE.ne (by omega) sh[i]with ha|ha
  .refine .inl ⟨_,ha,?_⟩;rcases Z8l m hm sizes fr l hl zB.1 zB.2 hF.ne (by omega) sh[i]with hb|hb
   .exact .inl ⟨_,hb,_,_,o0,ih⟩
   .exact .inr ⟨_,_,_,_,hb,_,_,_,o1,ih⟩
  .refine .inr ⟨_,_,_,_,ha,?_⟩;rcases Z8l m hm sizes fr l hl zB.1 zB.2 hF.ne (by omega) sh[i]with hb|hb
   .exact .inl ⟨_,hb,_,_,_,o2,ih⟩
   .exact .inr ⟨_,_,_,_,hb,_,_,_,_,o3,ih⟩
theorem Z8q(m:Zb)(hm:LeM m)(sizes:List Int)(qa:List Atom)(fr:Bool)(l:List Za)(hl:l.length<=1000){A B M:Int}(hp:Pair qa A B M)(hE:Held m sizes qa A (ofM l A))(b:Za)(hb:b.Mask=B)(lb:b.Plan.Steps.length<=1000)(zA:SzOk sizes A)(zB:SzOk sizes B)(zM:SzOk sizes M)(x:Zbj)(k:Int)(r:AV×List Blk):∀n:Nat,n<=5->∀mine:List Za,mine.length=5->Zij sizes fr l m x (Zg5 (Zg6 m sizes b) (ofM l A) n (4-n) mine) k A B 0=some r->Zph sizes fr l m x mine b k A B (4-n)=some r
 |0,_,mine,h5,h=>by
  refine Zbl8 ?_;rw[if_neg (by omega)]
  exact h
 |n+1,hn,mine,h5,h=>by
  have pA:=Zeu hp.a16;have hw:w ((4:Int)-((n+1:Nat):Int)+1)=4-(n:Int):=by rw[w_id (by omega) (by omega)];omega
  rw[Zg5,show(4:Int)-((n+1:Nat):Int)+1=4-(n:Int) by omega]at h;have hf:=Zbo2 l A (4-((n+1:Nat):Int));refine Zbl8 ?_;rw[if_pos (by omega),hw];refine⟨_,Zzg l A _ hl,?_⟩
  cases ho:ofO (ofM l A) (4-((n+1:Nat):Int))with
  |none =>
   rw[ho]at hf h;simp only at hf h;rw[hf,if_neg (by omega)]
   exact Z8q m hm sizes qa fr l hl hp hE b hb lb zA zB zM x k r n (by omega) mine h5 h
  |some e =>
   rw[ho]at hf h;simp only at hf h;have hmem:e∈ofM l A:=List.mem_of_find?_eq_some ho;have hov:e.Order=4-((n+1:Nat):Int):=by have:=List.find?_some ho;simpa using this
   have le:=hE.len e hmem;have me:=hE.mask e hmem;have hlt:((4-((n+1:Nat):Int))+1).toNat<mine.length:=by omega
   have he:=Yc hlt;have o0:=Z8m m hm sizes mine e b 5 0 (4-((n+1:Nat):Int)) (by omega) he (by rw[me];exact zA) (by rw[hb];exact zB) (by rw[me,hb,hp.or];exact zM) (by omega) lb;rw[Z8p he]at o0;rw[if_pos hf.1];refine⟨e,hf.2,_,_,o0,?_⟩;rw[show Zg6 m sizes b mine e=offJ m sizes e b 5 0 (4-((n+1:Nat):Int)) mine by rw[Zg6,hov]]at h;exact Z8q m hm sizes qa fr l hl hp hE b hb lb zA zB zM x k r n (by omega) _ (by rw[Zgh];exact h5) h
def oneJ(m:Zb)(sizes:List Int)(M:Int)(l c:List Za)(p:Int×List Int):List Za:=Zl5 m sizes p.1 (M-p.1) p.2 (ofM l p.1) (ofM l (M-p.1)) c
structure Zl6 (m:Zb) (sizes:List Int) (qa:List Atom) (l:List Za) (M A:Int) (sh:List Int):Prop where
 pair:Pair qa A (M-A) M
 left:Held m sizes qa A (ofM l A)
 right:Held m sizes qa (M-A) (ofM l (M-A))
 zA:SzOk sizes A
 zB:SzOk sizes (M-A)
 len:sh.length<=1000
 vars:∀v∈sh,(-1<=v/\v<=3)/\vin qa A v=true/\vin qa (M-A) v=true
theorem l_splits(m:Zb)(hm:LeM m)(hg:Zcc m.Sort_)(sizes:List Int)(cc:Zfc sizes)(qa:List Atom)(fr:Bool)(l:List Za)(hl:l.length<=1000)(x:Zbj)(zM:SzOk sizes x.mask)(cd:M16 x.mask)(c:x.Z5.length=x.shared.length)(hx:x.Z5.length<=100)(ok:∀p∈x.Z5.zip x.shared,Zl6 m sizes qa l x.mask p.1 p.2)(r:AV×List Blk):∀i,i<=x.Z5.length->∀mine:List Za,mine.length=5->Zlt (((x.Z5.zip x.shared).drop i).foldl (oneJ m sizes x.mask l) mine) true [] sizes fr l 0=some r->Zpg sizes fr l m x mine i=some r:=by
 have hz:(x.Z5.zip x.shared).length=x.Z5.length:=by simp[c]
 refine down _ ?_ ?_
 .intro mine h5 h;refine Zbl7 ?_;rw[if_neg (by omega)];rw[Ybo (by omega)]at h;exact h
 .intro i hi ih mine h5 h;have h4:=Z6 (i:=i) (by omega);have hw:w ((i:Int)+1)=((i+1:Nat):Int):=by rw[show w ((i:Int)+1)=(i:Int)+1 from h4];simp
  have hiz:i<(x.Z5.zip x.shared).length:=by omega
  have his:i<x.shared.length:=by omega
  rw[Yf hiz,Y1,List.getElem_zip]at h;have o:=ok _ (Yd hiz);rw[List.getElem_zip]at o;have ih:=ih _ (by rw[show(oneJ m sizes x.mask l mine (x.Z5[i],x.shared[i])).length=mine.length from Zbpa];exact h5) h;have hB:w (x.mask-x.Z5[i])=x.mask-x.Z5[i]:=by
   have:=o.pair.b16;have:=o.pair.a16;exact w_id (by omega) (by omega)
  obtain⟨k1,k2⟩:=Zzj o.left.ne;obtain⟨j1,j2⟩:=Zzj o.right.ne;have eM:=o.left.mask _ o.left.best;have fM:=o.right.mask _ o.right.best;have pA:=Zeu o.pair.a16;have pB:=Zeu o.pair.b16;have la:=o.left.len _ o.left.best;have lb:=o.right.len _ o.right.best;have hlt:((-1:Int)+1).toNat<mine.length:=by simp;omega
  have he:=Yc hlt;have o0:=Z8m m hm sizes mine _ _ 3 0 (-1) (by omega) he (by rw[eM];exact o.zA) (by rw[fM];exact o.zB) (by rw[eM,fM,o.pair.or];exact zM) (by omega) (by omega);rw[Z8p he]at o0;refine Zbl7 ?_;rw[if_pos (by omega)];refine⟨by omega,x.Z5[i],by rw[Yg];exact Yc hi,?_⟩;rw[hB];refine⟨_,x_low l _ hl,k1,_,k2,_,x_low l _ hl,j1,_,j2,_,_,o0,?_⟩;refine Z8q m hm sizes qa fr l hl o.pair o.left _ fM (by omega) o.zA o.zB zM x i r 5 (Yh _) _ (by rw[Zgh];exact h5) ?_;rw[Z8n _ 5 _ _ _ o.left.up (λe he=>by have:=o.left.ord e he;omega)];refine l_merges m hm hg sizes cc qa fr l hl o.pair o.left o.right o.zA o.zB zM x i _ (Yc his) o.len o.vars r 0 (Ya _) _ (by rw[Zzl,Zgh];exact h5) ?_;rw[hw,Yj];exact ih
theorem Z8r{m:Zb}{sizes:List Int}{qa:List Atom}{l:List Za}{M:Int}(hg:Zcc m.Sort_)(cc:Zfc sizes):∀{ps:List (Int×List Int)} {c:List Za},(∀p∈ps,Zl6 m sizes qa l M p.1 p.2)->Zeh m sizes qa M c->Zeh m sizes qa M (ps.foldl (oneJ m sizes M l) c)
 |[],_,_,h=>h
 |p::ps,c,hp,h=>by
  have o:=hp p (by simp);rw[Y1];exact Z8r hg cc (λy hy=>hp y (by simp[hy])) (Zcbj o.pair hg cc o.left o.right o.vars h)
def Zp1(m:Zb)(sizes:List Int)(M:Int)(l:List Za)(ps:List (Int×List Int)):List Za:=ps.foldl (oneJ m sizes M l) (List.replicate 5 zE)
theorem Zcbm(m:Zb)(hm:LeM m)(hg:Zcc m.Sort_)(sizes:List Int)(cc:Zfc sizes)(qa:List Atom)(fr:Bool)(l:List Za)(hl:l.length<=1000)(x:Zbj)(zM:SzOk sizes x.mask)(cl:M16 x.mask)(h0:0<x.mask)(cd:x.Z5.length=x.shared.length)(hx:x.Z5.length<=100)(ok:∀p∈x.Z5.zip x.shared,Zl6 m sizes qa l x.mask p.1 p.2) :
  ∃fr',Zyb sizes fr l m x=some (.own 2,[.arr 3 1 true (sizes.map ic),.arr 206 4 fr (l.map Za.c),.arr 206 4 fr' (((Zp1 m sizes x.mask l (x.Z5.zip x.shared)).filter sm).map Za.c)]):=by
 have hs:Zeh m sizes qa x.mask (Zp1 m sizes x.mask l (x.Z5.zip x.shared)):=Z8r hg cc ok (Zbpb m sizes qa x.mask);obtain⟨fr',h⟩:=Zcbk _ hs.1 sizes fr l 0 (by omega) true [] (Yh _);rw[Yj,Yb0,Zcbl hs h0]at h;exact⟨fr',Zb66 (l_splits m hm hg sizes cc qa fr l hl x zM cl cd hx ok _ 0 (Ya _) _ (by simp) (by rw[Yj];exact h))⟩
theorem Zcbn{m:Zb}{sizes:List Int}{a b:Za}{k v o:Int}(ho:-1<=o/\o<=3)(a0 a1 a2 a3 a4:Za):offJ m sizes a b k v o [a0,a1,a2,a3,a4] =
  [offK 0 a0 (orI a.Mask b.Mask) o (jc m sizes a b k) (Zcv a.Plan.Steps b.Plan.Steps k v),offK 1 a1 (orI a.Mask b.Mask) o (jc m sizes a b k) (Zcv a.Plan.Steps b.Plan.Steps k v),offK 2 a2 (orI a.Mask b.Mask) o (jc m sizes a b k) (Zcv a.Plan.Steps b.Plan.Steps k v),offK 3 a3 (orI a.Mask b.Mask) o (jc m sizes a b k) (Zcv a.Plan.Steps b.Plan.Steps k v),offK 4 a4 (orI a.Mask b.Mask) o (jc m sizes a b k) (Zcv a.Plan.Steps b.Plan.Steps k v)]:=by
 have h5:o=-1\/o=0\/o=1\/o=2\/o=3:=by omega
 rcases h5 with rfl|rfl|rfl|rfl|rfl<;>simp[offJ,offK]
theorem five{c:List Za}(h:c.length=5):∃a0 a1 a2 a3 a4,c=[a0,a1,a2,a3,a4]:=by
 match c,h with
 |[a0,a1,a2,a3,a4],_=>exact⟨a0,a1,a2,a3,a4,rfl⟩
theorem x_offJ(m:Zb)(hm:LeM m)(q:Ze)(hq:LeQ q)(cl:Zx q.Zg q.Atoms=true)(sizes:List Int)(hs:Le sizes)(cd:Zcu q.Zg q.Atoms sizes=true){A B M:Int}(cc:M16 M)(hM:M≠0)(hp:Pair q.Atoms A B M){a b:Za}{k v o oa ob:Int}(ho:-1<=o/\o<=3)(hk:3<=k)(ha:a.Mask=A)(hb:b.Mask=B)(ma:Zbv m sizes q.Atoms a.Plan.Steps A oa a.Cost)(mb:Zbv m sizes q.Atoms b.Plan.Steps B ob b.Cost)(hj:Zfq q.Atoms ⟨k,0,v⟩ (A,oa) (B,ob)=some o)(hl:a.Plan.Steps.length+2<=4*popc A/\b.Plan.Steps.length+2<=4*popc B)(a0 a1 a2 a3 a4:Za) :
  ∃b0 b1 b2 b3 b4 t,offJ m sizes a b k v o [a0,a1,a2,a3,a4]=[b0,b1,b2,b3,b4]/\(t=.dead\/t=.arr 287 3 true ((Zcv a.Plan.Steps b.Plan.Steps k v).map Zc.c))/\Zc8 m q sizes M a0 a1 a2 a3 a4 (sm a0) (sm a1) (sm a2) (sm a3) (sm a4) (Zcv a.Plan.Steps b.Plan.Steps k v) o=some (.tup [],[boxO m q sizes M b0 b1 b2 b3 b4 (sm b0) (sm b1) (sm b2) (sm b3) (sm b4),t]):=by
 have hpop:=hp.pop;have p4:=Zeu cc;have mk:=Zbox (x:=⟨k,0,v⟩) ma mb hk rfl hp.dis hp.shr hj;rw[hp.or]at mk;have hc:=Zbv.cost mk cl (by simp only[Yp,Yw,Ybn];omega) cd;obtain⟨t,ht,hx⟩:=Zboz m hm q hq sizes hs M hM a0 a1 a2 a3 a4 (Zcv a.Plan.Steps b.Plan.Steps k v) o ho _ hc;refine⟨_,_,_,_,_,t,Zcbn ho a0 a1 a2 a3 a4,ht,?_⟩;rw[hx];simp only[jc,ha,hb,hp.or]
theorem Zuu{qa:List Atom}{M A:Int}(h:A∈Z5 qa M):1<=A/\A<M/\andI A M=A/\conn qa A=true/\conn qa (M-A)=true:=by
 unfold Z5 Zfp at h;rw[Ys]at h;obtain⟨k,hk,rfl⟩:=h;rw[Ybe,List.mem_range'_1]at hk;obtain⟨⟨h1,h2⟩,h3⟩:=hk;simp only[Zc9,Ye,decide_eq_true_eq]at h3;exact⟨by omega,by omega,h3⟩
theorem Zcbo{qa:List Atom}{M:Int}{k:Nat}(h1:1<=k)(h2:(k:Int)<M)(h3:Zc9 qa M k=true):(k:Int)∈Z5 qa M:=by
 unfold Z5 Zfp;rw[Ys];exact⟨k,by rw[Ybe,List.mem_range'_1];exact⟨⟨h1,by omega⟩,h3⟩,rfl⟩
theorem Z8s{qa:List Atom}{M:Int}(h:M16 M):(Z5 qa M).length<=16:=by
 unfold Z5 Zfp;rw[Yba];refine Yq (Ybv _ _) ?_;rw[List.length_range'];omega
set_option maxRecDepth 100000 in
theorem Zcbp:∀a b c d e f g h:Bool,andB (e,f,g,h) (a,b,c,d)=(e,f,g,h)->popc (toI (e,f,g,h))+popc (toI (subB (a,b,c,d) (e,f,g,h)))=popc (toI (a,b,c,d))/\orB (e,f,g,h) (subB (a,b,c,d) (e,f,g,h))=(a,b,c,d)/\andB (e,f,g,h) (subB (a,b,c,d) (e,f,g,h))=(false,false,false,false):=by decide
theorem inN_of{n:Int}{qa:List Atom}(hv:Zx n qa=true){M:Int}(h:MQ qa M):inN qa.length (ofI M)=true:=by
 have h4:=Zcx hv;have h16:=(h.m16 hv).1;obtain⟨a,rfl⟩:=m16 h16;have key:∀a:Fin 16,(a.1<2->inN 1 (ofI (a.1:Int))=true)/\(a.1<4->inN 2 (ofI (a.1:Int))=true)/\(a.1<8->inN 3 (ofI (a.1:Int))=true)/\inN 4 (ofI (a.1:Int))=true:=by decide
 have hk:=key a;have hl:qa.length=1\/qa.length=2\/qa.length=3\/qa.length=4:=by omega
 have h2:=h.2;rcases hl with e|e|e|e
 .rw[e]at h2|-;exact hk.1 (by omega)
 .rw[e]at h2|-;exact hk.2.1 (by omega)
 .rw[e]at h2|-;exact hk.2.2.1 (by omega)
 .rw[e]at h2|-;exact hk.2.2.2
theorem okf1(g:Ed){n:Nat}(hn:1<=n/\n<=4)(p:B4):okF1 g n p=true:=by
 have:=f1 g.a g.b g.c g.d g.e g.f p.1 p.2.1 p.2.2.1 p.2.2.2;have hl:n=1\/n=2\/n=3\/n=4:=by omega
 rcases hl with rfl|rfl|rfl|rfl
 .exact this.1
 .exact this.2.1
 .exact this.2.2.1
 .exact this.2.2.2
theorem okf2(g:Ed){n:Nat}(hn:1<=n/\n<=4)(p x:B4):okF2 g n p x=true:=by
 have:=f2 g.a g.b g.c g.d g.e g.f p.1 p.2.1 p.2.2.1 p.2.2.2 x.1 x.2.1 x.2.2.1 x.2.2.2;have hl:n=1\/n=2\/n=3\/n=4:=by omega
 rcases hl with rfl|rfl|rfl|rfl
 .exact this.1
 .exact this.2.1
 .exact this.2.2.1
 .exact this.2.2.2
theorem Zcbq{n:Int}{qa:List Atom}(hv:Zx n qa=true){M A:Int}(hM:MQ qa M)(hc:conn qa M=true)(h:A∈Z5 qa M):Pair qa A (M-A) M:=by
 obtain⟨h1,h2,h3,_,_⟩:=Zuu h;have h16:=(hM.m16 hv).1;have a16:M16 A:=by omega
 have b16:M16 (M-A):=by omega
 have eM:=Z8h h16;have eA:=Z8h a16;have hsub:andB (ofI A) (ofI M)=ofI A:=by
  apply Z8i;rw[<-Zzd,eM,eA];exact h3
 have eB:=Zboo hsub;rw[eM,eA]at eB;have hp:=Zcbp (ofI M).1 (ofI M).2.1 (ofI M).2.2.1 (ofI M).2.2.2 (ofI A).1 (ofI A).2.1 (ofI A).2.2.1 (ofI A).2.2.2 hsub;have hp1:popc (toI (ofI A))+popc (toI (subB (ofI M) (ofI A)))=popc (toI (ofI M)):=hp.1;have hp2:orB (ofI A) (subB (ofI M) (ofI A))=ofI M:=hp.2.1;have hp3:andB (ofI A) (subB (ofI M) (ofI A))=(false,false,false,false):=hp.2.2;refine⟨a16,b16,?_,?_,?_,?_⟩
 .rw[eB];have:=toI_or (ofI A) (subB (ofI M) (ofI A));rw[hp2,eM,eA]at this;exact this
 .rw[eB];have:=Zzd (ofI A) (subB (ofI M) (ofI A));rw[hp3,eA]at this;exact this
 .rw[eB];have:=edge_bit (Zcx hv).2 (ofI A) (subB (ofI M) (ofI A)) hp3;rw[eA]at this;rw[this];have h5:=okf2 (edOf qa) (Zcx hv) (ofI M) (ofI A);have hcb:=Zur hv (ofI M);rw[eM,hc]at hcb;have hin:=inN_of hv hM;have n0:ofI A≠(false,false,false,false):=λhe=>by
   rw[he]at eA
   have:toI (false,false,false,false)=0:=rfl
   omega
  have nM:ofI A≠ofI M:=λhe=>by rw[he,eM]at eA;omega
  unfold okF2 at h5;rw[hsub,<-hcb,hin]at h5;simpa[n0,nM]using h5
 .rw[eB];rw[eM,eA]at hp1;exact hp1
theorem split_ne{n:Int}{qa:List Atom}(hv:Zx n qa=true){M:Int}(hM:MQ qa M)(h0:M≠0)(hc:conn qa M=true)(h1:oneB (ofI M)=false):Z5 qa M≠[]:=by
 have h16:=(hM.m16 hv).1;have eM:=Z8h h16;have h5:=okf1 (edOf qa) (Zcx hv) (ofI M);have hcb:=Zur hv (ofI M);rw[eM,hc]at hcb;have hin:=inN_of hv hM;have nz:ofI M≠(false,false,false,false):=λhe=>by
  rw[he]at eM
  have:toI (false,false,false,false)=0:=rfl
  omega
 have one:∀(x:B4) (k:Nat),toI x=(k:Int)->1<=k->oneB x=true->andB x x=x->Zda (edOf qa) qa.length x=true->andB (ofI M) x≠(false,false,false,false)->(andB (ofI M) x=x)->Zda (edOf qa) qa.length (subB (ofI M) x)=true->Z5 qa M≠[]:=by
  intro x k hk hk1 hx hxx hcx hne hsub hcs;have hsub':andB x (ofI M)=x:=by
   have:andB x (ofI M)=andB (ofI M) x:=by
    obtain⟨a,b,c,d⟩:=x;show(a && (ofI M).1,b && (ofI M).2.1,c && (ofI M).2.2.1,d && (ofI M).2.2.2)=((ofI M).1 && a,(ofI M).2.1 && b,(ofI M).2.2.1 && c,(ofI M).2.2.2 && d);simp only[Bool.and_comm]
   rw[this,hsub]
  have e1:=Zboo hsub';rw[eM,hk]at e1;have hxm:x≠ofI M:=λhe=>by rw[<-he,hx]at h1;cases h1
  have hle:(k:Int)<M:=by
   have q1:=toI_16 (subB (ofI M) x);have q2:toI (subB (ofI M) x)≠0:=by
    intro hz;apply hxm;apply Z8i;rw[eM,hk];omega
   omega
  have:(k:Int)∈Z5 qa M:=by
   refine Zcbo hk1 hle ?_;unfold Zc9;rw[e1,Zur hv,hcs,<-hk,Zur hv,hcx]
   have:andI (toI x) M=toI x:=by
    have:=Zzd x (ofI M);rw[eM,hsub']at this;exact this
   rw[this];simp
  exact List.ne_nil_of_mem this
 have c1:∀(g:Ed) (n:Nat),1<=n/\n<=4->Zda g n (true,false,false,false)=true/\Zda g n (false,true,false,false)=true/\Zda g n (false,false,true,false)=true/\Zda g n (false,false,false,true)=true:=by
  have key:∀a b c d e f:Bool,∀n:Fin 5,1<=n.1->Zda ⟨a,b,c,d,e,f⟩ n.1 (true,false,false,false)=true/\Zda ⟨a,b,c,d,e,f⟩ n.1 (false,true,false,false)=true/\Zda ⟨a,b,c,d,e,f⟩ n.1 (false,false,true,false)=true/\Zda ⟨a,b,c,d,e,f⟩ n.1 (false,false,false,true)=true:=by decide
  intro g n hn;exact key g.a g.b g.c g.d g.e g.f ⟨n,by omega⟩ hn.1
 obtain⟨k0,k1,k2,k3⟩:=c1 (edOf qa) qa.length (Zcx hv);have sel:∀a b c d:Bool,(¬andB (a,b,c,d) (true,false,false,false)=(false,false,false,false)->andB (a,b,c,d) (true,false,false,false)=(true,false,false,false))/\(¬andB (a,b,c,d) (false,true,false,false)=(false,false,false,false)->andB (a,b,c,d) (false,true,false,false)=(false,true,false,false))/\(¬andB (a,b,c,d) (false,false,true,false)=(false,false,false,false)->andB (a,b,c,d) (false,false,true,false)=(false,false,true,false))/\(¬andB (a,b,c,d) (false,false,false,true)=(false,false,false,false)->andB (a,b,c,d) (false,false,false,true)=(false,false,false,true)):=by
  intro a b c d;cases a<;>cases b<;>cases c<;>cases d<;>simp[andB]
 have hs:=sel (ofI M).1 (ofI M).2.1 (ofI M).2.2.1 (ofI M).2.2.2;unfold okF1 at h5;rw[hin,<-hcb,h1]at h5;have nz':(ofI M == (false,false,false,false))=false:=by simpa using nz
 rw[nz']at h5;simp only[Bool.not_true,Yb4,Ycz,Ye,bne_iff_ne,ne_eq]at h5;rcases h5 with((h5|h5)|h5)|h5
 .exact one _ 1 rfl (by omega) rfl rfl k0 h5.1 (hs.1 h5.1) h5.2
 .exact one _ 2 rfl (by omega) rfl rfl k1 h5.1 (hs.2.1 h5.1) h5.2
 .exact one _ 4 rfl (by omega) rfl rfl k2 h5.1 (hs.2.2.1 h5.1) h5.2
 .exact one _ 8 rfl (by omega) rfl rfl k3 h5.1 (hs.2.2.2 h5.1) h5.2
structure Base (m:Zb) (q:Ze) (sizes:List Int):Prop where
 hm:LeM m
 hg:Zcc m.Sort_
 hq:LeQ q
 hv:Zx q.Zg q.Atoms=true
 hs:Le sizes
 hcl:Zfc sizes
 hsv:Zcu q.Zg q.Atoms sizes=true
theorem i_merges{m:Zb}{q:Ze}{sizes:List Int}(b:Base m q sizes){A B M:Int}(cc:M16 M)(hM:M≠0)(hp:Pair q.Atoms A B M){E F:List Za}(hE:Held m sizes q.Atoms A E)(hF:Held m sizes q.Atoms B F)
  (sh:List Int) (cd:sh.length<=1000) (hv:∀v∈sh,(-1<=v/\v<=3)/\vin q.Atoms A v=true/\vin q.Atoms B v=true)
  (fr:Bool) (c:List (List Za)) (fr1:Bool) (out:List Za) (x x1:List Int) (x3 x4 x5 x6:Int) (r:AV×List Blk) :
  ∀i,i<=sh.length->∀a0 a1 a2 a3 a4:Za,(∀b0 b1 b2 b3 b4,(sh.drop i).foldl (Zhr m sizes A B E F) [a0,a1,a2,a3,a4]=[b0,b1,b2,b3,b4]->
   Zhi m q fr c fr1 out m q sizes M b0 b1 b2 b3 b4 (sm b0) (sm b1) (sm b2) (sm b3) (sm b4) x x1 sizes M x3 x4 x5 (w (x6+1))=some r)->
  Zfk m q fr c fr1 out m q sizes M a0 a1 a2 a3 a4 (sm a0) (sm a1) (sm a2) (sm a3) (sm a4) x x1 sh sizes M E F x3 x4 x5 x6 sh.length i=some r:=by
 have pA:=Zeu hp.a16;have pB:=Zeu hp.b16;refine down _ ?_ ?_
 .intro a0 a1 a2 a3 a4 h;refine Zbkd ?_;rw[if_neg (by omega)];exact h _ _ _ _ _ (by simp)
 .intro i hi ih a0 a1 a2 a3 a4 h;have h4:=Z6 (i:=i) (by omega);have hw:w ((i:Int)+1)=((i+1:Nat):Int):=by rw[show w ((i:Int)+1)=(i:Int)+1 from h4];simp
  rw[Yf hi,Y1]at h;obtain⟨v1,v2,v3⟩:=hv sh[i] (Yd hi);obtain⟨k1,k2,k3,k4,k5⟩:=Zj6 hE b.hg b.hcl hp.a16 v2;obtain⟨j1,j2,j3,j4,j5⟩:=Zj6 hF b.hg b.hcl hp.b16 v3;obtain⟨b0,b1,b2,b3,b4,t,hJ,ht,hx⟩:=x_offJ m b.hm q b.hq b.hv sizes b.hs b.hsv cc hM hp (a:=inp m sizes A E sh[i]) (b:=inp m sizes B F sh[i]) (k:=4) (v:=sh[i]) v1 (by omega) k1 j1 k3 j3 (Zboy v2 v3 rfl rfl) ⟨k5,j5⟩ a0 a1 a2 a3 a4;rw[show Zhr m sizes A B E F [a0,a1,a2,a3,a4] sh[i]=[b0,b1,b2,b3,b4]from hJ]at h;have ih:=ih b0 b1 b2 b3 b4 h;refine Zbkd ?_;rw[if_pos (by omega)];refine⟨by omega,sh[i],by rw[Yg];exact Yc hi,?_⟩;rw[hw];rcases Z8k m b.hm b.hg q b.hq b.hv sizes b.hs b.hcl b.hsv hp.a16 hE v2 with ha|ha
  .refine .inl ⟨_,ha,?_⟩;rcases Z8k m b.hm b.hg q b.hq b.hv sizes b.hs b.hcl b.hsv hp.b16 hF v3 with hb|hb
   .refine .inl ⟨_,hb,_,Zpz _ _ _ _ (by omega) (by omega),?_⟩;rcases ht with rfl|rfl
    .exact .inl ⟨m,q,sizes,M,b0,b1,b2,b3,b4,_,_,_,_,_,hx,ih⟩
    .exact .inr ⟨m,q,sizes,M,b0,b1,b2,b3,b4,_,_,_,_,_,_,hx,ih⟩
   .refine .inr ⟨_,hb,_,Zpz _ ⟨(inp m sizes B F sh[i]).Plan.Steps⟩ _ _ (by omega) (by show(inp m sizes B F sh[i]).Plan.Steps.length<=1000;omega),?_⟩;rcases ht with rfl|rfl
    .exact .inl ⟨m,q,sizes,M,b0,b1,b2,b3,b4,_,_,_,_,_,hx,ih⟩
    .exact .inr ⟨m,q,sizes,M,b0,b1,b2,b3,b4,_,_,_,_,_,_,hx,ih⟩
  .refine .inr ⟨_,ha,?_⟩;rcases Z8k m b.hm b.hg q b.hq b.hv sizes b.hs b.hcl b.hsv hp.b16 hF v3 with hb|hb
   .refine .inl ⟨_,hb,_,Zpz ⟨(inp m sizes A E sh[i]).Plan.Steps⟩ _ _ _ (by show(inp m sizes A E sh[i]).Plan.Steps.length<=1000;omega) (by omega),?_⟩;rcases ht with rfl|rfl
    .exact .inl ⟨m,q,sizes,M,b0,b1,b2,b3,b4,_,_,_,_,_,hx,ih⟩
    .exact .inr ⟨m,q,sizes,M,b0,b1,b2,b3,b4,_,_,_,_,_,_,hx,ih⟩
   .refine .inr ⟨_,hb,_,Zpz ⟨(inp m sizes A E sh[i]).Plan.Steps⟩ ⟨(inp m sizes B F sh[i]).Plan.Steps⟩ _ _ (by show(inp m sizes A E sh[i]).Plan.Steps.length<=1000;omega) (by show(inp m sizes B F sh[i]).Plan.Steps.length<=1000;omega),?_⟩;rcases ht with rfl|rfl
    .exact .inl ⟨m,q,sizes,M,b0,b1,b2,b3,b4,_,_,_,_,_,hx,ih⟩
    .exact .inr ⟨m,q,sizes,M,b0,b1,b2,b3,b4,_,_,_,_,_,_,hx,ih⟩
theorem i_nested{m:Zb}{q:Ze}{sizes:List Int}(b:Base m q sizes){A B M:Int}(cc:M16 M)(hM:M≠0)(hp:Pair q.Atoms A B M){E F:List Za}(hE:Held m sizes q.Atoms A E)(hF:Held m sizes q.Atoms B F)
  (sh:List Int) (cd:Zk7 q A (Zhd M A)=some (.own 0,[.arr 3 1 true (sh.map ic)]))
  (fr:Bool) (c:List (List Za)) (fr1:Bool) (out:List Za) (x x1:List Int) (x3 x4 x5 x6:Int) (r:AV×List Blk) :
  ∀i,i<=E.length->∀a0 a1 a2 a3 a4:Za,(∀b0 b1 b2 b3 b4,(E.drop i).foldl (Zg6 m sizes (Zbh F)) [a0,a1,a2,a3,a4]=[b0,b1,b2,b3,b4]->
   Zfk m q fr c fr1 out m q sizes M b0 b1 b2 b3 b4 (sm b0) (sm b1) (sm b2) (sm b3) (sm b4) x x1 sh sizes M E F x3 x4 x5 x6 sh.length 0=some r)->
  Zjq m q fr c fr1 out m q sizes M a0 a1 a2 a3 a4 (sm a0) (sm a1) (sm a2) (sm a3) (sm a4) (Zbh F).Plan x x1 sizes M A E F x3 x4 x5 x6 E E.length i=some r:=by
 have pA:=Zeu hp.a16;have pB:=Zeu hp.b16;have lF:=hF.len _ hF.best;have hle:=hE.le;refine down _ ?_ ?_
 .intro a0 a1 a2 a3 a4 h;refine Zbkc ?_;rw[if_neg (by omega)];exact⟨sh,cd,h _ _ _ _ _ (by simp)⟩
 .intro i hi ih a0 a1 a2 a3 a4 h;have h4:=Z6 (i:=i) (by omega);have hw:w ((i:Int)+1)=((i+1:Nat):Int):=by rw[show w ((i:Int)+1)=(i:Int)+1 from h4];simp
  rw[Yf hi,Y1]at h;have hmem:=Yd hi;have lE:=hE.len _ hmem;obtain⟨b0,b1,b2,b3,b4,t,hJ,ht,hx⟩:=x_offJ m b.hm q b.hq b.hv sizes b.hs b.hsv cc hM hp (a:=E[i]) (b:=Zbh F) (k:=5) (v:=0) (hE.ord _ hmem) (by omega) (hE.mask _ hmem) (hF.mask _ hF.best) (hE.makes _ hmem) (hF.makes _ hF.best) nest_p ⟨by omega,by omega⟩ a0 a1 a2 a3 a4;rw[show Zg6 m sizes (Zbh F) [a0,a1,a2,a3,a4] E[i]=[b0,b1,b2,b3,b4]from hJ]at h;have ih:=ih b0 b1 b2 b3 b4 h;refine Zbkc ?_;rw[if_pos (by omega)];refine⟨by omega,E[i],by rw[Yg];exact Yc hi,?_⟩;rw[hw];refine⟨_,Zpz _ _ _ _ (by omega) (by omega),?_⟩;rcases ht with rfl|rfl
  .exact .inl ⟨m,q,sizes,M,b0,b1,b2,b3,b4,_,_,_,_,_,hx,ih⟩
  .exact .inr ⟨m,q,sizes,M,b0,b1,b2,b3,b4,_,_,_,_,_,_,hx,ih⟩
structure Zbpe (m:Zb) (q:Ze) (sizes:List Int) (out:List Za) (table:List (List Za)) (M A:Int) (sh:List Int):Prop where
 ok:Zl6 m sizes q.Atoms out M A sh
 diff:Zhd M A=M-A
 sh:Zk7 q A (Zhd M A)=some (.own 0,[.arr 3 1 true (sh.map ic)])
 tA:table[A.toNat]?=some (ofM out A)
 tB:table[(M-A).toNat]?=some (ofM out (M-A))
theorem i_splits{m:Zb}{q:Ze}{sizes:List Int}(b:Base m q sizes){M:Int}(cd:M16 M)(hM:M≠0)(cc:List (List Za))(ht:M.toNat<cc.length)(out:List Za)(cl:out.length<=1000)(ps:List (Int×List Int))(cn:ps.length<=100)
  (ok:∀p∈ps,Zbpe m q sizes out cc M p.1 p.2) (fr fr1:Bool) (x:List Int) (x2 x3:Int) (r:AV×List Blk) :
  ∀i,i<=ps.length->∀a0 a1 a2 a3 a4:Za,(∀f1 E,((ps.drop i).foldl (oneJ m sizes M out) [a0,a1,a2,a3,a4]).filter sm=E->
   Zjp m q f1 (cc.set M.toNat E) (fr1 && flat (E.map Za.c)) (out++E) x sizes x2 (w (x3+1))=some r)->
  Zhi m q fr cc fr1 out m q sizes M a0 a1 a2 a3 a4 (sm a0) (sm a1) (sm a2) (sm a3) (sm a4) x (ps.map Prod.fst) sizes M x2 x3 ps.length i=some r:=by
 refine down _ ?_ ?_
 .intro a0 a1 a2 a3 a4 h;refine Zbka ?_;rw[if_neg (by omega)];obtain⟨fr',he⟩:=Zca9 m q sizes M a0 a1 a2 a3 a4;have hl:(there a0 a1 a2 a3 a4).length<=5:=Ybv _ _;exact⟨fr',there a0 a1 a2 a3 a4,he,by omega,_,Yc ht,by omega,h _ _ (by rw[Yk];rfl)⟩
 .intro i hi ih a0 a1 a2 a3 a4 h;have h4:=Z6 (i:=i) (by omega);have hw:w ((i:Int)+1)=((i+1:Nat):Int):=by rw[show w ((i:Int)+1)=(i:Int)+1 from h4];simp
  rw[Yf hi,Y1]at h;obtain⟨o,hd,hsh,tA,tB⟩:=ok _ (Yd hi);have hget:(ps.map Prod.fst)[i]?=some ps[i].1:=by rw[Ycc,Yc hi];rfl
  generalize ps[i]=p at *
  obtain⟨A,sh⟩:=p;simp only at o hd hsh tA tB hget;have hp:=o.pair;have hE:=o.left;have hF:=o.right;have pA:=Zeu hp.a16;have pB:=Zeu hp.b16;have lE:=hE.len _ hE.best;have lF:=hF.len _ hF.best;have leE:=hE.le;have leF:=hF.le;obtain⟨b0,b1,b2,b3,b4,t,hJ,htt,hx⟩:=x_offJ m b.hm q b.hq b.hv sizes b.hs b.hsv cd hM hp (a:=Zbh (ofM out A)) (b:=Zbh (ofM out (M-A))) (k:=3) (v:=0) (o:=-1) (by omega) (by omega) (hE.mask _ hE.best) (hF.mask _ hF.best) (hE.makes _ hE.best) (hF.makes _ hF.best) hash_p ⟨by omega,by omega⟩ a0 a1 a2 a3 a4;have hone:oneJ m sizes M out [a0,a1,a2,a3,a4] (A,sh)=sh.foldl (Zhr m sizes A (M-A) (ofM out A) (ofM out (M-A))) ((ofM out A).foldl (Zg6 m sizes (Zbh (ofM out (M-A)))) [b0,b1,b2,b3,b4]):=by
   unfold oneJ Zl5;rw[<-hJ]
  rw[hone]at h;have hnext:Zjq m q fr cc fr1 out m q sizes M b0 b1 b2 b3 b4 (sm b0) (sm b1) (sm b2) (sm b3) (sm b4) (Zbh (ofM out (M-A))).Plan x (ps.map Prod.fst) sizes M A (ofM out A) (ofM out (M-A)) x2 x3 ps.length i (ofM out A) (ofM out A).length 0=some r:=by
   refine i_nested b cd hM hp hE hF sh hsh fr cc fr1 out x _ x2 x3 _ _ r 0 (Ya _) b0 b1 b2 b3 b4 ?_;intro c0 c1 c2 c3 c4 hc;refine i_merges b cd hM hp hE hF sh o.len o.vars fr cc fr1 out x _ x2 x3 _ _ r 0 (Ya _) c0 c1 c2 c3 c4 ?_;intro d0 d1 d2 d3 d4 hdd;rw[hw];rw[Yj]at hc hdd;rw[hc,hdd]at h;exact ih d0 d1 d2 d3 d4 h
  refine Zbka ?_;rw[if_pos (by omega)];refine⟨by omega,A,by rw[Yg];exact hget,hp.a16.1,_,tA,by rw[hd];exact hp.b16.1,_,by rw[hd];exact tB,_,Zzi _ hF.ne (by omega),_,Zzi _ hE.ne (by omega),_,Zpz _ _ _ _ (by omega) (by omega),?_⟩;rcases htt with rfl|rfl
  .exact .inl ⟨m,q,sizes,M,b0,b1,b2,b3,b4,_,_,_,_,_,hx,hnext⟩
  .exact .inr ⟨m,q,sizes,M,b0,b1,b2,b3,b4,_,_,_,_,_,_,hx,hnext⟩
def Zdc(q:Ze)(M:Int):List (Int×List Int):=(Z5 q.Atoms M).map λA=>(A,Zg4 q A (M-A))
def Zj7(m:Zb)(sizes:List Int)(q:Ze)(M a:Int):Za:=⟨M,((q.Atoms[a.toNat]?).map λx=>x.Vars.headD 0).getD 0,Zb0 m.Scan (szAt sizes M) 0 (szAt sizes M),⟨[⟨1,a,0⟩]⟩⟩
def entM(m:Zb)(sizes:List Int)(q:Ze)(out:List Za)(M:Int):List Za:=match Zeg M with
 |[a]=>[Zj7 m sizes q M a]
 |_=>(Zp1 m sizes M out (Zdc q M)).filter sm
theorem Zbpf:∀a:Fin 16,(oneB (ofI (a.1:Int))=true->(Zeg (a.1:Int)=[((0:Nat):Int)]/\(a.1:Int)=shlI 1 (0:Nat))\/(Zeg (a.1:Int)=[((1:Nat):Int)]/\(a.1:Int)=shlI 1 (1:Nat))\/(Zeg (a.1:Int)=[((2:Nat):Int)]/\(a.1:Int)=shlI 1 (2:Nat))\/(Zeg (a.1:Int)=[((3:Nat):Int)]/\(a.1:Int)=shlI 1 (3:Nat)))/\(oneB (ofI (a.1:Int))=false->(Zeg (a.1:Int)).length≠1):=by decide
theorem Z8t{M:Int}(h:M16 M)(ho:oneB (ofI M)=true):∃i:Nat,i<4/\Zeg M=[(i:Int)]/\M=shlI 1 i:=by
 obtain⟨a,rfl⟩:=m16 h;rcases(Zbpf a).1 ho with h|h|h|h
 .exact⟨0,by omega,h⟩
 .exact⟨1,by omega,h⟩
 .exact⟨2,by omega,h⟩
 .exact⟨3,by omega,h⟩
theorem Z8u{M:Int}(h:M16 M)(ho:oneB (ofI M)=false):(Zeg M).length≠1:=by
 obtain⟨a,rfl⟩:=m16 h;exact(Zbpf a).2 ho
theorem Z8v{m:Zb}{sizes:List Int}{q:Ze}{out:List Za}{M a:Int}(h:Zeg M=[a]):entM m sizes q out M=[Zj7 m sizes q M a]:=by unfold entM;rw[h]
theorem Z8w{m:Zb}{sizes:List Int}{q:Ze}{out:List Za}{M:Int}(h:(Zeg M).length≠1):entM m sizes q out M=(Zp1 m sizes M out (Zdc q M)).filter sm:=by
 unfold entM;split
 .rename_i a e;rw[e]at h;simp at h
 .rfl
theorem Z8x{m:Zb}{sizes:List Int}{a b:Za}{k v o:Int}(ho:-1<=o/\o<=3)(hM:orI a.Mask b.Mask≠0){c:List Za}(h5:c.length=5):(offJ m sizes a b k v o c).filter sm≠[]:=by
 refine List.ne_nil_of_mem (a:=offE ((c[(o+1).toNat]?).getD zE) (orI a.Mask b.Mask) o (jc m sizes a b k) (Zcv a.Plan.Steps b.Plan.Steps k v)) (Ybe.2 ⟨?_,sm_off hM⟩);unfold offJ;exact List.mem_set (by omega) _
theorem Zbpg{m:Zb}{sizes:List Int}{b:Za}:∀{E c:List Za},(∀e∈E,(-1<=e.Order/\e.Order<=3)/\orI e.Mask b.Mask≠0)->c.length=5->c.filter sm≠[]->(E.foldl (Zg6 m sizes b) c).filter sm≠[]
 |[],_,_,_,h=>h
 |e::E,c,he,h5,h=>by
  rw[Y1];obtain⟨e1,e2⟩:=he e (by simp);exact Zbpg (λx hx=>he x (by simp[hx])) (by rw[show(Zg6 m sizes b c e).length=c.length from Zgh];exact h5) (Z8x e1 e2 h5)
theorem Zbph{m:Zb}{sizes:List Int}{A B:Int}{E F:List Za}:∀{sh:List Int} {c:List Za},(∀v∈sh,(-1<=v/\v<=3)/\orI (inp m sizes A E v).Mask (inp m sizes B F v).Mask≠0)->c.length=5->c.filter sm≠[]->(sh.foldl (Zhr m sizes A B E F) c).filter sm≠[]
 |[],_,_,_,h=>h
 |v::sh,c,he,h5,h=>by
  rw[Y1];obtain⟨e1,e2⟩:=he v (by simp);exact Zbph (λx hx=>he x (by simp[hx])) (by rw[show(Zhr m sizes A B E F c v).length=c.length from Zgh];exact h5) (Z8x e1 e2 h5)
theorem one_some{m:Zb}{sizes:List Int}{qa:List Atom}{M:Int}{l:List Za}{p:Int×List Int}(hM:M≠0)(hg:Zcc m.Sort_)(cc:Zfc sizes)(o:Zl6 m sizes qa l M p.1 p.2){c:List Za}(h5:c.length=5):(oneJ m sizes M l c p).filter sm≠[]:=by
 have hp:=o.pair;unfold oneJ Zl5;refine Zbph (λv hv=>⟨(o.vars v hv).1,?_⟩) (by rw[Zzl,Zgh];exact h5) (Zbpg (λe he=>⟨o.left.ord e he,?_⟩) (by rw[Zgh];exact h5) (Z8x (by omega) ?_ h5))
 .rw[(Zj6 o.left hg cc hp.a16 (o.vars v hv).2.1).1,(Zj6 o.right hg cc hp.b16 (o.vars v hv).2.2).1,hp.or];exact hM
 .rw[o.left.mask e he,o.right.mask _ o.right.best,hp.or];exact hM
 .rw[o.left.mask _ o.left.best,o.right.mask _ o.right.best,hp.or];exact hM
theorem Zbpi{m:Zb}{sizes:List Int}{qa:List Atom}{M:Int}{l:List Za}(hM:M≠0)(hg:Zcc m.Sort_)(cc:Zfc sizes):∀{ps:List (Int×List Int)} {c:List Za},(∀p∈ps,Zl6 m sizes qa l M p.1 p.2)->c.length=5->(ps≠[]\/c.filter sm≠[])->(ps.foldl (oneJ m sizes M l) c).filter sm≠[]
 |[],_,_,_,h=>by rcases h with h|h;exact absurd rfl h;exact h
 |p::ps,c,hp,h5,_=>by
  rw[Y1];exact Zbpi hM hg cc (λx hx=>hp x (by simp[hx])) (by rw[show(oneJ m sizes M l c p).length=c.length from Zbpa];exact h5) (.inr (one_some hM hg cc (hp p (by simp)) h5))
structure Inv (m:Zb) (sizes:List Int) (q:Ze) (done:List Int) (out:List Za):Prop where
 held:∀M∈done,Held m sizes q.Atoms M (ofM out M)
 only:∀e∈out,e.Mask∈done
 len:out.length<=5*done.length
theorem Zcbr{q:Ze}(hv:Zx q.Zg q.Atoms=true){A B:Int}:∀v∈Zg4 q A B,(-1<=v/\v<=3)/\vin q.Atoms A v=true/\vin q.Atoms B v=true:=by
 intro v hvm;unfold Zg4 at hvm;rw[Ybe]at hvm;obtain⟨h1,h2⟩:=hvm;rw[Zi8]at h2;have key:∀m,v∈Zfb q m->(0<=v/\v<=3)/\vin q.Atoms m v=true:=by
  intro m hm;unfold Zfb varL at hm;rw[Ys]at hm;obtain⟨u,hu,rfl⟩:=hm;rw[Ybe,Ybu]at hu;have hn:=Zfy hv;refine⟨by omega,?_⟩;unfold vin;rw[Ye];exact⟨by simp[inR];omega,by rw[Yg];exact hu.2⟩
 obtain⟨k1,k2⟩:=key A h1;obtain⟨k3,k4⟩:=key B h2;exact⟨by omega,k2,k4⟩
theorem Zcbs{q:Ze}(hv:Zx q.Zg q.Atoms=true)(A B:Int):(Zg4 q A B).length<=1000:=by
 have:=Zup q hv A;unfold Zg4;have:=Ybv (has (Zfb q B)) (Zfb q A);omega
theorem Zbl{q:Ze}{sizes:List Int}(c:Zcu q.Zg q.Atoms sizes=true){M:Int}(h:MQ q.Atoms M):SzOk sizes M:=by
 unfold Zcu at c;simp only[Ye,decide_eq_true_eq]at c;have hf:=Zg2 c.1.1;have h1:=h.1;have h2:=h.2;have hl:M.toNat<sizes.length:=by omega
 refine⟨h1,?_⟩;unfold szAt;rw[Yc hl];rfl
theorem Z8y{qa:List Atom}{M A:Int}(hM:MQ qa M)(h:A∈Z5 qa M):MQ qa A/\MQ qa (M-A):=by
 obtain⟨h1,h2,_⟩:=Zuu h;have:=hM.2;exact⟨⟨by omega,by omega⟩,⟨by omega,by omega⟩⟩
theorem Z8z{m:Zb}{q:Ze}{sizes:List Int}(b:Base m q sizes){done:List Int}{out:List Za}(hi:Inv m sizes q done out){M:Int}(hM:MQ q.Atoms M)(hc:conn q.Atoms M=true)(hd:∀A∈Z5 q.Atoms M,A∈done/\M-A∈done):∀p∈Zdc q M,Zl6 m sizes q.Atoms out M p.1 p.2:=by
 intro p hp;unfold Zdc at hp;rw[Ys]at hp;obtain⟨A,hA,rfl⟩:=hp;obtain⟨d1,d2⟩:=hd A hA;obtain⟨q1,q2⟩:=Z8y hM hA;exact⟨Zcbq b.hv hM hc hA,hi.held A d1,hi.held _ d2,Zbl b.hsv q1,Zbl b.hsv q2,Zcbs b.hv _ _,Zcbr b.hv⟩
theorem Z80{m:Zb}{q:Ze}{sizes:List Int}(b:Base m q sizes){done:List Int}{out:List Za}(hi:Inv m sizes q done out){M:Int}(hM:MQ q.Atoms M)(h0:M≠0)(hc:conn q.Atoms M=true)(hd:∀A∈Z5 q.Atoms M,A∈done/\M-A∈done):Held m sizes q.Atoms M (entM m sizes q out M):=by
 have h16:=(hM.m16 b.hv).1
 cases ho:oneB (ofI M)with
 |true =>
  obtain⟨i,hi4,ha,rfl⟩:=Z8t h16 ho;rw[Z8v ha];have hl:i<q.Atoms.length:=by
   have h2:=hM.2;have hl4:=Zcx b.hv;have e:shlI 1 (i:Nat)=2 ^ i:=by
    have:i=0\/i=1\/i=2\/i=3:=by omega
    rcases this with rfl|rfl|rfl|rfl<;>decide
   rw[e]at h2;have h3:(2:Int) ^ i<2 ^ q.Atoms.length:=h2;rw[<-Zg3,<-Zg3]at h3;have h4:2 ^ i<2 ^ q.Atoms.length:=by omega
   exact(Nat.pow_lt_pow_iff_right (by omega)).1 h4
  have hmk:=Zca8 (m:=m) (sizes:=sizes) hl;have hu:=Zp0 m.Scan (szAt sizes (shlI 1 i)) 0 (szAt sizes (shlI 1 i));rw[w_id (by omega) (by omega)]at hmk;have hvar:=Zm1 b.hv _ (Yd hl);have he:Zj7 m sizes q (shlI 1 i) (i:Int)=⟨shlI 1 i,q.Atoms[i].Vars.headD 0,Zb0 m.Scan (szAt sizes (shlI 1 i)) 0 (szAt sizes (shlI 1 i)),⟨[⟨1,i,0⟩]⟩⟩:=by
   simp[Zj7,Yc hl]
  have hpop:popc (shlI 1 (i:Nat))=1:=by
   have:i=0\/i=1\/i=2\/i=3:=by omega
   rcases this with rfl|rfl|rfl|rfl<;>decide
  have hord:0<=q.Atoms[i].Vars.headD 0/\q.Atoms[i].Vars.headD 0<=3:=by
   cases hvs:q.Atoms[i].Vars with
   |nil=>rw[hvs]at hvar;simp at hvar
   |cons v vs =>
    have:=Zv0 b.hv _ (Yd hl) v (by rw[hvs];simp);have hn:=Zfy b.hv;simp[inR]at this;simp only[List.headD_cons];omega
  rw[he];refine⟨by simp,by simp,?_,?_,?_,?_⟩
  .intro e hm;rw[List.mem_singleton.1 hm]
  .intro e hm;rw[List.mem_singleton.1 hm];exact⟨by show -1<=q.Atoms[i].Vars.headD 0;omega,hord.2⟩
  .intro e hm;rw[List.mem_singleton.1 hm];exact hmk
  .intro e hm;rw[List.mem_singleton.1 hm];simp[hpop]
 |false =>
  rw[Z8w (Z8u h16 ho)];have ok:=Z8z b hi hM hc hd;have hne:=split_ne b.hv hM h0 hc ho;refine Zcbi (Z8r b.hg b.hcl ok (Zbpb m sizes q.Atoms M)) (Zbpi h0 b.hg b.hcl ok (by simp) (.inl ?_));unfold Zdc;intro hh;exact hne (List.map_eq_nil_iff.1 hh)
theorem Zbpj(a b:List Za)(M:Int):ofM (a++b) M=ofM a M++ofM b M:=by simp[ofM]
theorem ofM_all{l:List Za}{M:Int}(h:∀e∈l,e.Mask=M):ofM l M=l:=by
 unfold ofM;rw[List.filter_eq_self];intro e he;simp[h e he]
theorem ofM_no{l:List Za}{M:Int}(h:∀e∈l,e.Mask≠M):ofM l M=[]:=by
 unfold ofM;rw[Yce];intro e he;simp[h e he]
theorem Zbpk{m:Zb}{q:Ze}{sizes:List Int}(b:Base m q sizes){done:List Int}{out:List Za}(hi:Inv m sizes q done out){M:Int}(hM:MQ q.Atoms M)(h0:M≠0)(hc:conn q.Atoms M=true)(hd:∀A∈Z5 q.Atoms M,A∈done/\M-A∈done)(hn:M ∉ done) :
  Inv m sizes q (done++[M]) (out++entM m sizes q out M)/\(∀A∈done,ofM (out++entM m sizes q out M) A=ofM out A)/\ofM (out++entM m sizes q out M) M=entM m sizes q out M:=by
 have hh:=Z80 b hi hM h0 hc hd;have e1:∀A∈done,ofM (out++entM m sizes q out M) A=ofM out A:=by
  intro A hA;rw[Zbpj,ofM_no (l:=entM m sizes q out M),Ybm];intro e he;rw[hh.mask e he];intro h;exact hn (h▸hA)
 have e2:ofM (out++entM m sizes q out M) M=entM m sizes q out M:=by
  rw[Zbpj,ofM_all hh.mask,ofM_no (l:=out),Yb0];intro e he h;exact hn (h▸hi.only e he)
 refine⟨⟨?_,?_,?_⟩,e1,e2⟩
 .intro A hA;rcases Yi.1 hA with hA|hA
  .rw[e1 A hA];exact hi.held A hA
  .simp at hA;subst hA;rw[e2];exact hh
 .intro e he;rcases Yi.1 he with he|he
  .exact Yck _ (hi.only e he)
  .rw[hh.mask e he];simp
 .have:=hh.le;have:=hi.len;simp only[Yp,Yw,Ybn];omega
theorem Zl7{qa:List Atom}{M:Int}:M∈Zy qa↔1<=M/\M<2 ^ qa.length/\conn qa M=true:=by
 unfold Zy Zge;rw[Ys];have hp:=Zg3 qa.length;constructor
 .rintro⟨k,hk,rfl⟩;rw[Ybe,List.mem_range'_1]at hk;exact⟨by omega,by omega,hk.2⟩
 .rintro⟨h1,h2,h3⟩;refine⟨M.toNat,?_,by omega⟩;rw[Ybe,List.mem_range'_1];have e:((M.toNat:Nat):Int)=M:=by omega
  exact⟨by omega,by rw[e];exact h3⟩
theorem Zuv(qa:List Atom):(Zy qa).Pairwise (·<·):=by
 unfold Zy Zge;rw[List.pairwise_map];refine List.Pairwise.filter _ ?_;refine(List.pairwise_lt_range' (s:=1) (n:=2 ^ qa.length-1)).imp ?_;intro a b h;omega
theorem Zzm{n:Int}{qa:List Atom}(hv:Zx n qa=true):(Zy qa).length<=15:=by
 have h16:2 ^ qa.length<=16:=Nat.pow_le_pow_right (by omega:0<2) (Zcx hv).2;have:=Zb98 (qa:=qa) (k:=1) (n:=2 ^ qa.length-1);unfold Zy;omega
theorem Zbpl{Ms:List Int}(hu:Ms.Pairwise (·<·)){i:Nat}(hi:i<Ms.length){A:Int}(hA:A∈Ms)(h:A<Ms[i]):A∈Ms.take i:=by
 obtain⟨j,hj,rfl⟩:=List.mem_iff_getElem.1 hA;rw[Yci]at hu;have hji:j<i:=by
  rcases Ycy j i with q|rfl|q
  .exact q
  .omega
  .have:=hu i j hi hj q;omega
 rw[List.mem_take_iff_getElem];exact⟨j,by omega,rfl⟩
theorem Z81{Ms:List Int}(hu:Ms.Pairwise (·<·)){i:Nat}(hi:i<Ms.length):Ms[i] ∉ Ms.take i:=by
 intro h;rw[List.mem_take_iff_getElem]at h;obtain⟨j,hj,e⟩:=h;rw[Yci]at hu;have:=hu j i (by omega) hi (by omega);omega
def Zbo(m:Zb)(sizes:List Int)(q:Ze):Nat->List Za
 |0=>[]
 |i+1=>Zbo m sizes q i++entM m sizes q (Zbo m sizes q i) ((Zy q.Atoms).getD i 0)
theorem Zp2{q:Ze}{i:Nat}(hi:i<(Zy q.Atoms).length):MQ q.Atoms (Zy q.Atoms)[i]/\(Zy q.Atoms)[i]≠0/\conn q.Atoms (Zy q.Atoms)[i]=true/\∀A∈Z5 q.Atoms (Zy q.Atoms)[i],A∈(Zy q.Atoms).take i/\(Zy q.Atoms)[i]-A∈(Zy q.Atoms).take i:=by
 obtain⟨h1,h2,h3⟩:=Zl7.1 (Yd hi);refine⟨⟨by omega,h2⟩,by omega,h3,?_⟩;intro A hA;obtain⟨a1,a2,a3,a4,a5⟩:=Zuu hA;exact⟨Zbpl (Zuv _) hi (Zl7.2 ⟨a1,by omega,a4⟩) a2,Zbpl (Zuv _) hi (Zl7.2 ⟨by omega,by omega,a5⟩) (by omega)⟩
theorem Zp3{m:Zb}{q:Ze}{sizes:List Int}(b:Base m q sizes):∀i,i<=(Zy q.Atoms).length->Inv m sizes q ((Zy q.Atoms).take i) (Zbo m sizes q i)
 |0,_=>⟨by simp,by simp[Zbo],by simp[Zbo]⟩
 |i+1,h=>by
  have hi:i<(Zy q.Atoms).length:=by omega
  obtain⟨c1,c2,c3,c4⟩:=Zp2 hi;have:=(Zbpk b (Zp3 b i (by omega)) c1 c2 c3 c4 (Z81 (Zuv _) hi)).1;rw[Zbo,Yy hi];have e:(Zy q.Atoms).getD i 0=(Zy q.Atoms)[i]:=by simp[List.getD,hi]
  rw[e];exact this
theorem Zuw{m:Zb}{q:Ze}{sizes:List Int}(b:Base m q sizes){i:Nat}(hi:i<=(Zy q.Atoms).length):(Zbo m sizes q i).length<=75:=by
 have h1:=(Zp3 b i hi).len;have h2:=Zzm b.hv;rw[Y5]at h1;omega
end Go.Proofs.YtdioodopdlpinaaGreat
