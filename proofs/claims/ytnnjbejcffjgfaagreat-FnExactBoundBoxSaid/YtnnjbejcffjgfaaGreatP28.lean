/-
  Parts of the proofs for this seat: L47 SE1 CPL CPW CPS SI KI KS SX.
-/
import Derived.BigQuiet
import Derived.BigRegion
import Derived.Deep.QuietTactic
import Derived.Lib.SlicesCompact
import Derived.Shelf.SlSortCmp.NoneTotal
import Derived.Shelf.Slices.CompactI
import Derived.Shelf.Slices.In.SortNone
import Derived.Shelf.Sort.Plain
import Derived.Test.YtnnjbejcffjgfaaGreatP7
import Derived.Test.YtnnjbejcffjgfaaGreatP19
import Derived.Test.YtnnjbejcffjgfaaGreatP25
import Derived.Test.YtnnjbejcffjgfaaGreatP27
set_option linter.unusedSectionVars false
set_option linter.unusedSimpArgs false
set_option linter.unusedVariables false
set_option maxRecDepth 100000
set_option maxHeartbeats 4000000
namespace Go.Proofs.YtnnjbejcffjgfaaGreat
open Go.AM
theorem Zc1s(e0 e1:Nat)(x0 x1:List Int)(k:Int)(h1:0<=k)(h2:k+(x0.length:Int)+(x1.length:Int)<=4000000000000000000)(c:SmA x0)(cc:SmA x1):C Zbpc [.agg [.own 0,.own 1],I k] [.xarr e0 1 (x0.map ic),.xarr e1 1 (x1.map ic)]=some (I (k+(x0.length:Int)+(x1.length:Int)),[.xarr e0 1 ((mkI x0 (k)).map ic),.xarr e1 1 ((mkI x1 (k+(x0.length:Int))).map ic)]):=by
 refine runM Zb8c rfl ?_;have m0:=Zblr e0 x0 (k) (by omega) (by omega) c;have m1:=Zblr e1 x1 (k+(x0.length:Int)) (by omega) (by omega) cc;simp[Zblf,m0,m1]
theorem Zc1t  (k:Int):C Zbpc [.agg [.t .nil,.t .nil],I k] []=some (I k,[]):=by
 refine run Zb8c rfl ?_;simp[Zblf,Zc0p]
theorem Zc1u(x0 x1:List Int)(k:Int)(h1:0<=k)(h2:k+(x0.length:Int)+(x1.length:Int)<=4000000000000000000)(c:SmA x0)(cc:SmA x1):C Zbpd [.agg [.t (tI (mkI x0 (k))),.t (tI (mkI x1 (k+(x0.length:Int))))],I k] []=some (I (k+(x0.length:Int)+(x1.length:Int)),[]):=by
 refine run Zb8d rfl ?_;have m0:=Zcaq x0 (k) (by omega) (by omega) c;have z0:¬(k+(x0.length:Int)<0):=by omega
 have m1:=Zcaq x1 (k+(x0.length:Int)) (by omega) (by omega) cc;have z1:¬(k+(x0.length:Int)+(x1.length:Int)<0):=by omega
 simp[Zblg,tI,m0,z0,m1,z1]
theorem Zc1v  (k:Int)(h1:0<=k):C Zbpd [.agg [.t .nil,.t .nil],I k] []=some (I k,[]):=by
 refine run Zb8d rfl ?_;have z:¬(k<0):=by omega
 simp[Zblg,z,h1,Zc0t]
theorem Zc1w:C Zbpb [.agg [.t .nil,.t .nil],.agg [.t .nil,.t .nil]] []=some (Bo true,[]):=by
 have e:C Zbo9 [.t .nil,.t .nil] []=some (Bo true,[]):=by
  refine run Zb75 rfl ?_;simp[Z6x,Zd Zy5.eq_1]
 refine run Zb8b rfl ?_;simp[Zble,e]
theorem Zca7(s:Zh)(q:Zc)(hs:s.okay)(hq:q.okay):C Zcdd [.agg (s.c.map .t),.agg (q.c.map .t)] []=some (Bo true,[]):=by
 refine run Zcw2 rfl ?_;have e1:=λl=>Zc0m s.Zi.Tables s.Zl.Version s.Zl.Tables s.Dependencies s.Inclusions l (hs.1) (hs.2.2.1) (hs.2.2.2.1) (hs.2.2.2.2)
 by_cases h1:Zh.sz s (1048576)<0
 .simp[Zy4,e1,h1]
 obtain⟨b1,g1⟩:=Zh.sz_ok s _ hs (by omega) (by omega) (by omega:0<=Zh.sz s (1048576));have u1:=(Zh.ct s _ hs (by omega) (by omega) (by omega:0<=Zh.sz s (1048576))).2;unfold Zbl1 at u1;have e2:=λl=>Zczg q.Zp q.Atoms l (hq.2)
 by_cases h2:Zc.sz q (Zh.sz s (1048576))<0
 .simp[Zy4,e1,h1,e2,h2]
 obtain⟨b2,g2⟩:=Zc.sz_ok q _ hq (by omega) (by omega) (by omega:0<=Zc.sz q (Zh.sz s (1048576)));have u2:=(Zc.ct q _ hq (by omega) (by omega) (by omega:0<=Zc.sz q (Zh.sz s (1048576)))).2;unfold Zblv at u2;have t1:=Zc0k s.Zi.Tables s.Zl.Version s.Zl.Tables s.Dependencies s.Inclusions (g1.1) (g1.2.1) (g1.2.2.1) (g1.2.2.2);have q1:=λy0 y1 y2 y3 y4=>Zc0l s.Zi.Tables s.Zl.Version s.Zl.Tables s.Dependencies s.Inclusions y0 y1 y2 y3 y4 (g1.1) (g1.2.1) (g1.2.2.1) (g1.2.2.2)
 have t2:=Zcze q.Zp q.Atoms (g2);have q2:=λy0 y1=>Zczf q.Zp q.Atoms y0 y1 (g2)
 have m1:=λa0 a1 a2 a3=>Zc1l a0 a1 a2 a3 s.Zi.Tables s.Zl.Version s.Zl.Tables s.Dependencies s.Inclusions (1) (by omega) (by omega) (g1.1) (g1.2.1) (g1.2.2.1) (g1.2.2.2)
 have m2:=λa0=>Zc1k a0 q.Zp q.Atoms (1+(Zb2 s.Zi.Tables:Int)+(Zce s.Zl.Tables:Int)+(Zdx s.Dependencies:Int)+(Ze0 s.Inclusions:Int)) (by omega) (by omega) (g2)
 have zk:¬(1+(Zb2 s.Zi.Tables:Int)+(Zce s.Zl.Tables:Int)+(Zdx s.Dependencies:Int)+(Ze0 s.Inclusions:Int)+(Zfd q.Atoms:Int)<0):=by omega
 have nq:LeQ q:=⟨by have:=g2.1;omega,λx hx=>by have:=(g2.2 x hx).2;omega⟩;have nd:LeD s.Zi:=⟨by have:=g1.1.1;omega,λt ht=>⟨by have:=(g1.1.2 t ht).2.1;omega,λr hr=>by have:=(g1.1.2 t ht).2.2 r hr;omega⟩⟩;have nk:LeK s.Zl:=⟨by have:=g1.2.1.1;omega,λx hx=>⟨by have:=(g1.2.1.2 x hx).2.1;omega,λy hy=>have k:=(g1.2.1.2 x hx).2.2 y hy;⟨by have:=k.1;omega,⟨by have:=k.2.1.1;omega,λr hr=>by have:=k.2.1.2 r hr;omega⟩,by have:=k.2.2;omega⟩⟩⟩;have nf:LeF s.Dependencies:=⟨by have:=g1.2.2.1.1;omega,λx hx=>by have:=(g1.2.2.1.2 x hx).2;omega⟩;have nx:Le s.Inclusions:=by have:=g1.2.2.2.1;omega
 have s0:=Zcw1 (s:=s) ⟨nd,nk,nf,nx⟩ nq;have s1:=Zcw0 (s:=s) ⟨nd,nk,nf,nx⟩ nq;have l1:=Zblb (s:=s) ⟨nd,nk,nf,nx⟩ nq;have l2:=Zb7t (s:=s) ⟨nd,nk,nf,nx⟩ nq;unfold Z5h at s0;unfold Z46 at s1;simp only[Zh.c_def,Zc.c_def,tI,tII,Yv,Ycy]at s0 s1;unfold bbR at s0 s1;rcases ft (okB s q)with ok|ok
 .rw[if_pos ok]at s0 s1;have m1':((lbsF s q).map Zcx).length<=16:=by rw[Yo];exact l1
  have m2':((ubsF s q).map Zcx).length<=16:=by rw[Yo];exact l2
  generalize (lbsF s q).map Zcx=lo at s0 s1 m1';generalize (ubsF s q).map Zcx=hi at s0 s1 m2';have sl:SmA lo:=by show _<=4294967296;omega
  have sh:SmA hi:=by show _<=4294967296;omega
  have v1:=λy0 y1=>c_eqBox lo hi y0 y1 sl sh
  have v2:=λa0 a1=>Zc1s a0 a1 lo hi 1 (by omega) (by omega) sl sh
  have v3:=Zc1u lo hi 1 (by omega) (by omega) sl sh;have z2:¬(1+(lo.length:Int)+(hi.length:Int)<0):=by omega
  simp only[tI]at v1 v2 v3;simp +decide[Zy4,e1,h1,e2,h2,t1,q1,t2,q2,m1,m2,zk,s0,s1,v1,v2,v3,z2]
 .rw[if_neg (by rw[ok];decide)]at s0 s1;have w3:=Zc1v 1 (by omega);simp +decide[Zy4,e1,h1,e2,h2,t1,q1,t2,q2,m1,m2,zk,s0,s1,Zc1w,Zc1t,w3]
end Go.Proofs.YtnnjbejcffjgfaaGreat
namespace Go.Proofs.YtnnjbejcffjgfaaGreat
open Go.RowKit Go.Lib
theorem dropEq{a b:List Int}{k:Nat}(h1:k<a.length)(h2:k<b.length):decide (a.drop k=b.drop k)=(decide (a[k]=b[k]) && decide (a.drop (k+1)=b.drop (k+1))):=by
 rw[Bool.eq_iff_iff];simp only[Bool.and_eq_true,decide_eq_true_eq];rw[List.drop_eq_getElem_cons h1,List.drop_eq_getElem_cons h2,List.cons.injEq]
theorem eq_walk(v1 v2:Value)(a b:List Int)(w:World)(h1:Zja w v1 a)(h2:Zja w v2 b)(c:a.length<2305843009213693952)(cc:b.length<2305843009213693952) :
  Calls Tryz.prog 249 #[v1,v2] w λe w'=>e=.returned (.bool (decide (a=b)))/\∃q,w'=w.drewN q:=by
 obtain⟨p1,c1,rfl,r1⟩:=h1;obtain⟨p2,c2,rfl,r2⟩:=h2;have mixed:Tryz.prog.follows Departure.mixedOrders=true:=by kernel_rfl
 by_cases hlen:a.length=b.length
 .obtain⟨n,hna⟩:∃n:Nat,a.length=n:=⟨_,rfl⟩;have hnb:b.length=n:=by omega
  rw[hna,hnb];have HN:Aside (a.length=n/\b.length=n):=⟨hna,hnb⟩;have hln:n<2305843009213693952:=by omega
  clear hna hnb hlen c cc;generalize hR:decide (a=b)=R;have HR:Aside (decide (a.drop 0=b.drop 0)=R):=hR;clear hR
  go_enter Tryz.func249,Tryz.ntmps249
  go_wp2
  go_loopg [5,13] n (λgg _ s13 wr=>∃kk q:Nat,kk<=n/\n-kk<=gg/\s13=.int .i64 kk/\wr=w.drewN q/\Aside (a.length=n/\b.length=n)/\Aside (decide (a.drop kk=b.drop kk)=R))
  case atStart=>exact⟨0,0,Nat.zero_le _,by omega,rfl,rfl,HN,HR⟩
  case round =>
   obtain⟨kk,q,hkk,hg,rfl,rfl,A,B⟩:=hrel;have hA:=A.out;obtain⟨hA1,hA2⟩:=hA;by_cases hltn:kk<n
   .have hltz:(kk:Int)<(n:Int):=by omega
    have hlta:kk<a.length:=by omega
    have hlt:kk<b.length:=by omega
    obtain⟨g1,o1,rfl,d1⟩:=r1 kk hlta;obtain⟨g2,o2,rfl,d2⟩:=r2 kk hlt;have S:Aside (decide (a.drop kk=b.drop kk)=(decide (a[kk]=b[kk]) && decide (a.drop (kk+1)=b.drop (kk+1)))):=by
     exact dropEq hlta hlt
    clear r1 r2 hA1 hA2;generalize a[kk]=x at d1 S;generalize b[kk]=y at d2 S;by_cases hz:x=y
    .subst hz
     go_wp2_with fail
     go_region_o
     go_wp2
     go_roundg (n-(kk+1))
     case measure=>omega
     case rel =>
      refine⟨kk+1,q+1,by omega,by omega,by go_num,rfl,A,(show Aside _ from ?_)⟩;have:=S.out;rw[B.out]at this;show decide (a.drop (kk+1)=b.drop (kk+1))=R;simpa using this.symm
    .have hr:R=false:=by rw[<-B.out,S.out];simp[hz]
     go_wp2_with fail
     go_region_o
     go_wp2
     go_ret
     exact⟨by subst hr;rfl,q+1,rfl⟩
   .have hltz:¬(kk:Int)<(n:Int):=by omega
    have hr:R=true:=by
     rw[<-B.out,show b.drop kk=[]from List.drop_of_length_le (by omega),show a.drop kk=[]from List.drop_of_length_le (by omega)];simp
    clear r1 r2 hA1 hA2
    go_wp2
    go_ret
    exact⟨by subst hr;rfl,q,rfl⟩
 .have hne:decide (a=b)=false:=by
   rw[decide_eq_false_iff_not];intro e;exact hlen (by rw[e])
  have hlz:¬(a.length:Int)=(b.length:Int):=by omega
  rw[hne];clear hne r1 r2
  go_enter Tryz.func249,Tryz.ntmps249
  go_wp2
  go_ret
  exact⟨rfl,0,rfl⟩
theorem eqf_walk(v1 v2:Value)(a b:List Int)(w:World)(h1:Zja w v1 a)(h2:Zja w v2 b)(c:a.length<2305843009213693952)(cc:b.length<2305843009213693952) :
  Calls Tryz.prog 279 #[v1,v2] w λe w'=>e=.returned (.bool (decide (a=b)))/\∃q,w'=w.drewN q:=by
 have hc:=eq_walk v1 v2 a b w h1 h2 c cc;generalize decide (a=b)=R at hc|-;obtain⟨p1,c1,rfl,r1⟩:=h1;obtain⟨p2,c2,rfl,r2⟩:=h2;clear r1 r2
 go_enter Tryz.func279,Tryz.ntmps279
 go_wp2_with (refine hc.mono ?_;rintro e w' ⟨rfl,q,rfl⟩)
 go_ret
 exact⟨rfl,q,rfl⟩
end Go.Proofs.YtnnjbejcffjgfaaGreat
namespace Go.Proofs.YtnnjbejcffjgfaaGreat
open Go.Sort
section
variable{α β:Type}[Inhabited α][DecidableEq β](f:α->β)
def nbk(p:α):List α->List α
 |[]=>[]
 |x::l=>if f x=f p then nbk x l else x::nbk x l
def nb:List α->List α
 |[]=>[]
 |x::l=>x::nbk f x l
omit [Inhabited α] in
theorem Zcau:∀(l:List α) (p y:α),nbk f p (l++[y])=nbk f p l++if f y=f (l.getLastD p)then[]else[y]
 |[],p,y=>by by_cases h:f y=f p<;>simp[nbk,h]
 |x::l,p,y=>by
  rw[List.cons_append,nbk,nbk,Zcau l x y,List.getLastD_cons];split<;>rfl
omit [Inhabited α] in
theorem nb_snoc:∀(l:List α) (p y:α),l≠[]->nb f (l++[y])=nb f l++if f y=f (l.getLastD p)then[]else[y]
 |[],p,y,h=>absurd rfl h
 |x::l,p,y,_=>by
  rw[List.cons_append,nb,nb,Zcau,List.getLastD_cons];rfl
omit [Inhabited α] in
theorem Zbl2:∀(l:List α) (p:α),(nbk f p l).Sublist l
 |[],p=>.slnil
 |x::l,p=>by
  rw[nbk];split
  .exact(Zbl2 l x).cons _
  .exact(Zbl2 l x).cons_cons _
omit [Inhabited α] in
theorem nb_sub:∀l:List α,(nb f l).Sublist l
 |[]=>.slnil
 |x::l=>(Zbl2 f l x).cons_cons _
theorem Z7k{l:List α}{m:Nat}(h0:0<m)(h:m<l.length):nb f (l.take (m+1))=nb f (l.take m)++if f l[m]! = f l[m-1]! then[]else[l[m]!]:=by
 have hl:(l.take m).getLastD default=l[m-1]:=by
  rw[List.getLastD_eq_getLast?,List.getLast?_take,if_neg (by omega),List.getElem?_eq_getElem (show m-1<l.length by omega)];rfl
 rw[List.take_succ_eq_append_getElem h,nb_snoc f _ default _ (by intro e;have:=congrArg List.length e;rw[List.length_take,List.length_nil]at this;omega),hl,getElem!_pos l m h,getElem!_pos l (m-1) (by omega)]
structure CInv (d:Array α) (m k:Nat) (e:Array α):Prop where
 len:(nb f (d.toList.take m)).length=k
 lt:k<m
 row:e.toList=nb f (d.toList.take m)++d.toList.drop k
omit [Inhabited α] in
theorem CInv.size{d e:Array α}{m k:Nat}(I:CInv f d m k e)(hm:m<=d.size):e.size=d.size:=by
 have h1:=I.lt;rw[<-Array.length_toList,I.row,List.length_append,I.len,List.length_drop,Array.length_toList];omega
theorem CInv.read{d e:Array α}{m k:Nat}(I:CInv f d m k e)(hm:m<=d.size){j:Nat}(hj:k<=j)(hd:j<d.size):e[j]! = d[j]!:=by
 have hs:=I.size f hm;have h:=I.len;have h2:e.toList[j]?=d.toList[j]?:=by
  rw[I.row,List.getElem?_append_right (by omega),List.getElem?_drop,h];congr 1;omega
 rw[getElem!_pos e j (by omega),getElem!_pos d j hd];rw[Array.getElem?_toList,Array.getElem?_toList,Array.getElem?_eq_getElem (by omega),Array.getElem?_eq_getElem hd]at h2;exact Option.some.inj h2
theorem Zlv(d:Array α)(j:Nat):d.toList[j]! = d[j]!:=by simp[Array.getElem!_eq_getD,Array.getD_eq_getD_getElem?]
theorem CInv.start{d:Array α}{k:Nat}(h0:0<k)(hk:k<d.size)(ha:nb f (d.toList.take k)=d.toList.take k)(he:f d[k]! = f d[k-1]!):CInv f d (k+1) k d:=by
 have h:=Z7k f h0 (show k<d.toList.length from hk);rw[Zlv,Zlv,if_pos he,List.append_nil,ha]at h;refine⟨?_,Nat.lt_succ_self _,?_⟩
 .rw[h,List.length_take,Array.length_toList];omega
 .rw[h,List.take_append_drop]
theorem CInv.skip{d e:Array α}{m k:Nat}(I:CInv f d m k e)(hm:m<d.size)(he:f d[m]! = f d[m-1]!):CInv f d (m+1) k e:=by
 have hl:=I.lt;have h:=Z7k f (show 0<m by omega) (show m<d.toList.length from hm);rw[Zlv,Zlv,if_pos he,List.append_nil]at h;exact⟨by rw[h];exact I.len,by omega,by rw[h];exact I.row⟩
theorem CInv.keep{d e:Array α}{m k:Nat}(I:CInv f d m k e)(hm:m<d.size)(he:¬f d[m]! = f d[m-1]!):CInv f d (m+1) (k+1) (e.setIfInBounds k d[m]!):=by
 have hl:=I.lt;have hn:=I.len;have h:=Z7k f (show 0<m by omega) (show m<d.toList.length from hm);rw[Zlv,Zlv,if_neg he]at h;refine⟨by rw[h,List.length_append,hn];rfl,by omega,?_⟩;rw[Array.toList_setIfInBounds,I.row,h,List.set_append_right _ _ (by omega),hn,Nat.sub_self,List.drop_eq_getElem_cons (show k<d.toList.length by rw[Array.length_toList];omega),List.set_cons_zero];simp
omit [Inhabited α] in
theorem CInv.fill{d e:Array α}{k:Nat}(I:CInv f d d.size k e)(z:α):(Lib.lay e k (List.replicate (d.size-k) z)).toList=nb f d.toList++List.replicate (d.size-k) z:=by
 have hs:=I.size f (Nat.le_refl _);have hl:=I.lt;have hr:=I.row;have hn:=I.len;rw[show d.toList.take d.size=d.toList from List.take_of_length_le (by simp)]at hr hn;apply List.ext_getElem?;intro j;rw[Array.getElem?_toList,Lib.lay_get? _ _ _ _ (by simp;omega),List.length_replicate];by_cases h1:j<k
 .rw[if_neg (by omega),List.getElem?_append_left (by omega),<-Array.getElem?_toList,hr,List.getElem?_append_left (by omega)]
 .rw[List.getElem?_append_right (by omega),hn];by_cases h2:j<d.size
  .rw[if_pos (by omega)]
  .rw[if_neg (by omega),Array.getElem?_eq_none (by omega),List.getElem?_eq_none (by simp;omega)]
theorem nb_next{d:Array α}{k:Nat}(h0:0<k)(hk:k<d.size)(ha:nb f (d.toList.take k)=d.toList.take k)(he:¬f d[k]! = f d[k-1]!):nb f (d.toList.take (k+1))=d.toList.take (k+1):=by
 have h:=Z7k f h0 (show k<d.toList.length from hk);rw[Zlv,Zlv,if_neg he,ha]at h;rw[h,List.take_succ_eq_append_getElem (show k<d.toList.length from hk)];simp[getElem!_pos,hk]
omit [Inhabited α] in
theorem nb_one{d:Array α}(h:d.size<=1):nb f d.toList=d.toList:=by
 obtain⟨l⟩:=d
 match l with
 |[]=>rfl
 |[a]=>rfl
 |a::b::l=>simp at h
omit [Inhabited α] in
theorem nb_one1(d:Array α):nb f (d.toList.take 1)=d.toList.take 1:=by
 obtain⟨l⟩:=d
 cases l with
 |nil=>rfl
 |cons a l=>simp[nb,nbk]
end
theorem nb_cpt{α:Type}(f:α->List Int):∀l:List α,(nb f l).map f=cptR (l.map f)
 |[]=>rfl
 |[a]=>rfl
 |a::b::l=>by
  have ih:=nb_cpt f (b::l);rw[nb]at ih;rw[nb,nbk,List.map_cons,List.map_cons,List.map_cons,cptR];rw[List.map_cons,List.map_cons]at ih;by_cases e:f b=f a
  .rw[if_pos e,if_pos e.symm,<-ih,e]
  .rw[if_neg e,if_neg (λh=>e h.symm),<-ih];rfl
end Go.Proofs.YtnnjbejcffjgfaaGreat
namespace Go.Proofs.YtnnjbejcffjgfaaGreat
open Go.RowKit Go.AM Go.Lib Go.Sort
theorem Zcav{α:Type}[Inhabited α](enc:α->Value)(w:World)(c off n:Nat)(d:Array α){k:Nat}(cc:k≠c):(putRow enc (Sort.ahead w n) c off d).heap[k]?=w.heap[k]?:=by
 show(w.heap.modify c (onCells (putCells enc off d)))[k]?=_;rw[Yc9,if_neg (Ne.symm cc)]
theorem Z7l{w:World}{g q n:Nat}{d:Array (El w g)}:(putRow El.enc (Sort.ahead w q) g 0 d).drewN n=putRow El.enc (Sort.ahead w (q+n)) g 0 d:=by
 simp[putRow,mapBlock,Sort.ahead,World.drewN,Ycw]
theorem Zcaw{w wr:World}{g:Nat}(c:∀k,k≠g->wr.heap[k]?=w.heap[k]?)(x y:El w g)(n:Nat) :
  Calls Tryz.prog 279 #[x.enc,y.enc] (wr.drewN n) λr w'=>r=.returned (.bool (decide (x.row=y.row)))/\∃p,w'=(wr.drewN n).drewN p:=by
 have hx:=Z51 (W:=wr.drewN n) x.2.1 λk hk=>c k (x.2.2.1 k hk)
 have hy:=Z51 (W:=wr.drewN n) y.2.1 λk hk=>c k (y.2.2.1 k hk)
 have h4:=x.2.2.2;have h5:=y.2.2.2;exact eqf_walk x.enc y.enc x.row y.row _ hx hy (by unfold El.row;omega) (by unfold El.row;omega)
theorem El.one{w:World}{g:Nat}(x:El w g):x.enc.oneCell'=true:=x.2.1.one
theorem put_at{w w':World}{g q kk:Nat}{dk:Array (El w g)}{z:El w g}{x:Value}(hk:kk<dk.size)(hw:w'=putRow El.enc (Sort.ahead w q) g 0 dk)(hx:El.enc z=x):w'.setCell ⟨g,kk,none⟩ x=putRow El.enc (Sort.ahead w q) g 0 (dk.setIfInBounds kk z):=by
 subst hw;subst hx;have:=putRow_set El.enc (Sort.ahead w q) g 0 dk kk z hk
 rwa [Yu]at this
theorem put_end{w wr:World}{g q kk:Nat}{d dk:Array (El w g)}(f:El w g->List Int)(I:CInv f d d.size kk dk)(z:El w g)(hw:wr=putRow El.enc (Sort.ahead w q) g 0 dk):wr.setCells g kk (List.replicate (d.size-kk) z.enc)=putRow El.enc (Sort.ahead w q) g 0 (nb f d.toList++List.replicate (d.size-kk) z).toArray:=by
 subst hw;have hs:=I.size f (Yk _);have hl:=I.lt;have:=putRow_setCells El.enc (Sort.ahead w q) g 0 (List.replicate (d.size-kk) z) dk kk (by simp;omega);rw[Yu,Yc5]at this;rw[this];congr 1;rw[<-I.fill f z]
theorem cpt_nil(w:World):Calls Tryz.prog 278 #[.slice none 0 0,.func (.func 279) #[] #[]] w λe w'=>e=.returned (.slice none 0 0)/\w'=w:=by
 have mixed:Tryz.prog.follows Departure.mixedOrders=true:=by kernel_rfl
 go_enter Tryz.func278,Tryz.ntmps278
 go_wp2
 go_ret
 exact⟨rfl,rfl⟩
theorem cpt_walk{w:World}{g:Nat}(cap:Nat)(d:Array (El w g))(hH:Holds El.enc w g 0 d)(cc:d.size<=4096)(c:d.size<=cap) :
  Calls Tryz.prog 278 #[.slice (some ⟨g,0,none⟩) d.size cap,.func (.func 279) #[] #[]] w λe w'=>e=.returned (.slice (some ⟨g,0,none⟩) (nb El.row d.toList).length cap)/\
   ∃q,w'=putRow El.enc (Sort.ahead w q) g 0 (nb El.row d.toList++List.replicate (d.size-(nb El.row d.toList).length) default).toArray:=by
 have mixed:Tryz.prog.follows Departure.mixedOrders=true:=by kernel_rfl
 have HS:Aside (∀q,nb El.row d.toList=d.toList->(nb El.row d.toList).length=d.size/\putRow El.enc (Sort.ahead w q) g 0 d=putRow El.enc (Sort.ahead w q) g 0 (nb El.row d.toList++List.replicate (d.size-(nb El.row d.toList).length) default).toArray):=by
  intro q e;rw[e];simp
 have HH:Aside (Holds El.enc w g 0 d):=hH;clear hH;by_cases h2:d.size<2
 .go_enter Tryz.func278,Tryz.ntmps278
  go_wp2
  go_ret
  obtain⟨e1,e2⟩:=HS.out 0 (nb_one El.row (by omega));refine⟨by rw[e1];rfl,0,?_⟩;rw[<-e2];exact(putRow_self El.enc w g 0 d HH.out).symm
 .go_enter Tryz.func278,Tryz.ntmps278
  go_wp2
  go_loopg [5] d.size (λgg s5 wr=>∃k q:Nat,1<=k/\k<=d.size/\d.size-k<=gg/\s5=.int .i64 k/\Aside (wr=putRow El.enc (Sort.ahead w q) g 0 d)/\Aside (nb El.row (d.toList.take k)=d.toList.take k))
  case atStart=>exact⟨1,0,Yk _,by omega,by omega,rfl,(putRow_self El.enc w g 0 d HH.out).symm,nb_one1 El.row d⟩
  case round =>
   obtain⟨k,q,hk1,hk,hg,rfl,W,A⟩:=hrel;by_cases hlt:k<d.size
   .have hHk:Holds El.enc wr g 0 d:=by rw[W.out];exact holds_putRow El.enc _ g 0 d d (holds_ahead El.enc w q g 0 d HH.out) rfl
    obtain⟨kp,rfl⟩:∃kp,k=kp+1:=⟨k-1,by omega⟩;obtain⟨c1,f1⟩:=hHk (kp+1) hlt;obtain⟨c0,f0⟩:=hHk kp (by omega);have hcall:=Zcaw (w:=w) (wr:=wr) (g:=g) (λk hk=>by rw[W.out];exact Zcav _ _ _ _ _ _ hk) d[kp+1]! d[kp]!;simp only[Yu]at c1 c0 f1 f0;clear hHk;have hwp:IntKind.i64.wrap (kp:Int)=(kp:Int):=by rw[IntKind.wrap_i64];omega
    have jz:(kp:Int)+1<(d.size:Int):=by omega
    have jz1:(kp:Int)<(d.size:Int):=by omega
    have p0:(0:Int)<=(kp:Int)+1:=by omega
    have e0:((kp:Int)+1).toNat=kp+1:=by omega
    generalize El.enc d[kp+1]! = x at c1 hcall;generalize El.enc d[kp]! = y at c0 hcall;by_cases hdup:El.row d[kp+1]! = El.row d[kp]!
    .rw[decide_eq_true hdup]at hcall;have DD:Aside (El.row d[kp+1]! = El.row d[kp]!):=hdup;clear hdup
     go_wp2_with fail
     go_quiet (refine Calls.quiet_of (hcall _))
     go_wp2_with fail
     have W3:Aside (wr.drewN nq=putRow El.enc (Sort.ahead w (q+nq)) g 0 d):=by show _=_;rw[W.out,Z7l]
     clear hcall c0 c1 f0 f1;generalize wr.drewN nq=wz at W3|-
     go_loopg [5,7] d.size (λgg s5 s7 wr=>∃(kk k2 q2:Nat) (dk:Array (El w g)),s5=.int .i64 kk/\s7=.int .i64 k2/\1<=k2/\kp+1+k2<=d.size/\d.size-(kp+1+k2)<=gg/\Aside (wr=putRow El.enc (Sort.ahead w q2) g 0 dk)/\Aside (CInv El.row d (kp+1+k2) kk dk))
     case atStart=>exact⟨kp+1,1,q+nq,d,rfl,rfl,Yk _,by omega,by omega,W3,CInv.start El.row (by omega) hlt A.out DD.out⟩
     case round =>
      clear W W3;obtain⟨kk,k2,q2,dk,rfl,rfl,h1,hle,hg2,W2,I2⟩:=hrel;have hkk:=I2.out.lt;have hds:=I2.out.size El.row hle;have hHk:Holds El.enc wr g 0 dk:=by rw[W2.out];exact holds_putRow El.enc _ g 0 d dk (holds_ahead El.enc w q2 g 0 d HH.out) hds
      obtain⟨kz,rfl⟩:∃kz,k2=kz+1:=⟨k2-1,by omega⟩;by_cases hlt2:kp+1+(kz+1)<d.size
      .obtain⟨cm,_⟩:=hHk (kp+1+(kz+1)) (by omega);obtain⟨cp,_⟩:=hHk (kp+1+kz) (by omega);obtain⟨ck,fk⟩:=hHk kk (by omega);rw[I2.out.read El.row hle (by omega) hlt2,Yu]at cm;rw[I2.out.read El.row hle (by omega) (by omega),Yu]at cp;rw[Yu]at ck fk;clear hHk;have hcall:=Zcaw (w:=w) (wr:=wr) (g:=g) (λk hk=>by rw[W2.out];exact Zcav _ _ _ _ _ _ hk) d[kp+1+(kz+1)]! d[kp+1+kz]!;have st:∀a m w1,_:=λa m w1=>run_store Tryz.prog w1 a (El.enc d[kp+1+(kz+1)]!) m (El.one _)
       obtain⟨x,hx⟩:∃x,El.enc d[kp+1+(kz+1)]! = x:=⟨_,rfl⟩;have cl:=OneCell.cells (enc:=El.enc) El.one d[kp+1+(kz+1)]!;rw[hx]at cm hcall st cl;simp only[Value.cells]at cl;have XE:Aside (El.enc d[kp+1+(kz+1)]! = x):=hx;clear hx;generalize El.enc d[kp+1+kz]! = y at cp hcall;generalize El.enc dk[kk]! = old at ck;have jz:(kz:Int)+1<((d.size-(kp+1):Nat):Int):=by omega
       have jz1:(kz:Int)<((d.size-(kp+1):Nat):Int):=by omega
       have hwz:IntKind.i64.wrap (kz:Int)=(kz:Int):=by rw[IntKind.wrap_i64];omega
       have q0:(0:Int)<=(kz:Int)+1:=by omega
       have r0:((kz:Int)+1).toNat=kz+1:=by omega
       have kkz:(kk:Int)<(d.size:Int):=by omega
       by_cases hdup2:El.row d[kp+1+(kz+1)]! = El.row d[kp+1+kz]!
       .rw[decide_eq_true hdup2]at hcall;have D2:Aside (El.row d[kp+1+(kz+1)]! = El.row d[kp+1+kz]!):=hdup2;clear hdup2
        go_wp2_with fail
        go_quiet (refine Calls.quiet_of (hcall _))
        go_wp2
        go_roundg (d.size-(kp+1+(kz+1+1)))
        case measure=>omega
        case rel=>exact⟨kk,kz+1+1,q2+nq,dk,rfl,by go_num,by omega,by omega,Yk _,(show Aside _ from by show _=_;rw[W2.out,Z7l]),I2.out.skip El.row hlt2 D2.out⟩
       .rw[decide_eq_false hdup2]at hcall;have D2:Aside (¬El.row d[kp+1+(kz+1)]! = El.row d[kp+1+kz]!):=hdup2;clear hdup2
        go_wp2_with fail
        go_quiet (refine Calls.quiet_of (hcall _))
        go_wp2_with fail
        have W4:Aside (wr.drewN nq=putRow El.enc (Sort.ahead w (q2+nq)) g 0 dk):=by show _=_;rw[W2.out,Z7l]
        clear hcall cm cp ck fk;generalize wr.drewN nq=wq at W4|-
        go_roundg (d.size-(kp+1+(kz+1+1)))
        case measure=>omega
        case rel=>exact⟨kk+1,kz+1+1,q2+nq,dk.setIfInBounds kk d[kp+1+(kz+1)]!,by go_num,by go_num,by omega,by omega,Yk _,(show Aside _ from put_at (by omega) W4.out XE.out),I2.out.keep El.row hlt2 D2.out⟩
      .have hend:kp+1+(kz+1)=d.size:=by omega
       have jz:¬(kz:Int)+1<((d.size-(kp+1):Nat):Int):=by omega
       have kkz:(kk:Int)<=(d.size:Int):=by omega
       have hcl:∀ty,(Builtin.clear_ #[132] ty #[.slice (some ⟨g,kk,none⟩) (d.size-kk) (cap-kk)]).run Tryz.prog wr=.ok (.tuple #[]) (wr.setCells g kk (List.replicate (d.size-kk) (.slice none 0 0))) :=
        λty=>Lib.run_clear_slice wr _ _ ty _ Tryz.underlying132 Tryz.zeroValue56 rfl rfl g kk _ _ (by omega) (λj hj=>by have:=(hHk (kk+j) (by omega)).1;rw[Yu]at this;rw[this];rfl) (λj hj=>by have:=(hHk (kk+j) (by omega)).2;rw[Yu]at this;exact this)
       clear hHk
       go_wp2
       go_ret
       have hI:=I2.out;rw[hend]at hI;have hlen:=hI.len;rw[show d.toList.take d.size=d.toList from Ycf (by simp)]at hlen;exact⟨by rw[hlen];rfl,q2,by rw[hlen];exact put_end El.row hI default W2.out⟩
    .rw[decide_eq_false hdup]at hcall;have DD:Aside (¬El.row d[kp+1]! = El.row d[kp]!):=hdup;clear hdup
     go_wp2_with fail
     go_quiet (refine Calls.quiet_of (hcall _))
     go_wp2
     go_roundg (d.size-(kp+1+1))
     case measure=>omega
     case rel=>exact⟨kp+1+1,q+nq,by omega,by omega,Yk _,by go_num,(show Aside _ from by show _=_;rw[W.out,Z7l]),nb_next El.row (by omega) hlt A.out DD.out⟩
   .have hk2:k=d.size:=by omega
    have hltz:¬(k:Int)<(d.size:Int):=by omega
    go_wp2
    go_ret
    obtain⟨e1,e2⟩:=HS.out q (by have:=A.out;rw[hk2,show d.toList.take d.size=d.toList from Ycf (by simp)]at this;exact this);exact⟨by rw[e1];rfl,q,by rw[<-e2];exact W.out⟩
end Go.Proofs.YtnnjbejcffjgfaaGreat
namespace Go.Proofs.YtnnjbejcffjgfaaGreat
open Go.RowKit Go.AM Go.Lib Go.Sort
theorem Zcax{N:Par}{base:Nat}{ρ:Map}{w w':World}{el sz:Nat}{fr:Bool}(R:Rel N base ρ [.arr el sz fr []] w){r:Root}(hr:ρ 0=some r)(c:∀b,1<=b->ρ b=none)(cc:w.grownBy w' none) :
  Rel N base (updM ρ 1 ⟨.slice none 0 0,[],[]⟩) [.dead,.arr el sz fr []] w'/\
   Keeps ρ w (Free N ρ [.arr el sz fr []]) (updM ρ 1 ⟨.slice none 0 0,[],[]⟩) w' (Free N (updM ρ 1 ⟨.slice none 0 0,[],[]⟩) [.dead,.arr el sz fr []])/\
   ∀g,g<w.heap.size->¬N.a g->w'.heap[g]?=w.heap[g]?:=by
 have hb:gt [Blk.arr el sz fr []] 0=.arr el sz fr []:=by simp[gt]
 have hd:gt [Blk.arr el sz fr []] 0≠.dead:=by rw[hb];intro hc;cases hc
 obtain⟨r1,h1,h2⟩:=R.blk 0 hd;rw[hr]at h1;cases h1;rw[hb]at h2;obtain⟨hex,e2,xs,hel,ho,hsz,hlen,htr,hfree,hfr,how⟩:=h2;have hup:upd [Blk.arr el sz fr []] (kill [0]++[(1,.arr el sz fr [])])=[.dead,.arr el sz fr []]:=by simp[upd,kill,stB]
 have hp:=Zhf R (n:=1) (ks:=[0]) (x:=.arr el sz fr []) (r:=⟨.slice none 0 0,[],[]⟩) (row:=none) (w':=w')
  (by intro r0 h0;rw[c 1 (Yk _)]at h0;cases h0) cc
  (by intro g' hg';cases hg') (by intro g' hg';cases hg')
  (λhk=>⟨rfl,e2,[],hel,⟨by simp,.inl ⟨rfl,rfl⟩⟩,hsz,(by intro x hx;cases hx),.nil,(by intro x hx;cases hx),λ_=>⟨.nil,by intro x hx;cases hx⟩,λ_=>.nil⟩)
  (by intro _ x hx;cases hx)
 rw[hup]at hp;exact hp
theorem Zcay{α:Type}[Inhabited α](enc:α->Value)(w:World)(c off n:Nat)(d:Array α){k:Nat}(cc:k≠c):(putRow enc (Sort.ahead w n) c off d).heap[k]?=w.heap[k]?:=by
 show(w.heap.modify c (onCells (putCells enc off d)))[k]?=_;rw[Yc9,if_neg (Ne.symm cc)]
theorem Zcaz{α:Type}[Inhabited α](enc:α->Value)(w:World)(cc off n:Nat)(d:Array α){c:Array Value}{e:TypeId}{fz:Nat×Nat}(hg:w.heap[cc]?=some (.cells c e fz)):(putRow enc (Sort.ahead w n) cc off d).heap[cc]?=some (.cells (putCells enc off d c) e fz):=by
 show(w.heap.modify cc (onCells (putCells enc off d)))[cc]?=_;rw[Yc9,if_pos rfl,hg];rfl
theorem Zc1x{fr:Bool}{rows:List (List Int)}(cd:rows.length<=4096)(cc:∀r∈rows,r.length<=4) :
  Zbr Tryz.prog 278 [.own 0,.fn 279 []] [.arr 56 1 fr (rows.map isc)] (.own 1) [.dead,.arr 56 1 fr ((cptR rows).map isc)]:=by
 refine⟨by decide +kernel,?_⟩;intro N base w ρ vs R hdom hv hz;obtain⟨l⟩:=vs;simp only at hv
 cases hv with|cons q0 hv =>
 cases hv with|cons q1 hv =>
 cases hv
 cases q0 with|own hr h1 =>
 rename_i r
 cases q1 with|fn q1 =>
 rename_i c;obtain⟨c⟩:=c;simp only at q1;cases q1;have hb:gt [Blk.arr 56 1 fr (rows.map isc)] 0=.arr 56 1 fr (rows.map isc):=by simp[gt]
 have hd0:gt [Blk.arr 56 1 fr (rows.map isc)] 0≠.dead:=by rw[hb];intro hc;cases hc
 obtain⟨r2,e1,e2⟩:=R.blk 0 hd0;rw[hr]at e1;cases e1;rw[hb]at e2;obtain⟨hex,e',xs,hel,ho,hsz,hlen1,htr,hfree,hfr,how⟩:=e2;obtain⟨hxl,ho⟩:=ho;have hdom1:∀b,1<=b->ρ b=none:=by intro b hb;exact hdom b (by simpa using hb)
 rcases ho with⟨hrv,hn⟩|⟨g,cap,cur,hrv,hbg,hg,hcap,hcm,hcur,htake⟩
 .have hn:rows=[]:=by simpa using hn
  subst hn;rw[hrv];refine(cpt_nil w).mono ?_;rintro e w' ⟨rfl,rfl⟩;obtain⟨p1,p2,p3⟩:=Zcax R hr hdom1 (w':=w') ⟨rfl,rfl,rfl,Yk _,λ_ _ _=>rfl⟩;refine⟨_,_,rfl,Below.refl _ _,p1,.own (b:=1) (r:=⟨.slice none 0 0,[],[]⟩) (by simp[updM]) rfl,λb hb=>?_,by simp,p3,λk hk hzz=>p2.free k hk (hz k hzz),λb r0 hb h0=>p2.root b r0 h0⟩;simp only[updM];rw[if_neg (by simp at hb;omega)];exact hdom1 b (by simp at hb;omega)
 obtain⟨zs,hzx,hch⟩:=Ch.of htr;obtain⟨l,p1,p2,p3,p4⟩:=hch.zip;have hblk:Zbj r.v=some g:=by rw[hrv];rfl
 have hfg:∀x∈r.fp,x≠g:=λx hx e=>by
  subst e;exact(hfree x hx).2 0 r hr hd0 (.inl hblk)
 have hgs:g<w.heap.size:=(Yby.1 hg).1
 obtain⟨L,hL⟩:=El.list (w:=w) (g:=g) l (by
  intro p hp;have hm:p.1∈rows.map isc:=by rw[<-p1];exact Yr.2 ⟨p,hp,rfl⟩
  obtain⟨r0,hr0,e0⟩:=Yr.1 hm;have ht:=p4 p hp;rw[<-e0]at ht;obtain⟨q,hq⟩:=el_of (g:=g) ht (λx hx=>hfg x (by rw[<-p3];exact Yco.2 ⟨p.2.2,Yr.2 ⟨p,hp,rfl⟩,hx⟩)) (cc r0 hr0)
  exact⟨q,by rw[hq,e0]⟩)
 subst hL;have hrows:L.map El.row=rows:=by
  have:(L.map El.row).map isc=rows.map isc:=by rw[<-p1];simp[El.t3]
  exact(Yda (λa b h=>Zbj0 h)).1 this
 have hLl:L.length=rows.length:=by rw[<-hrows,Yo]
 have henc:L.map El.enc=cur.toList.take ((rows.map isc).length*1):=by
  rw[htake,<-hzx,<-p2,Z54]
 have hcell:Holds El.enc w g 0 L.toArray:=by
  intro j hj;have hj':j<L.length:=by simpa using hj
  have h2:cur[j]?=some (L[j].enc):=by
   have h3:(cur.toList.take ((rows.map isc).length*1))[j]?=some (L[j].enc):=by rw[<-henc,Ybh,Yj hj'];rfl
   rw[Yca,if_pos (by simp;omega)]at h3;simpa using h3
  refine⟨?_,?_⟩
  .unfold World.cell?;rw[hg];simp[h2,hj']
  .simp[World.frozen?,hg]
 have hcall:=cpt_walk (w:=w) (g:=g) cap L.toArray hcell (by simp;omega) (by simp at hcap|-;omega);rw[hrv,show(rows.map isc).length=L.toArray.size by simp[hLl]];refine hcall.mono ?_;rintro e w' ⟨rfl,q,rfl⟩;have hsub:=nb_sub El.row L;have hnl:(nb El.row L).length<=L.length:=hsub.length_le;have hgr:w.grownBy (putRow El.enc (Sort.ahead w q) g 0 (nb El.row L++List.replicate (L.length-(nb El.row L).length) default).toArray) (some g) :=
  ⟨rfl,rfl,rfl,by show w.heap.size<=(w.heap.modify g _).size;simp,λk hk hne=>Zcay _ _ _ _ _ _ (by intro e;exact hne (by rw[e]))⟩
 obtain⟨P1,P2,P3⟩:=Zboy R hr hdom1 hrv hg p1 (by rw[p2,hzx,htake]) p3 p4 (hsub.map El.t3) (zr:=List.replicate (L.length-(nb El.row L).length) (El.enc (default:El w g))) (by simp[hLl]) ⟨_,Zcaz _ _ _ _ _ _ hg,by
  rw[Z53 _ _ _ (by simp at hcap|-;omega),Z54];simp only[Y0,Yc5,Ycv,Ys,Ybu,Yo]
  rw[show(nb El.row L).length+(L.length-(nb El.row L).length)=rows.length*1 by omega]⟩ hgr
 rw[Zb4y,nb_cpt,hrows,Yo]at P1 P2;have hln:(nb El.row L.toArray.toList).length=(nb El.row L).length:=rfl;refine⟨_,_,rfl,⟨hgr.os,hgr.tape,hgr.output,hgr.size,λk hk=>hgr.block k (Yb8 hk R.hb) (by intro e;cases e;omega)⟩,P1,.own (b:=1) (r:=⟨.slice (some ⟨g,0,none⟩) (nb El.row L).length cap,(((nb El.row L).map El.t3).map (·.2.2)).flatten,[]⟩) (by unfold updM;rw[if_pos rfl]) rfl,λb hb=>?_,by simp,P3,λk hk hzz=>P2.free k hk (hz k hzz),λb r0 hb h0=>P2.root b r0 h0⟩;simp only[updM];rw[if_neg (by simp at hb;omega)];exact hdom1 b (by simp at hb;omega)
end Go.Proofs.YtnnjbejcffjgfaaGreat
namespace Go.Proofs.YtnnjbejcffjgfaaGreat
open Go.RowKit Go.AM Go.Lib Go.Sort
def Zca0:Prop:=∀(blk off cap:Nat) (zs:List Int) (w:World),Holds (Value.int .i64) w blk off zs.toArray->blk<w.heap.size->zs.length<4611686018427387904->
 Calls Tryz.prog 251 #[.slice (some ⟨blk,off,none⟩) zs.length cap] w λe w'=>e=.returned (.tuple #[])/\∃n os,w'=grow (putRow (Value.int .i64) (Sort.ahead w n) blk off (zs.mergeSort λx y=>decide (x<=y)).toArray) os
def Zca1:Prop:=∀(p:Option Addr) (cap:Nat) (w:World),Calls Tryz.prog 251 #[.slice p 0 cap] w λe w'=>e=.returned (.tuple #[])/\w'=w
def Zca2:Prop:=∀(blk off cap:Nat) (zs:List Int) (w:World),Holds (Value.int .i64) w blk off zs.toArray->zs.length<=9223372036854775807->zs.length<=cap->
 Calls Tryz.prog 252 #[.slice (some ⟨blk,off,none⟩) zs.length cap] w λe w'=>e=.returned (.slice (some ⟨blk,off,none⟩) (Lib.compact zs).length cap)/\∃q,w'=putRow (Value.int .i64) (Sort.ahead w q) blk off (Lib.compact zs++List.replicate (zs.length-(Lib.compact zs).length) 0).toArray
def Zca3:Prop:=∀(a:Option Addr) (cap:Nat) (w:World),Calls Tryz.prog 252 #[.slice a 0 cap] w λe w'=>e=.returned (.slice a 0 cap)/\w'=w
def tri(z:Int):List T×List Value×List Nat:=(ic z,[Value.int .i64 z],[])
theorem Zbl3{w:World}:∀{r:List Int} {vs:List Value} {fp:List Nat},TRs w (r.map ic).flatten vs fp->vs=r.map (Value.int .i64)/\fp=[]
 |[],vs,fp,h=>by cases h;exact⟨rfl,rfl⟩
 |x::r,vs,fp,h=>by
  rw[Yv,Y8]at h;change TRs w (T.int .i64 x::(r.map ic).flatten) vs fp at h
  cases h with
  |cons h hs =>
   cases h;obtain⟨e1,e2⟩:=Zbl3 hs;subst e1;subst e2;exact⟨rfl,rfl⟩
theorem tri1(l:List Int):(l.map tri).map (·.1)=l.map ic:=by simp[tri]
theorem tri2(l:List Int):((l.map tri).map (·.2.1)).flatten=l.map (Value.int .i64):=by
 induction l with
 |nil=>rfl
 |cons x l ih=>simp only[Yv,Y8];rw[ih];rfl
theorem tri3(l:List Int):((l.map tri).map (·.2.2)).flatten=[]:=by
 induction l with
 |nil=>rfl
 |cons x l ih=>simp only[Yv,Y8];rw[ih];rfl
theorem tri4{w:World}(l:List Int):∀p∈l.map tri,TRs w p.1 p.2.1 p.2.2:=by
 intro p hp;obtain⟨z,-,rfl⟩:=Yr.1 hp;exact TRs.cons (TR.int _ _) TRs.nil
theorem kp_cons{a b:Int}{l:List Int}(j:Nat):keeps (a::b::l).toArray (j+2)=keeps (b::l).toArray (j+1):=by
 unfold keeps;simp
theorem Zca4:∀l:List Int,Lib.compact l=cptI l
 |[]=>rfl
 |[a]=>by simp[Lib.compact,compactUpTo,keeps,cptI,Ybs]
 |a::b::l=>by
  have ih:=Zca4 (b::l);have e:∀(c:Int) (m:List Int),Lib.compact (c::m)=c::((List.range m.length).filter λj=>keeps (c::m).toArray (j+1)).map λj=>(c::m).toArray[j+1]!:=by
   intro c m;unfold Lib.compact compactUpTo;rw[Yw,List.range_succ_eq_map,Ycu,if_pos (by simp[keeps]),Yv,List.filter_map,List.map_map];rfl
  rw[e,Yw,List.range_succ_eq_map,Ycu,cptI];rw[e]at ih;have h0:keeps (a::b::l).toArray (0+1)=decide (¬a=b):=by
   unfold keeps;by_cases h:a=b
   .simp[h]
   .simp[h,Ne.symm h]
  have hf:(List.map Nat.succ (List.range l.length)).filter (λj=>keeps (a::b::l).toArray (j+1))=((List.range l.length).filter λj=>keeps (b::l).toArray (j+1)).map Nat.succ:=by
   rw[List.filter_map];congr 1;exact List.filter_congr λj _=>kp_cons j
  have hm:((List.map Nat.succ (List.range l.length)).filter (λj=>keeps (a::b::l).toArray (j+1))).map (λj=>(a::b::l).toArray[j+1]!)=((List.range l.length).filter λj=>keeps (b::l).toArray (j+1)).map λj=>(b::l).toArray[j+1]!:=by
   rw[hf,List.map_map];refine Ybw λj _=>?_
   simp
  by_cases h:a=b
  .rw[if_pos h,if_neg (by rw[h0];simp[h]),hm,<-ih,h]
  .rw[if_neg h,if_pos (by rw[h0];simp[h]),Yv,hm,<-ih];rfl
theorem Zbl4:∀l:List Int,(cptI l).Sublist l
 |[]=>.slnil
 |[a]=>List.Sublist.refl _
 |a::b::l=>by
  unfold cptI;split
  .exact(Zbl4 (b::l)).cons _
  .exact(Zbl4 (b::l)).cons_cons _
theorem Zca5{w:World}{g:Nat}{zs:List Int}{cur:Array Value}{e:TypeId}(hg:w.heap[g]?=some (.cells cur e (0,0)))(ht:cur.toList.take zs.length=zs.map (Value.int .i64)):Holds (Value.int .i64) w g 0 zs.toArray:=by
 intro j hj;have hj':j<zs.length:=by simpa using hj
 have h2:cur[j]?=some (.int .i64 zs[j]):=by
  have h3:(cur.toList.take zs.length)[j]?=some (.int .i64 zs[j]):=by rw[ht,Ybh,Yj hj'];rfl
  rw[Yca,if_pos hj']at h3;simpa using h3
 refine⟨?_,?_⟩
 .unfold World.cell?;rw[hg];simp[h2,hj']
 .simp[World.frozen?,hg]
theorem Zc1y(K:Zca0)(K0:Zca1){fr:Bool}{zs:List Int}(c:zs.length<=4096) :
  Zbr Tryz.prog 251 [.own 0] [.arr 3 1 fr (zs.map ic)] (.tup []) [.arr 3 1 fr ((srtI zs).map ic)]:=by
 refine⟨by decide +kernel,?_⟩;intro N base w ρ vs R hdom hv hz;obtain⟨l⟩:=vs;simp only at hv
 cases hv with|cons q0 hv =>
 cases hv
 cases q0 with|own hr h1 =>
 rename_i r;have hb:gt [Blk.arr 3 1 fr (zs.map ic)] 0=.arr 3 1 fr (zs.map ic):=by simp[gt]
 have hd0:gt [Blk.arr 3 1 fr (zs.map ic)] 0≠.dead:=by rw[hb];intro hc;cases hc
 obtain⟨r2,e1,e2⟩:=R.blk 0 hd0;rw[hr]at e1;cases e1;rw[hb]at e2;obtain⟨hex,e',xs,hel,ho,hsz,hlen1,htr,hfree,hfr,how⟩:=e2;obtain⟨hxl,ho⟩:=ho;rcases ho with⟨hrv,hn⟩|⟨g,cap,cur,hrv,hbg,hg,hcap,hcm,hcur,htake⟩
 .have hn:zs=[]:=by simpa using hn
  subst hn;rw[hrv];refine(K0 none 0 w).mono ?_;rintro e w' ⟨rfl,rfl⟩;exact⟨_,ρ,rfl,Below.refl _ _,by simpa[srtI]using R,.tup .nil,hdom,by simp,λ_ _ _=>rfl,λg hg hzz=>⟨by simpa[srtI]using hz g hzz,rfl⟩,λb r0 _ h=>⟨r0,h,rfl⟩⟩
 obtain⟨hx1,hx2⟩:=Zbl3 htr;have hgs:g<w.heap.size:=(Yby.1 hg).1;have hzl:(zs.map ic).length*1=zs.length:=by simp
 have htk:cur.toList.take zs.length=zs.map (Value.int .i64):=by rw[<-hzl,htake,hx1]
 have hcall:=K g 0 cap zs w (Zca5 hg htk) hgs (by omega);rw[hrv,show(zs.map ic).length=zs.length by simp];refine hcall.mono ?_;rintro e w' ⟨rfl,n,os,rfl⟩;have hgr:w.grownBy (sortWorld (Value.int .i64) w g 0 n (srtI zs).toArray os) (some g):=⟨rfl,rfl,rfl,by show w.heap.size<=((w.heap.modify g _)++os).size;simp,λk hk hne=>Z52 _ _ _ _ _ _ _ hk (by intro e;exact hne (by rw[e]))⟩;have hperm:(srtI zs).Perm zs:=Yct _ _;have hsl:(srtI zs).length=zs.length:=hperm.length_eq
 obtain⟨P1,P2,P3⟩:=Zbox R hr (by intro b hb;exact hdom b (by simpa using hb)) hrv hg (tri1 zs) (by rw[tri2,hzl,htk]) (by rw[tri3,hx2]) (tri4 zs) (hperm.map tri) ⟨_,Zb4x _ _ _ _ _ _ _ hg,by
  rw[Z53 _ _ _ (by simp at hcap;simp;omega),tri2];simp[hsl]⟩ hgr
 rw[tri1]at P1 P2;refine⟨_,_,rfl,⟨hgr.os,hgr.tape,hgr.output,hgr.size,λk hk=>hgr.block k (Yb8 hk R.hb) (by intro e;cases e;omega)⟩,P1,.tup .nil,λb hb=>?_,by simp,P3,λk hk hzz=>P2.free k hk (hz k hzz),λb r0 hb h0=>P2.root b r0 h0⟩;simp only[updM];rw[if_neg (by simp at hb;omega)];exact hdom b (by simpa using hb)
theorem Zc1z(K:Zca2)(K0:Zca3){fr:Bool}{zs:List Int}(c:zs.length<=4096) :
  Zbr Tryz.prog 252 [.own 0] [.arr 3 1 fr (zs.map ic)] (.own 1) [.dead,.arr 3 1 fr ((cptI zs).map ic)]:=by
 refine⟨by decide +kernel,?_⟩;intro N base w ρ vs R hdom hv hz;obtain⟨l⟩:=vs;simp only at hv
 cases hv with|cons q0 hv =>
 cases hv
 cases q0 with|own hr h1 =>
 rename_i r;have hb:gt [Blk.arr 3 1 fr (zs.map ic)] 0=.arr 3 1 fr (zs.map ic):=by simp[gt]
 have hd0:gt [Blk.arr 3 1 fr (zs.map ic)] 0≠.dead:=by rw[hb];intro hc;cases hc
 obtain⟨r2,e1,e2⟩:=R.blk 0 hd0;rw[hr]at e1;cases e1;rw[hb]at e2;obtain⟨hex,e',xs,hel,ho,hsz,hlen1,htr,hfree,hfr,how⟩:=e2;obtain⟨hxl,ho⟩:=ho;have hdom1:∀b,1<=b->ρ b=none:=by intro b hb;exact hdom b (by simpa using hb)
 rcases ho with⟨hrv,hn⟩|⟨g,cap,cur,hrv,hbg,hg,hcap,hcm,hcur,htake⟩
 .have hn:zs=[]:=by simpa using hn
  subst hn;rw[hrv];refine(K0 none 0 w).mono ?_;rintro e w' ⟨rfl,rfl⟩;obtain⟨p1,p2,p3⟩:=Zcax R hr hdom1 (w':=w') ⟨rfl,rfl,rfl,Yk _,λ_ _ _=>rfl⟩;refine⟨_,_,rfl,Below.refl _ _,p1,.own (b:=1) (r:=⟨.slice none 0 0,[],[]⟩) (by simp[updM]) rfl,λb hb=>?_,by simp,p3,λk hk hzz=>p2.free k hk (hz k hzz),λb r0 hb h0=>p2.root b r0 h0⟩;simp only[updM];rw[if_neg (by simp at hb;omega)];exact hdom1 b (by simp at hb;omega)
 obtain⟨hx1,hx2⟩:=Zbl3 htr;have hgs:g<w.heap.size:=(Yby.1 hg).1;have hzl:(zs.map ic).length*1=zs.length:=by simp
 have htk:cur.toList.take zs.length=zs.map (Value.int .i64):=by rw[<-hzl,htake,hx1]
 have hcall:=K g 0 cap zs w (Zca5 hg htk) (by omega) (by simpa using hcap);rw[Zca4]at hcall;rw[hrv,show(zs.map ic).length=zs.length by simp];refine hcall.mono ?_;rintro e w' ⟨rfl,q,rfl⟩;have hsub:=Zbl4 zs;have hnl:(cptI zs).length<=zs.length:=hsub.length_le;have hgr:w.grownBy (putRow (Value.int .i64) (Sort.ahead w q) g 0 (cptI zs++List.replicate (zs.length-(cptI zs).length) 0).toArray) (some g) :=
  ⟨rfl,rfl,rfl,by show w.heap.size<=(w.heap.modify g _).size;simp,λk hk hne=>Zcay _ _ _ _ _ _ (by intro e;exact hne (by rw[e]))⟩
 obtain⟨P1,P2,P3⟩:=Zboy R hr hdom1 hrv hg (tri1 zs) (by rw[tri2,hzl,htk]) (by rw[tri3,hx2]) (tri4 zs) (hsub.map tri) (zr:=List.replicate (zs.length-(cptI zs).length) (Value.int .i64 0)) (by simp) ⟨_,Zcaz _ _ _ _ _ _ hg,by
  rw[Z53 _ _ _ (by simp at hcap|-;omega),tri2];simp only[Y0,Yc5,Ycv,Ys,Ybu,Yo]
  rw[show(cptI zs).length+(zs.length-(cptI zs).length)=zs.length*1 by omega]⟩ hgr
 rw[tri1,Yo]at P1 P2;refine⟨_,_,rfl,⟨hgr.os,hgr.tape,hgr.output,hgr.size,λk hk=>hgr.block k (Yb8 hk R.hb) (by intro e;cases e;omega)⟩,P1,.own (b:=1) (r:=⟨.slice (some ⟨g,0,none⟩) (cptI zs).length cap,(((cptI zs).map tri).map (·.2.2)).flatten,[]⟩) (by unfold updM;rw[if_pos rfl]) rfl,λb hb=>?_,by simp,P3,λk hk hzz=>P2.free k hk (hz k hzz),λb r0 hb h0=>P2.root b r0 h0⟩;simp only[updM];rw[if_neg (by simp at hb;omega)];exact hdom1 b (by simp at hb;omega)
end Go.Proofs.YtnnjbejcffjgfaaGreat
namespace Go.Proofs.YtnnjbejcffjgfaaGreat
open Go.RowKit Go.AM Go.Lib Go.Sort Go.Shelf
def sI_ren:Go.Shelf.Ren:=⟨λ|189=>251|125=>283|257=>282|128=>311|129=>312|294=>302|295=>303|296=>304|297=>305|298=>306|299=>307|216=>308|300=>309|301=>310|328=>333|329=>334|330=>335|331=>336|332=>337|215=>338|343=>348|n=>n,λ|28=>56|3=>3|46=>263|0=>0|51=>280|53=>282|4=>4|183=>272|182=>271|131=>277|5=>5|9=>9|218=>294|222=>298|228=>304|229=>74|n=>n,λ|n=>n⟩
theorem sI:Go.Proofs.Lays.n189 Tryz.prog sI_ren:={ mixed:=by kernel_rfl,f125:=Tryz.func283.trans (congrArg some (by kernel_rfl)),f128:=Tryz.func311.trans (congrArg some (by kernel_rfl)),f129:=Tryz.func312.trans (congrArg some (by kernel_rfl)),f189:=Tryz.func251.trans (congrArg some (by kernel_rfl)),f215:=Tryz.func338.trans (congrArg some (by kernel_rfl)),f216:=Tryz.func308.trans (congrArg some (by kernel_rfl)),f257:=Tryz.func282.trans (congrArg some (by kernel_rfl)),f294:=Tryz.func302.trans (congrArg some (by kernel_rfl)),f295:=Tryz.func303.trans (congrArg some (by kernel_rfl)),f296:=Tryz.func304.trans (congrArg some (by kernel_rfl)),f297:=Tryz.func305.trans (congrArg some (by kernel_rfl)),f298:=Tryz.func306.trans (congrArg some (by kernel_rfl)),f299:=Tryz.func307.trans (congrArg some (by kernel_rfl)),f300:=Tryz.func309.trans (congrArg some (by kernel_rfl)),f301:=Tryz.func310.trans (congrArg some (by kernel_rfl)),f328:=Tryz.func333.trans (congrArg some (by kernel_rfl)),f329:=Tryz.func334.trans (congrArg some (by kernel_rfl)),f330:=Tryz.func335.trans (congrArg some (by kernel_rfl)),f331:=Tryz.func336.trans (congrArg some (by kernel_rfl)),f332:=Tryz.func337.trans (congrArg some (by kernel_rfl)),f343:=Tryz.func348.trans (congrArg some (by kernel_rfl)),t0:=Tryz.underlying0,a0:=Tryz.isAgg0,z0:=Tryz.sizeOf0,v0:=Tryz.zeroValue0,t3:=Tryz.underlying3,a3:=Tryz.isAgg3,z3:=Tryz.sizeOf3,v3:=Tryz.zeroValue3,t4:=Tryz.underlying4,a4:=Tryz.isAgg4,z4:=Tryz.sizeOf4,v4:=Tryz.zeroValue4,t5:=Tryz.underlying5,a5:=Tryz.isAgg5,z5:=Tryz.sizeOf5,v5:=Tryz.zeroValue5,t9:=Tryz.underlying9,a9:=Tryz.isAgg9,z9:=Tryz.sizeOf9,v9:=Tryz.zeroValue9,t28:=Tryz.underlying56,a28:=Tryz.isAgg56,z28:=Tryz.sizeOf56,v28:=Tryz.zeroValue56,t46:=Tryz.underlying263,a46:=Tryz.isAgg263,z46:=Tryz.sizeOf263,v46:=Tryz.zeroValue263,t51:=Tryz.underlying280,a51:=Tryz.isAgg280,z51:=Tryz.sizeOf280,v51:=Tryz.zeroValue280,t53:=Tryz.underlying282,a53:=Tryz.isAgg282,z53:=Tryz.sizeOf282,v53:=Tryz.zeroValue282,t131:=Tryz.underlying277,a131:=Tryz.isAgg277,z131:=Tryz.sizeOf277,v131:=Tryz.zeroValue277,t182:=Tryz.underlying271,a182:=Tryz.isAgg271,z182:=Tryz.sizeOf271,v182:=Tryz.zeroValue271,t183:=Tryz.underlying272,a183:=Tryz.isAgg272,z183:=Tryz.sizeOf272,v183:=Tryz.zeroValue272,t218:=Tryz.underlying294,a218:=Tryz.isAgg294,z218:=Tryz.sizeOf294,v218:=Tryz.zeroValue294,t222:=Tryz.underlying298,a222:=Tryz.isAgg298,z222:=Tryz.sizeOf298,v222:=Tryz.zeroValue298,t228:=Tryz.underlying304,a228:=Tryz.isAgg304,z228:=Tryz.sizeOf304,v228:=Tryz.zeroValue304,t229:=Tryz.underlying74,a229:=Tryz.isAgg74,z229:=Tryz.sizeOf74,v229:=Tryz.zeroValue74 }
def cI_ren:Go.Shelf.Ren:=⟨λ|20=>252|n=>n,λ|22=>56|3=>3|4=>4|0=>0|n=>n,λ|n=>n⟩
theorem cI:Go.Proofs.Lays2.n20 Tryz.prog cI_ren:={ mixed:=by kernel_rfl,f20:=Tryz.func252.trans (congrArg some (by kernel_rfl)),t0:=Tryz.underlying0,a0:=Tryz.isAgg0,z0:=Tryz.sizeOf0,v0:=Tryz.zeroValue0,t3:=Tryz.underlying3,a3:=Tryz.isAgg3,z3:=Tryz.sizeOf3,v3:=Tryz.zeroValue3,t4:=Tryz.underlying4,a4:=Tryz.isAgg4,z4:=Tryz.sizeOf4,v4:=Tryz.zeroValue4,t22:=Tryz.underlying56,a22:=Tryz.isAgg56,z22:=Tryz.sizeOf56,v22:=Tryz.zeroValue56,i3:=by kernel_rfl }
theorem kitSortI:Zca0:=λblk off cap zs w hH hb hz=>Any.slices_Sort_int sI blk off cap zs w hH hb hz
theorem Zc10:Zca1:=λp cap w=>Any.slices_Sort_int_none sI p cap w
theorem kitCptI:Zca2:=λblk off cap zs w hH hz hc=>Any.slices_Compact_int cI blk off cap zs w hH hz hc
theorem kitCptI0:Zca3:=λa cap w=>Any.slices_Compact_int_empty cI a cap w
end Go.Proofs.YtnnjbejcffjgfaaGreat
namespace Go.Proofs.YtnnjbejcffjgfaaGreat
open Go.RowKit Go.AM Go.Lib Go.Sort Go.Shelf
def Zc11:Go.Shelf.Ren:=⟨λ|6=>277|15=>283|14=>301|28=>311|29=>312|20=>325|21=>326|22=>327|23=>328|24=>329|25=>330|26=>331|27=>332|46=>345|47=>334|48=>335|49=>346|50=>347|57=>349|n=>n,λ|22=>132|24=>56|25=>145|3=>3|39=>263|0=>0|53=>280|55=>282|4=>4|46=>272|45=>271|50=>277|5=>5|9=>9|66=>294|70=>298|76=>304|77=>74|n=>n,λ|n=>n⟩
theorem sortR:Go.Proofs.SlLaysF.n6 Tryz.prog Zc11:={ mixed:=by kernel_rfl,f6:=⟨Tryz.f277.name,by decide,Tryz.func277.trans (congrArg some (by kernel_rfl))⟩,f14:=⟨Tryz.f301.name,by decide,Tryz.func301.trans (congrArg some (by kernel_rfl))⟩,f15:=Tryz.func283.trans (congrArg some (by kernel_rfl)),f20:=⟨Tryz.f325.name,by decide,Tryz.func325.trans (congrArg some (by kernel_rfl))⟩,f21:=⟨Tryz.f326.name,by decide,Tryz.func326.trans (congrArg some (by kernel_rfl))⟩,f22:=⟨Tryz.f327.name,by decide,Tryz.func327.trans (congrArg some (by kernel_rfl))⟩,f23:=⟨Tryz.f328.name,by decide,Tryz.func328.trans (congrArg some (by kernel_rfl))⟩,f24:=⟨Tryz.f329.name,by decide,Tryz.func329.trans (congrArg some (by kernel_rfl))⟩,f25:=⟨Tryz.f330.name,by decide,Tryz.func330.trans (congrArg some (by kernel_rfl))⟩,f26:=⟨Tryz.f331.name,by decide,Tryz.func331.trans (congrArg some (by kernel_rfl))⟩,f27:=⟨Tryz.f332.name,by decide,Tryz.func332.trans (congrArg some (by kernel_rfl))⟩,f28:=Tryz.func311.trans (congrArg some (by kernel_rfl)),f29:=Tryz.func312.trans (congrArg some (by kernel_rfl)),f46:=⟨Tryz.f345.name,by decide,Tryz.func345.trans (congrArg some (by kernel_rfl))⟩,f47:=Tryz.func334.trans (congrArg some (by kernel_rfl)),f48:=Tryz.func335.trans (congrArg some (by kernel_rfl)),f49:=⟨Tryz.f346.name,by decide,Tryz.func346.trans (congrArg some (by kernel_rfl))⟩,f50:=⟨Tryz.f347.name,by decide,Tryz.func347.trans (congrArg some (by kernel_rfl))⟩,f57:=⟨Tryz.f349.name,by decide,Tryz.func349.trans (congrArg some (by kernel_rfl))⟩,t0:=Tryz.underlying0,a0:=Tryz.isAgg0,z0:=Tryz.sizeOf0,v0:=Tryz.zeroValue0,t3:=Tryz.underlying3,a3:=Tryz.isAgg3,z3:=Tryz.sizeOf3,v3:=Tryz.zeroValue3,t4:=Tryz.underlying4,a4:=Tryz.isAgg4,z4:=Tryz.sizeOf4,v4:=Tryz.zeroValue4,t5:=Tryz.underlying5,a5:=Tryz.isAgg5,z5:=Tryz.sizeOf5,v5:=Tryz.zeroValue5,t9:=Tryz.underlying9,a9:=Tryz.isAgg9,z9:=Tryz.sizeOf9,v9:=Tryz.zeroValue9,t22:=Tryz.underlying132,a22:=Tryz.isAgg132,z22:=Tryz.sizeOf132,v22:=Tryz.zeroValue132,a24:=Tryz.isAgg56,z24:=Tryz.sizeOf56,t25:=Tryz.underlying145,a25:=Tryz.isAgg145,z25:=Tryz.sizeOf145,v25:=Tryz.zeroValue145,t39:=Tryz.underlying263,a39:=Tryz.isAgg263,z39:=Tryz.sizeOf263,v39:=Tryz.zeroValue263,t45:=Tryz.underlying271,a45:=Tryz.isAgg271,z45:=Tryz.sizeOf271,v45:=Tryz.zeroValue271,t46:=Tryz.underlying272,a46:=Tryz.isAgg272,z46:=Tryz.sizeOf272,v46:=Tryz.zeroValue272,t50:=Tryz.underlying277,a50:=Tryz.isAgg277,z50:=Tryz.sizeOf277,v50:=Tryz.zeroValue277,t53:=Tryz.underlying280,a53:=Tryz.isAgg280,z53:=Tryz.sizeOf280,v53:=Tryz.zeroValue280,t55:=Tryz.underlying282,a55:=Tryz.isAgg282,z55:=Tryz.sizeOf282,v55:=Tryz.zeroValue282,t66:=Tryz.underlying294,a66:=Tryz.isAgg294,z66:=Tryz.sizeOf294,v66:=Tryz.zeroValue294,t70:=Tryz.underlying298,a70:=Tryz.isAgg298,z70:=Tryz.sizeOf298,v70:=Tryz.zeroValue298,t76:=Tryz.underlying304,a76:=Tryz.isAgg304,z76:=Tryz.sizeOf304,v76:=Tryz.zeroValue304,t77:=Tryz.underlying74,a77:=Tryz.isAgg74,z77:=Tryz.sizeOf74,v77:=Tryz.zeroValue74 }
theorem kitSort:Zb4v:=by
 intro α _ enc h1 cf hO blk off cap d w hcmp hH hblk hsz;have eg:∀args w,(callFunc 276 args).run Tryz.prog w=.ok (.enter 276 args) w:=enters_of Tryz.func276 (by kernel_rfl) rfl;exact Any.slices_SortFunc sortR enc h1 cf hO 276 #[] blk off cap d w eg hcmp hH hblk hsz
theorem kitSort0:Zb4w:=λp cap w=>AnyF.slices_SortFunc_none { sortR with } p cap _ w
theorem Zc12(f:Nat)(xs:List AV)(h0:List Blk)(r:AV)(hr:List Blk)(h:ext f xs h0=some (r,hr)):Zbr Tryz.prog f xs h0 r hr:=by
 unfold ext at h;split at h
 .split at h
  .subst f;unfold extS at h;split at h
   .rename_i hc;obtain⟨h1,h2,h3⟩:=hc.choose_spec;generalize hc.choose=rows at h h1 h2 h3;subst h1;cases h;exact Zct0 kitSort kitSort0 h2 h3
   .cases h
  .cases h
 .split at h
  .subst f;unfold extS at h;split at h
   .rename_i hc;obtain⟨h1,h2,h3⟩:=hc.choose_spec;generalize hc.choose=rows at h h1 h2 h3;subst h1;cases h;exact Zc1x h2 h3
   .cases h
  .cases h
 .split at h
  .subst f;unfold extI at h;split at h
   .rename_i hc;obtain⟨h1,h2⟩:=hc.choose_spec;generalize hc.choose=l at h h1 h2;subst h1;cases h;exact Zc1y kitSortI Zc10 h2
   .cases h
  .split at h
   .subst f;unfold extI at h;split at h
    .rename_i hc;obtain⟨h1,h2⟩:=hc.choose_spec;generalize hc.choose=l at h h1 h2;subst h1;cases h;exact Zc1z kitCptI kitCptI0 h2
    .cases h
   .cases h
 .cases h
theorem sound{f:Nat}{xs:List AV}{h0:List Blk}{r:AV}{hr:List Blk}(h:C f xs h0=some (r,hr)):Zbr Tryz.prog f xs h0 r hr:=Zcc6 tbl_ok Zc12 h
end Go.Proofs.YtnnjbejcffjgfaaGreat
