/-
  Parts of the proofs for this seat: L48 SE1 CPL CPW CPS.
-/
import Derived.BigQuiet
import Derived.BigRegion
import Derived.Deep.QuietTactic
import Derived.Lib.SlicesCompact
import Derived.Test.YtobfkfgdneeabaaGreatP39
set_option linter.all false
set_option maxRecDepth 100000
set_option maxHeartbeats 4000000
namespace Go.Proofs.YtobfkfgdneeabaaGreat
open Go.AM
def ZGI(b:Box)(hb:LeX b)(l:V2)(hl:Le l):aF b l=some (Bo (Gn b.Low b.High l),[]):=by
 refine Ut.2.2.2 _ _ _ ⟨_,aJ b hb,?_⟩;unfold Gn;rcases tf (WR b.Low b.High)with e|e
 .simp_all
 rw[e,Ya rfl];refine⟨_,Z2d l b.Low hl,?_⟩;rcases tf (dom l b.Low)with f|f
 .simp_all
 rw[f,Ya rfl];exact⟨_,Z2d b.High l hb.2,rfl⟩
def ZUN(b:Box)(h:b.Low.length<=1000/\b.High.length<=1000):oQ b b=some (Bo true,[]):=by
 grind [XM.1.2.1.1,PG]
def ZUO(r:Run)(h:r.Seen.length<=1000):∀i,i<=r.Seen.length->oT r r i=some (Bo true,[]):=by
 refine down _ ?_ ?_
 .simp[XM.1.2.2.2]
 .intro i hi ih;apply XM.1.2.2.2;rw[An,wS hi E]
  simp_all
def ZUP(a:XC)(h1:a.Rows.length<=4294967296)(h2:∀r∈a.Rows,r.length<=4294967296):∀i,i<=a.Rows.length->oS a a i=some (Bo true,[]):=by
 refine down _ ?_ ?_
 .simp[XM.1.2.1.2]
 .intro i hi ih;have l1:=h2 _ (Ye hi);apply XM.1.2.1.2;rw[An,wS hi E];exact⟨E,_,gE hi,_,gE hi,_,KV _ _ E E,by rw[Ya (KX _)];exact ih⟩
def Z4j(r:Run)(h:r.Seen.length<=1000)(h0:r.XC.Vars.length<=4294967296)(h1:r.XC.Rows.length<=4294967296)(h2:∀x∈r.XC.Rows,x.length<=4294967296):YX r r=some (Bo true,[]):=by
 have hA:Zqw r.XC r.XC=some (Bo true,[]):=XM.1.2.2.1 _ _ _ ⟨_,KV _ _ E E,by rw[Ya (KX _),Ya rfl];exact ZUP _ h1 h2 0 (Yc _)⟩;apply XM.2.1.1.1;rw[Ya rfl,Ya rfl,Ya rfl,Ya rfl];exact⟨_,hA,by rw[Ya rfl];exact ZUO r h 0 (Yc _)⟩
def ZUQ(m:Zt)(d:Zj)(q:Zc)(p:Zr)(mask cc:Int):YX (AB (AQ m d q p mask cc)) (AB (AQ m d q p mask cc))=some (Bo true,[]):=by
 cases e:AQ m d q p mask cc with
 |none=>exact Z4j _ (by simp[AB]) (by simp[AB]) (by simp[AB]) (by simp[AB])
 |some v =>
  obtain⟨s,f,c,st,o⟩:=v;obtain⟨hV,ho⟩:=ZE2 e
  cases f with
  |false=>exact Z4j _ (by simp only[AB];simp only at ho;omega) (by simp[AB]) (by simp[AB]) (by simp[AB])
  |true =>
   have hl:=hV.len;have h4:=hV.four;have ha:=ZDO s.Rows;refine Z4j _ (by simp only[AB];simp only at ho;omega) (by simp only[AB];omega) (by simp only[AB];omega) ?_;intro r hr;have:=hV.rows r ((rU s.Rows r).1 hr);unfold B3 at this
   grind
theorem ZUR{q:Zc}(hq:AW q){l:List Zn}{info:List Zf}(h:ZG q.Zi q.Atoms l=some info):NP q ⟨l⟩=some (I (XN info ((l.length-1:Nat):Int)),[]):=by
 have q1:=G4 q ⟨l⟩ hq;simp only[h]at q1;obtain⟨h1,h2,h3,h4⟩:=Um h;have hw:w ((info.length:Int)-1)=((l.length-1:Nat):Int):=by rw[WX E E];omega
 have hg:info[l.length-1]?=some (info[l.length-1]' E):=Yh _;refine XM.2.1.1.2 _ _ _ ⟨_,_,q1,?_⟩;rw[Ya rfl,hw];exact⟨E,_,hg,by simp only[XN,Yj,hg]⟩
def Rp(ts:V6)(h:WQ [.int .u8] ts):∃n:Int,ts=kc .u8 n/\True:=by
 obtain⟨t,us,rfl,h1,h2⟩:=Z4n h;cases Gi h2
 cases h1 with
 |int h=>exact⟨_,rfl,trivial⟩
def decB{t:T}(h:HU (.slice [.int .u8]) t):∃xs:V2,t=.lst 1 (xs.map (kc .u8))/\OkL (λ_=>True) xs:=ZIf Rp h
def ZGY(a:V2):C ZIm [L 1 (a.map (kc .u8))] []=some (Bo true,[]):=by
 show o7 a=_;by_cases hb:1048576<(a.length:Int)
 .simp_all [ZUM,Xl.1.1.1.1]
 have h0:Mr a=some (Bo false,[]):=by have:=Xl.1.1.1.1 a _ rfl;rwa [decide_eq_false hb]at this
 obtain⟨m,d,q,p,b,n,h1,hm,hd,hq,b1,b2⟩:=Ro a E;have hZ:B6 b:=⟨E,E⟩;have h2:=ZRs hm hd hq p b hZ n;have h3:=ZRt hm hd hq p b hZ n;have hlen:=ZRu m d q p b n;have Fo:=ZEr q hq p (Xw q.Zi q.Atoms p.Steps b.Low b.High);rw[ZEt]at Fo;have hT:=ZRK hd hq;have hTl:=ZRM d q;have hib:=ZGI b ⟨E,E⟩ (Vg d q) E;have hrun1:=ZEu hm hd hq p (Xw q.Zi q.Atoms p.Steps b.Low b.High) n;have hrun2:=ZEv hm hd hq p (Xw q.Zi q.Atoms p.Steps b.Low b.High) n;have hrr:=ZUQ m d q p (Xw q.Zi q.Atoms p.Steps b.Low b.High) n;have hxb:=ZUN ⟨(Qq m d q p b n).2.1,(Qq m d q p b n).2.2.1⟩ ⟨by simp only;omega,by simp only;omega⟩;have hix:=ZGI ⟨(Qq m d q p b n).2.1,(Qq m d q p b n).2.2.1⟩ ⟨by simp only;omega,by simp only;omega⟩ (Vg d q) E;have ht5:=ZEy q hq p b hZ;have ht6:=ZEz q hq p b hZ;obtain⟨sub,cut,h9,h11⟩:∃(sub:Zr) (cut:Bool),Iv q p (Xw q.Zi q.Atoms p.Steps b.Low b.High)=some (.tup [.agg (sub.c.map .t),Bo cut],[])/\(cut=false\/cut=true/\NP q sub=some (I (Xw q.Zi q.Atoms p.Steps b.Low b.High),[])):=by
  cases e:QN q p (Xw q.Zi q.Atoms p.Steps b.Low b.High)with
  |none=>rw[e]at Fo;exact⟨_,_,Fo,.inl rfl⟩
  |some l =>
   rw[e]at Fo;refine⟨_,_,Fo,.inr ⟨rfl,?_⟩⟩
   cases hp:ZG q.Zi q.Atoms p.Steps with
   |none=>unfold QN at e;rw[hp]at e;cases e
   |some info =>
    grind [Z3x,ZUR]
 refine ZUL a (i1:=Gn b.Low b.High (Vg d q)) (l:=Vg d q) h0 h1 h2 h3 hxb ht5 ht6 hrun1 hrun2 h9 hrr h11 ?_;unfold Qq at *
 split at hlen
 .rename_i hc;obtain⟨ha,hf,hp,hbx,Fp⟩:=hc;obtain⟨info,hp⟩:=Option.isSome_iff_exists.1 hp;have AbQ:=JG.1 Fp;have AbR:=ZFh hf ha hp Fp 4 b.Low b.High 0 E E;rw[Ya ⟨ha,hf,by rw[hp];rfl,hbx,Fp⟩]at hix|-;refine .inr ⟨rfl,by rw[WX E E];simp only;omega,hT,hib,?_⟩;have hD:(AQ m d q p (Xw q.Zi q.Atoms p.Steps b.Low b.High) n).isSome=false\/(AQ m d q p (Xw q.Zi q.Atoms p.Steps b.Low b.High) n).isSome=true/\(AB (AQ m d q p (Xw q.Zi q.Atoms p.Steps b.Low b.High) n)).Done=false\/(AQ m d q p (Xw q.Zi q.Atoms p.Steps b.Low b.High) n).isSome=true/\(AB (AQ m d q p (Xw q.Zi q.Atoms p.Steps b.Low b.High) n)).Done=true:=by
   grind
  rcases tf (Gn b.Low b.High (Vg d q))with hin|hin
  .exact .inl ⟨hin,hD⟩
  .have hB:=Bx.of hin;obtain⟨hB2,_⟩:=Z3z hf ha hp Fp 4 b.Low b.High 0 hB;rw[hB2.to]at hix;refine .inr ⟨hin,hix,?_⟩;rcases hD with h|h|⟨h,hd'⟩
   .exact .inl h
   .exact .inr (.inl h)
   .refine .inr (.inr ⟨h,hd',?_⟩);refine ZSl hf ha hp Fp hB 3 0 rfl ?_ hd';intro hz;rw[hz]at h;obtain⟨v,hv⟩:=Option.isSome_iff_exists.1 h;unfold AQ at hv
    cases e:QN q p 0 with
    |none=>rw[e]at hv;cases hv
    |some l =>
     obtain⟨AE,x,i1,i2,i3,_⟩:=Z3x hp e;have hl:=(Um i1).2.1;have hm0:=ZEV (p:=⟨l⟩) i1 _ (Ye (E:l.length-1<AE.length));have hg:AE[l.length-1]?=some (AE[l.length-1]' E):=Yh _;simp only[XN,Yj,hg]at i2;exact hm0.2.2 i2
 .grind
end Go.Proofs.YtobfkfgdneeabaaGreat
namespace Go.Proofs.YtobfkfgdneeabaaGreat
open Go.RowKit Go.Lib
open Go.AM (E Z Om)
def Rq{a b:List Int}{k:Nat}(h1:k<a.length)(h2:k<b.length):decide (a.drop k=b.drop k)=(decide (a[k]=b[k]) && decide (a.drop (k+1)=b.drop (k+1))):=by
 rw[Bool.eq_iff_iff];simp only[Bool.and_eq_true,decide_eq_true_eq]
 grind [List.drop_eq_getElem_cons,List.cons.injEq]
def ZUS(v1 v2:Value)(a b:List Int)(w:World)(h1:Ha w v1 a)(h2:Ha w v2 b)(c:a.length<2305843009213693952)(cc:b.length<2305843009213693952) :
  Calls Tryz.prog 35 #[v1,v2] w λe w'=>e=.returned (.bool (decide (a=b)))/\∃q,w'=w.drewN q:=by
 obtain⟨p1,c1,rfl,r1⟩:=h1;obtain⟨p2,c2,rfl,r2⟩:=h2;have mixed:Tryz.prog.follows Departure.mixedOrders=true:=by kernel_rfl
 by_cases hlen:a.length=b.length
 .obtain⟨n,hna⟩:∃n:Nat,a.length=n:=⟨_,rfl⟩;have hnb:b.length=n:=by omega
  rw[hna,hnb];have HN:Aside (a.length=n/\b.length=n):=⟨hna,hnb⟩;have hln:n<2305843009213693952:=by omega
  clear hna hnb hlen c cc;generalize hR:decide (a=b)=R;have HR:Aside (decide (a.drop 0=b.drop 0)=R):=hR;clear hR
  go_enter Tryz.func35,Tryz.ntmps35
  go_wp2
  go_loopg [5,13] n (λgg _ s13 wr=>∃kk q:Nat,kk<=n/\n-kk<=gg/\s13=.int .i64 kk/\wr=w.drewN q/\Aside (a.length=n/\b.length=n)/\Aside (decide (a.drop kk=b.drop kk)=R))
  case atStart=>exact⟨0,0,Nat.zero_le _,E,rfl,rfl,HN,HR⟩
  case round =>
   obtain⟨kk,q,hkk,hg,rfl,rfl,A,B⟩:=hrel;have hA:=A.out;obtain⟨hA1,hA2⟩:=hA;by_cases Acs:kk<n
   .have hltz:(kk:Int)<(n:Int):=by omega
    have wX:kk<a.length:=by omega
    have hlt:kk<b.length:=by omega
    obtain⟨g1,o1,rfl,d1⟩:=r1 kk wX;obtain⟨g2,o2,rfl,d2⟩:=r2 kk hlt;have S:Aside (decide (a.drop kk=b.drop kk)=(decide (a[kk]=b[kk]) && decide (a.drop (kk+1)=b.drop (kk+1)))):=by
     exact Rq wX hlt
    clear r1 r2 hA1 hA2;generalize a[kk]=x at d1 S;generalize b[kk]=y at d2 S;by_cases hz:x=y
    .subst hz
     go_wp2_with fail
     go_region_o
     go_wp2
     go_roundg (n-(kk+1))
     case measure=>omega
     case rel =>
      refine⟨kk+1,q+1,E,E,by go_num,rfl,A,(show Aside _ from ?_)⟩;have:=S.out
      simp_all
    .have hr:R=false:=by rw[<-B.out,S.out];simp[hz]
     go_wp2_with fail
     go_region_o
     go_wp2
     go_ret
     exact⟨by subst hr;rfl,q+1,rfl⟩
   .have hltz:¬(kk:Int)<(n:Int):=by omega
    have hr:R=true:=by
     rw[<-B.out,show b.drop kk=[]from List.drop_of_length_le E,show a.drop kk=[]from List.drop_of_length_le E];simp
    clear r1 r2 hA1 hA2
    go_wp2
    go_ret
    exact⟨by subst hr;rfl,q,rfl⟩
 .have hne:decide (a=b)=false:=by
   grind
  have hlz:¬(a.length:Int)=(b.length:Int):=by omega
  rw[hne];clear hne r1 r2
  go_enter Tryz.func35,Tryz.ntmps35
  go_wp2
  go_ret
  exact⟨rfl,0,rfl⟩
def ZUT(v1 v2:Value)(a b:List Int)(w:World)(h1:Ha w v1 a)(h2:Ha w v2 b)(c:a.length<2305843009213693952)(cc:b.length<2305843009213693952) :
  Calls Tryz.prog 196 #[v1,v2] w λe w'=>e=.returned (.bool (decide (a=b)))/\∃q,w'=w.drewN q:=by
 have hc:=ZUS v1 v2 a b w h1 h2 c cc;generalize decide (a=b)=R at hc|-;obtain⟨p1,c1,rfl,r1⟩:=h1;obtain⟨p2,c2,rfl,r2⟩:=h2;clear r1 r2
 go_enter Tryz.func196,Tryz.ntmps196
 go_wp2_with (refine hc.mono ?_;rintro e w' ⟨rfl,q,rfl⟩)
 go_ret
 exact⟨rfl,q,rfl⟩
end Go.Proofs.YtobfkfgdneeabaaGreat
namespace Go.Proofs.YtobfkfgdneeabaaGreat
open Go.Sort
open Go.AM (E Z Om)
section
variable{α β:Type}[Inhabited α][DecidableEq β](f:α->β)
def En(p:α):List α->List α
 |[]=>[]
 |x::l=>if f x=f p then En x l else x::En x l
def nb:List α->List α
 |[]=>[]
 |x::l=>x::En f x l
omit [Inhabited α] in
theorem ZGJ:∀(l:List α) (p y:α),En f p (l++[y])=En f p l++if f y=f (l.getLastD p)then[]else[y]
 |[],p,y=>by by_cases h:f y=f p<;>simp[En,h]
 |x::l,p,y=>by
  rw[List.cons_append,En,En,ZGJ l x y,List.getLastD_cons];split<;>rfl
omit [Inhabited α] in
theorem ZUU:∀(l:List α) (p y:α),l≠[]->nb f (l++[y])=nb f l++if f y=f (l.getLastD p)then[]else[y]
 |[],p,y,h=>absurd rfl h
 |x::l,p,y,_=>by
  rw[List.cons_append,nb,nb,ZGJ,List.getLastD_cons];rfl
omit [Inhabited α] in
theorem Z4k:∀(l:List α) (p:α),(En f p l).Sublist l
 |[],p=>.slnil
 |x::l,p=>by
  rw[En];split
  .exact(Z4k l x).cons _
  .exact(Z4k l x).cons_cons _
omit [Inhabited α] in
theorem Rr:∀l:List α,(nb f l).Sublist l
 |[]=>.slnil
 |x::l=>(Z4k f l x).cons_cons _
theorem Zsc{l:List α}{m:Nat}(h0:0<m)(h:m<l.length):nb f (l.take (m+1))=nb f (l.take m)++if f l[m]! = f l[m-1]! then[]else[l[m]!]:=by
 have hl:(l.take m).getLastD default=l[m-1]:=by
  grind
 grind [List.take_succ_eq_append_getElem,ZUU,List.length,List.length_take,List.length_nil]
structure Ui (d:Array α) (m k:Nat) (e:Array α):Prop where
 len:(nb f (d.toList.take m)).length=k
 lt:k<m
 row:e.toList=nb f (d.toList.take m)++d.toList.drop k
omit [Inhabited α] in
theorem Ui.size{d e:Array α}{m k:Nat}(I:Ui f d m k e)(hm:m<=d.size):e.size=d.size:=by
 have h1:=I.lt;rw[<-Array.length_toList,I.row,List.length_append,I.len,List.length_drop,Array.length_toList];omega
theorem Ui.read{d e:Array α}{m k:Nat}(I:Ui f d m k e)(hm:m<=d.size){j:Nat}(hj:k<=j)(hd:j<d.size):e[j]! = d[j]!:=by
 have hs:=I.size f hm;have h:=I.len;have h2:e.toList[j]?=d.toList[j]?:=by
  rw[I.row,List.getElem?_append_right E,List.getElem?_drop,h];congr 1;omega
 simp_all
theorem Rt(d:Array α)(j:Nat):d.toList[j]! = d[j]!:=by simp[Array.getElem!_eq_getD,Array.getD_eq_getD_getElem?]
theorem Ui.start{d:Array α}{k:Nat}(h0:0<k)(hk:k<d.size)(ha:nb f (d.toList.take k)=d.toList.take k)(he:f d[k]! = f d[k-1]!):Ui f d (k+1) k d:=by
 have h:=Zsc f h0 (show k<d.toList.length from hk);rw[Rt,Rt,if_pos he,List.append_nil,ha]at h;refine⟨?_,Nat.lt_succ_self _,?_⟩
 .grind
 .simp_all
theorem Ui.skip{d e:Array α}{m k:Nat}(I:Ui f d m k e)(hm:m<d.size)(he:f d[m]! = f d[m-1]!):Ui f d (m+1) k e:=by
 have hl:=I.lt;have h:=Zsc f (show 0<m by omega) (show m<d.toList.length from hm);rw[Rt,Rt,if_pos he,List.append_nil]at h;exact⟨by rw[h];exact I.len,E,by rw[h];exact I.row⟩
theorem Ui.keep{d e:Array α}{m k:Nat}(I:Ui f d m k e)(hm:m<d.size)(he:¬f d[m]! = f d[m-1]!):Ui f d (m+1) (k+1) (e.setIfInBounds k d[m]!):=by
 have hl:=I.lt;have hn:=I.len;have h:=Zsc f (show 0<m by omega) (show m<d.toList.length from hm);rw[Rt,Rt,if_neg he]at h;refine⟨by rw[h,List.length_append,hn];rfl,E,?_⟩;rw[Array.toList_setIfInBounds,I.row,h,List.set_append_right _ _ E,hn,Nat.sub_self,List.drop_eq_getElem_cons (show k<d.toList.length by rw[Array.length_toList];omega),List.set_cons_zero];simp
omit [Inhabited α] in
theorem Ui.fill{d e:Array α}{k:Nat}(I:Ui f d d.size k e)(z:α):(Lib.lay e k (List.replicate (d.size-k) z)).toList=nb f d.toList++List.replicate (d.size-k) z:=by
 have hs:=I.size f (Nat.le_refl _);have hl:=I.lt;have hr:=I.row;have hn:=I.len;rw[show d.toList.take d.size=d.toList from List.take_of_length_le Z]at hr hn;apply List.ext_getElem?;intro j;rw[Array.getElem?_toList,Lib.lay_get? _ _ _ _ (by simp;omega),List.length_replicate];by_cases h1:j<k
 .rw[if_neg E,List.getElem?_append_left E,<-Array.getElem?_toList,hr,List.getElem?_append_left E]
 .grind
theorem ZUV{d:Array α}{k:Nat}(h0:0<k)(hk:k<d.size)(ha:nb f (d.toList.take k)=d.toList.take k)(he:¬f d[k]! = f d[k-1]!):nb f (d.toList.take (k+1))=d.toList.take (k+1):=by
 grind [Zsc,Rt,List.take_succ_eq_append_getElem]
omit [Inhabited α] in
theorem Ru{d:Array α}(h:d.size<=1):nb f d.toList=d.toList:=by
 obtain⟨l⟩:=d
 match l with
 |[]=>rfl
 |[a]=>rfl
 |a::b::l=>simp at h
omit [Inhabited α] in
theorem ZUW(d:Array α):nb f (d.toList.take 1)=d.toList.take 1:=by
 obtain⟨l⟩:=d
 cases l with
 |nil=>rfl
 |cons a l=>simp[nb,En]
end
def ZGK{α:Type}(f:α->List Int):∀l:List α,(nb f l).map f=Vx (l.map f)
 |[]=>rfl
 |[a]=>rfl
 |a::b::l=>by
  have ih:=ZGK f (b::l);rw[nb]at ih;rw[nb,En,List.map_cons,List.map_cons,List.map_cons,Vx]
  grind
end Go.Proofs.YtobfkfgdneeabaaGreat
namespace Go.Proofs.YtobfkfgdneeabaaGreat
open Go.RowKit Go.AM Go.Lib Go.Sort
def ZGL{α:Type}[Inhabited α](enc:α->Value)(w:World)(c off n:Nat)(d:Array α){k:Nat}(cc:k≠c):(putRow enc (Sort.ahead w n) c off d).heap[k]?=w.heap[k]?:=by
 show(w.heap.modify c (onCells (putCells enc off d)))[k]?=_
 grind
def Zsd{w:World}{g q n:Nat}{d:Array (El w g)}:(putRow El.enc (Sort.ahead w q) g 0 d).drewN n=putRow El.enc (Sort.ahead w (q+n)) g 0 d:=by
 simp[putRow,mapBlock,Sort.ahead,World.drewN,RE]
def ZGM{w wr:World}{g:Nat}(c:∀k,k≠g->wr.heap[k]?=w.heap[k]?)(x y:El w g)(n:Nat) :
  Calls Tryz.prog 196 #[x.enc,y.enc] (wr.drewN n) λr w'=>r=.returned (.bool (decide (x.row=y.row)))/\∃p,w'=(wr.drewN n).drewN p:=by
 have hx:=ZqT (W:=wr.drewN n) x.2.1 λk hk=>c k (x.2.2.1 k hk)
 have hy:=ZqT (W:=wr.drewN n) y.2.1 λk hk=>c k (y.2.2.1 k hk)
 have h4:=x.2.2.2;have h5:=y.2.2.2;exact ZUT x.enc y.enc x.row y.row _ hx hy (by unfold El.row;omega) (by unfold El.row;omega)
def El.one{w:World}{g:Nat}(x:El w g):x.enc.oneCell'=true:=x.2.1.one
def Rv{w w':World}{g q kk:Nat}{dk:Array (El w g)}{z:El w g}{x:Value}(hk:kk<dk.size)(hw:w'=putRow El.enc (Sort.ahead w q) g 0 dk)(hx:El.enc z=x):w'.setCell ⟨g,kk,none⟩ x=putRow El.enc (Sort.ahead w q) g 0 (dk.setIfInBounds kk z):=by
 subst hw;subst hx;have:=putRow_set El.enc (Sort.ahead w q) g 0 dk kk z hk
 rwa [Yt]at this
def ZUX{w wr:World}{g q kk:Nat}{d dk:Array (El w g)}(f:El w g->V2)(I:Ui f d d.size kk dk)(z:El w g)(hw:wr=putRow El.enc (Sort.ahead w q) g 0 dk):wr.setCells g kk (List.replicate (d.size-kk) z.enc)=putRow El.enc (Sort.ahead w q) g 0 (nb f d.toList++List.replicate (d.size-kk) z).toArray:=by
 subst hw;have hs:=I.size f (Yi _);have hl:=I.lt;have:=putRow_setCells El.enc (Sort.ahead w q) g 0 (List.replicate (d.size-kk) z) dk kk (by simp;omega);rw[Yt,xE]at this;rw[this];congr 1;rw[<-I.fill f z]
def ZUY(w:World):Calls Tryz.prog 195 #[.slice none 0 0,.func (.func 196) #[] #[]] w λe w'=>e=.returned (.slice none 0 0)/\w'=w:=by
 have mixed:Tryz.prog.follows Departure.mixedOrders=true:=by kernel_rfl
 go_enter Tryz.func195,Tryz.ntmps195
 go_wp2
 go_ret
 exact⟨rfl,rfl⟩
def ZUZ{w:World}{g:Nat}(cap:Nat)(d:Array (El w g))(hH:Holds El.enc w g 0 d)(cc:d.size<=4096)(c:d.size<=cap) :
  Calls Tryz.prog 195 #[.slice (some ⟨g,0,none⟩) d.size cap,.func (.func 196) #[] #[]] w λe w'=>e=.returned (.slice (some ⟨g,0,none⟩) (nb El.row d.toList).length cap)/\
   ∃q,w'=putRow El.enc (Sort.ahead w q) g 0 (nb El.row d.toList++List.replicate (d.size-(nb El.row d.toList).length) default).toArray:=by
 have mixed:Tryz.prog.follows Departure.mixedOrders=true:=by kernel_rfl
 have HS:Aside (∀q,nb El.row d.toList=d.toList->(nb El.row d.toList).length=d.size/\putRow El.enc (Sort.ahead w q) g 0 d=putRow El.enc (Sort.ahead w q) g 0 (nb El.row d.toList++List.replicate (d.size-(nb El.row d.toList).length) default).toArray):=by
  intro q e;rw[e];simp
 have HH:Aside (Holds El.enc w g 0 d):=hH;clear hH;by_cases h2:d.size<2
 .go_enter Tryz.func195,Tryz.ntmps195
  go_wp2
  go_ret
  obtain⟨e1,e2⟩:=HS.out 0 (Ru El.row E);refine⟨by rw[e1];rfl,0,?_⟩;rw[<-e2];exact(putRow_self El.enc w g 0 d HH.out).symm
 .go_enter Tryz.func195,Tryz.ntmps195
  go_wp2
  go_loopg [5] d.size (λgg s5 wr=>∃k q:Nat,1<=k/\k<=d.size/\d.size-k<=gg/\s5=.int .i64 k/\Aside (wr=putRow El.enc (Sort.ahead w q) g 0 d)/\Aside (nb El.row (d.toList.take k)=d.toList.take k))
  case atStart=>exact⟨1,0,Yi _,E,E,rfl,(putRow_self El.enc w g 0 d HH.out).symm,ZUW El.row d⟩
  case round =>
   obtain⟨k,q,hk1,hk,hg,rfl,W,A⟩:=hrel;by_cases hlt:k<d.size
   .have hHk:Holds El.enc wr g 0 d:=by rw[W.out];exact holds_putRow El.enc _ g 0 d d (holds_ahead El.enc w q g 0 d HH.out) rfl
    obtain⟨kp,rfl⟩:∃kp,k=kp+1:=⟨k-1,E⟩;obtain⟨c1,f1⟩:=hHk (kp+1) hlt;obtain⟨c0,f0⟩:=hHk kp E;have hcall:=ZGM (w:=w) (wr:=wr) (g:=g) (λk hk=>by rw[W.out];exact ZGL _ _ _ _ _ _ hk) d[kp+1]! d[kp]!;simp only[Yt]at c1 c0 f1 f0;clear hHk;have hwp:IntKind.i64.wrap (kp:Int)=(kp:Int):=by rw[IntKind.wrap_i64];omega
    have jz:(kp:Int)+1<(d.size:Int):=by omega
    have jz1:(kp:Int)<(d.size:Int):=by omega
    have p0:(0:Int)<=(kp:Int)+1:=by omega
    have e0:((kp:Int)+1).toNat=kp+1:=by omega
    generalize El.enc d[kp+1]! = x at c1 hcall;generalize El.enc d[kp]! = y at c0 hcall;by_cases hdup:El.row d[kp+1]! = El.row d[kp]!
    .rw[decide_eq_true hdup]at hcall;have DD:Aside (El.row d[kp+1]! = El.row d[kp]!):=hdup;clear hdup
     go_wp2_with fail
     go_quiet (refine Calls.quiet_of (hcall _))
     go_wp2_with fail
     have W3:Aside (wr.drewN nq=putRow El.enc (Sort.ahead w (q+nq)) g 0 d):=by show _=_;rw[W.out,Zsd]
     clear hcall c0 c1 f0 f1;generalize wr.drewN nq=wz at W3|-
     go_loopg [5,7] d.size (λgg s5 s7 wr=>∃(kk k2 q2:Nat) (dk:Array (El w g)),s5=.int .i64 kk/\s7=.int .i64 k2/\1<=k2/\kp+1+k2<=d.size/\d.size-(kp+1+k2)<=gg/\Aside (wr=putRow El.enc (Sort.ahead w q2) g 0 dk)/\Aside (Ui El.row d (kp+1+k2) kk dk))
     case atStart=>exact⟨kp+1,1,q+nq,d,rfl,rfl,Yi _,E,E,W3,Ui.start El.row E hlt A.out DD.out⟩
     case round =>
      clear W W3;obtain⟨kk,k2,q2,dk,rfl,rfl,h1,hle,hg2,W2,I2⟩:=hrel;have hkk:=I2.out.lt;have hds:=I2.out.size El.row hle;have hHk:Holds El.enc wr g 0 dk:=by rw[W2.out];exact holds_putRow El.enc _ g 0 d dk (holds_ahead El.enc w q2 g 0 d HH.out) hds
      obtain⟨kz,rfl⟩:∃kz,k2=kz+1:=⟨k2-1,E⟩;by_cases hlt2:kp+1+(kz+1)<d.size
      .obtain⟨cm,_⟩:=hHk (kp+1+(kz+1)) E;obtain⟨cp,_⟩:=hHk (kp+1+kz) E;obtain⟨ck,fk⟩:=hHk kk E;rw[I2.out.read El.row hle E hlt2,Yt]at cm;rw[I2.out.read El.row hle E E,Yt]at cp;rw[Yt]at ck fk;clear hHk;have hcall:=ZGM (w:=w) (wr:=wr) (g:=g) (λk hk=>by rw[W2.out];exact ZGL _ _ _ _ _ _ hk) d[kp+1+(kz+1)]! d[kp+1+kz]!;have st:∀a m w1,_:=λa m w1=>run_store Tryz.prog w1 a (El.enc d[kp+1+(kz+1)]!) m (El.one _)
       obtain⟨x,hx⟩:∃x,El.enc d[kp+1+(kz+1)]! = x:=⟨_,rfl⟩;have cl:=OneCell.cells (enc:=El.enc) El.one d[kp+1+(kz+1)]!;rw[hx]at cm hcall st cl;simp only[Value.cells]at cl;have XE:Aside (El.enc d[kp+1+(kz+1)]! = x):=hx;clear hx;generalize El.enc d[kp+1+kz]! = y at cp hcall;generalize El.enc dk[kk]! = old at ck;have jz:(kz:Int)+1<((d.size-(kp+1):Nat):Int):=by omega
       have jz1:(kz:Int)<((d.size-(kp+1):Nat):Int):=by omega
       have hwz:IntKind.i64.wrap (kz:Int)=(kz:Int):=by rw[IntKind.wrap_i64];omega
       have q0:(0:Int)<=(kz:Int)+1:=by omega
       have r0:((kz:Int)+1).toNat=kz+1:=by omega
       have kkz:(kk:Int)<(d.size:Int):=by omega
       by_cases CP:El.row d[kp+1+(kz+1)]! = El.row d[kp+1+kz]!
       .rw[decide_eq_true CP]at hcall;have D2:Aside (El.row d[kp+1+(kz+1)]! = El.row d[kp+1+kz]!):=CP;clear CP
        go_wp2_with fail
        go_quiet (refine Calls.quiet_of (hcall _))
        go_wp2
        go_roundg (d.size-(kp+1+(kz+1+1)))
        case measure=>omega
        case rel=>exact⟨kk,kz+1+1,q2+nq,dk,rfl,by go_num,E,E,Yi _,(show Aside _ from by show _=_;rw[W2.out,Zsd]),I2.out.skip El.row hlt2 D2.out⟩
       .rw[decide_eq_false CP]at hcall;have D2:Aside (¬El.row d[kp+1+(kz+1)]! = El.row d[kp+1+kz]!):=CP;clear CP
        go_wp2_with fail
        go_quiet (refine Calls.quiet_of (hcall _))
        go_wp2_with fail
        have W4:Aside (wr.drewN nq=putRow El.enc (Sort.ahead w (q2+nq)) g 0 dk):=by show _=_;rw[W2.out,Zsd]
        clear hcall cm cp ck fk;generalize wr.drewN nq=wq at W4|-
        go_roundg (d.size-(kp+1+(kz+1+1)))
        case measure=>omega
        case rel=>exact⟨kk+1,kz+1+1,q2+nq,dk.setIfInBounds kk d[kp+1+(kz+1)]!,by go_num,by go_num,E,E,Yi _,(show Aside _ from Rv E W4.out XE.out),I2.out.keep El.row hlt2 D2.out⟩
      .have hend:kp+1+(kz+1)=d.size:=by omega
       have jz:¬(kz:Int)+1<((d.size-(kp+1):Nat):Int):=by omega
       have kkz:(kk:Int)<=(d.size:Int):=by omega
       have hcl:∀ty,(Builtin.clear_ #[48] ty #[.slice (some ⟨g,kk,none⟩) (d.size-kk) (cap-kk)]).run Tryz.prog wr=.ok (.tuple #[]) (wr.setCells g kk (List.replicate (d.size-kk) (.slice none 0 0))) :=
        λty=>Lib.run_clear_slice wr _ _ ty _ Tryz.underlying48 Tryz.zeroValue38 rfl rfl g kk _ _ E (λj hj=>by have:=(hHk (kk+j) E).1;rw[Yt]at this;rw[this];rfl) (λj hj=>by have:=(hHk (kk+j) E).2;rw[Yt]at this;exact this)
       clear hHk
       go_wp2
       go_ret
       have hI:=I2.out;rw[hend]at hI;have hlen:=hI.len;rw[show d.toList.take d.size=d.toList from FL Z]at hlen;exact⟨by rw[hlen];rfl,q2,by rw[hlen];exact ZUX El.row hI default W2.out⟩
    .rw[decide_eq_false hdup]at hcall;have DD:Aside (¬El.row d[kp+1]! = El.row d[kp]!):=hdup;clear hdup
     go_wp2_with fail
     go_quiet (refine Calls.quiet_of (hcall _))
     go_wp2
     go_roundg (d.size-(kp+1+1))
     case measure=>omega
     case rel=>exact⟨kp+1+1,q+nq,E,E,Yi _,by go_num,(show Aside _ from by show _=_;rw[W.out,Zsd]),ZUV El.row E hlt A.out DD.out⟩
   .have hk2:k=d.size:=by omega
    have hltz:¬(k:Int)<(d.size:Int):=by omega
    go_wp2
    go_ret
    obtain⟨e1,e2⟩:=HS.out q (by have:=A.out;rw[hk2,show d.toList.take d.size=d.toList from FL Z]at this;exact this);exact⟨by rw[e1];rfl,q,by rw[<-e2];exact W.out⟩
end Go.Proofs.YtobfkfgdneeabaaGreat
namespace Go.Proofs.YtobfkfgdneeabaaGreat
open Go.RowKit Go.AM Go.Lib Go.Sort
def ZGN{N:Bv}{base:Nat}{ρ:Map}{w w':World}{el sz:Nat}{fr:Bool}(R:Rel N base ρ [.arr el sz fr []] w){r:Root}(hr:ρ 0=some r)(c:∀b,1<=b->ρ b=none)(cc:w.grownBy w' none) :
  Rel N base (Au ρ 1 ⟨.slice none 0 0,[]⟩) [.dead,.arr el sz fr []] w'/\
   Go.AM.Xr ρ w (Free N ρ [.arr el sz fr []]) (Au ρ 1 ⟨.slice none 0 0,[]⟩) w' (Free N (Au ρ 1 ⟨.slice none 0 0,[]⟩) [.dead,.arr el sz fr []])/\
   ∀g,g<w.heap.size->¬N.a g->w'.heap[g]?=w.heap[g]?:=by
 have hb:gt [AF.arr el sz fr []] 0=.arr el sz fr []:=by simp[gt]
 have hd:gt [AF.arr el sz fr []] 0≠.dead:=by rw[hb];intro hc;cases hc
 obtain⟨r1,h1,h2⟩:=R.blk 0 hd;rw[hr]at h1;cases h1;rw[hb]at h2;obtain⟨e2,xs,hel,ho,hsz,hlen,htr,hfree,hfr⟩:=h2;have hup:upd [AF.arr el sz fr []] (kill [0]++[(1,.arr el sz fr [])])=[.dead,.arr el sz fr []]:=by simp[upd,kill,stB]
 have hp:=Jn R (n:=1) (ks:=[0]) (x:=.arr el sz fr []) (r:=⟨.slice none 0 0,[]⟩) (row:=none) (w':=w')
  (by intro r0 h0;rw[c 1 (Yi _)]at h0;cases h0) cc
  (by intro g' hg';cases hg') (by intro g' hg';cases hg')
  (λhk=>⟨e2,[],hel,⟨Z,.inl ⟨rfl,rfl⟩⟩,hsz,(by intro x hx;cases hx),.nil,(by intro x hx;cases hx),λ_=>⟨.nil,by intro x hx;cases hx⟩⟩)
  (by intro _ x hx;cases hx)
 rw[hup]at hp;exact hp
def ZGO{α:Type}[Inhabited α](enc:α->Value)(w:World)(c off n:Nat)(d:Array α){k:Nat}(cc:k≠c):(putRow enc (Sort.ahead w n) c off d).heap[k]?=w.heap[k]?:=by
 show(w.heap.modify c (onCells (putCells enc off d)))[k]?=_
 grind
def ZGP{α:Type}[Inhabited α](enc:α->Value)(w:World)(cc off n:Nat)(d:Array α){c:Array Value}{e:TypeId}{fz:Nat×Nat}(hg:w.heap[cc]?=some (.cells c e fz)):(putRow enc (Sort.ahead w n) cc off d).heap[cc]?=some (.cells (putCells enc off d c) e fz):=by
 show(w.heap.modify cc (onCells (putCells enc off d)))[cc]?=_;rw[Array.getElem?_modify,Ya rfl,hg];rfl
def ZVa{fr:Bool}{rows:XS}(cd:rows.length<=4096)(cc:∀r∈rows,r.length<=4) :
  XX Tryz.prog 195 [.own 0,.fn 196 []] [.arr 38 1 fr (rows.map Ae)] (.own 1) [.dead,.arr 38 1 fr ((Vx rows).map Ae)]:=by
 refine⟨by decide +kernel,?_⟩;intro N base w ρ vs R hdom hv hz;obtain⟨l⟩:=vs;simp only at hv
 cases hv with|cons q0 hv =>
 cases hv with|cons q1 hv =>
 cases hv
 cases q0 with|own hr h1 =>
 rename_i r
 cases q1 with|fn q1 =>
 rename_i c;obtain⟨c⟩:=c;simp only at q1;cases q1;have hb:gt [AF.arr 38 1 fr (rows.map Ae)] 0=.arr 38 1 fr (rows.map Ae):=by simp[gt]
 have hd0:gt [AF.arr 38 1 fr (rows.map Ae)] 0≠.dead:=by rw[hb];intro hc;cases hc
 obtain⟨r2,e1,e2⟩:=R.blk 0 hd0;rw[hr]at e1;cases e1;rw[hb]at e2;obtain⟨e',xs,hel,ho,hsz,hlen1,htr,hfree,hfr⟩:=e2;obtain⟨hxl,ho⟩:=ho;have BZ:∀b,1<=b->ρ b=none:=by intro b hb;exact hdom b (by simpa using hb)
 rcases ho with⟨Bh,hn⟩|⟨g,cap,cur,Bh,hbg,hg,hcap,hcm,DA,htake⟩
 .have hn:rows=[]:=by simpa using hn
  subst hn;rw[Bh];refine(ZUY w).mono ?_;rintro e w' ⟨rfl,rfl⟩;obtain⟨p1,p2,p3⟩:=ZGN R hr BZ (w':=w') ⟨rfl,rfl,rfl,Yi _,λ_ _ _=>rfl⟩;refine⟨_,_,rfl,Below.refl _ _,p1,.own (b:=1) (r:=⟨.slice none 0 0,[]⟩) (by simp[Au]) rfl,λb hb=>?_,Z,p3,λk hk hzz=>p2.free k hk (hz k hzz),λb r0 hb h0=>p2.root b r0 h0⟩;simp only[Au];rw[Yb (by simp at hb;omega)];exact BZ b (by simp at hb;omega)
 obtain⟨zs,hzx,hch⟩:=Ch.of htr;obtain⟨l,p1,p2,p3,p4⟩:=hch.zip;have hblk:Xe r.v=some g:=by rw[Bh];rfl
 have hfg:∀x∈r.fp,x≠g:=λx hx e=>by
  subst e;exact(hfree x hx).2 0 r hr hd0 hblk
 have hgs:g<w.heap.size:=(Hy.1 hg).1
 obtain⟨L,hL⟩:=El.list (w:=w) (g:=g) l (by
  intro p hp;have hm:p.1∈rows.map Ae:=by rw[<-p1];exact Yn.2 ⟨p,hp,rfl⟩
  obtain⟨r0,hr0,e0⟩:=Yn.1 hm;have ht:=p4 p hp;rw[<-e0]at ht;obtain⟨q,hq⟩:=ZDo (g:=g) ht (λx hx=>hfg x (by rw[<-p3];exact cU.2 ⟨p.2.2,Yn.2 ⟨p,hp,rfl⟩,hx⟩)) (cc r0 hr0)
  exact⟨q,by rw[hq,e0]⟩)
 subst hL;have hrows:L.map El.row=rows:=by
  have:(L.map El.row).map Ae=rows.map Ae:=by rw[<-p1];simp[El.t3]
  exact(cX (λa b h=>Z27 h)).1 this
 have aV:L.length=rows.length:=by rw[<-hrows,Y1]
 have henc:L.map El.enc=cur.toList.take ((rows.map Ae).length*1):=by
  rw[htake,<-hzx,<-p2,ZqW]
 have hcell:Holds El.enc w g 0 L.toArray:=by
  intro j hj;have hj':j<L.length:=by simpa using hj
  have h2:cur[j]?=some (L[j].enc):=by
   have h3:(cur.toList.take ((rows.map Ae).length*1))[j]?=some (L[j].enc):=by rw[<-henc,RI,Yh hj'];rfl
   rw[RG,Ya (by simp;omega)]at h3;simpa using h3
  refine⟨?_,?_⟩
  .unfold World.cell?;rw[hg];simp[h2,hj']
  .simp[World.frozen?,hg]
 have hcall:=ZUZ (w:=w) (g:=g) cap L.toArray hcell (by simp;omega) (by simp at hcap|-;omega);rw[Bh,show(rows.map Ae).length=L.toArray.size by simp[aV]];refine hcall.mono ?_;rintro e w' ⟨rfl,q,rfl⟩;have hsub:=Rr El.row L;have hnl:(nb El.row L).length<=L.length:=hsub.length_le;have hgr:w.grownBy (putRow El.enc (Sort.ahead w q) g 0 (nb El.row L++List.replicate (L.length-(nb El.row L).length) default).toArray) (some g) :=
  ⟨rfl,rfl,rfl,by show w.heap.size<=(w.heap.modify g _).size;simp,λk hk hne=>ZGO _ _ _ _ _ _ (by intro e;exact hne (by rw[e]))⟩
 obtain⟨P1,P2,P3⟩:=Z5N R hr BZ Bh hg p1 (by rw[p2,hzx,htake]) p3 p4 (hsub.map El.t3) (zr:=List.replicate (L.length-(nb El.row L).length) (El.enc (default:El w g))) (by simp[aV]) ⟨_,ZGP _ _ _ _ _ _ hg,by
  rw[ZqV _ _ _ (by simp at hcap|-;omega),ZqW];simp only[Y5,xE,xB,Yo,w8,Y1]
  rw[show(nb El.row L).length+(L.length-(nb El.row L).length)=rows.length*1 by omega]⟩ hgr
 rw[ZDp,ZGK,hrows,Y1]at P1 P2;have hln:(nb El.row L.toArray.toList).length=(nb El.row L).length:=rfl;refine⟨_,_,rfl,⟨hgr.os,hgr.tape,hgr.output,hgr.size,λk hk=>hgr.block k (Fx hk R.hb) (by intro e;cases e;omega)⟩,P1,.own (b:=1) (r:=⟨.slice (some ⟨g,0,none⟩) (nb El.row L).length cap,(((nb El.row L).map El.t3).map (·.2.2)).flatten⟩) (by unfold Au;rw[Ya rfl]) rfl,λb hb=>?_,Z,P3,λk hk hzz=>P2.free k hk (hz k hzz),λb r0 hb h0=>P2.root b r0 h0⟩;simp only[Au];rw[Yb (by simp at hb;omega)];exact BZ b (by simp at hb;omega)
