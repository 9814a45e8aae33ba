/-
  Parts of the proofs for this seat: SX AR XD DR WM LC.
-/
import Derived.Test.YtcfaekfjkeobhaaGreatP7
import Derived.Test.YtcfaekfjkeobhaaGreatP23
import Derived.Test.YtcfaekfjkeobhaaGreatP24
import Derived.Test.YtcfaekfjkeobhaaGreatP25
set_option linter.unusedSectionVars false
set_option linter.unusedSimpArgs false
set_option linter.unusedVariables false
set_option maxRecDepth 100000
set_option maxHeartbeats 4000000
namespace Go.Proofs.YtcfaekfjkeobhaaGreat
open Go.AM
theorem Zb4h(f:Nat)(xs:List AV)(h0:List Blk)(r:AV)(hr:List Blk)(h:ext f xs h0=some (r,hr)):Zbz Tryz.prog f xs h0 r hr:=by
 unfold ext at h;split at h
 .split at h
  .rename_i i j fr es hc;obtain⟨rfl,h1,h2,h3⟩:=hc;cases h;have e1:i=(i.toNat:Int):=by omega
   have e2:j=(j.toNat:Int):=by omega
   have:=Zb4b (fr:=fr) (es:=es) (i:=i.toNat) (j:=j.toNat) (by omega) (by omega);rw[<-e1,<-e2]at this;exact this
  .cases h
 .split at h
  .rename_i fr es v hc;obtain⟨rfl,h1⟩:=hc;cases h;exact Zb4g λe he=>Zb4e (Ym.1 h1 e he)
  .cases h
 .split at h
  .rename_i v hc;subst hc;cases h;exact Zb4f
  .cases h
 .cases h
theorem sound{f:Nat}{xs:List AV}{h0:List Blk}{r:AV}{hr:List Blk}(h:C f xs h0=some (r,hr)):Zbz Tryz.prog f xs h0 r hr:=Zbqb (tblOK _ _) Zb4h h
theorem tD:tbl 106=none:=by kernel_rfl
theorem tDF:tbl 113=none:=by kernel_rfl
theorem x_Delete(es:List Zd){k:Nat}(hk:k<es.length):Zx4 es k ((k:Int)+1)=some (.own 1,[.dead,.arr 63 8 true ((es.take k++es.drop (k+1)).map Zd.c)]):=by
 unfold Zx4;refine Z0n tD ?_;unfold ext;simp only;rw[if_pos ⟨trivial,by omega,by omega,by simp;omega⟩,Ycf,List.map_take,List.map_drop];rw[show((k:Int)).toNat=k by omega,show((k:Int)+1).toNat=k+1 by omega]
def nextO(es:List Zd)(e:Zd)(i:Nat)(b:Int):Int:=if b<0 then i else match es[b.toNat]? with
 |some x=>if e.Used<x.Used then i else b
 |none=>b
def oldG(es:List Zd):List Zd->Nat->Int->Int
 |[],_,b=>b
 |e::r,i,b=>oldG es r (i+1) (nextO es e i b)
def Zcy(es:List Zd):Int:=oldG es es 0 (-1)
def InO(es:List Zd)(b:Int):Prop:=b<0\/b.toNat<es.length
theorem Z75{es:List Zd}(e:Zd){i:Nat}(hi:i<es.length){b:Int}(hb:InO es b):InO es (nextO es e i b)/\0<=nextO es e i b:=by
 unfold nextO;split
 .exact⟨.inr (by simpa using hi),by omega⟩
 .rename_i h;rcases hb with hb|hb
  .exact absurd hb h
  rw[Ya hb];simp only;split
  .exact⟨.inr (by simpa using hi),by omega⟩
  .exact⟨.inr hb,by omega⟩
theorem oldG_in{es:List Zd}:∀i,i<=es.length->∀b,InO es b->(0<=b\/i<es.length)->0<=oldG es (es.drop i) i b/\(oldG es (es.drop i) i b).toNat<es.length:=by
 refine down _ ?_ ?_
 .intro b hb h0;rw[Yy,oldG];rcases hb with hb|hb
  .omega
  .exact⟨by omega,hb⟩
 .intro i hi ih b hb _;rw[Yi hi,oldG];obtain⟨h1,h2⟩:=Z75 es[i] hi hb;exact ih _ h1 (.inl h2)
theorem Zb4i(c:Zk)(hl:c.Entries.length<=4294967296):∀i,i<=c.Entries.length->∀b,InO c.Entries b->Zmi c b c.Entries c.Entries.length i=some (I (oldG c.Entries (c.Entries.drop i) i b),[]):=by
 refine down _ ?_ ?_
 .intro b hb;refine Zbk1 _ _ _ _ _ _ ?_;rw[if_neg (by omega),Yy];rfl
 .intro i hi ih b hb;have h5:=Zw (i:=i) (by omega);have hn:=(Z75 c.Entries[i] hi hb).1;have ih:=ih _ hn;refine Zbk1 _ _ _ _ _ _ ?_;rw[if_pos (by omega)];refine⟨by omega,_,Ya hi,?_⟩;rw[Yi hi,oldG,show w ((i:Int)+1)=((i+1:Nat):Int)from h5];unfold nextO at ih|-;by_cases h:b<0
  .rw[if_pos h]at ih|-;rw[if_pos h];exact ih
  .rw[if_neg h]at ih|-;rw[if_neg h];rcases hb with hb|hb
   .exact absurd hb h
   rw[Ya hb]at ih|-;simp only at ih;refine⟨by omega,_,rfl,?_⟩;simp only;by_cases h2:c.Entries[i].Used<c.Entries[b.toNat].Used
   .rw[if_pos h2]at ih|-;rw[if_pos (by simpa using h2)];exact ih
   .rw[if_neg h2]at ih|-;rw[if_neg (by simpa using h2)];exact ih
theorem Zbnn(c:Zk)(hl:c.Entries.length<=4294967296):Ziw c=some (I (Zcy c.Entries),[]):=Zb0r _ _ (Zb4i c hl 0 (Yd _) (-1) (.inl (by decide)))
theorem Zb4j(c:Zk)(hl:c.Entries.length<=4294967296):∀i,i<=c.Entries.length->∀b,InO c.Entries b->Zlu c b i=some (I (oldG c.Entries (c.Entries.drop i) i b),[]):=by
 refine down _ ?_ ?_
 .intro b hb;refine Zbjh _ _ _ _ ?_;rw[if_neg (by omega),Yy];rfl
 .intro i hi ih b hb;have h5:=Zw (i:=i) (by omega);have hn:=(Z75 c.Entries[i] hi hb).1;have ih:=ih _ hn;refine Zbjh _ _ _ _ ?_;rw[if_pos (by omega)];rw[Yi hi,oldG,show w ((i:Int)+1)=((i+1:Nat):Int)from h5];unfold nextO at ih|-;by_cases h:b<0
  .rw[if_pos h]at ih|-;rw[if_pos h];exact ih
  .rw[if_neg h]at ih|-;rw[if_neg h];rcases hb with hb|hb
   .exact absurd hb h
   rw[Ya hb]at ih|-;simp only at ih;refine⟨by omega,_,Ya hi,by omega,_,rfl,?_⟩;simp only;by_cases h2:c.Entries[i].Used<c.Entries[b.toNat].Used
   .rw[if_pos h2]at ih|-;rw[if_pos (by simpa using h2)];exact ih
   .rw[if_neg h2]at ih|-;rw[if_neg (by simpa using h2)];exact ih
theorem Zbno(c:Zk)(hl:c.Entries.length<=4294967296):Zht c=some (I (Zcy c.Entries),[]):=Zbx5 _ _ (Zb4j c hl 0 (Yd _) (-1) (.inl (by decide)))
def Zfr(old:Int):List Zd->Nat->List Zd
 |[],_=>[]
 |e::r,i=>if(i:Int)=old then Zfr old r (i+1)else e::Zfr old r (i+1)
theorem Z76{old:Int}:∀(es:List Zd) (i:Nat),old<i->Zfr old es i=es
 |[],_,_=>rfl
 |e::r,i,h=>by
  unfold Zfr;rw[if_neg (by omega),Z76 r (i+1) (by omega)]
theorem Zbnp{k:Nat}:∀(es:List Zd) (i:Nat),i<=k->Zfr k es i=es.take (k-i)++es.drop (k-i+1)
 |[],_,_=>by simp[Zfr]
 |e::r,i,h=>by
  unfold Zfr;by_cases c:(i:Int)=k
  .have:i=k:=by omega
   subst this;rw[if_pos rfl,Z76 r (i+1) (by omega)];simp
  .rw[if_neg c,Zbnp r (i+1) (by omega)];rw[show k-i=(k-(i+1))+1 by omega];rfl
def Zb7(es:List Zd):List Zd:=if es.length=4 then es.take (Zcy es).toNat++es.drop ((Zcy es).toNat+1)else es
theorem Zbnq(es:List Zd):(Zb7 es).length<=es.length:=by
 unfold Zb7;split
 .rw[Yj,Yo,Y7];omega
 .exact Ye _
theorem Z77(es:List Zd):∀x∈Zb7 es,x∈es:=by
 unfold Zb7;split
 .intro x hx;rcases Yh.1 hx with hx|hx
  .exact Yt hx
  .exact Y9 hx
 .exact λ_ h=>h
theorem Z78{es:List Zd}(h:0<es.length):0<=Zcy es/\(Zcy es).toNat<es.length:=by
 have:=oldG_in (es:=es) 0 (Yd _) (-1) (.inl (by decide)) (.inr h);simpa[Zcy]using this
abbrev newE(q:Zc)(r:Region)(v n:Int):Zd:=⟨q,r,v,n⟩
theorem newN(q:Zc)(r:Region)(v n:Int)(he:q.Atoms=[]):(⟨⟨q.Zf,[]⟩,⟨⟨r.Plan.Steps⟩,⟨r.Box.Low,r.Box.High⟩,r.Percent⟩,v,n⟩:Zd)=newE q r v n:=entE (newE q r v n) he
def adNo(c:Zk)(fr:Bool):AV×List Blk:=(.tup [.agg [I c.Clock,.own 0],Bo false],[.arr 63 8 fr (c.Entries.map Zd.c)])
def Zi5(c:Zk)(q:Zc)(r:Region)(v:Int)(fr:Bool):AV×List Blk:=(.tup [.agg [I (c.Clock+1),.own 0],Bo true],[.arr 63 8 fr ((Zb7 c.Entries++[newE q r v (c.Clock+1)]).map Zd.c)])
noncomputable def adOk(m:Ze)(c:Zk)(q:Zc)(r:Region)(v:Int):Bool:=Zbr m c && Zcd m q r && inR v 1 999 && decide (c.Clock≠1000000)
theorem clk_w{m:Ze}{c:Zk}(hv:Zbr m c=true):w (c.Clock+1)=c.Clock+1/\c.Entries.length<=4:=by
 unfold Zbr at hv;simp only[Yc,decide_eq_true_eq]at hv;have hk:=hv.1;simp[inR]at hk;exact⟨Z7 (by omega) (by omega),by omega⟩
theorem Zb4k(m:Ze)(hm:LeM m)(c:Zk)(h:Lc c.Entries)(q:Zc)(hq:Lq q)(v:Int)(r:Region)(hr:Lr r) :
  Zkc m c q v r=some (if adOk m c q r v=true then Zi5 c q r v true else adNo c true):=by
 have q1:=Z7z c h;have q2:=Zpz m hm c h.le;have q3:=Z7t (r:=r) hm hq.le ⟨by have:=hr.2.1;omega,by have:=hr.2.2;omega⟩;have q4:=Z7x q hq;have q5:=Z7y r hr;unfold cRes at q1;unfold qRes at q4;unfold adOk;refine Zb0s _ _ _ _ _ _ ?_;by_cases he:c.Entries=[]
 .rw[if_pos he]at q1;refine .inl ⟨_,q1,_,q2,?_⟩;have no:(.tup [.agg [I c.Clock,.own 0],Bo false],[.arr 63 8 true (([]:List Zd).map Zd.c)])=adNo c true:=by unfold adNo;rw[he]
  rcases tf (Zbr m c)with e|e
  .rw[e,if_neg (by decide),no];simp
  rw[if_pos e];refine⟨_,q3,?_⟩;rcases tf (Zcd m q r)with e2|e2
  .rw[e2,if_neg (by decide),no];simp
  rw[if_pos e2];refine⟨_,Zdz _ _ _,?_⟩;rcases tf (inR v 1 999)with e3|e3
  .rw[e3,if_neg (by decide),no];simp
  rw[if_pos e3];by_cases hc:c.Clock=1000000
  .rw[if_pos hc,no];simp[hc]
  have hok:(Zbr m c && Zcd m q r && inR v 1 999 && decide (c.Clock≠1000000))=true:=by simp[e,e2,e3,hc]
  rw[if_neg hc,if_pos hok];have hk:Zb7 c.Entries=[]:=by rw[he];rfl
  unfold Zi5;rw[hk,(clk_w e).1];by_cases ha:q.Atoms=[]
  .rw[if_pos ha]at q4;exact .inl ⟨_,q4,_,_,_,_,q5,by rw[newN q r v _ ha];rfl⟩
  .rw[if_neg ha]at q4;exact .inr ⟨_,_,q4,_,_,_,_,q5,rfl⟩
 .rw[if_neg he]at q1;refine .inr ⟨_,_,q1,_,q2,?_⟩;have no:(.tup [.agg [I c.Clock,.own 0],Bo false],[.arr 63 8 true (c.Entries.map Zd.c)])=adNo c true:=rfl;rcases tf (Zbr m c)with e|e
  .rw[e,if_neg (by decide),no];simp
  rw[if_pos e];refine⟨_,q3,?_⟩;rcases tf (Zcd m q r)with e2|e2
  .rw[e2,if_neg (by decide),no];simp
  rw[if_pos e2];refine⟨_,Zdz _ _ _,?_⟩;rcases tf (inR v 1 999)with e3|e3
  .rw[e3,if_neg (by decide),no];simp
  rw[if_pos e3];by_cases hc:c.Clock=1000000
  .rw[if_pos hc,no];simp[hc]
  have hok:(Zbr m c && Zcd m q r && inR v 1 999 && decide (c.Clock≠1000000))=true:=by simp[e,e2,e3,hc]
  rw[if_neg hc,if_pos hok];obtain⟨hw,h4⟩:=clk_w e;have hkl:=Zbnq c.Entries;unfold Zi5;rw[hw];by_cases hl:c.Entries.length=4
  .obtain⟨o1,o2⟩:=Z78 (es:=c.Entries) (by omega);have hke:Zb7 c.Entries=c.Entries.take (Zcy c.Entries).toNat++c.Entries.drop ((Zcy c.Entries).toNat+1):=by unfold Zb7;rw[if_pos hl]
   have qo:=Zbnn ⟨c.Clock+1,c.Entries⟩ (by show c.Entries.length<=_;omega);have qd:=x_Delete c.Entries o2;rw[<-hke,show(((Zcy c.Entries).toNat:Nat):Int)=Zcy c.Entries by omega]at qd;rw[if_pos (show(c.Entries.length:Int)=4 by omega)];refine⟨_,qo,_,by rw[show w (Zcy c.Entries+1)=Zcy c.Entries+1 from Z7 (by omega) (by omega)];exact qd,?_⟩;by_cases ha:q.Atoms=[]
   .rw[if_pos ha]at q4;exact .inl ⟨_,q4,_,_,_,_,q5,by omega,by rw[newN q r v _ ha]⟩
   .rw[if_neg ha]at q4;exact .inr ⟨_,_,q4,_,_,_,_,q5,by omega,rfl⟩
  .have hke:Zb7 c.Entries=c.Entries:=by unfold Zb7;rw[if_neg hl]
   rw[if_neg (show ¬(c.Entries.length:Int)=4 by omega),hke];by_cases ha:q.Atoms=[]
   .rw[if_pos ha]at q4;exact .inl ⟨_,q4,_,_,_,_,q5,by omega,by rw[newN q r v _ ha]⟩
   .rw[if_neg ha]at q4;exact .inr ⟨_,_,q4,_,_,_,_,q5,by omega,rfl⟩
theorem Zbnr(q:Zc)(hq:Lq q)(r:Region)(hr:Lr r)(a n:Int)(cc:Bool)(es:List Zd)(hl:es.length<=100)(v old:Int):∀i,i<=es.length->∀(fr:Bool) l,l.length<=i->
  ∃fr2,Zlv q r a n cc es fr l v old i=some (.tup [.agg [I n,.own 0],Bo true],[.arr 63 8 fr2 ((l++Zfr old (es.drop i) i++[newE q r v n]).map Zd.c)]):=by
 have q4:=Zuo q hq;have q5:=Zzi r hr;unfold qResO at q4;refine down _ ?_ ?_
 .intro fr l ho;refine⟨false,Z6k _ _ _ _ _ _ _ _ _ _ _ _ ?_⟩;rw[if_neg (by omega),Yy,Zfr,Ybd];exact⟨_,_,q4,_,r.Box,_,q5,by omega,rfl⟩
 .intro i hi ih fr l ho;have h5:=Zw (i:=i) (by omega);by_cases c:(i:Int)=old
  .obtain⟨fr2,ih⟩:=ih fr l (by omega);refine⟨fr2,Z6k _ _ _ _ _ _ _ _ _ _ _ _ ?_⟩;rw[if_pos (by omega),if_pos c,Yi hi,Zfr,if_pos c,show w ((i:Int)+1)=((i+1:Nat):Int)from h5];exact ih
  .obtain⟨fr2,ih⟩:=ih false (l++[es[i]]) (by simp;omega);refine⟨fr2,Z6k _ _ _ _ _ _ _ _ _ _ _ _ ?_⟩;rw[if_pos (by omega),if_neg c,Yi hi,Zfr,if_neg c,show w ((i:Int)+1)=((i+1:Nat):Int)from h5];refine⟨by omega,_,Ya hi,by omega,?_⟩;rw[ih];simp
theorem Zbns(m:Ze)(hm:LeM m)(c:Zk)(h:Lc c.Entries)(q:Zc)(hq:Lq q)(v:Int)(r:Region)(hr:Lr r) :
  ∃fr,Zfj m c q v r=some (if adOk m c q r v=true then Zi5 c q r v fr else adNo c fr):=by
 have q1:=Zbnb c h;have q2:=Zzh m hm c h.le;have q3:=Zzb (r:=r) hm hq.le ⟨by have:=hr.2.1;omega,by have:=hr.2.2;omega⟩;have q4:=Zuo q hq;have q5:=Zzi r hr;unfold cResS at q1;unfold qResO at q4;by_cases ok:adOk m c q r v=true
 .simp only[if_pos ok];unfold adOk at ok;simp only[Yc,decide_eq_true_eq]at ok;obtain⟨⟨⟨e,e2⟩,e3⟩,hc⟩:=ok;obtain⟨hw,h4⟩:=clk_w e;by_cases he:c.Entries=[]
  .rw[if_pos he]at q1;refine⟨false,Ztr _ _ _ _ _ _ (.inl ⟨_,q1,_,q2,?_⟩)⟩;rw[if_pos e];refine⟨_,q3,?_⟩;rw[if_pos e2];refine⟨_,Zcu _ _ _,?_⟩;rw[if_pos e3,if_neg hc];refine Zbx6 _ _ _ _ _ _ _ _ _ ?_;have hk:Zb7 c.Entries=[]:=by rw[he];rfl
   unfold Zi5;rw[if_neg (by decide),hk,hw];exact⟨_,_,q4,_,r.Box,_,q5,by simp,rfl⟩
  .rw[if_neg he]at q1;by_cases hl:c.Entries.length=4
   .obtain⟨o1,o2⟩:=Z78 (es:=c.Entries) (by omega);have hke:Zb7 c.Entries=Zfr (Zcy c.Entries) c.Entries 0:=by
     unfold Zb7;rw[if_pos hl];have:=Zbnp (k:=(Zcy c.Entries).toNat) c.Entries 0 (Yd _);rw[show(((Zcy c.Entries).toNat:Nat):Int)=Zcy c.Entries by omega]at this;simpa using this.symm
    obtain⟨fr,ql⟩:=Zbnr q hq r hr 0 (w (c.Clock+1)) false c.Entries (by omega) v (Zcy c.Entries) 0 (Yd _) true [] (Yd _);refine⟨fr,Ztr _ _ _ _ _ _ (.inr ⟨_,_,_,q1,_,q2,?_⟩)⟩;rw[if_pos e];refine⟨_,q3,?_⟩;rw[if_pos e2];refine⟨_,Zcu _ _ _,?_⟩;rw[if_pos e3,if_neg hc,if_pos (show(c.Entries.length:Int)=4 by omega),hw];refine⟨_,Zbno ⟨c.Clock+1,c.Entries⟩ (by show c.Entries.length<=_;omega),?_⟩;unfold Zi5;rw[hw]at ql;rw[hke];simpa using ql
   .have hke:Zb7 c.Entries=Zfr (-1) c.Entries 0:=by
     unfold Zb7;rw[if_neg hl,Z76 _ _ (by decide)]
    obtain⟨fr,ql⟩:=Zbnr q hq r hr 0 (w (c.Clock+1)) false c.Entries (by omega) v (-1) 0 (Yd _) true [] (Yd _);refine⟨fr,Ztr _ _ _ _ _ _ (.inr ⟨_,_,_,q1,_,q2,?_⟩)⟩;rw[if_pos e];refine⟨_,q3,?_⟩;rw[if_pos e2];refine⟨_,Zcu _ _ _,?_⟩;rw[if_pos e3,if_neg hc,if_neg (show ¬(c.Entries.length:Int)=4 by omega)];unfold Zi5;rw[hw]at ql|-;rw[hke];simpa using ql
 .simp only[if_neg ok];unfold adOk at ok;by_cases he:c.Entries=[]
  .rw[if_pos he]at q1;refine⟨true,Ztr _ _ _ _ _ _ ?_⟩;have no:(.tup [.agg [I c.Clock,.own 0],Bo false],[.arr 63 8 true (([]:List Zd).map Zd.c)])=adNo c true:=by unfold adNo;rw[he]
   refine .inl ⟨_,q1,_,q2,?_⟩;rcases tf (Zbr m c)with e|e
   .rw[e,if_neg (by decide),no]
   rw[if_pos e];refine⟨_,q3,?_⟩;rcases tf (Zcd m q r)with e2|e2
   .rw[e2,if_neg (by decide),no]
   rw[if_pos e2];refine⟨_,Zcu _ _ _,?_⟩;rcases tf (inR v 1 999)with e3|e3
   .rw[e3,if_neg (by decide),no]
   rw[if_pos e3];by_cases hc:c.Clock=1000000
   .rw[if_pos hc,no]
   .exact absurd (by simp[e,e2,e3,hc]) ok
  .rw[if_neg he]at q1;refine⟨false,Ztr _ _ _ _ _ _ ?_⟩;have no:(.tup [.agg [I c.Clock,.own 0],Bo false],[.arr 63 8 false (c.Entries.map Zd.c)])=adNo c false:=rfl;refine .inr ⟨_,_,_,q1,_,q2,?_⟩;rcases tf (Zbr m c)with e|e
   .rw[e,if_neg (by decide),no]
   rw[if_pos e];refine⟨_,q3,?_⟩;rcases tf (Zcd m q r)with e2|e2
   .rw[e2,if_neg (by decide),no]
   rw[if_pos e2];refine⟨_,Zcu _ _ _,?_⟩;rcases tf (inR v 1 999)with e3|e3
   .rw[e3,if_neg (by decide),no]
   rw[if_pos e3];by_cases hc:c.Clock=1000000
   .rw[if_pos hc,no]
   .exact absurd (by simp[e,e2,e3,hc]) ok
theorem x_valid0(m:Ze)(n:Int):Zww m n=some (Bo (Zbr m ⟨n,[]⟩),[]):=by
 refine Zbxu _ _ _ (Zbxt _ _ _ _ ?_);rw[if_neg (by omega)];refine⟨_,Zcu _ _ _,?_⟩
 have:Zbr m ⟨n,[]⟩=inR n 0 1000000:=by unfold Zbr;simp[okF]
 rw[this];rcases tf (inR n 0 1000000)with e|e<;>simp[e]
theorem Zb4l(m:Ze)(hm:LeM m)(n:Int)(q:Zc)(hq:Lq q)(v:Int)(r:Region)(hr:Lr r) :
  Zju m n q v r=some (if adOk m ⟨n,[]⟩ q r v=true then Zi5 ⟨n,[]⟩ q r v false else adNo ⟨n,[]⟩ true):=by
 have q1:Zwv n=some (.agg [I n,.t .nil],[]):=Zbxs _ _ (Zbxr _ _ _ _ _ (by rw[if_neg (by omega)]));have q2:=x_valid0 m n;have q3:=Zzb (r:=r) hm hq.le ⟨by have:=hr.2.1;omega,by have:=hr.2.2;omega⟩;have q4:=Zuo q hq;have q5:=Zzi r hr;unfold qResO at q4;unfold adOk;refine Zbx0 _ _ _ _ _ _ ⟨_,q1,_,q2,?_⟩;rcases tf (Zbr m ⟨n,[]⟩)with e|e
 .rw[e,if_neg (by decide)];simp[adNo]
 rw[if_pos e];refine⟨_,q3,?_⟩;rcases tf (Zcd m q r)with e2|e2
 .rw[e2,if_neg (by decide)];simp[adNo]
 rw[if_pos e2];refine⟨_,Zcu _ _ _,?_⟩;rcases tf (inR v 1 999)with e3|e3
 .rw[e3,if_neg (by decide)];simp[adNo]
 rw[if_pos e3];by_cases hc:n=1000000
 .rw[if_pos hc];simp[hc,adNo]
 have hok:(Zbr m ⟨n,[]⟩ && Zcd m q r && inR v 1 999 && decide (n≠1000000))=true:=by simp[e,e2,e3,hc]
 rw[if_neg hc,if_pos hok];refine Zbxz _ _ _ _ _ _ _ _ _ ?_;rw[if_neg (by decide)];have hw:w (n+1)=n+1:=(clk_w e).1;exact⟨_,_,q4,_,r.Box,_,q5,by simp,by rw[hw];rfl⟩
theorem SmQ.lq{q:Zc}(h:SmQ q):Lq q:=⟨by have:=h.1;omega,λa ha=>by have:=h.2 a ha;omega⟩
theorem SR.lr{r:Region}(h:SR r):Lr r:=⟨by have:=h.1;omega,by have:=h.2.1;omega,by have:=h.2.2;omega⟩
def SmC(es:List Zd):Prop:=es.length<=1000/\∀e∈es,SmQ e.Zc/\SR e.Region
theorem SmC.lc{es:List Zd}(h:SmC es):Lc es:=⟨by have:=h.1;omega,λe he=>⟨(h.2 e he).1.lq,(h.2 e he).2.lr⟩⟩
theorem SmC.nil:SmC []:=⟨by simp,by simp⟩
theorem SmC.set{es:List Zd}(h:SmC es)(i:Nat)(e:Zd)(h1:SmQ e.Zc)(h2:SR e.Region):SmC (es.set i e):=by
 refine⟨by simpa using h.1,λx hx=>?_⟩;rcases Yb4 hx with hx|hx
 .exact h.2 x hx
 .subst hx;exact⟨h1,h2⟩
theorem adOk_len{m:Ze}{c:Zk}{q:Zc}{r:Region}{v:Int}(ok:adOk m c q r v=true):c.Entries.length<=4:=by
 unfold adOk at ok;simp only[Yc]at ok;exact(clk_w ok.1.1.1).2
theorem SmC.add{m:Ze}{c:Zk}{q:Zc}{r:Region}{v:Int}(h:SmC c.Entries)(hq:SmQ q)(hr:SR r)(ok:adOk m c q r v=true)(n:Int):SmC (Zb7 c.Entries++[newE q r v n]):=by
 have h4:=adOk_len ok;refine⟨by have:=Zbnq c.Entries;simp;omega,λe he=>?_⟩;rcases Yh.1 he with he|he
 .exact h.2 e (Z77 _ e he)
 .rw[List.mem_singleton]at he;subst he;exact⟨hq,hr⟩
theorem Zbnt{m:Ze}(hm:LeM m){c:Zg}(g:GC c):∃(c1:Zg) (q:Zc),Zie c=some (.agg (q.c.map .t),[cB c1])/\∃(c2:Zg) (b:Box),Zif c1 q=some (.agg (b.c.map .t),[cB c2])/\∃(c3:Zg) (l:List Int),Zf4 c2 b=some (L 1 (l.map ic),[cB c3])/\∃sz:List Int,Ze0 l=some (.own 0,[.arr 3 1 true (sz.map ic)])/\∃(cc:List Int) (st:List Zb) (z:Bool),Zhs sz m q=some (.tup [.agg [.own 1],Bo z],[.arr 3 1 true (cc.map ic),.arr 162 3 true (st.map Zb.c)])/\∃(c4:Zg) (pl:List Int) (pc:Int),Zdd c3 [100,150,300]=some (I pc,[cB c4,.arr 3 1 true (pl.map ic)])/\∃(s:List Zb) (lo hi:List Int) (k:Int) (y:Bool),Zgx m q ⟨st⟩ b l pc=some (.tup [.agg [.own 0,.own 1,.own 2,I k],Bo y],[.arr 162 3 true (s.map Zb.c),.arr 3 1 true (lo.map ic),.arr 3 1 true (hi.map ic)])/\GC c4/\SmQ q/\SR ⟨⟨s⟩,⟨lo,hi⟩,k⟩:=by
 obtain⟨c2,q,e2,g2,hq⟩:=Zb21 g;obtain⟨c3,b,e3,g3,hb1,hb2⟩:=x_l24Box g2 q hq.le;obtain⟨c4,l,e4,g4,hl⟩:=Zbm5 g3 b hb1;have es:=Zyy l (by omega);obtain⟨st,z,eo,hst⟩:=Zb3z hm hq.le l hl;obtain⟨c6,pc,e6,g6,_⟩:=Zy4 g4 [100,150,300] (by simp) (by simp);obtain⟨s,lo,hi,n,y,eg,k1,k2,k3⟩:=x_Grow hm hq.le ⟨st⟩ hst b ⟨hb1,hb2⟩ l hl pc;exact⟨c2,q,e2,c3,b,e3,c4,l,e4,_,es,_,st,z,eo,c6,_,pc,e6,s,lo,hi,n,y,eg,g6,hq,k1,k2,k3⟩
def GM(m:Ze)(R:Rs):Prop:=∃(c:Zg) (fr:Bool) (es:List Zd) (n:Int) (q:Zc) (r:Region),R=some (.tup [.agg (m.c.map .t),.agg [I n,.own 1],.agg (q.c.map .t),.agg (r.c.map .t)],[cB c,.arr 63 8 fr (es.map Zd.c)])/\GC c/\SmQ q/\SR r/\SmC es
theorem GM.of{m:Ze}{R R':Rs}(h:GM m R')(k:∀r,R'=some r->R=some r):GM m R:=by
 obtain⟨c,fr,es,n,q,r,e,l⟩:=h;exact⟨c,fr,es,n,q,r,k _ e,l⟩
theorem made_c(m:Ze){c:Zg}(g:GC c)(n:Int)(fr:Bool)(x:List Zd)(hx:SmC x)(q:Zc)(hq:SmQ q)(pc:Int)(s:List Zb)(lo hi:List Int)(hr:SR ⟨⟨s⟩,⟨lo,hi⟩,pc⟩):GM m (Zsf c 0 0 0 0 0 0 0 0 0 0 0 0 0 0 0 0 0 0 0 0 0 0 0 0 0 0 0 0 m n fr x q pc true s lo true hi 0):=by
 refine⟨c,fr,x,n,q,⟨⟨s⟩,⟨lo,hi⟩,pc⟩,?_,g,hq,hr,hx⟩;apply Zbx8;rw[if_neg (by omega)];rfl
theorem made_b(m:Ze){c:Zg}(g:GC c)(n:Int)(q:Zc)(hq:SmQ q)(pc:Int)(s:List Zb)(lo hi:List Int)(hr:SR ⟨⟨s⟩,⟨lo,hi⟩,pc⟩):GM m (Zse c 0 0 0 0 0 0 0 0 0 0 0 0 0 0 0 0 0 0 0 0 0 0 0 0 0 0 0 0 m n q pc true s true lo hi 0):=by
 refine⟨c,true,[],n,q,⟨⟨s⟩,⟨lo,hi⟩,pc⟩,?_,g,hq,hr,.nil⟩;apply Zbx7;rw[if_neg (by omega)];rfl
theorem made_a(m:Ze)(hm:LeM m):∀n:Nat,n<=100->∀(c:Zg) (k:Int) (fr:Bool) (x:List Zd) (q:Zc) (r:Region),GC c->SmC x->SmQ q->SR r->GM m (Zgz c 0 0 0 0 0 0 0 0 0 0 0 0 0 0 0 0 0 0 0 0 0 0 0 0 0 0 0 0 m k fr x q r n):=by
 intro n
 induction n with
 |zero =>
  intro _ c k fr x q r g hx hq hr;refine⟨c,fr,x,k,q,r,?_,g,hq,hr,hx⟩;apply Zyj
  rw[if_neg (by omega)]
 |succ n ih =>
  intro hn c k fr x q r g hx hq hr;obtain⟨c1,q1,e1,c2,b,e2,c3,l,e3,sz,e4,sz2,st,z,e5,c4,pl,pc,e6,s,lo,hi,k1,y,e7,g4,hq1,hr1⟩:=Zbnt hm g;have hw:w (((n+1:Nat):Int)-1)=(n:Int):=by rw[w_id (by omega) (by omega)];omega
  by_cases h1:(1:Int)<((n+1:Nat):Int)
  .obtain⟨c5,v,e8,g5,_⟩:=Zbu g4 2;obtain⟨fr2,ea⟩:=Zbns m hm ⟨k,x⟩ hx.lc q1 hq1.lq (w (1+v)) ⟨⟨s⟩,⟨lo,hi⟩,k1⟩ hr1.lr;by_cases ok:adOk m ⟨k,x⟩ q1 ⟨⟨s⟩,⟨lo,hi⟩,k1⟩ (w (1+v))=true
   .rw[if_pos ok]at ea;refine(ih (by omega) c5 (k+1) fr2 (Zb7 x++[newE q1 ⟨⟨s⟩,⟨lo,hi⟩,k1⟩ (w (1+v)) (k+1)]) q1 ⟨⟨s⟩,⟨lo,hi⟩,k1⟩ g5 (SmC.add (c:=⟨k,x⟩) hx hq1 hr1 ok _) hq1 hr1).of λr2 e=>?_
    apply Zyj;rw[if_pos (by omega)];refine⟨c1,q1,e1,c2,b,e2,c3,l,e3,sz,e4,sz2,st,z,e5,c4,pl,pc,e6,s,lo,hi,k1,y,e7,?_⟩;rw[if_pos h1];exact⟨c5,v,e8,.inr ⟨fr2,_,_,_,ea,by rw[hw];exact e⟩⟩
   .rw[if_neg ok]at ea;refine(ih (by omega) c5 k fr2 x q1 ⟨⟨s⟩,⟨lo,hi⟩,k1⟩ g5 hx hq1 hr1).of λr2 e=>?_
    apply Zyj;rw[if_pos (by omega)];refine⟨c1,q1,e1,c2,b,e2,c3,l,e3,sz,e4,sz2,st,z,e5,c4,pl,pc,e6,s,lo,hi,k1,y,e7,?_⟩;rw[if_pos h1];exact⟨c5,v,e8,.inr ⟨fr2,_,_,_,ea,by rw[hw];exact e⟩⟩
  .have hn0:n=0:=by omega
   subst hn0;refine(made_c m g4 k fr x hx q1 hq1 k1 s lo hi hr1).of λr2 e=>?_
   apply Zyj;rw[if_pos (by omega)];refine⟨c1,q1,e1,c2,b,e2,c3,l,e3,sz,e4,sz2,st,z,e5,c4,pl,pc,e6,s,lo,hi,k1,y,e7,?_⟩;rw[if_neg h1,hw];exact e
theorem Zb4m{c:Zg}(g:GC c):∃m,LeM m/\GM m (Zoi c):=by
 obtain⟨c1,m,e1,g1,hm⟩:=Zb2w g;obtain⟨c2,v,e2,g2,v0,v1⟩:=Zbu g1 5;have v1:=v1 (by omega);have hw1:w (1+v)=1+v:=w_id (by omega) (by omega);refine⟨m,hm,(?_:GM m (Zw3 c2 0 0 0 0 0 0 0 0 0 0 0 0 0 0 0 0 0 0 0 0 0 0 0 0 0 0 0 0 m 0 0 0 (1+v))).of λr e=>Zbx9 _ _ ⟨c1,m,e1,c2,v,e2,by rw[hw1];exact e⟩⟩;obtain⟨d1,q1,f1,d2,b,f2,d3,l,f3,sz,f4,sz2,st,z,f5,d4,pl,pc,f6,s,lo,hi,k1,y,f7,g4,hq1,hr1⟩:=Zbnt hm g2;by_cases h1:(1:Int)<1+v
 .obtain⟨d5,u,f8,g5,_⟩:=Zbu g4 2;have ea:=Zb4l m hm 0 q1 hq1.lq (w (1+u)) ⟨⟨s⟩,⟨lo,hi⟩,k1⟩ hr1.lr;have hw:w (1+v-1)=((v.toNat:Nat):Int):=by rw[w_id (by omega) (by omega)];omega
  by_cases ok:adOk m ⟨0,[]⟩ q1 ⟨⟨s⟩,⟨lo,hi⟩,k1⟩ (w (1+u))=true
  .rw[if_pos ok]at ea;refine(made_a m hm v.toNat (by omega) d5 (0+1) false (Zb7 []++[newE q1 ⟨⟨s⟩,⟨lo,hi⟩,k1⟩ (w (1+u)) (0+1)]) q1 ⟨⟨s⟩,⟨lo,hi⟩,k1⟩ g5 (SmC.add (c:=⟨0,[]⟩) .nil hq1 hr1 ok _) hq1 hr1).of λr2 e=>?_
   apply Z6l;rw[if_pos (by omega)];refine⟨d1,q1,f1,d2,b,f2,d3,l,f3,sz,f4,sz2,st,z,f5,d4,pl,pc,f6,s,lo,hi,k1,y,f7,?_⟩;rw[if_pos h1];exact⟨d5,u,f8,.inr ⟨false,_,_,ea,by rw[hw];exact e⟩⟩
  .rw[if_neg ok]at ea;refine(made_a m hm v.toNat (by omega) d5 0 true [] q1 ⟨⟨s⟩,⟨lo,hi⟩,k1⟩ g5 .nil hq1 hr1).of λr2 e=>?_
   apply Z6l;rw[if_pos (by omega)];refine⟨d1,q1,f1,d2,b,f2,d3,l,f3,sz,f4,sz2,st,z,f5,d4,pl,pc,f6,s,lo,hi,k1,y,f7,?_⟩;rw[if_pos h1];exact⟨d5,u,f8,.inl ⟨_,_,ea,by rw[hw];exact e⟩⟩
 .have hv:v=0:=by omega
  subst hv;refine(made_b m g4 0 q1 hq1 k1 s lo hi hr1).of λr2 e=>?_
  apply Z6l;rw[if_pos (by omega)];refine⟨d1,q1,f1,d2,b,f2,d3,l,f3,sz,f4,sz2,st,z,f5,d4,pl,pc,f6,s,lo,hi,k1,y,f7,?_⟩;rw[if_neg h1];exact e
theorem Z79{c:Zg}(g:GC c):∃m,LeM m/\GM m (Zhu c):=by
 obtain⟨m,hm,c1,fr,es,k,q,r,e1,g1,hq,hr,hx⟩:=Zb4m g;obtain⟨c2,v,e2,g2,_⟩:=Zbu g1 12;refine⟨m,hm,?_⟩;by_cases h0:v=0
 .obtain⟨c3,n,e3,g3,_⟩:=Zb2u g2 [0,1000000,1000001] (by simp) (by simp);exact⟨c3,fr,es,n,q,r,Zpi _ _ (.inr ⟨c1,fr,es,m,k,q,r,e1,c2,v,e2,by rw[if_pos h0];exact⟨c3,n,e3,rfl⟩⟩),g3,hq,hr,hx⟩
 by_cases h1:v=1
 .by_cases hl:0<(es.length:Int)
  .obtain⟨c3,n,e3,g3,_⟩:=Zbu g2 5;have hl':0<es.length:=by omega
   have hh:=hx.2 _ (Yf hl');exact⟨c3,fr,es.set 0 ⟨es[0].Zc,es[0].Region,es[0].Version,n⟩,k,q,r,Zpi _ _ (.inr ⟨c1,fr,es,m,k,q,r,e1,c2,v,e2,by rw[if_neg h0,if_pos h1,if_pos hl];exact⟨c3,n,e3,es[0],Ya hl',rfl⟩⟩),g3,hq,hr,hx.set _ _ hh.1 hh.2⟩
  .exact⟨c2,fr,es,k,q,r,Zpi _ _ (.inr ⟨c1,fr,es,m,k,q,r,e1,c2,v,e2,by rw[if_neg h0,if_pos h1,if_neg hl]⟩),g2,hq,hr,hx⟩
 by_cases h2:v=2
 .by_cases hl:0<(es.length:Int)
  .have hl':0<es.length:=by omega
   have hh:=hx.2 _ (Yf hl');exact⟨c2,fr,es.set 0 ⟨es[0].Zc,⟨es[0].Region.Plan,es[0].Region.Box,99⟩,es[0].Version,es[0].Used⟩,k,q,r,Zpi _ _ (.inr ⟨c1,fr,es,m,k,q,r,e1,c2,v,e2,by rw[if_neg h0,if_neg h1,if_pos h2,if_pos hl];exact⟨es[0],Ya hl',rfl⟩⟩),g2,hq,hr,hx.set _ _ hh.1 hh.2⟩
  .exact⟨c2,fr,es,k,q,r,Zpi _ _ (.inr ⟨c1,fr,es,m,k,q,r,e1,c2,v,e2,by rw[if_neg h0,if_neg h1,if_pos h2,if_neg hl]⟩),g2,hq,hr,hx⟩
 .exact⟨c2,fr,es,k,q,r,Zpi _ _ (.inr ⟨c1,fr,es,m,k,q,r,e1,c2,v,e2,by rw[if_neg h0,if_neg h1,if_neg h2]⟩),g2,hq,hr,hx⟩
theorem Zb4n(code:List Int)(hl:code.length<=1048576):∃(m:Ze) (c:Zk) (q:Zc) (v:Int) (l:List Int),Zsg code=some (.tup [.agg (m.c.map .t),.agg (c.c.map .t),.agg (q.c.map .t),I v,L 1 (l.map ic)],[])/\LeM m/\SmC c.Entries/\SmQ q/\l.length<=100:=by
 obtain⟨c0,e0,g0⟩:=Z64 code hl;obtain⟨m,hm,c1,fr,es,k,q,r,e1,g1,hq,hr,hx⟩:=Z79 g0;have hlo:=hr.2.1
 suffices h:∃(q2:Zc) (v:Int) (l:List Int),Zw4 code=some (.tup [.agg (m.c.map .t),.agg ((⟨k,es⟩:Zk).c.map .t),.agg (q2.c.map .t),I v,L 1 (l.map ic)],[])/\SmQ q2/\l.length<=100 by
  obtain⟨q2,v,l,e,h1,h2⟩:=h;exact⟨m,⟨k,es⟩,q2,v,l,Zbyb _ _ ⟨m,⟨k,es⟩,q2,v,l,e,rfl⟩,hm,hx,h1,h2⟩
 by_cases h:0<(es.length:Int)
 .obtain⟨c2,b,e2,g2⟩:=Zi2 g1 4;rcases tf b with hb|hb
  .subst hb;obtain⟨c3,n,e3,g3,n0,n1⟩:=Zbu g2 es.length;have n1:=n1 h;have hn:n.toNat<es.length:=by omega
   have hh:=hx.2 _ (Yf hn);obtain⟨c4,l,e4,g4,hl4⟩:=Zbm5 g3 es[n.toNat].Region.Box hh.2.2.1;obtain⟨c5,u,e5,g5,_⟩:=Zbu g4 2;exact⟨es[n.toNat].Zc,w (1+u),l,Z6m _ _ ⟨c0,e0,.inr ⟨c1,fr,es,m,k,q,r,e1,by omega,by rw[if_pos h];exact⟨c2,false,e2,by rw[if_neg (by simp)];exact⟨c3,n,e3,n0,_,Ya hn,_,_,Zuo _ hh.1.lq,c4,l,e4,c5,u,e5,rfl⟩⟩⟩⟩,hh.1,hl4⟩
  .subst hb;obtain⟨c3,u,e3,g3,_⟩:=Zbu g2 2;exact⟨q,w (1+u),r.Box.Low,Z6m _ _ ⟨c0,e0,.inr ⟨c1,fr,es,m,k,q,r,e1,by omega,by rw[if_pos h];exact⟨c2,true,e2,by rw[if_pos rfl];exact⟨c3,u,e3,rfl⟩⟩⟩⟩,hq,by omega⟩
 .obtain⟨c3,u,e3,g3,_⟩:=Zbu g1 2;exact⟨q,w (1+u),r.Box.Low,Z6m _ _ ⟨c0,e0,.inr ⟨c1,fr,es,m,k,q,r,e1,by omega,by rw[if_neg h];exact⟨c3,u,e3,rfl⟩⟩⟩,hq,by omega⟩
theorem Zb4o(code:List Int)(hl:code.length<=1048576):∃(m:Ze) (c:Zk) (q:Zc) (v:Int) (r:Region),Zkb code=some (.tup [.agg (m.c.map .t),.agg (c.c.map .t),.agg (q.c.map .t),I v,.agg (r.c.map .t)],[])/\LeM m/\SmC c.Entries/\SmQ q/\SR r:=by
 obtain⟨c0,e0,g0⟩:=Z64 code hl;obtain⟨m,hm,c1,fr,es,k,q,r,e1,g1,hq,hr,hx⟩:=Z79 g0;obtain⟨c2,v,e2,g2,_⟩:=Zy4 g1 [1,2,2,0,1000] (by simp) (by simp);exact⟨m,⟨k,es⟩,q,v,r,Zb0q _ _ ⟨c0,e0,.inr ⟨c1,fr,es,m,k,q,r,e1,c2,_,v,e2,rfl⟩⟩,hm,hx,hq,hr⟩
theorem Zb4p(code:List Int)(hl:code.length<=1048576):∃(m:Ze) (c:Zk) (v:Int),Zg4 code=some (.tup [.agg (m.c.map .t),.agg (c.c.map .t),I v],[])/\LeM m/\SmC c.Entries:=by
 obtain⟨c0,e0,g0⟩:=Z64 code hl;obtain⟨m,hm,c1,fr,es,k,q,r,e1,g1,hq,hr,hx⟩:=Z79 g0;obtain⟨c2,v,e2,g2,_⟩:=Zbu g1 4;exact⟨m,⟨k,es⟩,v,Zb0x _ _ ⟨c0,e0,.inr ⟨c1,fr,es,m,k,q,r,e1,c2,v,e2,rfl⟩⟩,hm,hx⟩
def stay(v:Int)(es:List Zd):List Zd:=es.filter λe=>e.Version == v
theorem Zbnu(v:Int)(es:List Zd):(stay v es).length<=es.length:=Ybr _ _
theorem Zb4q(v:Int):Zx6 v=some (.t .nil,[.box [I v]]):=by
 unfold Zx6;refine Z0n tDF ?_;rfl
theorem Zb4r(es:List Zd)(v:Int):Zx7 es v=some (.own 2,[.dead,.box [I v],.arr 63 8 true ((stay v es).map Zd.c)]):=by
 unfold Zx7;refine Z0n tDF ?_;have h1:(es.map Zd.c).all entB=true:=by
  rw[List.all_map,Ym];intro e _;rfl
 have h2:(es.map Zd.c).filter (Zeo v)=(stay v es).map Zd.c:=by
  rw[List.filter_map];rfl
 show(if 113=113/\(es.map Zd.c).all entB=true then _ else _)=_;rw[if_pos ⟨rfl,h1⟩,h2]
def dsNo(c:Zk):AV×List Blk:=(.tup [.agg [I c.Clock,.own 0],I 0],[.arr 63 8 true (c.Entries.map Zd.c)])
def dsI(c:Zk)(v:Int):AV×List Blk:=(.tup [.agg [I c.Clock,.own 0],I ((c.Entries.length:Int)-(stay v c.Entries).length)],[.arr 63 8 true ((stay v c.Entries).map Zd.c)])
theorem Zb4s(m:Ze)(hm:LeM m)(c:Zk)(h:Lc c.Entries)(v:Int):Zgc m c v=some (if Zbr m c=true then dsI c v else dsNo c):=by
 have q1:=Z7z c h;have q2:=Zpz m hm c h.le;have hl:=h.1;have hk:=Zbnu v c.Entries;unfold cRes at q1;refine Zb0y _ _ _ _ ?_;unfold dsI dsNo;by_cases he:c.Entries=[]
 .rw[if_pos he]at q1;refine .inl ⟨_,q1,_,q2,?_⟩;rcases tf (Zbr m c)with e|e
  .rw[e,if_neg (by decide),he];rfl
  .rw[if_pos e,if_pos e];refine⟨_,Zb4q v,?_⟩;rw[he];rfl
 .rw[if_neg he]at q1;refine .inr ⟨_,_,q1,_,q2,?_⟩;rcases tf (Zbr m c)with e|e
  .rw[e,if_neg (by decide)];rfl
  .rw[if_pos e,if_pos e];refine⟨_,_,Zb4r _ v,?_⟩;rw[show w ((c.Entries.length:Int)-(stay v c.Entries).length)=(c.Entries.length:Int)-(stay v c.Entries).length from Z7 (by omega) (by omega)]
theorem Zbnv{o:Zm}(hv:Zb0 o=true){a b c:Int}(ha:0<=a/\a<=7)(hb:0<=b/\b<=7)(hc:0<=c/\c<=7):Zbg o (Zbo a) (Zbo b) (Zbo c)=tcl o [a,b,c]:=by
 unfold Zbg tcl;rw[hv,Zza ha,Zza hb,Zza hc];rfl
theorem up1{o:Zm}(h:¬decr o){a b c:Int}(ha:0<=a/\a+1<=7)(hb:0<=b/\b<=7)(hc:0<=c/\c<=7):tcl o [a,b,c]<=tcl o [a+1,b,c] :=
 Int.not_lt.1 λq=>h ⟨[a,b,c],⟨a,b,c,rfl,⟨ha.1,by omega⟩,hb,hc⟩,0,by omega,by omega,a,rfl,ha.2,q⟩
theorem up2{o:Zm}(h:¬decr o){a b c:Int}(ha:0<=a/\a<=7)(hb:0<=b/\b+1<=7)(hc:0<=c/\c<=7):tcl o [a,b,c]<=tcl o [a,b+1,c] :=
 Int.not_lt.1 λq=>h ⟨[a,b,c],⟨a,b,c,rfl,ha,⟨hb.1,by omega⟩,hc⟩,1,by omega,by omega,b,rfl,hb.2,q⟩
theorem up3{o:Zm}(h:¬decr o){a b c:Int}(ha:0<=a/\a<=7)(hb:0<=b/\b<=7)(hc:0<=c/\c+1<=7):tcl o [a,b,c]<=tcl o [a,b,c+1] :=
 Int.not_lt.1 λq=>h ⟨[a,b,c],⟨a,b,c,rfl,ha,hb,⟨hc.1,by omega⟩⟩,2,by omega,by omega,c,rfl,hc.2,q⟩
theorem climb{f:Int->Int}(h:∀x,0<=x->x+1<=7->f x<=f (x+1)){a:Int}(h0:0<=a):∀n:Nat,a+n<=7->f a<=f (a+n)
 |0,_=>by simp
 |n+1,hn=>by
  have h1:=climb h h0 n (by omega);have h2:=h (a+n) (by omega) (by omega);rw[show a+((n+1:Nat):Int)=a+n+1 by omega];omega
theorem climb'{f:Int->Int}(h:∀x,0<=x->x+1<=7->f x<=f (x+1)){a b:Int}(h0:0<=a)(c:a<=b)(h7:b<=7):f a<=f b:=by
 have:=climb h h0 (b-a).toNat (by omega)
 rwa [show a+((b-a).toNat:Int)=b by omega]at this
theorem Zbnw{o:Zm}(h:Zbt o){a b c a' b' c':Int}(ha:0<=a/\a<=a'/\a'<=7)(hb:0<=b/\b<=b'/\b'<=7)(hc:0<=c/\c<=c'/\c'<=7):Zbg o (Zbo a) (Zbo b) (Zbo c)<=Zbg o (Zbo a') (Zbo b') (Zbo c'):=by
 obtain⟨h1,h2,_⟩:=h;rw[Zbnv h1 ⟨by omega,by omega⟩ ⟨by omega,by omega⟩ ⟨by omega,by omega⟩,Zbnv h1 ⟨by omega,by omega⟩ ⟨by omega,by omega⟩ ⟨by omega,by omega⟩];have q1:=climb' (f:=λx=>tcl o [x,b,c]) (λx k1 k2=>up1 h2 ⟨k1,k2⟩ ⟨by omega,by omega⟩ ⟨by omega,by omega⟩) ha.1 ha.2.1 ha.2.2;have q2:=climb' (f:=λx=>tcl o [a',x,c]) (λx k1 k2=>up2 h2 ⟨by omega,by omega⟩ ⟨k1,k2⟩ ⟨by omega,by omega⟩) hb.1 hb.2.1 hb.2.2;have q3:=climb' (f:=λx=>tcl o [a',b',x]) (λx k1 k2=>up3 h2 ⟨by omega,by omega⟩ ⟨by omega,by omega⟩ ⟨k1,k2⟩) hc.1 hc.2.1 hc.2.2;exact Int.le_trans (Int.le_trans q1 q2) q3
theorem Zp0{m:Ze}(h:Zck m)(k:Int):Zbt (mOp m k):=by
 obtain⟨h1,h2,h3,h4,h5⟩:=h;unfold mOp
 repeat' split
 all_goals assumption
def SzLe(s s':List Int):Prop:=∀k,∃a a',0<=a/\a<=a'/\a'<=7/\szAt s k=Zbo a/\szAt s' k=Zbo a'
theorem SzLe.op{s s':List Int}(h:SzLe s s'){o:Zm}(ho:Zbt o)(A B M:Int):Zbg o (szAt s A) (szAt s B) (szAt s M)<=Zbg o (szAt s' A) (szAt s' B) (szAt s' M):=by
 obtain⟨a,a',h1,h2,h3,h4,h5⟩:=h A;obtain⟨b,b',g1,g2,g3,g4,g5⟩:=h B;obtain⟨c,c',k1,k2,k3,k4,k5⟩:=h M;rw[h4,h5,g4,g5,k4,k5];exact Zbnw ho ⟨h1,h2,h3⟩ ⟨g1,g2,g3⟩ ⟨k1,k2,k3⟩
theorem SzLe.op0{s s':List Int}(h:SzLe s s'){o:Zm}(ho:Zbt o)(A M:Int):Zbg o (szAt s A) 0 (szAt s M)<=Zbg o (szAt s' A) 0 (szAt s' M):=by
 obtain⟨a,a',h1,h2,h3,h4,h5⟩:=h A;obtain⟨c,c',k1,k2,k3,k4,k5⟩:=h M;rw[h4,h5,k4,k5,show(0:Int)=Zbo 0 from by decide];exact Zbnw ho ⟨h1,h2,h3⟩ ⟨by omega,by omega,by omega⟩ ⟨k1,k2,k3⟩
theorem Zbnx{l:List Int}(h:Zch l=true){i:Nat}(hi:i<l.length):0<=l[i]/\l[i]<=7:=by
 unfold Zch at h;rw[Ym]at h;exact Ze8.1 (h _ (Yf hi))
theorem Zbny{l l':List Int}(h:Zbc l=true)(h':Zbc l'=true)(hl:l.length=l'.length)(hd:∀(i:Nat) (h1:i<l.length) (h2:i<l'.length),l[i]<=l'[i]):SzLe (Zbd l) (Zbd l'):=by
 intro k;unfold Zbc at h h';simp only[Yc]at h h';unfold szAt Zbd;by_cases hk:k.toNat<l.length
 .have hk':k.toNat<l'.length:=by omega
  refine⟨l[k.toNat],l'[k.toNat],(Zbnx h.1 hk).1,hd _ hk hk',(Zbnx h'.1 hk').2,?_,?_⟩<;>simp[hk,hk']
 .refine⟨0,0,by omega,by omega,by omega,?_,?_⟩
  .rw[Ybu (by simp;omega)];decide
  .rw[Ybu (by simp;omega)];decide
theorem Zbnz:∀(xs ys:List Int) (n k B:Int),xs.length=ys.length->(∀(i:Nat) (h1:i<xs.length) (h2:i<ys.length),xs[i]<=ys[i])->(∀x∈xs,-2000000000<=x/\x<=2000000000)->(∀x∈ys,-2000000000<=x/\x<=2000000000)->n<=k->-B<=n->n<=B->-B<=k->k<=B->B+2000000000*xs.length<=1000000000000->sumW xs n<=sumW ys k/\-1000000000000<=sumW xs n/\sumW ys k<=1000000000000/\sumW xs n<=1000000000000/\-1000000000000<=sumW ys k
 |[],[],n,k,B,_,_,_,_,h,h1,h2,h3,h4,h5=>by simp only[sumW,List.foldl_nil];simp at h5;omega
 |x::xs,y::ys,n,k,B,hl,hle,hx,hy,h,h1,h2,h3,h4,h5=>by
  have b1:=hx x (by simp);have b2:=hy y (by simp);have b3:=hle 0 (by simp) (by simp);simp only[List.getElem_cons_zero]at b3;simp only[Yx]at h5 hl;have e1:sumW (x::xs) n=sumW xs (n+x):=by
   show List.foldl _ (w (n+x)) xs=_;rw[w_id (by omega) (by omega)];rfl
  have e2:sumW (y::ys) k=sumW ys (k+y):=by
   show List.foldl _ (w (k+y)) ys=_;rw[w_id (by omega) (by omega)];rfl
  rw[e1,e2];refine Zbnz xs ys (n+x) (k+y) (B+2000000000) (by omega) (λi h1 h2=>?_) (λz hz=>hx z (by simp[hz])) (λz hz=>hy z (by simp[hz])) (by omega) (by omega) (by omega) (by omega) (by omega) (by omega);have:=hle (i+1) (by simp;omega) (by simp;omega)
  simpa using this
 |[],_::_,_,_,_,hl,_,_,_,_,_,_,_,_,_=>by simp at hl
 |_::_,[],_,_,_,hl,_,_,_,_,_,_,_,_,_=>by simp at hl
theorem step_le{m:Ze}(ha:Zck m){s s':List Int}(h:SzLe s s')(info:List Zi)(x:Zb)(y:Zi):Zc2 m info s x y<=Zc2 m info s' x y:=by
 unfold Zc2;split<;>split
 .exact h.op0 (Zp0 ha _) _ _
 .exact h.op (Zp0 ha _) _ _ _
 .exact h.op0 (Zp0 ha _) _ _
 .exact h.op (Zp0 ha _) _ _ _
theorem Zbn0{m:Ze}(ha:Zck m){s s':List Int}(h:SzLe s s')(info:List Zi):∀(xs:List Zb) (ys:List Zi),(Zb6 m info s xs ys).length=(Zb6 m info s' xs ys).length/\(Zb6 m info s xs ys).length<=xs.length/\(∀(i:Nat) (h1:i<(Zb6 m info s xs ys).length) (h2:i<(Zb6 m info s' xs ys).length),(Zb6 m info s xs ys)[i]<=(Zb6 m info s' xs ys)[i])/\(∀x∈Zb6 m info s xs ys,-2000000000<=x/\x<=2000000000)/\∀x∈Zb6 m info s' xs ys,-2000000000<=x/\x<=2000000000
 |x::xs,y::ys=>by
  obtain⟨h1,h2,h3,h4,h5⟩:=Zbn0 ha h info xs ys;simp only[Zb6];refine⟨by simp[h1],by simp;omega,?_,?_,?_⟩
  .intro i k1 k2
   cases i with
   |zero=>exact step_le ha h info x y
   |succ i=>exact h3 i (by simpa using k1) (by simpa using k2)
  .intro z hz;rcases Y8.1 hz with rfl|hz
   .exact Zgk _ _ _ _
   .exact h4 z hz
  .intro z hz;rcases Y8.1 hz with rfl|hz
   .exact Zgk _ _ _ _
   .exact h5 z hz
 |[],_=>by simp[Zb6]
 |_::_,[]=>by simp[Zb6]
theorem plan_le{m:Ze}(ha:Zck m){s s':List Int}(h:SzLe s s')(n:Int)(qa:List Atom)(steps:List Zb)(hs:Zb5 n qa s=true)(c:Zb5 n qa s'=true):Zcm m n qa steps s<=Zcm m n qa steps s'/\-1000000000000<=Zcm m n qa steps s/\Zcm m n qa steps s'<=1000000000000/\Zcm m n qa steps s<=1000000000000/\-1000000000000<=Zcm m n qa steps s':=by
 unfold Zcm Zh2 Zfo;rw[hs,c]
 cases e:Zcb n qa steps with
 |none=>simp
 |some info =>
  obtain⟨_,h1,h2,h3⟩:=Zji e;obtain⟨k1,k2,k3,k4,k5⟩:=Zbn0 ha h info steps info;simp only[Option.isSome_some,Bool.and_self,if_true];exact Zbnz _ _ 0 0 0 k1 k3 k4 k5 (by omega) (by omega) (by omega) (by omega) (by omega) (by omega)
def R1(e e':Za):Prop:=e.Mask=e'.Mask/\e.Order=e'.Order/\e.Cost<=e'.Cost
def RL:List Za->List Za->Prop
 |[],[]=>True
 |a::xs,b::ys=>R1 a b/\RL xs ys
 |_,_=>False
theorem RL.get:∀{l l':List Za},RL l l'->∀k:Nat,(l[k]?=none/\l'[k]?=none)\/∃e e',l[k]?=some e/\l'[k]?=some e'/\R1 e e'
 |[],[],_,k=>.inl ⟨rfl,rfl⟩
 |a::xs,b::ys,h,0=>.inr ⟨a,b,rfl,rfl,h.1⟩
 |a::xs,b::ys,h,k+1=>by
  rw[List.getElem?_cons_succ,List.getElem?_cons_succ]
  exact RL.get h.2 k
 |[],_::_,h,_=>h.elim
 |_::_,[],h,_=>h.elim
theorem RL.set:∀{l l':List Za},RL l l'->∀{e e':Za},R1 e e'->∀k:Nat,RL (l.set k e) (l'.set k e')
 |[],[],_,_,_,_,_=>trivial
 |a::xs,b::ys,h,_,_,he,0=>⟨he,h.2⟩
 |a::xs,b::ys,h,_,_,he,k+1=>⟨h.1,RL.set h.2 he k⟩
 |[],_::_,h,_,_,_,_=>h.elim
 |_::_,[],h,_,_,_,_=>h.elim
theorem RL.app:∀{l l' k k':List Za},RL l l'->RL k k'->RL (l++k) (l'++k')
 |[],[],_,_,_,h=>h
 |_::_,_::_,_,_,h,h'=>⟨h.1,RL.app h.2 h'⟩
 |[],_::_,_,_,h,_=>h.elim
 |_::_,[],_,_,h,_=>h.elim
theorem RL.filt{p:Za->Bool}(hp:∀e e',R1 e e'->p e=p e'):∀{l l':List Za},RL l l'->RL (l.filter p) (l'.filter p)
 |[],[],_=>trivial
 |a::xs,b::ys,h=>by
  have ih:=RL.filt hp h.2;have e:=hp a b h.1;rcases tf (p a)with q|q
  .rw[Ycr (by rw[q];simp),Ycr (by rw[<-e,q];simp)];exact ih
  .rw[Ycq q,Ycq (by rw[<-e];exact q)];exact⟨h.1,ih⟩
 |[],_::_,h=>h.elim
 |_::_,[],h=>h.elim
theorem RL.ofM{l l':List Za}(h:RL l l')(M:Int):RL (ofM l M) (ofM l' M):=RL.filt (λe e' he=>by rw[he.1]) h
theorem RL.sm{l l':List Za}(h:RL l l'):RL (l.filter sm) (l'.filter sm):=RL.filt (λe e' he=>by unfold Go.Proofs.YtcfaekfjkeobhaaGreat.sm;rw[he.1]) h
theorem Zb4t{a b a' b':Za}(h:a.Cost<=a'.Cost)(h2:b.Cost<=b'.Cost):(Zcn a b).Cost<=(Zcn a' b').Cost:=by
 unfold Zcn;split<;>split<;>omega
theorem RL.fold:∀{l l':List Za},RL l l'->∀{b b':Za},b.Cost<=b'.Cost->(l.foldl Zcn b).Cost<=(l'.foldl Zcn b').Cost
 |[],[],_,_,_,h=>h
 |_::_,_::_,h,_,_,hb=>RL.fold h.2 (Zb4t hb h.1.2.2)
 |[],_::_,h,_,_,_=>h.elim
 |_::_,[],h,_,_,_=>h.elim
theorem RL.best:∀{l l':List Za},RL l l'->(Z5 l).Cost<=(Z5 l').Cost
 |[],[],_=>Int.le_refl _
 |_::_,_::_,h=>RL.fold (l:=_::_) (l':=_::_) h h.1.2.2
 |[],_::_,h=>h.elim
 |_::_,[],h=>h.elim
theorem RL.ofO:∀{l l':List Za},RL l l'->∀o:Int,(ofO l o=none/\ofO l' o=none)\/∃e e',ofO l o=some e/\ofO l' o=some e'/\R1 e e'
 |[],[],_,_=>.inl ⟨rfl,rfl⟩
 |a::xs,b::ys,h,o=>by
  unfold Go.Proofs.YtcfaekfjkeobhaaGreat.ofO;by_cases q:a.Order=o
  .rw[List.find?_cons_of_pos (by simpa using q),List.find?_cons_of_pos (by simpa[<-h.1.2.1]using q)];exact .inr ⟨a,b,rfl,rfl,h.1⟩
  .rw[List.find?_cons_of_neg (by simpa using q),List.find?_cons_of_neg (by simpa[<-h.1.2.1]using q)]
   exact RL.ofO h.2 o
 |[],_::_,h,_=>h.elim
 |_::_,[],h,_=>h.elim
def SO(M:Int)(l:List Za):Prop:=∀(k:Nat) e,l[k]?=some e->e.Mask≠0->e.Order=(k:Int)-1/\e.Mask=M
theorem SO.off{M:Int}{l:List Za}(h:SO M l){m:Ze}{s:List Int}{a b:Za}{k v o:Int}(ho:-1<=o)(hM:orI a.Mask b.Mask=M):SO M (offJ m s a b k v o l):=by
 intro j e he hn;unfold offJ at he;rw[List.getElem?_set]at he;split at he
 .rename_i hj;split at he
  .cases he;have keep:((l[(o+1).toNat]?).getD zE).Mask≠0->((l[(o+1).toNat]?).getD zE).Order=(j:Int)-1/\((l[(o+1).toNat]?).getD zE).Mask=M:=by
    intro hn
    cases q:l[(o+1).toNat]? with
    |none=>rw[q]at hn;exact absurd rfl hn
    |some e=>rw[q]at hn;rw[<-hj];exact h _ _ q hn
   unfold offE at hn|-;split
   .exact⟨by show o=_;omega,hM⟩
   .rename_i h0;split
    .exact⟨by show o=_;omega,hM⟩
    .exact keep h0
  .cases he
 .exact h j e he hn
section
variable{m:Ze}(ha:Zck m){s s':List Int}(hz:SzLe s s')
def Bd(c:Int):Prop:=-400000000000<=c/\c<=400000000000
theorem Held.bd{qa:List Atom}{M:Int}{E:List Za}(h:Held m s qa M E)(c:M16 M):∀e∈E,-200000000000<=e.Cost/\e.Cost<=200000000000:=λe he=>(h.makes e he).bound (by have:=(h.len e he).2;have:=Zeb c;omega)
def RS(M:Int)(l l':List Za):Prop:=RL l l'/\SO M l/\SO M l'
include ha hz
theorem off_le{M:Int}{a b a' b':Za}(k v o:Int)(ho:-1<=o){l l':List Za}(h:RS M l l')(hM:orI a.Mask b.Mask=M)(h1:a.Mask=a'.Mask)(h2:b.Mask=b'.Mask)(h3:a.Cost<=a'.Cost)(h4:b.Cost<=b'.Cost)(b1:Bd a.Cost)(b2:Bd a'.Cost)(b3:Bd b.Cost)(b4:Bd b'.Cost):RS M (offJ m s a b k v o l) (offJ m s' a' b' k v o l'):=by
 obtain⟨h,so,so'⟩:=h;refine⟨?_,so.off ho hM,so'.off ho (by rw[<-h1,<-h2];exact hM)⟩;unfold offJ;have hj:jc m s a b k<=jc m s' a' b' k:=by
  unfold jc;obtain⟨p1,p2⟩:=b1;obtain⟨p3,p4⟩:=b2;obtain⟨p5,p6⟩:=b3;obtain⟨p7,p8⟩:=b4;have c1:=Zgk (mOp m k) (szAt s a.Mask) (szAt s b.Mask) (szAt s (orI a.Mask b.Mask));have c2:=Zgk (mOp m k) (szAt s' a'.Mask) (szAt s' b'.Mask) (szAt s' (orI a'.Mask b'.Mask));rw[w_id (x:=a.Cost+b.Cost) (by omega) (by omega),w_id (x:=a'.Cost+b'.Cost) (by omega) (by omega),w_id (by omega) (by omega),w_id (by omega) (by omega)];have:=hz.op (Zp0 ha k) a.Mask b.Mask (orI a.Mask b.Mask);rw[<-h1,<-h2];omega
 have hs:R1 ((l[(o+1).toNat]?).getD zE) ((l'[(o+1).toNat]?).getD zE)/\(((l[(o+1).toNat]?).getD zE).Mask≠0->(((l[(o+1).toNat]?).getD zE).Order=o/\((l[(o+1).toNat]?).getD zE).Mask=M)/\((l'[(o+1).toNat]?).getD zE).Order=o/\((l'[(o+1).toNat]?).getD zE).Mask=M):=by
  rcases h.get (o+1).toNat with⟨e1,e2⟩|⟨e,e',e1,e2,r⟩
  .rw[e1,e2];exact⟨⟨rfl,rfl,Int.le_refl _⟩,λhn=>absurd rfl hn⟩
  .have q1:=so _ _ e1;have q2:=so' _ _ e2;rw[e1,e2];refine⟨r,λhn=>?_⟩;have k1:=q1 hn;have k2:=q2 (by rw[<-r.1];exact hn);simp only[Option.getD_some];exact⟨⟨by omega,k1.2⟩,by omega,k2.2⟩
 refine h.set ?_ _;obtain⟨⟨r1,r2,r3⟩,r4⟩:=hs;unfold offE;rw[<-h1,<-h2,hM,<-r1];split
 .exact⟨rfl,rfl,hj⟩
 .rename_i hn;obtain⟨⟨q1,q2⟩,q3,q4⟩:=r4 hn;split<;>split
  .exact⟨rfl,rfl,hj⟩
  .exact⟨q4.symm,q3.symm,by show jc m s a b k<=_;omega⟩
  .exact⟨q2,q1,by show _<=jc m s' a' b' k;omega⟩
  .exact⟨r1,r2,r3⟩
theorem srt_le{qa:List Atom}{A:Int}(hA:M16 A){E E':List Za}(h:RL E E')(hE:Held m s qa A E)(c:Held m s' qa A E')(v:Int):(srt m s A E v).Cost<=(srt m s' A E' v).Cost/\Bd (srt m s A E v).Cost/\Bd (srt m s' A E' v).Cost:=by
 have b1:=hE.bd hA _ hE.best;have b2:=c.bd hA _ c.best;have c1:=Zgk m.Sort_ (szAt s A) 0 (szAt s A);have c2:=Zgk m.Sort_ (szAt s' A) 0 (szAt s' A);have hb:=h.best;have ho:=hz.op0 (Zp0 ha 2) A A;have h2:mOp m 2=m.Sort_:=rfl;rw[h2]at ho;unfold srt Bd;simp only;rw[w_id (x:=(Z5 E).Cost+Zbg m.Sort_ (szAt s A) 0 (szAt s A)) (by omega) (by omega),w_id (x:=(Z5 E').Cost+Zbg m.Sort_ (szAt s' A) 0 (szAt s' A)) (by omega) (by omega)];omega
theorem inp_le{qa:List Atom}{A:Int}(hA:M16 A){E E':List Za}(h:RL E E')(hE:Held m s qa A E)(c:Held m s' qa A E')(v:Int):(inp m s A E v).Mask=A/\(inp m s' A E' v).Mask=A/\(inp m s A E v).Cost<=(inp m s' A E' v).Cost/\Bd (inp m s A E v).Cost/\Bd (inp m s' A E' v).Cost:=by
 obtain⟨s1,s2,s3⟩:=srt_le ha hz hA h hE c v;have n1:(srt m s A E v).Mask=A:=rfl;have n2:(srt m s' A E' v).Mask=A:=rfl;unfold inp;rcases h.ofO v with⟨e1,e2⟩|⟨e,e',e1,e2,r⟩
 .rw[e1,e2];exact⟨n1,n2,s1,s2,s3⟩
 .have m1:=List.mem_of_find?_eq_some e1;have m2:=List.mem_of_find?_eq_some e2;have b1:=hE.bd hA _ m1;have b2:=c.bd hA _ m2;have k1:=hE.mask _ m1;have k2:=c.mask _ m2;have k3:=r.2.2;have q1:Bd e.Cost:=⟨by omega,by omega⟩;have q2:Bd e'.Cost:=⟨by omega,by omega⟩;rw[e1,e2];simp only;split<;>split
  .exact⟨k1,k2,k3,q1,q2⟩
  .exact⟨k1,n2,by omega,q1,s3⟩
  .exact⟨n1,k2,by omega,s2,q2⟩
  .exact⟨n1,n2,s1,s2,s3⟩
theorem Zbn1{M:Int}{b b':Za}(h2:b.Mask=b'.Mask)(h4:b.Cost<=b'.Cost)(b3:Bd b.Cost)(b4:Bd b'.Cost):∀{E E':List Za},RL E E'->(∀e∈E,-1<=e.Order/\orI e.Mask b.Mask=M/\Bd e.Cost)->(∀e∈E',Bd e.Cost)->∀{l l':List Za},RS M l l'->RS M (E.foldl (Ze9 m s b) l) (E'.foldl (Ze9 m s' b') l')
 |[],[],_,_,_,_,_,h=>h
 |e::E,e'::E',hr,h1,h1',l,l',h=>by
  obtain⟨k1,k2,k3⟩:=h1 e (by simp);have k4:=h1' e' (by simp);simp only[Yv];refine Zbn1 h2 h4 b3 b4 hr.2 (λx hx=>h1 x (by simp[hx])) (λx hx=>h1' x (by simp[hx])) ?_;unfold Ze9;rw[<-hr.1.2.1]
  exact off_le ha hz 5 0 e.Order k1 h k2 hr.1.1 h2 hr.1.2.2 h4 k3 k4 b3 b4
 |[],_::_,hr,_,_,_,_,_=>hr.elim
 |_::_,[],hr,_,_,_,_,_=>hr.elim
theorem Zbn2{qa:List Atom}{A B M:Int}(hp:Pair qa A B M){E E' F F':List Za}(hr:RL E E')(hf:RL F F')(hE:Held m s qa A E)(c:Held m s' qa A E')(hF:Held m s qa B F)(cc:Held m s' qa B F'):∀(sh:List Int),(∀v∈sh,-1<=v)->∀{l l':List Za},RS M l l'->RS M (sh.foldl (Zfq m s A B E F) l) (sh.foldl (Zfq m s' A B E' F') l')
 |[],_,_,_,h=>h
 |v::sh,hv,l,l',h=>by
  simp only[Yv];refine Zbn2 hp hr hf hE c hF cc sh (λx hx=>hv x (by simp[hx])) ?_;obtain⟨p1,p2,p3,p4,p5⟩:=inp_le ha hz hp.a16 hr hE c v;obtain⟨q1,q2,q3,q4,q5⟩:=inp_le ha hz hp.b16 hf hF cc v;unfold Zfq;exact off_le ha hz 4 v v (hv v (by simp)) h (by rw[p1,q1];exact hp.or) (by rw[p1,p2]) (by rw[q1,q2]) p3 q3 p4 p5 q4 q5
theorem split_le{qa:List Atom}{A B M:Int}(hp:Pair qa A B M){E E' F F':List Za}(hr:RL E E')(hf:RL F F')(hE:Held m s qa A E)(c:Held m s' qa A E')(hF:Held m s qa B F)(cc:Held m s' qa B F')(sh:List Int)(hv:∀v∈sh,-1<=v){l l':List Za}(h:RS M l l'):RS M (Zh4 m s A B sh E F l) (Zh4 m s' A B sh E' F' l'):=by
 unfold Zh4;have f1:=hF.bd hp.b16 _ hF.best;have f2:=cc.bd hp.b16 _ cc.best;have e1:=hE.bd hp.a16 _ hE.best;have e2:=c.bd hp.a16 _ c.best;have m1:=hE.mask _ hE.best;have m2:=c.mask _ c.best;have m3:=hF.mask _ hF.best;have m4:=cc.mask _ cc.best;refine Zbn2 ha hz hp hr hf hE c hF cc sh hv (Zbn1 ha hz (by rw[m3,m4]) hf.best ⟨by omega,by omega⟩ ⟨by omega,by omega⟩ hr (λe he=>⟨(hE.ord e he).1,by rw[hE.mask e he,m3];exact hp.or,by have:=hE.bd hp.a16 e he;exact⟨by omega,by omega⟩⟩) (λe he=>by have:=c.bd hp.a16 e he;exact⟨by omega,by omega⟩) ?_);exact off_le ha hz 3 0 (-1) (by omega) h (by rw[m1,m3];exact hp.or) (by rw[m1,m2]) (by rw[m3,m4]) hr.best hf.best ⟨by omega,by omega⟩ ⟨by omega,by omega⟩ ⟨by omega,by omega⟩ ⟨by omega,by omega⟩
theorem Zbn3{qa:List Atom}{M:Int}{t t':List Za}(ht:RL t t'):∀(ps:List (Int×List Int)),(∀p∈ps,Zi3 m s qa t M p.1 p.2/\Zi3 m s' qa t' M p.1 p.2/\∀v∈p.2,-1<=v)->∀{l l':List Za},RS M l l'->RS M (ps.foldl (oneJ m s M t) l) (ps.foldl (oneJ m s' M t') l')
 |[],_,_,_,h=>h
 |p::ps,hp,l,l',h=>by
  simp only[Yv];refine Zbn3 ht ps (λx hx=>hp x (by simp[hx])) ?_;obtain⟨o1,o2,o3⟩:=hp p (by simp);unfold oneJ;exact split_le ha hz o1.pair (ht.ofM _) (ht.ofM _) o1.left o2.left o1.right o2.right p.2 o3 h
end
theorem rs_zero(M:Int):RS M (List.replicate 5 zE) (List.replicate 5 zE):=by
 refine⟨⟨⟨rfl,rfl,Int.le_refl _⟩,⟨rfl,rfl,Int.le_refl _⟩,⟨rfl,rfl,Int.le_refl _⟩,⟨rfl,rfl,Int.le_refl _⟩,⟨rfl,rfl,Int.le_refl _⟩,trivial⟩,?_,?_⟩ <;>
 .intro k e he hn;have:=Yu he;rw[Yc6 this]at hn;exact absurd rfl hn
theorem Zbn4{m:Ze}{q:Zc}{s s':List Int}(ha:Zck m)(hz:SzLe s s')(b:Base m q s)(b':Base m q s'):∀i,i<=(Zp q.Atoms).length->RL (Zbb m s q i) (Zbb m s' q i)
 |0,_=>trivial
 |i+1,hi=>by
  have ih:=Zbn4 ha hz b b' i (by omega);have hlt:i<(Zp q.Atoms).length:=by omega
  obtain⟨h1,h2,h3,h4⟩:=Zmo hlt;have i1:=Zkq b i (by omega);have i2:=Zkq b' i (by omega);simp only[Zbb];rw[show(Zp q.Atoms).getD i 0=(Zp q.Atoms)[i] by simp[List.getD,hlt]];refine ih.app ?_;generalize (Zp q.Atoms)[i]=M at h1 h2 h3 h4;have o1:=Zue b i1 h1 h3 h4;have o2:=Zue b' i2 h1 h3 h4;have big:RL ((Zko m s M (Zbb m s q i) (Zco q M)).filter sm) ((Zko m s' M (Zbb m s' q i) (Zco q M)).filter sm):=by
   refine(Zbn3 ha hz (qa:=q.Atoms) ih (Zco q M) (λp hp=>⟨o1 p hp,o2 p hp,?_⟩) (rs_zero M)).1.sm;unfold Zco at hp;obtain⟨A,_,rfl⟩:=Y3.1 hp;exact λv hv=>(Zbmx b.hv v hv).1.1
  unfold entM;split
  .refine⟨⟨rfl,rfl,?_⟩,trivial⟩;exact hz.op0 ha.1 M M
  .exact big
theorem opt_le{m:Ze}{q:Zc}{s s':List Int}(ha:Zck m)(hz:SzLe s s')(b:Base m q s)(b':Base m q s')(hc:Zcc q.Zf q.Atoms (Zx q.Zf q.Atoms)=true):(opt m q s).Cost<=(opt m q s').Cost/\-200000000000<=(opt m q s).Cost/\(opt m q s').Cost<=200000000000/\(opt m q s).Cost<=200000000000/\-200000000000<=(opt m q s').Cost:=by
 have h1:=((Zbn4 ha hz b b' _ (Ye _)).ofM (Zx q.Zf q.Atoms)).best;have f:=Zzc q.Zf q.Atoms;have t1:=Zuh b hc;have t2:=Zuh b' hc;have k1:=t1.bd ⟨f.1,by omega⟩ _ t1.best;have k2:=t2.bd ⟨f.1,by omega⟩ _ t2.best;unfold opt tab at *
 exact⟨h1,k1.1,k2.2,k1.2,k2.1⟩
theorem dom_pt{xs ys:List Int}(h:Zbe xs ys=true)(i:Nat)(h1:i<ys.length)(h2:i<xs.length):ys[i]<=xs[i]:=Z0z h i h2 h1
theorem Zb4u{m:Ze}{q:Zc}{r:Region}(hm:LeM m)(hq:LeQ q)(h:Zcx m q r)(hp:Zhc m q r=true){l:List Int}(hl:Zbc l=true)(hn:l.length=r.Box.Low.length)(cd:∀(i:Nat) (h1:i<r.Box.Low.length) (h2:i<l.length),r.Box.Low[i]<=l[i])(cc:∀(i:Nat) (h1:i<l.length) (h2:i<r.Box.High.length),l[i]<=r.Box.High[i]):Zcm m q.Zf q.Atoms r.Plan.Steps (Zbd l)*100<=r.Percent*(opt m q (Zbd l)).Cost/\Zuk m q r l=true:=by
 obtain⟨f1,f2,f3,f4,f5,f6,f7⟩:=Zpy h;obtain⟨b1,b2,b3,b4⟩:=box_get f5;have z1:=Zbny f2 hl (by omega) cd;have z2:=Zbny hl f3 (by omega) cc;have k1:=Zpx hm h.2.2 hq f1 f2 f4;have k2:=Zpx hm h.2.2 hq f1 hl (by omega);have k3:=Zpx hm h.2.2 hq f1 f3 (by omega);have p1:=plan_le h.2.2 z2 q.Zf q.Atoms r.Plan.Steps k2.hsv k3.hsv;have p2:=opt_le h.2.2 z1 k1 k2 h.2.1;have pc:=Ze8.1 f6;have e1:∀c:Int,-200000000000<=c->c<=200000000000->-200000000000000<=r.Percent*c/\r.Percent*c<=200000000000000:=by
  intro c c1 c2;have:=mul_b (a:=c) (l:=r.Percent) (A:=200000000000) (L:=1000) (by omega) (by omega) (by omega) (by omega);rw[Int.mul_comm];omega
 unfold Zhc at hp;simp only[decide_eq_true_eq]at hp;have q1:=e1 _ p2.2.1 p2.2.2.2.1;have q2:=e1 _ p2.2.2.2.2 p2.2.2.1;rw[w_id (by omega) (by omega),w_id (by omega) (by omega)]at hp;have q3:r.Percent*(opt m q (Zbd r.Box.Low)).Cost<=r.Percent*(opt m q (Zbd l)).Cost:=Int.mul_le_mul_of_nonneg_left p2.1 (by omega);refine⟨by omega,?_⟩;unfold Zuk;rw[w_id (by omega) (by omega),w_id (by omega) (by omega)];simp only[Bool.not_eq_true',decide_eq_false_iff_not];omega
def lkNo(c:Zk)(fr:Bool):AV×List Blk:=(.tup [.agg [I c.Clock,.own 0],.agg [.own 1],Bo false],[.arr 63 8 fr (c.Entries.map Zd.c),.arr 162 3 true (([]:List Zb).map Zb.c)])
def touched(es:List Zd)(i:Nat)(e:Zd)(n:Int):List Zd:=es.set i ⟨e.Zc,e.Region,e.Version,n⟩
def lkYes(c:Zk)(i:Nat)(e:Zd)(fr:Bool):AV×List Blk:=(.tup [.agg [I (c.Clock+1),.own 0],.agg [.own 1],Bo true],[.arr 63 8 fr ((touched c.Entries i e (c.Clock+1)).map Zd.c),.arr 162 3 true (e.Region.Plan.Steps.map Zb.c)])
theorem Zb4v(m:Ze)(hm:LeM m)(c:Zk)(h:Lc c.Entries)(q:Zc)(v:Int)(l:List Int)(hl:Le l) :
  (∃fr,Zpb m c q v l=some (lkNo c true)/\Zpd m c q v l=some (lkNo c fr))\/
  ∃(i:Nat) (e:Zd) (fr:Bool),(Zbr m c=true/\c.Clock≠1000000/\c.Entries[i]?=some e/\fits q v l e=true/\Zb3 (fits q v l) c.Entries 0=i)/\Zpb m c q v l=some (lkYes c i e true)/\Zpd m c q v l=some (lkYes c i e fr):=by
 have q1:=Z7z c h;have q2:=Z71 c h q v l hl;have q3:=Zpz m hm c h.le;have s1:=Zbnb c h;have s2:=Zbne c h q v l hl;have s3:=Zzh m hm c h.le;unfold cRes at q1;unfold cResS at s1;by_cases he:c.Entries=[]
 .rw[if_pos he]at q1 s1;have hf:Zb3 (fits q v l) c.Entries 0=-1:=by rw[he];rfl
  rw[hf]at q2 s2;have no:lkNo c true=(.tup [.agg [I c.Clock,.own 0],.agg [.own 1],Bo false],[.arr 63 8 true (([]:List Zd).map Zd.c),.arr 162 3 true (([]:List Zb).map Zb.c)]):=by unfold lkNo;rw[he]
  refine .inl ⟨true,?_,?_⟩
  .rw[no];exact Ztt _ _ _ _ _ _ (.inl ⟨_,q1,_,q2,by rw[if_pos (by decide)]⟩)
  .rw[no];refine Ztu _ _ _ _ _ _ (.inl ⟨_,s1,_,s2,_,s3,?_⟩);rcases tf (Zbr m c)with e|e
   .rw[e,if_neg (by decide)]
   .rw[if_pos e,if_pos (by decide)]
 .rw[if_neg he]at q1 s1;rcases Zbnf (fits q v l) c.Entries 0 with hf|⟨j,hf,hj,hp⟩
  .rw[hf]at q2 s2;refine .inl ⟨false,Ztt _ _ _ _ _ _ (.inr ⟨_,_,q1,_,q2,by rw[if_pos (by decide)];rfl⟩),Ztu _ _ _ _ _ _ (.inr ⟨false,_,_,s1,_,s2,_,s3,?_⟩)⟩;rcases tf (Zbr m c)with e|e
   .rw[e,if_neg (by decide)];rfl
   .rw[if_pos e,if_pos (by decide)];rfl
  .rw[Yp]at hf;rw[hf]at q2 s2;have hs:=(h.2 _ (Yf hj)).2.1;by_cases e:Zbr m c=true
   .by_cases hc:c.Clock=1000000
    .refine .inl ⟨false,Ztt _ _ _ _ _ _ (.inr ⟨_,_,q1,_,q2,by rw[if_neg (by omega),if_pos hc];rfl⟩),Ztu _ _ _ _ _ _ (.inr ⟨false,_,_,s1,_,s2,_,s3,?_⟩)⟩;rw[if_pos e,if_neg (by omega),if_pos hc];rfl
    .have hw:=(clk_w e).1;refine .inr ⟨j,c.Entries[j],false,⟨e,hc,Ya hj,hp,hf⟩,Ztt _ _ _ _ _ _ (.inr ⟨_,_,q1,_,q2,?_⟩),Ztu _ _ _ _ _ _ (.inr ⟨false,_,_,s1,_,s2,_,s3,?_⟩)⟩
     .rw[if_neg (by omega),if_neg hc];refine⟨_,q3,?_⟩;rw[if_pos e,hw];exact⟨by omega,_,Ya hj,_,Ya hj,_,Zbm9 _ hs,rfl⟩
     .rw[if_pos e,if_neg (by omega),if_neg hc,hw];exact⟨by omega,_,Ya hj,_,Ya hj,by omega,rfl⟩
   .have e:=by simpa using e
    refine .inl ⟨false,Ztt _ _ _ _ _ _ (.inr ⟨_,_,q1,_,q2,?_⟩),Ztu _ _ _ _ _ _ (.inr ⟨false,_,_,s1,_,s2,_,s3,?_⟩)⟩
    .rw[if_neg (by omega)];by_cases hc:c.Clock=1000000
     .rw[if_pos hc];rfl
     .rw[if_neg hc];refine⟨_,q3,?_⟩;rw[e,if_neg (by decide)];rfl
    .rw[e,if_neg (by decide)];rfl
theorem l_eqS(xs:List Zb)(hx:xs.length<=1000):∀i,i<=xs.length->Zmh xs xs xs.length i=some (Bo true,[]):=by
 refine down _ ?_ ?_
 .exact Zbkz (by rw[if_neg (by omega)])
 .intro i hi ih;refine Zbkz ?_;rw[if_pos (by omega),wN i (by omega)];exact⟨by omega,xs[i],by simp[hi],xs[i],by simp[hi],by rw[if_pos ⟨rfl,rfl,rfl⟩];exact ih⟩
theorem l_eqI(xs:List Int)(hx:xs.length<=1000):∀i,i<=xs.length->Zok xs xs xs.length i=some (Bo true,[]):=by
 refine down _ ?_ ?_
 .exact Zyk _ _ _ _ _ (by rw[if_neg (by omega)])
 .intro i hi ih;refine Zyk _ _ _ _ _ ?_;rw[if_pos (by omega),wN i (by omega)];exact⟨by omega,xs[i],by simp[hi],xs[i],by simp[hi],by rw[if_pos rfl];exact ih⟩
theorem x_eqI(xs:List Int)(hx:xs.length<=1000):Zjv xs xs=some (Bo true,[]):=Zbjk _ _ _ (by rw[if_pos rfl];exact l_eqI xs hx 0 (by omega))
theorem x_eqR(r:Region)(h:SR r):Zx2 r r=some (Bo true,[]) :=
 Zb0k _ _ _ ⟨_,Zb0i _ _ _ ⟨_,Zb0h _ _ _ (by rw[if_pos rfl];exact l_eqS _ h.1 0 (by omega)),rfl⟩,by
  rw[if_pos rfl]
  exact⟨_,Zb0j _ _ _ ⟨_,x_eqI _ (by have:=h.2.1;omega),by rw[if_pos rfl];exact⟨_,x_eqI _ (by have:=h.2.2;omega),rfl⟩⟩,by rw[if_pos rfl];simp⟩⟩
theorem x_eqE(e:Zd)(h:SmQ e.Zc/\SR e.Region):Zx3 e e=some (Bo true,[]) :=
 Zb0l _ _ _ ⟨_,Zbnc _ _ h.1.lq,by rw[if_pos (by simp)];exact⟨_,x_eqR _ h.2,by rw[if_pos rfl,if_pos rfl];simp⟩⟩
theorem l_eqE(xs:List Zd)(h:SmC xs):∀i,i<=xs.length->Zti xs xs xs.length i=some (Bo true,[]):=by
 have hx:=h.1;refine down _ ?_ ?_
 .exact Zbk0 _ _ _ _ _ (by rw[if_neg (by omega)])
 .intro i hi ih;refine Zbk0 _ _ _ _ _ ?_;rw[if_pos (by omega),wN i (by omega)];exact⟨by omega,xs[i],by simp[hi],xs[i],by simp[hi],_,x_eqE _ (h.2 _ (Yf hi)),by rw[if_pos rfl];exact ih⟩
theorem Zbn5(n:Int)(xs:List Zd)(h:SmC xs):Ztj ⟨n,xs⟩ ⟨n,xs⟩=some (Bo true,[]) :=
 Zb0n _ _ _ (by rw[if_pos rfl];exact⟨_,Zb0m _ _ _ (by rw[if_pos rfl];exact l_eqE xs h 0 (by omega)),rfl⟩)
theorem l_sEqP(p:Plan)(hx:p.Steps.length<=1000):∀i,i<=p.Steps.length->Zmj p p i=some (Bo true,[]):=by
 refine down _ ?_ ?_
 .exact Zbk3 (by rw[if_neg (by omega)])
 .intro i hi ih;refine Zbk3 ?_;rw[if_pos (by omega),wN i (by omega)];exact⟨by omega,p.Steps[i],by simp[hi],p.Steps[i],by simp[hi],by rw[if_pos ⟨rfl,rfl,rfl⟩];exact ih⟩
theorem x_sEqR(r:Region)(h:SR r):Zx5 r r=some (Bo true,[]) :=
 Zb0v _ _ _ ⟨_,Zb0t _ _ _ (by rw[if_pos rfl];exact l_sEqP _ h.1 0 (by omega)),by
  rw[if_pos rfl]
  exact⟨_,Zb0u _ _ _ ⟨_,Z70 _ _ (by have:=h.2.1;omega),by rw[if_pos ((Zvq _ _).2 rfl)];exact⟨_,Z70 _ _ (by have:=h.2.2;omega),by rw[(Zvq _ _).2 rfl]⟩⟩,by rw[if_pos (by decide)];simp⟩⟩
theorem l_sEqC(c:Zk)(h:SmC c.Entries):∀i,i<=c.Entries.length->Ztl c c i=some (Bo true,[]):=by
 have hx:=h.1;refine down _ ?_ ?_
 .exact Zbk2 _ _ _ _ (by rw[if_neg (by omega)])
 .intro i hi ih;refine Zbk2 _ _ _ _ ?_;rw[if_pos (by omega),wN i (by omega)];have hh:=h.2 _ (Yf hi);exact⟨by omega,c.Entries[i],by simp[hi],c.Entries[i],by simp[hi],_,Zbnd _ _ hh.1.lq,by rw[if_pos (by simp)];exact⟨_,x_sEqR _ hh.2,by rw[if_pos rfl,if_pos rfl,if_pos rfl];exact ih⟩⟩
theorem Zbn6(n:Int)(xs:List Zd)(h:SmC xs):Zkd ⟨n,xs⟩ ⟨n,xs⟩=some (Bo true,[]) :=
 Zb0w _ _ _ (by rw[if_pos rfl,if_pos rfl];exact l_sEqC ⟨n,xs⟩ h 0 (by omega))
abbrev EO(m:Ze)(n:Int)(e:Zd):Prop:=inR e.Version 1 999=true/\inR e.Used 1 n=true/\Zcd m e.Zc e.Region=true
theorem Zbn7(m:Ze)(c:Zk):∀(l cc:List Zd),c.Entries=cc++l->(okF m c l cc.length=true↔(∀e∈l,EO m c.Clock e)/\l.Pairwise (λa b=>a.Used≠b.Used)/\∀x∈cc,∀e∈l,x.Used≠e.Used)
 |[],cc,_=>by simp[okF]
 |e::l,cc,h=>by
  have ih:=Zbn7 m c l (cc++[e]) (by rw[h];simp);rw[Yj,List.length_singleton]at ih;have ht:c.Entries.take cc.length=cc:=by rw[h];simp
  have hu:Zgn cc e=false↔∀x∈cc,x.Used≠e.Used:=by unfold Zgn;simp[Ycs]
  rw[okF,Yc,ih];unfold entOk;rw[ht];simp only[Yc,Bool.not_eq_true',hu,Y8,forall_eq_or_imp,Yc2,Yh,List.not_mem_nil,or_false];constructor
  .rintro⟨⟨a1,a2,a3,a4⟩,b1,b2,b3⟩;exact⟨⟨⟨a1,a2,a3⟩,b1⟩,⟨λx hx=>b3 e (.inr rfl) x hx,b2⟩,λx hx=>⟨a4 x hx,λy hy=>b3 x (.inl hx) y hy⟩⟩
  .rintro⟨⟨⟨a1,a2,a3⟩,b1⟩,⟨p1,p2⟩,r⟩;refine⟨⟨a1,a2,a3,λx hx=>(r x hx).1⟩,b1,p2,?_⟩;rintro x (hx|rfl) y hy
   .exact(r x hx).2 y hy
   .exact p1 y hy
theorem Zus{m:Ze}{c:Zk}:Zbr m c=true↔inR c.Clock 0 1000000=true/\c.Entries.length<=4/\(∀e∈c.Entries,EO m c.Clock e)/\c.Entries.Pairwise (λa b=>a.Used≠b.Used):=by
 unfold Zbr;rw[Yc,Yc,decide_eq_true_eq,show okF m c c.Entries 0=okF m c c.Entries ([]:List Zd).length from rfl,Zbn7 m c c.Entries [] rfl];constructor
 .rintro⟨a,b,c1,d,_⟩;exact⟨a,by omega,c1,d⟩
 .rintro⟨a,b,c1,d⟩;exact⟨a,by omega,c1,d,by simp⟩
theorem EO.up{m:Ze}{n:Int}{e:Zd}(h:EO m n e):EO m (n+1) e:=⟨h.1,Ze8.2 (by have:=Ze8.1 h.2.1;omega),h.2.2⟩
theorem Zb4w{m:Ze}{c:Zk}(hv:Zbr m c=true)(hc:c.Clock≠1000000){i:Nat}{e:Zd}(hi:c.Entries[i]?=some e):Zbr m ⟨c.Clock+1,touched c.Entries i e (c.Clock+1)⟩=true:=by
 obtain⟨v1,v2,v3,v4⟩:=Zus.1 hv;have k:=Ze8.1 v1;have he:=v3 e (Yu hi);refine Zus.2 ⟨Ze8.2 (by show 0<=c.Clock+1/\c.Clock+1<=1000000;omega),by unfold touched;simpa using v2,?_,?_⟩
 .intro x hx;rcases Yb4 hx with hx|hx
  .exact(v3 x hx).up
  .subst hx;exact⟨he.1,Ze8.2 (by show 1<=c.Clock+1/\c.Clock+1<=c.Clock+1;omega),he.2.2⟩
 .unfold touched;rw[Yb6]at v4|-;intro a b ha hb hab;have ha':a<c.Entries.length:=by simpa using ha
  have hb':b<c.Entries.length:=by simpa using hb
  have ua:=Ze8.1 (v3 _ (Yf ha')).2.1;have ub:=Ze8.1 (v3 _ (Yf hb')).2.1;show((c.Entries.set i _)[a]).Used≠((c.Entries.set i _)[b]).Used;rw[List.getElem_set,List.getElem_set];split<;>split
  .omega
  .show c.Clock+1≠_;omega
  .show _≠c.Clock+1;omega
  .exact v4 a b ha' hb' hab
theorem Zb4x(es:List Zd):(Zb7 es).Sublist es:=by
 unfold Zb7;split
 .conv=>rhs;rw[<-Ybl (Zcy es).toNat es]
  refine(List.Sublist.refl _).append ?_;rw[show(Zcy es).toNat+1=(Zcy es).toNat+1 from rfl,<-Ybh];exact List.drop_sublist 1 _
 .exact List.Sublist.refl _
theorem keptE_3{es:List Zd}(h:es.length<=4):(Zb7 es).length<=3:=by
 unfold Zb7;split
 .have:=Z78 (es:=es) (by omega);simp only[Yj,Yo,Y7];omega
 .omega
theorem Zb4y{m:Ze}{c:Zk}{q:Zc}{r:Region}{v:Int}(ok:adOk m c q r v=true):Zbr m ⟨c.Clock+1,Zb7 c.Entries++[newE q r v (c.Clock+1)]⟩=true/\(Zb7 c.Entries++[newE q r v (c.Clock+1)]).length<=4/\Zcd m q r=true:=by
 unfold adOk at ok;simp only[Yc,decide_eq_true_eq]at ok;obtain⟨⟨⟨hv,hp⟩,hr⟩,hc⟩:=ok;obtain⟨v1,v2,v3,v4⟩:=Zus.1 hv;have k:=Ze8.1 v1;have k3:=keptE_3 v2;have hl:(Zb7 c.Entries++[newE q r v (c.Clock+1)]).length<=4:=by simp;omega
 refine⟨Zus.2 ⟨Ze8.2 (by show 0<=c.Clock+1/\c.Clock+1<=1000000;omega),hl,?_,?_⟩,hl,hp⟩
 .intro x hx;rcases Yh.1 hx with hx|hx
  .exact(v3 x (Z77 _ x hx)).up
  .rw[List.mem_singleton]at hx;subst hx;exact⟨hr,Ze8.2 (by show 1<=c.Clock+1/\c.Clock+1<=c.Clock+1;omega),hp⟩
 .refine List.pairwise_append.2 ⟨v4.sublist (Zb4x _),List.pairwise_singleton _ _,?_⟩;intro x hx y hy;rw[List.mem_singleton]at hy;subst hy;have:=Ze8.1 (v3 x (Z77 _ x hx)).2.1;show x.Used≠c.Clock+1;omega
theorem Zbn8{α:Type}(p:α->Bool):∀(xs:List α) (i:Nat),(∃x∈xs,p x=true)->0<=Zb3 p xs i
 |[],_,h=>by obtain⟨x,hx,_⟩:=h;simp at hx
 |x::xs,i,h=>by
  unfold Zb3;split
  .omega
  .rename_i hn;obtain⟨y,hy,hp⟩:=h;rcases Y8.1 hy with rfl|hy
   .exact absurd hp hn
   .exact Zbn8 p xs (i+1) ⟨y,hy,hp⟩
theorem Zbn9{m:Ze}{q:Zc}{r:Region}(h:Zcd m q r=true):Zcx m q r/\Zhc m q r=true:=by
 unfold Zcd at h;simpa only[Yc,decide_eq_true_eq]using h
theorem Zb4z{m:Ze}{q:Zc}{r:Region}(hp:Zcd m q r=true)(v n:Int)(es:List Zd):0<=Zb3 (fits q v r.Box.Low) (es++[newE q r v n]) 0:=by
 refine Zbn8 _ _ _ ⟨newE q r v n,by simp,?_⟩;have hv:Zb2 r.Box.Low r.Box.High=true:=(Zpy (Zbn9 hp).1).2.2.2.2.1;obtain⟨_,_,_,_,b5,b6⟩:=Zi4 hv;show(decide (v=v) && (decide (q=q) && Zgs r.Box.Low r.Box.High r.Box.Low))=true;unfold Zgs dom;rw[hv,b6,Zum];simp[b5]
theorem Zb40{m:Ze}(hm:LeM m){q:Zc}(hq:LeQ q){v:Int}{l:List Int}{e:Zd}(hf:fits q v l e=true)(hp:Zcd m e.Zc e.Region=true):Zbc l=true/\Base m q (Zbd l)/\Zck m/\Zcc q.Zf q.Atoms (Zx q.Zf q.Atoms)=true/\Zuk m q e.Region l=true:=by
 unfold fits at hf;simp only[Yc,decide_eq_true_eq]at hf;obtain⟨_,hqe,hb⟩:=hf;subst hqe;obtain⟨ho,hp⟩:=Zbn9 hp;unfold Zgs dom at hb;simp only[Yc,decide_eq_true_eq]at hb;obtain⟨⟨hv,h1,h2⟩,h3,h4⟩:=hb;obtain⟨_,b2,b3,b4,b5,b6⟩:=Zi4 hv;have hloc:Zbc l=true:=by
  unfold Zbc;rw[Zzf h1 (by omega) h2 h4 b3 b4];simp;omega
 have f:=Zpy ho;refine⟨hloc,Zpx hm ho.2.2 hq f.1 hloc (by have:=f.2.2.2.1;omega),ho.2.2,ho.2.1,(Zb4u hm hq ho hp hloc h1 (λi g1 g2=>dom_pt h2 i g1 g2) (λi g1 g2=>dom_pt h4 i g1 g2)).2⟩
theorem Zb41{m:Ze}{q:Zc}{l:List Int}(h:Zbc l=true)(bb:Base m q (Zbd l))(hm:LeM m)(ha:Zck m)(hc:Zcc q.Zf q.Atoms (Zx q.Zf q.Atoms)=true):Ztk m q l=some (I (opt m q (Zbd l)).Cost,[]):=by
 have l1:=Zui h;have hs:=Zyy l (by omega);rw[h,if_pos rfl]at hs;have hl:=Zmp bb (Ye (Zp q.Atoms).length);obtain⟨fr,ht⟩:=Z7q bb;have hsv:=Zyw q bb.hq (Zbd l) (by simp[Zbd];omega)
 have hT:=Zyh (Zbd l) m q _ ⟨_,Zt2 m hm,by
  rw[if_pos (by simp[ha])]
  exact⟨_,hsv,by rw[bb.hsv,if_pos rfl];exact⟨_,Z7p q bb.hq bb.hv,_,_,ht,rfl⟩⟩⟩
 have hB:=Z6g (Zbd l) m q _ (.inl ⟨_,_,_,hT,_,Zc1 q bb.hq,.inr ⟨_,_,_,_,Zbm3 _ _ (by omega) (Zuh bb hc).ne (Zug bb (Ye _)),rfl⟩⟩);have hC:=Zb0o (Zbd l) m q _ (.inr ⟨_,_,_,_,_,hB,rfl⟩);exact Zb0p _ _ _ _ ⟨_,hs,_,_,hC,rfl⟩
end Go.Proofs.YtcfaekfjkeobhaaGreat
