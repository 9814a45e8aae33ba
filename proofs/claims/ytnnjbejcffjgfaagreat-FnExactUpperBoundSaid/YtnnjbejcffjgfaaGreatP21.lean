/-
  Parts of the proofs for this seat: GD GE GF GH NAx LI MK SP LS LJ LK LL.
-/
import Derived.Test.YtnnjbejcffjgfaaGreatP13
import Derived.Test.YtnnjbejcffjgfaaGreatP14
import Derived.Test.YtnnjbejcffjgfaaGreatP15
import Derived.Test.YtnnjbejcffjgfaaGreatP16
import Derived.Test.YtnnjbejcffjgfaaGreatP17
import Derived.Test.YtnnjbejcffjgfaaGreatP18
import Derived.Test.YtnnjbejcffjgfaaGreatP19
import Derived.Test.YtnnjbejcffjgfaaGreatP20
set_option linter.unusedSimpArgs false
set_option linter.unusedVariables false
set_option linter.unusedSectionVars false
set_option maxRecDepth 100000
set_option maxHeartbeats 4000000
namespace Go.Proofs.YtnnjbejcffjgfaaGreat
open Go.AM
def stR(t:Zc):AV×List Blk:=(.agg [.t (.str t.Name),I t.Arity,I (t.Rows.length:Int),.own 0],[.arr 200 3 false ((Zp t).Groups.map Zf.c)])
theorem Zjw{n:Int}(h:inR n 1 3=true):0<(subs n).length/\(subs n).length<=7:=by
 have h':1<=n/\n<=3:=by simpa[inR]using h
 have:n=1\/n=2\/n=3:=by omega
 rcases this with rfl|rfl|rfl<;>decide
theorem Zb6{t:Zc}(h:Zy t=true):inR t.Arity 1 3=true:=by
 unfold Zy at h;simp only[Yd]at h;exact h.1.1.2
theorem Zcgx{t:Zc}(h:LeT t)(hv:Zy t=true)(a:ByteArray)(b c:Int)(a':ByteArray)(b' c':Int):∀i,i<=(subs t.Arity).length->Zkc t a b c a' b' c' false (((subs t.Arity).take i).map (grp t.Rows)) (subs t.Arity) (subs t.Arity).length i=some (.agg [.t (.str a'),I b',I c',.own 0],[.arr 200 3 false (((subs t.Arity).map (grp t.Rows)).map Zf.c)]):=by
 have h7:=Zjw (Zb6 hv);refine down _ ?_ ?_
 .refine Zboa ?_;rw[if_neg (by omega),Yk]
 .intro i hi ih;refine Zboa ?_;rw[if_pos (by omega),wS hi (by omega)];rw[Yx hi,Y1]at ih;exact⟨by omega,_,gE hi,.inr ⟨_,_,Zbbu h hv (Z0x (Zb6 hv) _ (Yb hi)),by simp;omega,ih⟩⟩
theorem Zbbv{t:Zc}(h:LeT t)(hv:Zy t=true):Zgp t=some (stR t):=by
 have h7:=Zjw (Zb6 hv);refine Zb8k ⟨_,Z0f t h,?_⟩;rw[hv,if_pos rfl];refine .inr ⟨_,Zcgu (Zb6 hv),Zb8j ?_⟩;rw[if_pos (by omega)];refine⟨by omega,_,gE (i:=0) h7.1,.inr ⟨_,_,Zbbu h hv (Z0x (Zb6 hv) _ (Yb h7.1)),?_⟩⟩;have:=Zcgx h hv ⟨#[]⟩ 0 0 t.Name t.Arity (t.Rows.length:Int) 1 (by omega);rw[Yx h7.1]at this;rw[show w (0+1)=1 from by decide];unfold stR Zp;simpa[grp]using this
theorem Zcgy{t:Zc}(h:LeT t)(hv:Zy t=true)(a:ByteArray)(b c:Int)(a':ByteArray)(b' c':Int):∀i,i<=(subs t.Arity).length->Zst t a b c a' b' c' false (((subs t.Arity).take i).map (grp t.Rows)) (subs t.Arity) i=some (.agg [.t (.str a'),I b',I c',.own 0],[.arr 200 3 false (((subs t.Arity).map (grp t.Rows)).map Zf.c)]):=by
 have h7:=Zjw (Zb6 hv);refine down _ ?_ ?_
 .refine Zbqc ?_;rw[if_neg (by omega),Yk]
 .intro i hi ih;refine Zbqc ?_;rw[if_pos (by omega),wS hi (by omega)];rw[Yx hi,Y1]at ih;exact⟨by omega,_,gE hi,_,_,Zbux h hv (Z0x (Zb6 hv) _ (Yb hi)),by simp;omega,ih⟩
theorem Zbbw{t:Zc}(h:LeT t)(hv:Zy t=true):Zgt t=some (stR t):=by
 have h7:=Zjw (Zb6 hv);refine Zcbo ⟨_,Z0g t h,?_⟩;rw[hv,if_pos rfl];refine⟨_,Zcgv (Zb6 hv),Zcbn ?_⟩;rw[if_pos (by omega)];refine⟨by omega,_,gE (i:=0) h7.1,_,_,Zbux h hv (Z0x (Zb6 hv) _ (Yb h7.1)),?_⟩;have:=Zcgy h hv ⟨#[]⟩ 0 0 t.Name t.Arity (t.Rows.length:Int) 1 (by omega);rw[Yx h7.1]at this;rw[show w (0+1)=1 from by decide];unfold stR Zp;simpa[grp]using this
def catF(d:Zh)(v:Int):AV×List Blk:=if Zbz d && inR v 1 999 then(if d.Tables=[]then(.tup [.agg [I v,.t .nil],Bo true],[])else(.tup [.agg [I v,.own 0],Bo true],[.arr 141 4 false ((d.Tables.map Zp).map Zd.c)]))else(.tup [.agg [I 0,.t .nil],Bo false],[])
theorem Zu9{d:Zh}(hv:Zbz d=true):d.Tables.length<=6:=by
 unfold Zbz at hv;simp only[Yd,decide_eq_true_eq]at hv;omega
theorem Zcgz{d:Zh}(h:LeD d)(hv:Zbz d=true)(a b:Int):∀i,i<=d.Tables.length->Zkd a b false ((d.Tables.take i).map Zp) d.Tables d.Tables.length i=some (.tup [.agg [I b,.own 0],Bo true],[.arr 141 4 false ((d.Tables.map Zp).map Zd.c)]):=by
 have h6:=Zu9 hv;refine down _ ?_ ?_
 .refine Zbob ?_;rw[if_neg (by omega),Yk]
 .intro i hi ih;refine Zbob ?_;rw[if_pos (by omega),wS hi (by omega)];rw[Yx hi,Y1]at ih;have hm:=Yb hi;exact⟨by omega,_,gE hi,.inr ⟨_,_,_,_,_,Zbbv (h.2 _ hm) (Zei hv hm),by simp;omega,ih⟩⟩
theorem Zcg0{d:Zh}(h:LeD d)(v:Int):Zmv d v=some (catF d v):=by
 refine Zb8m ⟨_,Zbtl d h,?_⟩;unfold catF;rcases tf (Zbz d)with hv|hv
 .rw[hv];rfl
 rw[hv,if_pos rfl];refine⟨_,Zbs _ _ _,?_⟩;rcases tf (inR v 1 999)with e|e
 .rw[e];rfl
 rw[e,if_pos rfl,if_pos (by rfl)];refine Zb8l ?_;by_cases e0:d.Tables=[]
 .rw[if_neg (by rw[e0];simp),if_pos e0]
 .have h0:0<d.Tables.length:=Y7.2 e0;have hm:=Yb h0;rw[if_pos (by omega),if_neg e0];refine⟨by omega,_,gE (i:=0) h0,.inr ⟨_,_,_,_,_,Zbbv (h.2 _ hm) (Zei hv hm),?_⟩⟩;have:=Zcgz h hv 0 v 1 (by omega);rw[Yx h0]at this;rw[show w (0+1)=1 from by decide];simpa[Zp]using this
theorem Zcg1{d:Zh}(h:LeD d)(hv:Zbz d=true)(a b:Int):∀i,i<=d.Tables.length->Zkz d a b false ((d.Tables.take i).map Zp) i=some (.tup [.agg [I b,.own 0],Bo true],[.arr 141 4 false ((d.Tables.map Zp).map Zd.c)]):=by
 have h6:=Zu9 hv;refine down _ ?_ ?_
 .refine Zbqd ?_;rw[if_neg (by omega),Yk]
 .intro i hi ih;refine Zbqd ?_;rw[if_pos (by omega),wS hi (by omega)];rw[Yx hi,Y1]at ih;have hm:=Yb hi;exact⟨by omega,_,gE hi,.inr ⟨_,_,_,_,_,Zbbw (h.2 _ hm) (Zei hv hm),by simp;omega,ih⟩⟩
theorem Zcg2{d:Zh}(h:LeD d)(v:Int):Zny d v=some (catF d v):=by
 refine Zcbq ⟨_,Zbtm d h,?_⟩;unfold catF;rcases tf (Zbz d)with hv|hv
 .rw[hv];rfl
 rw[hv,if_pos rfl];refine⟨_,Z6 _ _ _,?_⟩;rcases tf (inR v 1 999)with e|e
 .rw[e];rfl
 rw[e,if_pos rfl,if_pos (by rfl)];refine Zcbp ?_;by_cases e0:d.Tables=[]
 .rw[if_neg (by rw[e0];simp),if_pos e0]
 .have h0:0<d.Tables.length:=Y7.2 e0;have hm:=Yb h0;rw[if_pos (by omega),if_neg e0];refine⟨by omega,_,gE (i:=0) h0,.inr ⟨_,_,_,_,_,Zbbw (h.2 _ hm) (Zei hv hm),?_⟩⟩;have:=Zcg1 h hv 0 v 1 (by omega);rw[Yx h0]at this;rw[show w (0+1)=1 from by decide];simpa[Zp]using this
abbrev LeG(g:Zf):Prop:=g.Columns.length<=4294967296/\(g.Values.length<=4294967296/\∀r∈g.Values,r.length<=4294967296)/\g.Counts.length<=4294967296
abbrev LeS(s:Zd):Prop:=s.Groups.length<=4294967296/\∀g∈s.Groups,LeG g
abbrev LeK(c:Zn):Prop:=c.Tables.length<=4294967296/\∀s∈c.Tables,LeS s
theorem l_eqR(xs ys:List (List Int))(hl:ys.length=xs.length)(hx:xs.length<=4294967296/\∀a∈xs,a.length<=4294967296):∀i,i<=xs.length->Zq1 ys xs xs.length i=some (Bo (decide (xs.drop i=ys.drop i)),[]):=by
 refine down _ ?_ ?_
 .refine Zbok ?_;rw[if_neg (by omega),Yg,<-hl,Yg];simp
 .intro i hi ih;have hi':i<ys.length:=by omega
  refine Zbok ?_;rw[if_pos (by omega),wS hi (by omega),dropQ hi hi'];refine⟨by omega,_,gE hi,_,gE hi',_,Zb83 ⟨_,Zu8 _ _ (hx.2 _ (Yb hi)),rfl⟩,?_⟩;by_cases c:xs[i]=ys[i]
  .rw[if_pos (by simpa using c),ih];simp[c]
  .rw[if_neg (by simpa using c)];simp[c]
theorem Zcg3(xs ys:List (List Int))(hx:xs.length<=4294967296/\∀a∈xs,a.length<=4294967296):Zwz xs ys=some (Bo (decide (xs=ys)),[]):=by
 refine Zb85 ⟨decide (xs=ys),Zb84 ?_,rfl⟩;by_cases c:(xs.length:Int)=(ys.length:Int)
 .rw[if_pos c];simpa using l_eqR xs ys (by omega) hx 0 (Ya _)
 .rw[if_neg c]
  have:¬xs=ys:=λhc=>c (by rw[hc])
  simp[this]
theorem Zcg4(a b:Zf)(h:LeG a):Zq2 a b=some (Bo (decide (a=b)),[]):=by
 refine Zb86 ⟨_,Zu8 _ _ h.1,?_⟩;by_cases c:a.Columns=b.Columns
 .rw[if_pos (by simpa using c)];refine⟨_,Zcg3 _ _ h.2.1,?_⟩;by_cases c2:a.Values=b.Values
  .rw[if_pos (by simpa using c2)];exact⟨_,Zu8 _ _ h.2.2,by simp[Zf.ext_iff,c,c2]⟩
  .rw[if_neg (by simpa using c2)];simp[Zf.ext_iff,c,c2]
 .rw[if_neg (by simpa using c)];simp[Zf.ext_iff,c]
theorem l_eqG(xs ys:List Zf)(hl:ys.length=xs.length)(hx:xs.length<=4294967296/\∀a∈xs,LeG a):∀i,i<=xs.length->Zq3 ys xs xs.length i=some (Bo (decide (xs.drop i=ys.drop i)),[]):=by
 refine down _ ?_ ?_
 .refine Zbol ?_;rw[if_neg (by omega),Yg,<-hl,Yg];simp
 .intro i hi ih;have hi':i<ys.length:=by omega
  refine Zbol ?_;rw[if_pos (by omega),wS hi (by omega),dropQ hi hi'];refine⟨by omega,_,gE hi,_,gE hi',_,Zcg4 _ _ (hx.2 _ (Yb hi)),?_⟩;by_cases c:xs[i]=ys[i]
  .rw[if_pos (by simpa using c),ih];simp[c]
  .rw[if_neg (by simpa using c)];simp[c]
theorem Zbuy(a b:Zd)(h:LeS a):Zkf a b=some (Bo (decide (a=b)),[]):=by
 refine Zb88 ?_;by_cases c:a.Name=b.Name
 .rw[if_pos c];by_cases c2:a.Arity=b.Arity
  .rw[if_pos c2];by_cases c3:a.RowCount=b.RowCount
   .rw[if_pos c3];refine⟨decide (a.Groups=b.Groups),Zb87 ?_,by simp[Zd.ext_iff,c,c2,c3]⟩;by_cases c4:(a.Groups.length:Int)=(b.Groups.length:Int)
    .rw[if_pos c4];simpa using l_eqG a.Groups b.Groups (by omega) h 0 (Ya _)
    .rw[if_neg c4]
     have:¬a.Groups=b.Groups:=λhc=>c4 (by rw[hc])
     simp[this]
   .rw[if_neg c3];simp[Zd.ext_iff,c,c2,c3]
  .rw[if_neg c2];simp[Zd.ext_iff,c,c2]
 .rw[if_neg c];simp[Zd.ext_iff,c]
theorem l_eqS(xs ys:List Zd)(hl:ys.length=xs.length)(hx:xs.length<=4294967296/\∀a∈xs,LeS a):∀i,i<=xs.length->Zq4 ys xs xs.length i=some (Bo (decide (xs.drop i=ys.drop i)),[]):=by
 refine down _ ?_ ?_
 .refine Zbom ?_;rw[if_neg (by omega),Yg,<-hl,Yg];simp
 .intro i hi ih;have hi':i<ys.length:=by omega
  refine Zbom ?_;rw[if_pos (by omega),wS hi (by omega),dropQ hi hi'];refine⟨by omega,_,gE hi,_,gE hi',_,Zbuy _ _ (hx.2 _ (Yb hi)),?_⟩;by_cases c:xs[i]=ys[i]
  .rw[if_pos (by simpa using c),ih];simp[c]
  .rw[if_neg (by simpa using c)];simp[c]
def Zdu(v:Int)(ts:List Zd)(c:Zn):Bool:=decide (v=c.Version/\ts=c.Tables)
theorem Zcg5(v:Int)(c:Zn):Zqq v c=some (Bo (Zdu v [] c),[]):=by
 refine Zb8p ?_;unfold Zdu;by_cases e:v=c.Version
 .rw[if_pos e];refine⟨decide ([]=c.Tables),Zb8o ?_,by simp[e]⟩;by_cases e2:c.Tables=[]
  .rw[if_pos (by rw[e2];simp)];refine Zb8n ?_;rw[if_neg (by omega),e2];simp
  .have h0:=Y7.2 e2;rw[if_neg (by omega)];simp[Ne.symm e2]
 .rw[if_neg e];simp[e]
theorem Zcg6(v:Int)(ts:List Zd)(c:Zn)(h:ts.length<=4294967296/\∀s∈ts,LeS s):Zw0 ⟨v,ts⟩ c=some (Bo (Zdu v ts c),[]):=by
 refine Zb9a ?_;unfold Zdu;by_cases e:v=c.Version
 .rw[if_pos e];refine⟨decide (ts=c.Tables),Zb89 ?_,by simp[e]⟩;by_cases c4:(ts.length:Int)=(c.Tables.length:Int)
  .rw[if_pos c4];simpa using l_eqS ts c.Tables (by omega) h 0 (Ya _)
  .rw[if_neg c4]
   have:¬ts=c.Tables:=λhc=>c4 (by rw[hc])
   simp[this]
 .rw[if_neg e];simp[e]
theorem Zcg7(a b:Zd)(x y:Zf)(hl:y.Values.length=x.Values.length)(hx:LeG x)(hy:LeG y)(r:Bool)(i:Int)(cc:Zk3 a b (w (i+1))=some (Bo r,[])):∀k,k<=x.Values.length->Zod a b x y i k=some (Bo (decide (x.Values.drop k=y.Values.drop k) && r),[]):=by
 refine down _ ?_ ?_
 .refine Zbqy ?_;rw[if_neg (by omega),Yg,<-hl,Yg,cc];simp
 .intro k hk ih;have hk':k<y.Values.length:=by omega
  refine Zbqy ?_;rw[if_pos (by omega),wS hk (by have:=hx.2.1.1;omega),dropQ hk hk'];have l1:=hx.2.1.2 _ (Yb hk);have l2:=hy.2.1.2 _ (Yb hk');refine⟨by omega,_,gE hk,_,gE hk',_,Zjo _ _ (by omega) (by omega),?_⟩;by_cases c:x.Values[k]=y.Values[k]
  .rw[if_pos (by rw[c];exact Zh0 _),ih];simp[c]
  .rw[if_neg (λh=>c (Zej _ _ h))];simp[c]
theorem Zcg8(a b:Zd)(hl:b.Groups.length=a.Groups.length)(ha:LeS a)(hb:LeS b):∀i,i<=a.Groups.length->Zk3 a b i=some (Bo (decide (a.Groups.drop i=b.Groups.drop i)),[]):=by
 refine down _ ?_ ?_
 .refine Zbqx ?_;rw[if_neg (by omega),Yg,<-hl,Yg];simp
 .intro i hi ih;have hi':i<b.Groups.length:=by omega
  have l1:=ha.2 _ (Yb hi);have l2:=hb.2 _ (Yb hi');have l11:=l1.1;have l13:=l1.2.2;have l21:=l2.1;have l23:=l2.2.2;refine Zbqx ?_;rw[if_pos (by omega),dropQ hi hi'];refine⟨by omega,_,gE hi,_,gE hi',_,Zjo _ _ (by omega) (by omega),?_⟩;by_cases c1:a.Groups[i].Columns=b.Groups[i].Columns
  .rw[if_pos (by rw[c1];exact Zh0 _)];refine⟨_,Zjo _ _ (by omega) (by omega),?_⟩;by_cases c2:a.Groups[i].Counts=b.Groups[i].Counts
   .rw[if_pos (by rw[c2];exact Zh0 _)];by_cases c3:(a.Groups[i].Values.length:Int)=(b.Groups[i].Values.length:Int)
    .rw[if_pos c3];have:=Zcg7 a b a.Groups[i] b.Groups[i] (by omega) l1 l2 _ i (by rw[wS hi (by have:=ha.1;omega)];exact ih) 0 (Ya _);rw[Yv,Yv]at this;have e:decide (a.Groups[i]=b.Groups[i])=decide (a.Groups[i].Values=b.Groups[i].Values):=by simp[Zf.ext_iff,c1,c2]
     rw[e];exact this
    .rw[if_neg c3]
     have:¬a.Groups[i]=b.Groups[i]:=λhc=>c3 (by rw[hc])
     simp[this]
   .rw[if_neg (λh=>c2 (Zej _ _ h))]
    have:¬a.Groups[i]=b.Groups[i]:=λhc=>c2 (by rw[hc])
    simp[this]
  .rw[if_neg (λh=>c1 (Zej _ _ h))]
   have:¬a.Groups[i]=b.Groups[i]:=λhc=>c1 (by rw[hc])
   simp[this]
theorem Zbuz(a b:Zd)(ha:LeS a)(hb:LeS b):Zoc a b=some (Bo (decide (a=b)),[]):=by
 refine Zcb9 ?_;by_cases c:a.Name=b.Name
 .rw[if_pos c];by_cases c2:a.Arity=b.Arity
  .rw[if_pos c2];by_cases c3:a.RowCount=b.RowCount
   .rw[if_pos c3];by_cases c4:(a.Groups.length:Int)=(b.Groups.length:Int)
    .rw[if_pos c4];have e:decide (a=b)=decide (a.Groups=b.Groups):=by simp[Zd.ext_iff,c,c2,c3]
     rw[e];simpa using Zcg8 a b (by omega) ha hb 0 (Ya _)
    .rw[if_neg c4]
     have:¬a=b:=λhc=>c4 (by rw[hc])
     simp[this]
   .rw[if_neg c3];simp[Zd.ext_iff,c,c2,c3]
  .rw[if_neg c2];simp[Zd.ext_iff,c,c2]
 .rw[if_neg c];simp[Zd.ext_iff,c]
theorem Zcg9(a b:Zn)(hl:b.Tables.length=a.Tables.length)(ha:LeK a)(hb:LeK b):∀i,i<=a.Tables.length->Zs8 a b i=some (Bo (decide (a.Tables.drop i=b.Tables.drop i)),[]):=by
 refine down _ ?_ ?_
 .refine Zbqz ?_;rw[if_neg (by omega),Yg,<-hl,Yg];simp
 .intro i hi ih;have hi':i<b.Tables.length:=by omega
  refine Zbqz ?_;rw[if_pos (by omega),wS hi (by have:=ha.1;omega),dropQ hi hi'];refine⟨by omega,_,gE hi,_,gE hi',_,Zbuz _ _ (ha.2 _ (Yb hi)) (hb.2 _ (Yb hi')),?_⟩;by_cases c:a.Tables[i]=b.Tables[i]
  .rw[if_pos (by simpa using c),ih];simp[c]
  .rw[if_neg (by simpa using c)];simp[c]
theorem Zcha(v:Int)(c:Zn):Zsw v c=some (Bo (Zdu v [] c),[]):=by
 refine Zcbs ?_;unfold Zdu;by_cases e:v=c.Version
 .rw[if_pos e];by_cases e2:c.Tables=[]
  .rw[if_pos (by rw[e2];simp)];refine Zcbr ?_;rw[if_neg (by omega)];simp[e,e2]
  .have h0:=Y7.2 e2;rw[if_neg (by omega)];simp[Ne.symm e2]
 .rw[if_neg e];simp[e]
theorem Zchb(v:Int)(ts:List Zd)(c:Zn)(h:ts.length<=4294967296/\∀s∈ts,LeS s)(hc:LeK c):Zyk ⟨v,ts⟩ c=some (Bo (Zdu v ts c),[]):=by
 refine Zcca ?_;unfold Zdu;by_cases e:v=c.Version
 .rw[if_pos e];by_cases c4:(ts.length:Int)=(c.Tables.length:Int)
  .rw[if_pos c4];subst e;have:=Zcg9 ⟨c.Version,ts⟩ c (by simp only;omega) h hc 0 (Ya _);simp only[true_and];simpa using this
  .rw[if_neg c4]
   have:¬ts=c.Tables:=λhc=>c4 (by rw[hc])
   simp[this]
 .rw[if_neg e];simp[e]
def Zfx(d:Zh)(f:Zm):Bool:=match Zbg d f.Name with
 |none=>false
 |some t=>Zbq t.Arity f.From && inR f.To 0 (t.Arity-1) && !(has f.From f.To)
theorem Zg5{d:Zh}{n:ByteArray}{t:Zc}(h:Zbg d n=some t):Zy t=true:=by
 obtain⟨h1,h2,_⟩:=Zbtp h;exact Zei h1 h2
theorem Zbu0{d:Zh}(hd:LeD d){n:ByteArray}{t:Zc}(h:Zbg d n=some t):LeT t:=hd.2 t (Zbtp h).2.1
theorem Zbu1{d:Zh}(h:LeD d)(f:Zm)(hf:f.From.length<=4294967296):Zmw d f=some (Bo (Zfx d f),[]):=by
 have hl:=Zjp d h f.Name;refine Zb8w ?_;unfold Zfx
 cases hq:Zbg d f.Name with
 |none=>rw[hq]at hl;exact .inl ⟨_,_,hl,rfl⟩
 |some t =>
  rw[hq]at hl;have hA:=(Zf8 (Zg5 hq)).2;refine .inr ⟨_,_,_,hl,_,Zbuu _ hA _ (by omega),?_⟩;rcases tf (Zbq t.Arity f.From)with e|e
  .rw[e];simp[e]
  .rw[e,if_pos rfl,w1 hA];refine⟨_,Zbs _ _ _,?_⟩;rcases tf (inR f.To 0 (t.Arity-1))with e2|e2
   .rw[e2];simp[e,e2]
   .rw[e2,if_pos rfl];exact⟨_,Zpc _ _ (by omega),by simp[e,e2]⟩
theorem Zchc{t:Zc}(hv:Zy t=true)(h0:t.Rows=[])(vs:List Int)(hl:Le vs):Zyf t.Name t.Arity vs=some (Bo (Zbq t.Arity vs),[]):=by
 have hA:=(Zf8 hv).2;have hV:Zk0 t.Name t.Arity=some (Bo true,[]):=by
  unfold Zy at hv;simp only[Yd]at hv;refine Zbqh ⟨_,Zbaz _,?_⟩;rw[hv.1.1.1,if_pos rfl];refine⟨_,Z6 _ _ _,?_⟩;rw[hv.1.1.2,if_pos rfl];refine Zbqg ?_;rw[if_neg (by omega)]
 have main:∀i,i<=vs.length->Znz t.Name t.Arity vs i=some (Bo (ascN t.Arity (pvA vs i) (vs.drop i)),[]):=by
  refine down _ ?_ ?_
  .refine Zbqi ?_;rw[if_neg (by omega),Yg];exact⟨_,hV,rfl⟩
  .intro i hi ih;refine Zbqi ?_;rw[if_pos (by omega),Yc hi,ascN,wS hi (by omega),w1 hA];refine⟨by omega,_,gE hi,_,Z6 _ _ _,?_⟩;rw[show pvA vs (i+1)=some vs[i]from Yl hi]at ih;rcases tf (inR vs[i] 0 (t.Arity-1))with e|e
   .rw[e];simp
   .rw[e,if_pos rfl,ih];by_cases h0:(0:Int)<(i:Int)
    .rw[if_pos h0,wP (by omega) hi (by omega),Zhz (by omega) (by omega)];refine⟨by omega,_,gE (by omega),?_⟩;by_cases h2:vs[i]<=vs[i-1]
     .rw[if_pos h2];simp[nxt,ltI];omega
     .rw[if_neg h2];simp[nxt,ltI,show vs[i-1]<vs[i] by omega]
    .obtain rfl:i=0:=by omega
     rw[if_neg h0];simp[nxt,pvA]
 exact Zcbw (by simpa[Zbq,pvA]using main 0 (Ya _))
theorem Zbu2{d:Zh}(h:LeD d)(f:Zm)(hf:f.From.length<=4294967296):Zn0 d f=some (Bo (Zfx d f),[]):=by
 have hl:=Zls d h f.Name;refine Zcby ?_;unfold Zfx
 cases hq:Zbg d f.Name with
 |none=>rw[hq]at hl;exact .inl ⟨_,_,_,hl,rfl⟩
 |some t =>
  rw[hq]at hl;simp only[Zg0]at hl;have hv:=Zg5 hq;have hA:=(Zf8 hv).2;by_cases e0:t.Rows=[]
  .rw[if_pos e0]at hl;refine .inl ⟨_,_,_,hl,?_⟩;rw[if_pos rfl];refine⟨_,Zchc hv e0 _ (by omega),?_⟩;rcases tf (Zbq t.Arity f.From)with e|e
   .rw[e];simp[e]
   .rw[e,if_pos rfl,w1 hA];refine⟨_,Z6 _ _ _,?_⟩;rcases tf (inR f.To 0 (t.Arity-1))with e2|e2
    .rw[e2];simp[e,e2]
    .rw[e2,if_pos rfl];exact⟨_,Zpd _ _ (by omega),by simp[e,e2]⟩
  .rw[if_neg e0]at hl;refine .inr ⟨_,_,_,hl,_,Zbuv t (Zbu0 h hq) hA _ (by omega),?_⟩;rw[hv,Bool.and_true];rcases tf (Zbq t.Arity f.From)with e|e
   .rw[e];simp[e]
   .rw[e,if_pos rfl,w1 hA];refine⟨_,Z6 _ _ _,?_⟩;rcases tf (inR f.To 0 (t.Arity-1))with e2|e2
    .rw[e2];simp[e,e2]
    .rw[e2,if_pos rfl];exact⟨_,Zpd _ _ (by omega),by simp[e,e2]⟩
def good(rows:List (List Int))(f:Zm)(i k:Nat):Prop:=selC (rows.getD i []) f.From=selC (rows.getD k []) f.From->(rows.getD i []).getD f.To.toNat 0=(rows.getD k []).getD f.To.toNat 0
def Zek(rows:List (List Int))(f:Zm)(k:Nat):Prop:=∀k',k<=k'->k'<rows.length->∀i,i<k'->good rows f i k'
structure DepC (t:Zc) (f:Zm) (n:Nat):Prop where
 rows:RowsN t.Rows n
 cols:Zjv f.From n
 to:0<=f.To/\f.To<n
theorem Zbu3{d:Zh}{f:Zm}{t:Zc}(hq:Zbg d f.Name=some t)(hv:Zfx d f=true):DepC t f t.Arity.toNat:=by
 obtain⟨hR,hA⟩:=Zf8 (Zg5 hq);unfold Zfx at hv;rw[hq]at hv;simp only[Yd]at hv;have h2:0<=f.To/\f.To<=t.Arity-1:=by simpa[inR]using hv.1.2
 exact⟨hR,Zbbs hv.1.1 hA,by omega⟩
theorem gd{rows:List (List Int)}{i:Nat}(h:i<rows.length):rows.getD i []=rows[i]:=by
 rw[Yw,Yl h];rfl
def Vio(L:Option (AV×List Blk))(z:AV×List Blk)(ok:Prop):Prop:=(ok->L=some z)/\(¬ok->∃a b:Int,L=some (.own 0,[.arr 3 1 true (([a,b]:List Int).map ic)]))
theorem Vio.cong{L:Option (AV×List Blk)}{z:AV×List Blk}{p q:Prop}(h:Vio L z p)(e:p↔q):Vio L z q:=⟨λhq=>h.1 (e.2 hq),λhq=>h.2 λhp=>hq (e.1 hp)⟩
theorem Vio.map{L L':Option (AV×List Blk)}{z:AV×List Blk}{p:Prop}(h:Vio L z p)(e:∀r,L=some r->L'=some r):Vio L' z p:=⟨λhp=>e _ (h.1 hp),λhp=>(h.2 hp).imp λa ⟨b,hb⟩=>⟨b,e _ hb⟩⟩
theorem Zpl{rows:List (List Int)}{f:Zm}{k i:Nat}(hi:i<k):((∀j,i<=j->j<k->good rows f j k)/\Zek rows f (k+1))↔(good rows f i k/\((∀j,i+1<=j->j<k->good rows f j k)/\Zek rows f (k+1))):=by
 constructor
 .rintro⟨h1,h2⟩;exact⟨h1 i (Yj _) hi,λj h3 h4=>h1 j (by omega) h4,h2⟩
 .rintro⟨h0,h1,h2⟩;refine⟨λj h3 h4=>?_,h2⟩;by_cases e:j=i
  .subst e;exact h0
  .exact h1 j (by omega) h4
theorem ok_out{rows:List (List Int)}{f:Zm}{k:Nat}(hk:k<rows.length):Zek rows f k↔((∀j,0<=j->j<k->good rows f j k)/\Zek rows f (k+1)):=by
 constructor
 .intro h;exact⟨λj _ h4=>h k (Yj _) hk j h4,λk' h1 h2=>h k' (by omega) h2⟩
 .rintro⟨h1,h2⟩ k' h3 h4 i hi;by_cases e:k'=k
  .subst e;exact h1 i (Ya _) hi
  .exact h2 k' (by omega) h4 i hi
theorem Zchd{t:Zc}{f:Zm}{n:Nat}(h:DepC t f n){k:Nat}(hk:k<t.Rows.length)(c:Vio (Zmx f t t.Rows t.Rows.length (w ((k:Int)+1))) (.t .nil,[]) (Zek t.Rows f (k+1))) :
  ∀i,i<=k->Vio (Zd4 f t k t.Rows[k] t.Rows t.Rows.length k (t.Rows.take k) k i) (.t .nil,[]) ((∀j,i<=j->j<k->good t.Rows f j k)/\Zek t.Rows f (k+1)):=by
 have h8:=h.rows.len;refine down _ ?_ ?_
 .refine(c.map λr hr=>?_).cong ⟨λhp=>⟨λj h1 h2=>by omega,hp⟩,λhp=>hp.2⟩;refine Zbof ?_;rw[if_neg (by omega)];exact hr
 .intro i hi ih;have hi':i<t.Rows.length:=by omega
  have hit:i<(t.Rows.take k).length:=by rw[Ym];omega
  have ei:(t.Rows.take k)[i]=t.Rows[i]:=List.getElem_take ..;have hri:=h.rows.row _ (Yb hi');have hrk:=h.rows.row _ (Yb hk);have hc3:=h.cols.len;have hto:=h.to;have step:∀r,(if decide (selC t.Rows[i] f.From=selC t.Rows[k] f.From)=true then(if t.Rows[i].getD f.To.toNat 0=t.Rows[k].getD f.To.toNat 0 then Zd4 f t k t.Rows[k] t.Rows t.Rows.length k (t.Rows.take k) k (w ((i:Int)+1))=some r else some (.own 0,[.arr 3 1 true (([(i:Int),(k:Int)]:List Int).map ic)])=some r)else Zd4 f t k t.Rows[k] t.Rows t.Rows.length k (t.Rows.take k) k (w ((i:Int)+1))=some r)->Zd4 f t k t.Rows[k] t.Rows t.Rows.length k (t.Rows.take k) k i=some r:=by
   intro r hr;refine Zbof ?_;rw[if_pos (by omega)];refine⟨by omega,t.Rows[i],by rw[Yi,Yl hit,ei],.inr ⟨_,Zbbt hri h.rows.n3 h.cols,.inr ⟨_,Zbbt hrk h.rows.n3 h.cols,_,Zu8 _ _ (by simp[selC];omega),?_⟩⟩⟩;by_cases e:selC t.Rows[i] f.From=selC t.Rows[k] f.From
   .rw[if_pos (by simpa using e)]at hr|-;exact⟨h.to.1,_,gD (by omega),_,gD (by omega),hr⟩
   .rw[if_neg (by simpa using e)]at hr|-;exact hr
  rw[show w ((i:Int)+1)=((i+1:Nat):Int)from wS hi' (by omega)]at step;by_cases e:selC t.Rows[i] f.From=selC t.Rows[k] f.From
  .by_cases e2:t.Rows[i].getD f.To.toNat 0=t.Rows[k].getD f.To.toNat 0
   .refine(ih.map λr hr=>step r (by rw[if_pos (by simpa using e),if_pos e2];exact hr)).cong ?_;rw[Zpl hi];exact⟨λhp=>⟨λ_=>by rw[gd hi',gd hk];exact e2,hp⟩,λhp=>hp.2⟩
   .refine⟨λhp=>absurd ((Zpl hi).1 hp).1 λhg=>e2 ?_,λ_=>⟨_,_,step _ (by rw[if_pos (by simpa using e),if_neg e2])⟩⟩;have:=hg (by rw[gd hi',gd hk];exact e);rw[gd hi',gd hk]at this;exact this
  .refine(ih.map λr hr=>step r (by rw[if_neg (by simpa using e)];exact hr)).cong ?_;rw[Zpl hi];exact⟨λhp=>⟨λhq=>absurd (by rw[gd hi',gd hk]at hq;exact hq) e,hp⟩,λhp=>hp.2⟩
theorem Zche{t:Zc}{f:Zm}{n:Nat}(h:DepC t f n):∀k,k<=t.Rows.length->Vio (Zmx f t t.Rows t.Rows.length k) (.t .nil,[]) (Zek t.Rows f k):=by
 have h8:=h.rows.len;refine down _ ?_ ?_
 .refine⟨λ_=>Zboe (by rw[if_neg (by omega)]),λhn=>absurd (λk' h1 h2=>by omega) hn⟩
 .intro k hk ih;rw[<-show w ((k:Int)+1)=((k+1:Nat):Int)from wS hk (by omega)]at ih;refine((Zchd h hk ih 0 (Ya _)).map λr hr=>?_).cong (ok_out hk).symm;refine Zboe ?_;rw[if_pos (by omega)];refine⟨by omega,_,gE hk,by rw[Yi];omega,?_⟩;rw[Yi,show(((t.Rows.take k).length:Nat):Int)=(k:Int) by rw[Ym];omega];exact hr
theorem Zchf{d:Zh}{t:Zc}{f:Zm}{n:Nat}(h:DepC t f n){k:Nat}(hk:k<t.Rows.length)(a:ByteArray)(b:Int)(c:Vio (Zn1 d f a b t.Rows (w ((k:Int)+1))) (.own 0,[.arr 3 1 true (([]:List Int).map ic)]) (Zek t.Rows f (k+1))) :
  ∀i,i<=k->Vio (Zhm d f a b t.Rows (selC t.Rows[k] f.From) k i) (.own 0,[.arr 3 1 true (([]:List Int).map ic)]) ((∀j,i<=j->j<k->good t.Rows f j k)/\Zek t.Rows f (k+1)):=by
 have h8:=h.rows.len;refine down _ ?_ ?_
 .refine(c.map λr hr=>?_).cong ⟨λhp=>⟨λj h1 h2=>by omega,hp⟩,λhp=>hp.2⟩;refine Zbql ?_;rw[if_neg (by omega)];exact hr
 .intro i hi ih;have hi':i<t.Rows.length:=by omega
  have hri:=h.rows.row _ (Yb hi');have hrk:=h.rows.row _ (Yb hk);have hc3:=h.cols.len;have hto:=h.to;have hs:∀r:List Int,(selC r f.From).length<=3:=λr=>by simp[selC];omega
  have step:∀r,(if selC t.Rows[i] f.From=selC t.Rows[k] f.From then(if t.Rows[i].getD f.To.toNat 0=t.Rows[k].getD f.To.toNat 0 then Zhm d f a b t.Rows (selC t.Rows[k] f.From) k (w ((i:Int)+1))=some r else some (.own 0,[.arr 3 1 true (([(i:Int),(k:Int)]:List Int).map ic)])=some r)else Zhm d f a b t.Rows (selC t.Rows[k] f.From) k (w ((i:Int)+1))=some r)->Zhm d f a b t.Rows (selC t.Rows[k] f.From) k i=some r:=by
   intro r hr;refine Zbql ?_;rw[if_pos (by omega)];have q1:=hs t.Rows[i];have q2:=hs t.Rows[k];refine⟨by omega,_,gE hi',_,_,Z0y hri h.rows.n3 h.cols,_,Zjo _ _ (by omega) (by omega),?_⟩;by_cases e:selC t.Rows[i] f.From=selC t.Rows[k] f.From
   .rw[if_pos e]at hr;rw[if_pos (by rw[e];exact Zh0 _)];exact⟨h.to.1,_,gD (by omega),by omega,_,gE hk,_,gD (by omega),hr⟩
   .rw[if_neg e]at hr;rw[if_neg (λhc=>e (Zej _ _ hc))];exact hr
  rw[show w ((i:Int)+1)=((i+1:Nat):Int)from wS hi' (by omega)]at step;by_cases e:selC t.Rows[i] f.From=selC t.Rows[k] f.From
  .by_cases e2:t.Rows[i].getD f.To.toNat 0=t.Rows[k].getD f.To.toNat 0
   .refine(ih.map λr hr=>step r (by rw[if_pos e,if_pos e2];exact hr)).cong ?_;rw[Zpl hi];exact⟨λhp=>⟨λ_=>by rw[gd hi',gd hk];exact e2,hp⟩,λhp=>hp.2⟩
   .refine⟨λhp=>absurd ((Zpl hi).1 hp).1 λhg=>e2 ?_,λ_=>⟨_,_,step _ (by rw[if_pos e,if_neg e2])⟩⟩;have:=hg (by rw[gd hi',gd hk];exact e);rw[gd hi',gd hk]at this;exact this
  .refine(ih.map λr hr=>step r (by rw[if_neg e];exact hr)).cong ?_;rw[Zpl hi];exact⟨λhp=>⟨λhq=>absurd (by rw[gd hi',gd hk]at hq;exact hq) e,hp⟩,λhp=>hp.2⟩
theorem Zchg{d:Zh}(hd:LeD d){t:Zc}{f:Zm}(hf:f.From.length<=4294967296)(hv:Zfx d f=true){n:Nat}(h:DepC t f n)(a:ByteArray)(b:Int):∀k,k<=t.Rows.length->Vio (Zn1 d f a b t.Rows k) (.own 0,[.arr 3 1 true (([]:List Int).map ic)]) (Zek t.Rows f k):=by
 have h8:=h.rows.len;refine down _ ?_ ?_
 .refine⟨λ_=>Zbqk (by rw[if_neg (by omega)]),λhn=>absurd (λk' h1 h2=>by omega) hn⟩
 .intro k hk ih;rw[<-show w ((k:Int)+1)=((k+1:Nat):Int)from wS hk (by omega)]at ih;refine((Zchf (d:=d) h hk a b ih 0 (Ya _)).map λr hr=>?_).cong (ok_out hk).symm;refine Zbqk ?_;rw[if_pos (by omega)];refine⟨_,Zbu2 hd f hf,?_⟩;rw[hv,if_pos rfl];exact⟨by omega,_,gE hk,_,_,Z0y (h.rows.row _ (Yb hk)) h.rows.n3 h.cols,hr⟩
open Classical in
noncomputable def Zh5(d:Zh)(f:Zm):Bool:=Zfx d f && (match Zbg d f.Name with
 |none=>true
 |some t=>decide (Zek t.Rows f 0))
theorem Zchh{d:Zh}(h:LeD d)(f:Zm)(hf:f.From.length<=4294967296):Zww d f=some (Bo (Zh5 d f),[]):=by
 refine Zb8y ⟨_,Zbu1 h f hf,?_⟩;unfold Zh5;rcases tf (Zfx d f)with hv|hv
 .rw[hv];rfl
 rw[hv,if_pos rfl,Ye]
 cases hq:Zbg d f.Name with
 |none=>unfold Zfx at hv;rw[hq]at hv;cases hv
 |some t =>
  have hl:=Zjp d h f.Name;rw[hq]at hl;have V:=(Zche (Zbu3 hq hv) 0 (Ya _)).map (L':=Zqv d f) λr hr=>Zb8x ⟨_,Zbu1 h f hf,by rw[hv,if_pos rfl];exact .inr ⟨_,_,_,hl,hr⟩⟩
  by_cases e:Zek t.Rows f 0
  .exact .inl ⟨V.1 e,by simp[e]⟩
  .obtain⟨x,y,hxy⟩:=V.2 e;exact .inr ⟨_,hxy,by simp[e]⟩
theorem Zchi{d:Zh}(h:LeD d)(f:Zm)(hf:f.From.length<=4294967296):Zs3 d f=some (Bo (Zh5 d f),[]):=by
 refine Zcb0 ⟨_,Zbu2 h f hf,?_⟩;unfold Zh5;rcases tf (Zfx d f)with hv|hv
 .rw[hv];rfl
 rw[hv,if_pos rfl,Ye]
 cases hq:Zbg d f.Name with
 |none=>unfold Zfx at hv;rw[hq]at hv;cases hv
 |some t =>
  have hl:=Zls d h f.Name;rw[hq]at hl;simp only[Zg0]at hl;by_cases e0:t.Rows=[]
  .rw[if_pos e0]at hl;have e:Zek t.Rows f 0:=λk' h1 h2=>by rw[e0]at h2;simp at h2
   refine⟨[],Zbqm (.inl ⟨_,_,_,hl,Zcbz (by rw[if_neg (by omega)])⟩),by simp[e]⟩
  .rw[if_neg e0]at hl;have V:=(Zchg h hf hv (Zbu3 hq hv) t.Name t.Arity 0 (Ya _)).map (L':=Zyg d f) λr hr=>Zbqm (.inr ⟨_,_,_,hl,hr⟩)
   by_cases e:Zek t.Rows f 0
   .exact⟨[],V.1 e,by simp[e]⟩
   .obtain⟨x,y,hxy⟩:=V.2 e;exact⟨_,hxy,by simp[e]⟩
def Zh6(d:Zh)(x:Zi):Bool:=match Zbg d x.Name,Zbg d x.Into with
 |some a,some b=>inR x.Column 0 (a.Arity-1) && inR x.IntoColumn 0 (b.Arity-1)
 |_,_=>false
theorem Zbu4{d:Zh}(h:LeD d)(x:Zi):Zqw d x=some (Bo (Zh6 d x),[]):=by
 have h1:=Zjp d h x.Name;have h2:=Zjp d h x.Into;refine Zb8z ?_;unfold Zh6
 cases hq:Zbg d x.Name with
 |none =>
  rw[hq]at h1
  cases hq2:Zbg d x.Into with
  |none=>rw[hq2]at h2;exact .inl ⟨_,_,h1,.inl ⟨_,_,h2,rfl⟩⟩
  |some b=>rw[hq2]at h2;exact .inl ⟨_,_,h1,.inr ⟨_,_,_,h2,rfl⟩⟩
 |some a =>
  rw[hq]at h1
  cases hq2:Zbg d x.Into with
  |none=>rw[hq2]at h2;exact .inr ⟨_,_,_,h1,.inl ⟨_,_,h2,rfl⟩⟩
  |some b =>
   rw[hq2]at h2;refine .inr ⟨_,_,_,h1,.inr ⟨_,_,_,h2,_,Zbs _ _ _,?_⟩⟩;rw[w1 (Zf8 (Zg5 hq)).2,w1 (Zf8 (Zg5 hq2)).2];rcases tf (inR x.Column 0 (a.Arity-1))with e|e
   .rw[e];simp[e]
   .rw[e,if_pos rfl];exact⟨_,Zbs _ _ _,by simp[e]⟩
theorem Zbu5{d:Zh}(h:LeD d)(x:Zi):Zn2 d x=some (Bo (Zh6 d x),[]):=by
 have h1:=Zls d h x.Name;have h2:=Zls d h x.Into;refine Zcb1 ?_;unfold Zh6
 cases hq:Zbg d x.Name with
 |none =>
  rw[hq]at h1
  cases hq2:Zbg d x.Into with
  |none=>rw[hq2]at h2;exact .inl ⟨_,_,_,h1,.inl ⟨_,_,_,h2,by simp⟩⟩
  |some b =>
   rw[hq2]at h2;simp only[Zg0]at h2;by_cases e2:b.Rows=[]
   .rw[if_pos e2]at h2;exact .inl ⟨_,_,_,h1,.inl ⟨_,_,_,h2,by simp⟩⟩
   .rw[if_neg e2]at h2;exact .inl ⟨_,_,_,h1,.inr ⟨_,_,_,h2,by simp⟩⟩
 |some a =>
  rw[hq]at h1;simp only[Zg0]at h1;have wa:=w1 (Zf8 (Zg5 hq)).2
  cases hq2:Zbg d x.Into with
  |none =>
   rw[hq2]at h2;by_cases e1:a.Rows=[]
   .rw[if_pos e1]at h1;exact .inl ⟨_,_,_,h1,.inl ⟨_,_,_,h2,by simp⟩⟩
   .rw[if_neg e1]at h1;exact .inr ⟨_,_,_,h1,.inl ⟨_,_,_,h2,by simp⟩⟩
  |some b =>
   rw[hq2]at h2;simp only[Zg0]at h2;have wb:=w1 (Zf8 (Zg5 hq2)).2;by_cases e1:a.Rows=[]
   .rw[if_pos e1]at h1;by_cases e2:b.Rows=[]
    .rw[if_pos e2]at h2;refine .inl ⟨_,_,_,h1,.inl ⟨_,_,_,h2,?_⟩⟩;rw[if_pos rfl,if_pos rfl,wa,wb];refine⟨_,Z6 _ _ _,?_⟩;rcases tf (inR x.Column 0 (a.Arity-1))with e|e
     .rw[e];simp[e]
     .rw[e,if_pos rfl];exact⟨_,Z6 _ _ _,by simp[e]⟩
    .rw[if_neg e2]at h2;refine .inl ⟨_,_,_,h1,.inr ⟨_,_,_,h2,?_⟩⟩;rw[if_pos rfl,wa,wb];refine⟨_,Z6 _ _ _,?_⟩;rcases tf (inR x.Column 0 (a.Arity-1))with e|e
     .rw[e];simp[e]
     .rw[e,if_pos rfl];exact⟨_,Z6 _ _ _,by simp[e]⟩
   .rw[if_neg e1]at h1;by_cases e2:b.Rows=[]
    .rw[if_pos e2]at h2;refine .inr ⟨_,_,_,h1,.inl ⟨_,_,_,h2,?_⟩⟩;rw[if_pos rfl,wa,wb];refine⟨_,Z6 _ _ _,?_⟩;rcases tf (inR x.Column 0 (a.Arity-1))with e|e
     .rw[e];simp[e]
     .rw[e,if_pos rfl];exact⟨_,Z6 _ _ _,by simp[e]⟩
    .rw[if_neg e2]at h2;refine .inr ⟨_,_,_,h1,.inr ⟨_,_,_,h2,_,Z6 _ _ _,?_⟩⟩;rw[wa,wb];rcases tf (inR x.Column 0 (a.Arity-1))with e|e
     .rw[e];simp[e]
     .rw[e,if_pos rfl];exact⟨_,Z6 _ _ _,by simp[e]⟩
def colV(rows:List (List Int))(c:Int):List Int:=rows.map λr=>r.getD c.toNat 0
structure ColD (rows:List (List Int)) (c:Int):Prop where
 len:rows.length<=8
 row:∀r∈rows,(c.toNat<r.length/\r.length<=3)/\∀v∈r,0<=v/\v<=9
 c0:0<=c
theorem Zbu6{t:Zc}(hv:Zy t=true){c:Int}(hc:inR c 0 (t.Arity-1)=true):ColD t.Rows c:=by
 obtain⟨hR,hA⟩:=Zf8 hv;have h2:0<=c/\c<=t.Arity-1:=by simpa[inR]using hc
 refine⟨hR.len,λr hr=>⟨?_,λv hx=>?_⟩,h2.1⟩
 .have:=hR.row r hr;omega
 .unfold Zy at hv;simp only[Yd]at hv;have h1:=Yn.1 hv.2.1 r hr;unfold rwB at h1;simp only[Yd]at h1;simpa[dig,inR]using Yn.1 h1.1 v hx
theorem colV_in{rows:List (List Int)}{c:Int}(h:ColD rows c):∀v∈colV rows c,0<=v/\v<=9:=by
 intro v hv;obtain⟨r,hr,rfl⟩:=Yo.1 hv;obtain⟨⟨h1,_⟩,h2⟩:=h.row r hr;refine h2 _ ?_;rw[Yw,Yl h1];exact Yb h1
def Zch(A B:List Int):List Int:=A.filter λv=>!(has B v)
theorem Zbu7:∀{l:List Int},cptI l=[]->l=[]
 |[],_=>rfl
 |[a],h=>by simp[cptI]at h
 |a::b::l,h=>by
  unfold cptI at h;split at h
  .have:=Zbu7 h;cases this
  .cases h
theorem miss_len(l:List Int):((cptI (srtI l)).length=0)↔l=[]:=by
 have hl:(srtI l).length=l.length:=(Ycn _ _).length_eq;constructor
 .intro h;have h1:=Zbu7 (Ybw h);rw[h1]at hl;exact Ybw hl.symm
 .intro h;subst h;simp[srtI,cptI]
theorem x_fin{out:List Int}(h:out.length<=4096):Zke out=some (.tup [],[.arr 3 1 true ((srtI out).map ic)])/\Zwx (srtI out)=some (.own 1,[.dead,.arr 3 1 true ((cptI (srtI out)).map ic)]):=by
 have hl:(srtI out).length=out.length:=(Ycn _ _).length_eq;unfold Zke Zwx;exact⟨c_sortI h,c_cptI (by omega)⟩
theorem Zchj{x:Zi}{A:List (List Int)}(hA:ColD A x.Column)(there:List Int)(ht:there.length<=4096):∀i,i<=A.length->Zm0 x there (Zch (colV (A.take i) x.Column) there) A A.length i=some (.own 0,[.arr 3 1 true ((cptI (srtI (Zch (colV A x.Column) there))).map ic)]):=by
 have h8:=hA.len;have hml:∀i,(Zch (colV (A.take i) x.Column) there).length<=A.length:=λi=>by
  have:=Ycv (λv=>!(has there v)) (colV (A.take i) x.Column);unfold Zch;simp only[colV,Yp,Ym]at this|-;omega
 refine down _ ?_ ?_
 .refine Zboh ?_;rw[if_neg (by omega),Yk];have hm:=hml A.length;rw[Yk]at hm;have:=x_fin (out:=Zch (colV A x.Column) there) (by omega);exact⟨_,this.1,_,this.2,rfl⟩
 .intro i hi ih;obtain⟨⟨h1,h2⟩,_⟩:=hA.row _ (Yb hi);refine Zboh ?_;rw[if_pos (by omega),wS hi (by omega)];refine⟨by omega,_,gE hi,hA.c0,_,gD h1,_,Zpc _ _ (by omega),?_⟩;have e:Zch (colV (A.take (i+1)) x.Column) there=Zch (colV (A.take i) x.Column) there++(if has there (A[i].getD x.Column.toNat 0)=true then[]else[A[i].getD x.Column.toNat 0]):=by
   unfold Zch colV;rw[Yx hi,Y1,Ycu];simp only[Yt,Ycs];generalize A[i].getD x.Column.toNat 0=g;rw[Ycw,List.filter_nil];cases has there g<;>rfl
  rw[e]at ih;rcases tf (has there (A[i].getD x.Column.toNat 0))with q|q
  .rw[if_neg (by rw[q];simp)]at ih|-;exact⟨by have:=hml i;omega,ih⟩
  .rw[if_pos q,Ybm]at ih;rw[if_pos q];exact ih
theorem Zchk{x:Zi}{A B:List (List Int)}(hA:ColD A x.Column)(hB:ColD B x.IntoColumn)(a:ByteArray)(b:Int):∀i,i<=B.length->Zqy x a b A (colV (B.take i) x.IntoColumn) B B.length i=some (.own 0,[.arr 3 1 true ((cptI (srtI (Zch (colV A x.Column) (colV B x.IntoColumn)))).map ic)]):=by
 have h8:=hB.len;refine down _ ?_ ?_
 .refine Zbog ?_;rw[if_neg (by omega),Yk];exact Zchj hA _ (by simp[colV];omega) 0 (Ya _)
 .intro i hi ih;obtain⟨⟨h1,h2⟩,_⟩:=hB.row _ (Yb hi);refine Zbog ?_;rw[if_pos (by omega),wS hi (by omega)];rw[show colV (B.take (i+1)) x.IntoColumn=colV (B.take i) x.IntoColumn++[B[i].getD x.IntoColumn.toNat 0] by unfold colV;rw[Yx hi,Y1];rfl]at ih;exact⟨by omega,_,gE hi,hB.c0,_,gD h1,by simp[colV];omega,ih⟩
def Zf9(d:Zh)(x:Zi):Bool:=Zh6 d x && (match Zbg d x.Name,Zbg d x.Into with
 |some a,some b=>(Zch (colV a.Rows x.Column) (colV b.Rows x.IntoColumn)).isEmpty
 |_,_=>true)
theorem inc_of{d:Zh}{x:Zi}(hv:Zh6 d x=true):∃a b,Zbg d x.Name=some a/\Zbg d x.Into=some b/\ColD a.Rows x.Column/\ColD b.Rows x.IntoColumn:=by
 unfold Zh6 at hv
 cases hq:Zbg d x.Name with
 |none=>rw[hq]at hv;cases hv
 |some a =>
  cases hq2:Zbg d x.Into with
  |none=>rw[hq,hq2]at hv;cases hv
  |some b =>
   rw[hq,hq2]at hv;simp only[Yd]at hv;exact⟨a,b,rfl,rfl,Zbu6 (Zg5 hq) hv.1,Zbu6 (Zg5 hq2) hv.2⟩
theorem Zchl{d:Zh}(h:LeD d)(x:Zi):Zwy d x=some (Bo (Zf9 d x),[]):=by
 refine Zb81 ⟨_,Zbu4 h x,?_⟩;unfold Zf9;rcases tf (Zh6 d x)with hv|hv
 .rw[hv];rfl
 obtain⟨a,b,h1,h2,hA,hB⟩:=inc_of hv;rw[hv,if_pos rfl,Ye,h1,h2];have l1:=Zjp d h x.Name;have l2:=Zjp d h x.Into;rw[h1]at l1;rw[h2]at l2;have hM:Zqx d x=some (.own 0,[.arr 3 1 true ((cptI (srtI (Zch (colV a.Rows x.Column) (colV b.Rows x.IntoColumn)))).map ic)]):=by
  refine Zb80 ⟨_,Zbu4 h x,?_⟩;rw[hv,if_pos rfl];exact .inr ⟨_,_,_,l1,.inr ⟨_,_,_,l2,by simpa[colV]using Zchk hA hB a.Name a.Arity 0 (Ya _)⟩⟩
 refine .inr ⟨_,hM,?_⟩
 .have:=miss_len (Zch (colV a.Rows x.Column) (colV b.Rows x.IntoColumn));by_cases e:Zch (colV a.Rows x.Column) (colV b.Rows x.IntoColumn)=[]
  .simp[e,cptI,srtI]
  .have e2:¬((cptI (srtI (Zch (colV a.Rows x.Column) (colV b.Rows x.IntoColumn)))).length=0):=λhc=>e (this.1 hc)
   have e4:¬cptI (srtI (Zch (colV a.Rows x.Column) (colV b.Rows x.IntoColumn)))=[]:=λhc=>e2 (by rw[hc];rfl)
   have e5:(Zch (colV a.Rows x.Column) (colV b.Rows x.IntoColumn)).isEmpty=false:=List.isEmpty_eq_false_iff.2 e;simp[e4,e5]
def Zdv(A B:List Int)(u:Nat):List Int:=((List.range' u (10-u)).filter λv:Nat=>has A (v:Int) && !(has B (v:Int))).map λn:Nat=>(n:Int)
theorem Z0z{A B:List Int}{u:Nat}(h:u<10):Zdv A B u=(if(has A (u:Int) && !(has B (u:Int)))=true then[(u:Int)]else[])++Zdv A B (u+1):=by
 unfold Zdv;rw[show 10-u=(10-(u+1))+1 by omega,List.range'_succ,Ycw];split<;>simp
theorem Zbu8{xs:List Int}{v:Int}:has xs v=true↔v∈xs:=by simp[has]
theorem Zchm{A B:List Int}(hA:∀v∈A,0<=v/\v<=9):Zdv A B 0=[]↔Zch A B=[]:=by
 constructor
 .intro h;unfold Zch;rw[Yct];intro v hv hb;have h1:=hA v hv;unfold Zdv at h;rw[List.map_eq_nil_iff,Yct]at h;refine h v.toNat (by simp[List.mem_range'];omega) ?_;rw[show((v.toNat:Nat):Int)=v by omega,Zbu8.2 hv,Ye];exact hb
 .intro h;unfold Zdv;rw[List.map_eq_nil_iff,Yct];intro n _ hb;simp only[Yd]at hb;unfold Zch at h;rw[Yct]at h;exact h _ (Zbu8.1 hb.1) hb.2
theorem Z00(r:List Int)(rows:List (List Int))(c v:Int):has (colV (r::rows) c) v=(decide (r.getD c.toNat 0=v) || has (colV rows c) v):=by
 simp only[has,colV,Yt,Ydd];rw[show decide (v=r.getD c.toNat 0)=decide (r.getD c.toNat 0=v) by simp[eq_comm]]
theorem l_s1{x:Zi}(a:ByteArray)(b:Int)(a':ByteArray)(b':Int)(out:List Int)(v:Int)(one:Bool)(r:AV×List Blk)(hr:(if(one && !(false))=true then out.length+1<=68719476736/\Zfn x (out++[v]) a b a' b' (w (v+1))=some r else Zfn x out a b a' b' (w (v+1))=some r)):Zn9 x out a b a' b' v one false 0=some r:=by
 refine Zcb4 ?_;rw[if_neg (by omega)];cases one<;>simpa using hr
theorem l_s0{x:Zi}(a:ByteArray)(b:Int)(a':ByteArray)(b':Int)(out:List Int)(v:Int)(c:Bool)(r:AV×List Blk)(hr:Zn9 x out a b a' b' v false c 0=some r):Zs4 x out a b a' b' v false c 0=some r:=by
 refine Zcb2 ?_;rw[if_neg (by omega)];exact hr
theorem l_s2{x:Zi}(a:ByteArray)(b:Int)(a':ByteArray)(b':Int):∀u,u<=10->∀out:List Int,out.length<=u->Zfn x out a b a' b' u=some (.own 0,[.arr 3 1 true ((out++Zdv (colV ([]:List (List Int)) x.Column) (colV ([]:List (List Int)) x.IntoColumn) u).map ic)]):=by
 refine down _ ?_ ?_
 .intro out ho;refine Zbqn ?_;rw[if_neg (by omega)];simp[Zdv]
 .intro u hu ih out ho;have step:∀r,(if(false && !(false))=true then out.length+1<=68719476736/\Zfn x (out++[(u:Int)]) a b a' b' (w ((u:Int)+1))=some r else Zfn x out a b a' b' (w ((u:Int)+1))=some r)->Zfn x out a b a' b' u=some r:=by
   intro r hr;refine Zbqn ?_;rw[if_pos (by omega)];have q1:=l_s1 a b a' b' out u (false) r (by simpa using hr);exact l_s0 a b a' b' out u false r q1
  rw[Z0z hu,show w ((u:Int)+1)=((u+1:Nat):Int)from wS hu (by omega)]at *
  have e1:has (colV ([]:List (List Int)) x.Column) (u:Int)=false:=rfl;have e2:has (colV ([]:List (List Int)) x.IntoColumn) (u:Int)=false:=rfl;rw[e1,e2];refine step _ ?_;rcases tf (false && !(false))with e|e
  .rw[if_neg (by rw[e];simp),if_neg (by rw[e];simp),Yce];exact ih _ (by omega)
  .rw[if_pos e,if_pos e];refine⟨by omega,?_⟩;rw[<-Yz];exact ih _ (by simp;omega)
theorem l_s1a{x:Zi}{B:List (List Int)}(hB:ColD B x.IntoColumn)(a:ByteArray)(b:Int)(a':ByteArray)(b':Int)(out:List Int)(v:Int)(c:Bool)(r:AV×List Blk):∀i,i<=B.length->∀two:Bool,(if(c && !(two || has (colV (B.drop i) x.IntoColumn) v))=true then out.length+1<=68719476736/\Zfo x (out++[v]) a b a' b' B (w (v+1))=some r else Zfo x out a b a' b' B (w (v+1))=some r)->Zk1 x out a b a' b' B v c two i=some r:=by
 have h8:=hB.len;refine down _ ?_ ?_
 .intro two hr;refine Zbqt ?_;rw[if_neg (by omega)];rw[Yg,show has (colV [] x.IntoColumn) v=false from rfl,Bool.or_false]at hr;cases c<;>cases two<;>simpa using hr
 .intro i hi ih two hr;obtain⟨⟨h1,h2⟩,_⟩:=hB.row _ (Yb hi);refine Zbqt ?_;rw[if_pos (by omega),wS hi (by omega)];rw[Yc hi,Z00]at hr;rcases tf two with e|e
  .rw[if_neg (by rw[e];simp)];refine⟨by omega,_,gE hi,hB.c0,_,gD h1,ih _ ?_⟩;rw[e,Yby]at hr;exact hr
  .rw[if_pos e];refine ih true ?_;rw[e]at hr;simpa using hr
theorem l_s0a{x:Zi}{B:List (List Int)}(hB:ColD B x.IntoColumn)(a:ByteArray)(b:Int)(a':ByteArray)(b':Int)(out:List Int)(v:Int)(c:Bool)(r:AV×List Blk)(hr:Zk1 x out a b a' b' B v false c 0=some r):Zs5 x out a b a' b' B v false c 0=some r:=by
 refine Zcb3 ?_;rw[if_neg (by omega)];exact hr
theorem l_s2a{x:Zi}{B:List (List Int)}(hB:ColD B x.IntoColumn)(a:ByteArray)(b:Int)(a':ByteArray)(b':Int):∀u,u<=10->∀out:List Int,out.length<=u->Zfo x out a b a' b' B u=some (.own 0,[.arr 3 1 true ((out++Zdv (colV ([]:List (List Int)) x.Column) (colV B x.IntoColumn) u).map ic)]):=by
 refine down _ ?_ ?_
 .intro out ho;refine Zbqo ?_;rw[if_neg (by omega)];simp[Zdv]
 .intro u hu ih out ho;have step:∀r,(if(false && !(has (colV B x.IntoColumn) (u:Int)))=true then out.length+1<=68719476736/\Zfo x (out++[(u:Int)]) a b a' b' B (w ((u:Int)+1))=some r else Zfo x out a b a' b' B (w ((u:Int)+1))=some r)->Zfo x out a b a' b' B u=some r:=by
   intro r hr;refine Zbqo ?_;rw[if_pos (by omega)];have q1:=l_s1a hB a b a' b' out u (false) r 0 (Ya _) false (by simpa using hr);exact l_s0a hB a b a' b' out u false r q1
  rw[Z0z hu,show w ((u:Int)+1)=((u+1:Nat):Int)from wS hu (by omega)]at *
  have e1:has (colV ([]:List (List Int)) x.Column) (u:Int)=false:=rfl;have e2:has (colV B x.IntoColumn) (u:Int)=has (colV B x.IntoColumn) (u:Int):=rfl;rw[e1,e2];refine step _ ?_;rcases tf (false && !(has (colV B x.IntoColumn) (u:Int)))with e|e
  .rw[if_neg (by rw[e];simp),if_neg (by rw[e];simp),Yce];exact ih _ (by omega)
  .rw[if_pos e,if_pos e];refine⟨by omega,?_⟩;rw[<-Yz];exact ih _ (by simp;omega)
theorem l_s1b{x:Zi}{A:List (List Int)}(hA:ColD A x.Column)(a:ByteArray)(b:Int)(a':ByteArray)(b':Int)(out:List Int)(v:Int)(one:Bool)(r:AV×List Blk)(hr:(if(one && !(false))=true then out.length+1<=68719476736/\Zfp x (out++[v]) a b A a' b' (w (v+1))=some r else Zfp x out a b A a' b' (w (v+1))=some r)):Zoa x out a b A a' b' v one false 0=some r:=by
 refine Zcb5 ?_;rw[if_neg (by omega)];cases one<;>simpa using hr
theorem l_s0b{x:Zi}{A:List (List Int)}(hA:ColD A x.Column)(a:ByteArray)(b:Int)(a':ByteArray)(b':Int)(out:List Int)(v:Int)(c:Bool)(r:AV×List Blk):∀i,i<=A.length->∀one:Bool,Zoa x out a b A a' b' v (one || has (colV (A.drop i) x.Column) v) c 0=some r->Zn7 x out a b A a' b' v one c i=some r:=by
 have h8:=hA.len;refine down _ ?_ ?_
 .intro one hr;refine Zbqr ?_;rw[if_neg (by omega)];rw[Yg,show has (colV [] x.Column) v=false from rfl,Bool.or_false]at hr;exact hr
 .intro i hi ih one hr;obtain⟨⟨h1,h2⟩,_⟩:=hA.row _ (Yb hi);refine Zbqr ?_;rw[if_pos (by omega),wS hi (by omega)];rw[Yc hi,Z00]at hr;rcases tf one with e|e
  .rw[if_neg (by rw[e];simp)];refine⟨by omega,_,gE hi,hA.c0,_,gD h1,ih _ ?_⟩;rw[e,Yby]at hr;exact hr
  .rw[if_pos e];refine ih true ?_;rw[e]at hr;simpa using hr
theorem l_s2b{x:Zi}{A:List (List Int)}(hA:ColD A x.Column)(a:ByteArray)(b:Int)(a':ByteArray)(b':Int):∀u,u<=10->∀out:List Int,out.length<=u->Zfp x out a b A a' b' u=some (.own 0,[.arr 3 1 true ((out++Zdv (colV A x.Column) (colV ([]:List (List Int)) x.IntoColumn) u).map ic)]):=by
 refine down _ ?_ ?_
 .intro out ho;refine Zbqp ?_;rw[if_neg (by omega)];simp[Zdv]
 .intro u hu ih out ho;have step:∀r,(if(has (colV A x.Column) (u:Int) && !(false))=true then out.length+1<=68719476736/\Zfp x (out++[(u:Int)]) a b A a' b' (w ((u:Int)+1))=some r else Zfp x out a b A a' b' (w ((u:Int)+1))=some r)->Zfp x out a b A a' b' u=some r:=by
   intro r hr;refine Zbqp ?_;rw[if_pos (by omega)];have q1:=l_s1b hA a b a' b' out u (has (colV A x.Column) (u:Int)) r (by simpa using hr);exact l_s0b hA a b a' b' out u false r 0 (Ya _) false (by simpa using q1)
  rw[Z0z hu,show w ((u:Int)+1)=((u+1:Nat):Int)from wS hu (by omega)]at *
  have e1:has (colV A x.Column) (u:Int)=has (colV A x.Column) (u:Int):=rfl;have e2:has (colV ([]:List (List Int)) x.IntoColumn) (u:Int)=false:=rfl;rw[e1,e2];refine step _ ?_;rcases tf (has (colV A x.Column) (u:Int) && !(false))with e|e
  .rw[if_neg (by rw[e];simp),if_neg (by rw[e];simp),Yce];exact ih _ (by omega)
  .rw[if_pos e,if_pos e];refine⟨by omega,?_⟩;rw[<-Yz];exact ih _ (by simp;omega)
theorem l_s1c{x:Zi}{A:List (List Int)}(hA:ColD A x.Column){B:List (List Int)}(hB:ColD B x.IntoColumn)(a:ByteArray)(b:Int)(a':ByteArray)(b':Int)(out:List Int)(v:Int)(c:Bool)(r:AV×List Blk):∀i,i<=B.length->∀two:Bool,(if(c && !(two || has (colV (B.drop i) x.IntoColumn) v))=true then out.length+1<=68719476736/\Zfq x (out++[v]) a b A a' b' B (w (v+1))=some r else Zfq x out a b A a' b' B (w (v+1))=some r)->Zk2 x out a b A a' b' B v c two i=some r:=by
 have h8:=hB.len;refine down _ ?_ ?_
 .intro two hr;refine Zbqu ?_;rw[if_neg (by omega)];rw[Yg,show has (colV [] x.IntoColumn) v=false from rfl,Bool.or_false]at hr;cases c<;>cases two<;>simpa using hr
 .intro i hi ih two hr;obtain⟨⟨h1,h2⟩,_⟩:=hB.row _ (Yb hi);refine Zbqu ?_;rw[if_pos (by omega),wS hi (by omega)];rw[Yc hi,Z00]at hr;rcases tf two with e|e
  .rw[if_neg (by rw[e];simp)];refine⟨by omega,_,gE hi,hB.c0,_,gD h1,ih _ ?_⟩;rw[e,Yby]at hr;exact hr
  .rw[if_pos e];refine ih true ?_;rw[e]at hr;simpa using hr
theorem l_s0c{x:Zi}{A:List (List Int)}(hA:ColD A x.Column){B:List (List Int)}(hB:ColD B x.IntoColumn)(a:ByteArray)(b:Int)(a':ByteArray)(b':Int)(out:List Int)(v:Int)(c:Bool)(r:AV×List Blk):∀i,i<=A.length->∀one:Bool,Zk2 x out a b A a' b' B v (one || has (colV (A.drop i) x.Column) v) c 0=some r->Zn8 x out a b A a' b' B v one c i=some r:=by
 have h8:=hA.len;refine down _ ?_ ?_
 .intro one hr;refine Zbqs ?_;rw[if_neg (by omega)];rw[Yg,show has (colV [] x.Column) v=false from rfl,Bool.or_false]at hr;exact hr
 .intro i hi ih one hr;obtain⟨⟨h1,h2⟩,_⟩:=hA.row _ (Yb hi);refine Zbqs ?_;rw[if_pos (by omega),wS hi (by omega)];rw[Yc hi,Z00]at hr;rcases tf one with e|e
  .rw[if_neg (by rw[e];simp)];refine⟨by omega,_,gE hi,hA.c0,_,gD h1,ih _ ?_⟩;rw[e,Yby]at hr;exact hr
  .rw[if_pos e];refine ih true ?_;rw[e]at hr;simpa using hr
theorem l_s2c{x:Zi}{A:List (List Int)}(hA:ColD A x.Column){B:List (List Int)}(hB:ColD B x.IntoColumn)(a:ByteArray)(b:Int)(a':ByteArray)(b':Int):∀u,u<=10->∀out:List Int,out.length<=u->Zfq x out a b A a' b' B u=some (.own 0,[.arr 3 1 true ((out++Zdv (colV A x.Column) (colV B x.IntoColumn) u).map ic)]):=by
 refine down _ ?_ ?_
 .intro out ho;refine Zbqq ?_;rw[if_neg (by omega)];simp[Zdv]
 .intro u hu ih out ho;have step:∀r,(if(has (colV A x.Column) (u:Int) && !(has (colV B x.IntoColumn) (u:Int)))=true then out.length+1<=68719476736/\Zfq x (out++[(u:Int)]) a b A a' b' B (w ((u:Int)+1))=some r else Zfq x out a b A a' b' B (w ((u:Int)+1))=some r)->Zfq x out a b A a' b' B u=some r:=by
   intro r hr;refine Zbqq ?_;rw[if_pos (by omega)];have q1:=l_s1c hA hB a b a' b' out u (has (colV A x.Column) (u:Int)) r 0 (Ya _) false (by simpa using hr);exact l_s0c hA hB a b a' b' out u false r 0 (Ya _) false (by simpa using q1)
  rw[Z0z hu,show w ((u:Int)+1)=((u+1:Nat):Int)from wS hu (by omega)]at *
  have e1:has (colV A x.Column) (u:Int)=has (colV A x.Column) (u:Int):=rfl;have e2:has (colV B x.IntoColumn) (u:Int)=has (colV B x.IntoColumn) (u:Int):=rfl;rw[e1,e2];refine step _ ?_;rcases tf (has (colV A x.Column) (u:Int) && !(has (colV B x.IntoColumn) (u:Int)))with e|e
  .rw[if_neg (by rw[e];simp),if_neg (by rw[e];simp),Yce];exact ih _ (by omega)
  .rw[if_pos e,if_pos e];refine⟨by omega,?_⟩;rw[<-Yz];exact ih _ (by simp;omega)
theorem Zchn{d:Zh}(h:LeD d)(x:Zi):Zyh d x=some (Bo (Zf9 d x),[]):=by
 refine Zcb7 ⟨_,Zbu5 h x,?_⟩;unfold Zf9;rcases tf (Zh6 d x)with hv|hv
 .rw[hv];rfl
 obtain⟨a,b,h1,h2,hA,hB⟩:=inc_of hv;rw[hv,if_pos rfl,Ye,h1,h2];have l1:=Zls d h x.Name;have l2:=Zls d h x.Into;rw[h1]at l1;rw[h2]at l2;simp only[Zg0]at l1 l2;refine⟨Zdv (colV a.Rows x.Column) (colV b.Rows x.IntoColumn) 0,Zcb6 ⟨_,Zbu5 h x,?_⟩,?_⟩
 .rw[hv,if_pos rfl];by_cases e1:a.Rows=[]
  .rw[if_pos e1]at l1;rw[e1];by_cases e2:b.Rows=[]
   .rw[if_pos e2]at l2;rw[e2];exact .inl ⟨_,_,_,l1,.inl ⟨_,_,_,l2,l_s2 _ _ _ _ 0 (by omega) [] (by simp)⟩⟩
   .rw[if_neg e2]at l2;exact .inl ⟨_,_,_,l1,.inr ⟨_,_,_,l2,l_s2a hB _ _ _ _ 0 (by omega) [] (by simp)⟩⟩
  .rw[if_neg e1]at l1;by_cases e2:b.Rows=[]
   .rw[if_pos e2]at l2;rw[e2];exact .inr ⟨_,_,_,l1,.inl ⟨_,_,_,l2,l_s2b hA _ _ _ _ 0 (by omega) [] (by simp)⟩⟩
   .rw[if_neg e2]at l2;exact .inr ⟨_,_,_,l1,.inr ⟨_,_,_,l2,l_s2c hA hB _ _ _ _ 0 (by omega) [] (by simp)⟩⟩
 .have:=Zchm (B:=colV b.Rows x.IntoColumn) (colV_in hA);by_cases e:Zch (colV a.Rows x.Column) (colV b.Rows x.IntoColumn)=[]
  .rw[this.2 e];simp[e]
  .have e2:¬Zdv (colV a.Rows x.Column) (colV b.Rows x.IntoColumn) 0=[]:=λhc=>e (this.1 hc)
   have e5:(Zch (colV a.Rows x.Column) (colV b.Rows x.IntoColumn)).isEmpty=false:=List.isEmpty_eq_false_iff.2 e;simp[e2,e5]
noncomputable def Zva(d:Zh)(fs:List Zm)(xs:List Zi):Bool:=fs.all (Zh5 d) && xs.all (Zf9 d) && (decide (fs.length<=8) && decide (xs.length<=8))
abbrev LeF(fs:List Zm):Prop:=Le fs/\∀f∈fs,f.From.length<=4294967296
theorem Zcho{d:Zh}(h:LeD d)(fs:List Zm)(xs:List Zi)(hx:Le xs):∀i,i<=xs.length->Zq0 d fs xs xs xs.length i=some (Bo ((xs.drop i).all (Zf9 d) && (decide (fs.length<=8) && decide (xs.length<=8))),[]):=by
 refine down _ ?_ ?_
 .refine Zboj ?_;rw[if_neg (by omega),Yg];by_cases e:fs.length<=8
  .rw[if_pos (by omega)];simp[e];omega
  .rw[if_neg (by omega)];simp[e]
 .intro i hi ih;refine Zboj ?_;rw[if_pos (by omega),wS hi hx,Yc hi,Y2];refine⟨by omega,_,gE hi,_,Zchl h _,?_⟩;rcases tf (Zf9 d xs[i])with e|e
  .rw[e];simp
  .rw[e,if_pos rfl,ih];simp
theorem Zbu9{d:Zh}(h:LeD d){fs:List Zm}(hf:LeF fs){xs:List Zi}(hx:Le xs):Zm1 d fs xs=some (Bo (Zva d fs xs),[]):=by
 have main:∀i,i<=fs.length->Zqz d fs xs fs fs.length i=some (Bo ((fs.drop i).all (Zh5 d) && xs.all (Zf9 d) && (decide (fs.length<=8) && decide (xs.length<=8))),[]):=by
  refine down _ ?_ ?_
  .refine Zboi ?_;rw[if_neg (by omega),Yg];simpa using Zcho h fs xs hx 0 (Ya _)
  .intro i hi ih;refine Zboi ?_;rw[if_pos (by omega),wS hi hf.1,Yc hi,Y2];refine⟨by omega,_,gE hi,_,Zchh h _ (hf.2 _ (Yb hi)),?_⟩;rcases tf (Zh5 d fs[i])with e|e
   .rw[e];simp
   .rw[e,if_pos rfl,ih];simp
 exact Zb82 (by simpa[Zva]using main 0 (Ya _))
theorem Zchp{d:Zh}(h:LeD d)(xs:List Zi)(hx:Le xs):∀i,i<=xs.length->Zs7 d xs i=some (Bo ((xs.drop i).all (Zf9 d)),[]):=by
 refine down _ ?_ ?_
 .refine Zbqw ?_;rw[if_neg (by omega),Yg];rfl
 .intro i hi ih;refine Zbqw ?_;rw[if_pos (by omega),wS hi hx,Yc hi,Y2];refine⟨by omega,_,gE hi,_,Zchn h _,?_⟩;rcases tf (Zf9 d xs[i])with e|e
  .rw[e];simp
  .rw[e,if_pos rfl,ih];simp
theorem Zbva{d:Zh}(h:LeD d){fs:List Zm}(hf:LeF fs){xs:List Zi}(hx:Le xs):Zob d fs xs=some (Bo (Zva d fs xs),[]):=by
 have main:∀i,i<=fs.length->Zs6 d fs xs i=some (Bo ((fs.drop i).all (Zh5 d) && xs.all (Zf9 d)),[]):=by
  refine down _ ?_ ?_
  .refine Zbqv ?_;rw[if_neg (by omega),Yg];simpa using Zchp h xs hx 0 (Ya _)
  .intro i hi ih;refine Zbqv ?_;rw[if_pos (by omega),wS hi hf.1,Yc hi,Y2];refine⟨by omega,_,gE hi,_,Zchi h _ (hf.2 _ (Yb hi)),?_⟩;rcases tf (Zh5 d fs[i])with e|e
   .rw[e];simp
   .rw[e,if_pos rfl,ih];simp
 refine Zcb8 ?_;unfold Zva;by_cases e1:fs.length<=8
 .rw[if_neg (by omega)];by_cases e2:xs.length<=8
  .rw[if_neg (by omega)];simpa[e1,e2]using main 0 (Ya _)
  .rw[if_pos (by omega)];simp[e2]
 .rw[if_pos (by omega)];simp[e1]
structure Zg6 (s:Zj):Prop where
 d:LeD s.Zh
 k:LeK s.Zn
 f:LeF s.Dependencies
 x:Le s.Inclusions
noncomputable def Zg7(s:Zj):Bool:=Zbz s.Zh && inR s.Zn.Version 1 999 && decide (s.Zh.Tables.map Zp=s.Zn.Tables) && Zva s.Zh s.Dependencies s.Inclusions
theorem Zbvb{d:Zh}(hv:Zbz d=true):(d.Tables.map Zp).length<=4294967296/\∀s∈d.Tables.map Zp,LeS s:=by
 have h6:=Zu9 hv;refine⟨by simp;omega,λs hs=>?_⟩;obtain⟨t,ht,rfl⟩:=Yo.1 hs;have hT:=Zei hv ht;have h7:=Zjw (Zb6 hT);have h8:=Zds hT;refine⟨by simp[Zp];omega,λg hg=>?_⟩;obtain⟨c,hc,rfl⟩:=Yo.1 hg;have hc3:=(Zbbo (Zb6 hT) c hc).1;have hg:=Z0w t.Rows c;refine⟨by simp only[grp];omega,⟨by simp only[grp];omega,λr hr=>?_⟩,by simp only[grp,grpN,Yp];omega⟩;have:=Zbbp hr;omega
theorem Zbvc{s:Zj}(h:Zg6 s):Zm2 s=some (Bo (Zg7 s),[]):=by
 have hb:=Zcg0 h.d s.Zn.Version;refine Zb9b ?_;unfold Zg7;unfold catF at hb;rcases tf (Zbz s.Zh && inR s.Zn.Version 1 999)with e|e
 .rw[e]at hb|-;exact .inl ⟨_,_,hb,by simp⟩
 .rw[e]at hb|-;rw[if_pos rfl]at hb;rw[Ye];have hv:Zbz s.Zh=true:=by simp only[Yd]at e;exact e.1
  by_cases e0:s.Zh.Tables=[]
  .rw[if_pos e0]at hb;refine .inl ⟨_,_,hb,?_⟩;rw[if_pos rfl];refine⟨_,Zcg5 _ _,?_⟩;have q:Zdu s.Zn.Version [] s.Zn=decide (s.Zh.Tables.map Zp=s.Zn.Tables):=by simp[Zdu,e0]
   rw[q];rcases tf (decide (s.Zh.Tables.map Zp=s.Zn.Tables))with e2|e2
   .rw[e2];simp
   .rw[e2,if_pos rfl];exact⟨_,Zbu9 h.d h.f h.x,by simp⟩
  .rw[if_neg e0]at hb;refine .inr ⟨_,_,_,hb,_,Zcg6 _ _ _ (Zbvb hv),?_⟩;have q:Zdu s.Zn.Version (s.Zh.Tables.map Zp) s.Zn=decide (s.Zh.Tables.map Zp=s.Zn.Tables):=by simp[Zdu]
   rw[q];rcases tf (decide (s.Zh.Tables.map Zp=s.Zn.Tables))with e2|e2
   .rw[e2];simp
   .rw[e2,if_pos rfl];exact⟨_,Zbu9 h.d h.f h.x,by simp⟩
theorem Zchq{s:Zj}(h:Zg6 s):Zs9 s=some (Bo (Zg7 s),[]):=by
 have hb:=Zcg2 h.d s.Zn.Version;refine Zccb ?_;unfold Zg7;unfold catF at hb;rcases tf (Zbz s.Zh && inR s.Zn.Version 1 999)with e|e
 .rw[e]at hb|-;exact .inl ⟨_,_,hb,by simp⟩
 .rw[e]at hb|-;rw[if_pos rfl]at hb;rw[Ye];have hv:Zbz s.Zh=true:=by simp only[Yd]at e;exact e.1
  by_cases e0:s.Zh.Tables=[]
  .rw[if_pos e0]at hb;refine .inl ⟨_,_,hb,?_⟩;rw[if_pos rfl];refine⟨_,Zcha _ _,?_⟩;have q:Zdu s.Zn.Version [] s.Zn=decide (s.Zh.Tables.map Zp=s.Zn.Tables):=by simp[Zdu,e0]
   rw[q];rcases tf (decide (s.Zh.Tables.map Zp=s.Zn.Tables))with e2|e2
   .rw[e2];simp
   .rw[e2,if_pos rfl];exact⟨_,Zbva h.d h.f h.x,by simp⟩
  .rw[if_neg e0]at hb;refine .inr ⟨_,_,_,hb,_,Zchb _ _ _ (Zbvb hv) h.k,?_⟩;have q:Zdu s.Zn.Version (s.Zh.Tables.map Zp) s.Zn=decide (s.Zh.Tables.map Zp=s.Zn.Tables):=by simp[Zdu]
   rw[q];rcases tf (decide (s.Zh.Tables.map Zp=s.Zn.Tables))with e2|e2
   .rw[e2];simp
   .rw[e2,if_pos rfl];exact⟨_,Zbva h.d h.f h.x,by simp⟩
abbrev Lf{α:Type}(xs:List α):Prop:=xs.length<=4294967296
abbrev LfT(t:Zc):Prop:=Lf t.Rows/\∀r∈t.Rows,Lf r
abbrev LfD(d:Zh):Prop:=Lf d.Tables/\∀t∈d.Tables,LfT t
abbrev LfF(fs:List Zm):Prop:=Lf fs/\∀f∈fs,Lf f.From
structure LfS (s:Zj):Prop where
 d:LfD s.Zh
 k:LeK s.Zn
 f:LfF s.Dependencies
 x:Lf s.Inclusions
theorem LfS.le{s:Zj}(h:LfS s):Zg6 s :=
 ⟨⟨by have:=h.d.1;omega,λt ht=>⟨by have:=(h.d.2 t ht).1;omega,λr hr=>by have:=(h.d.2 t ht).2 r hr;omega⟩⟩,h.k,⟨by have:=h.f.1;omega,λx hx=>by have:=h.f.2 x hx;omega⟩,by have:=h.x;omega⟩
theorem tkS{α:Type}{xs:List α}{i:Nat}(h:i<xs.length):xs.take i++[xs[i]]=xs.take (i+1):=(Yx h).symm
theorem tk1{α:Type}{xs:List α}(h:0<xs.length):[xs[0]]=xs.take 1:=by
 rw[<-tkS h];rfl
theorem w01:w (0+1)=((1:Nat):Int):=by decide
theorem tkl{α:Type}{xs:List α}{i:Nat}(h:i<xs.length)(hl:xs.length<=4294967296):(xs.take i).length+1<=68719476736:=by
 rw[Ym];omega
theorem tks{α:Type}{xs:List α}(h:xs.length<=4294967296):xs.length<=68719476736:=by omega
theorem l_cRows(xs:List (List Int))(hl:Lf xs)(hr:∀r∈xs,Lf r):∀i,i<=xs.length->Zmt (xs.take i) xs xs.length i=some (.own 0,[.arr 56 1 true (xs.map isc)]):=by
 refine down _ ?_ ?_
 .refine Zz0 ?_;rw[if_neg (by omega),Yk]
 .intro i hi ih;refine Zz0 ?_;rw[if_pos (by omega),wS hi (by omega)];rw[<-tkS hi]at ih;exact⟨by omega,_,gE hi,_,Z0d _ (tks (hr _ (Yb hi))),tkl hi hl,ih⟩
theorem x_cRows(xs:List (List Int))(hl:Lf xs)(hr:∀r∈xs,Lf r):Zgo xs=some (.own 0,[.arr 56 1 true (xs.map isc)]) :=
 Zbn5 (by simpa using l_cRows xs hl hr 0 (Ya _))
theorem l_cStats(s:Zd)(h:LeS s)(a:ByteArray)(b c:Int):∀i,i<=s.Groups.length->Zq8 s a b c (s.Groups.take i) s.Groups s.Groups.length i=some (.agg [.t (.str s.Name),I s.Arity,I s.RowCount,.own 0],[.arr 200 3 true (s.Groups.map Zf.c)]):=by
 have hl:=h.1;refine down _ ?_ ?_
 .refine Zbos ?_;rw[if_neg (by omega),Yk]
 .intro i hi ih;refine Zbos ?_;rw[if_pos (by omega),wS hi (by omega)];rw[<-tkS hi]at ih;have g:=h.2 _ (Yb hi);exact⟨by omega,_,gE hi,_,Z0d _ (tks g.1),_,x_cRows _ g.2.1.1 g.2.1.2,_,Z0d _ (tks g.2.2),tkl hi hl,ih⟩
theorem x_cStats(s:Zd)(h:LeS s):Zw6 s=some (.agg [.t (.str s.Name),I s.Arity,I s.RowCount,.own 0],[.arr 200 3 true (s.Groups.map Zf.c)]) :=
 Zb9l (by simpa using l_cStats s h ⟨#[]⟩ 0 0 0 (Ya _))
theorem l_s13(s:Zd)(h:LeS s)(a:ByteArray)(b c:Int)(r:AV×List Blk){i:Nat}(hi:i<s.Groups.length)(cc:Zgv s a b c s.Name s.Arity s.RowCount (s.Groups.take (i+1)) ((i+1:Nat):Int)=some r) :
  (∀k,k<=s.Groups[i].Values.length->Ztd s a b c s.Name s.Arity s.RowCount (s.Groups.take i) s.Groups[i].Columns (s.Groups[i].Values.take k) s.Groups[i].Counts i k=some r):=by
 have hl:=h.1;have g:=h.2 _ (Yb hi);have hv:=g.2.1.1;refine down _ ?_ ?_
 .refine Zbq6 ⟨by omega,_,gE hi,?_⟩;rw[if_neg (by omega),Yk,wS hi (by omega)];rw[<-tkS hi]at cc;exact⟨tkl hi hl,cc⟩
 .intro k hk ih;refine Zbq6 ⟨by omega,_,gE hi,?_⟩;rw[if_pos (by omega),wS hk (by omega)];rw[<-tkS hk]at ih;exact⟨by omega,_,gE hk,tks (g.2.1.2 _ (Yb hk)),tkl hk hv,ih⟩
theorem l_s13b(s:Zd)(h:LeS s)(a:ByteArray)(b c:Int):∀i,i<=s.Groups.length->Zgv s a b c s.Name s.Arity s.RowCount (s.Groups.take i) i=some (.agg [.t (.str s.Name),I s.Arity,I s.RowCount,.own 0],[.arr 200 3 true (s.Groups.map Zf.c)]):=by
 have hl:=h.1;refine down _ ?_ ?_
 .refine Zbq5 ?_;rw[if_neg (by omega),Yk]
 .intro i hi ih;have g:=h.2 _ (Yb hi);have hv:=g.2.1.1;refine Zbq5 ?_;rw[if_pos (by omega)];refine⟨by omega,_,gE hi,tks g.1,tks g.2.2,Zcco ⟨by omega,_,gE hi,?_⟩⟩;by_cases e:s.Groups[i].Values=[]
  .rw[if_neg (by rw[e];simp),wS hi (by omega)];rw[<-tkS hi]at ih;refine⟨tkl hi hl,?_⟩;rw[<-ih];congr 3;exact Zf.ext rfl e.symm rfl
  .have h0:0<s.Groups[i].Values.length:=Y7.2 e;rw[if_pos (by omega),w01];have:=l_s13 s h a b c _ hi ih 1 h0;rw[<-tk1 h0]at this;exact⟨by omega,_,gE (i:=0) h0,tks (g.2.1.2 _ (Yb h0)),this⟩
theorem l_s13c(s:Zd)(h:LeS s)(r:AV×List Blk)(hi:0<s.Groups.length)(c:Zgv s ⟨#[]⟩ 0 0 s.Name s.Arity s.RowCount (s.Groups.take 1) ((1:Nat):Int)=some r) :
  ∀k,k<=s.Groups[0].Values.length->Ztc s ⟨#[]⟩ 0 0 s.Name s.Arity s.RowCount s.Groups[0].Columns (s.Groups[0].Values.take k) s.Groups[0].Counts 0 k=some r:=by
 have hl:=h.1;have g:=h.2 _ (Yb hi);have hv:=g.2.1.1;refine down _ ?_ ?_
 .refine Zbq4 ⟨by omega,_,gE (i:=0) hi,?_⟩;rw[if_neg (by omega),Yk,w01];rw[<-tk1 hi]at c;exact c
 .intro k hk ih;refine Zbq4 ⟨by omega,_,gE (i:=0) hi,?_⟩;rw[if_pos (by omega),wS hk (by omega)];rw[<-tkS hk]at ih;exact⟨by omega,_,gE hk,tks (g.2.1.2 _ (Yb hk)),tkl hk hv,ih⟩
theorem x_s13(s:Zd)(h:LeS s):Zyt s=some (.agg [.t (.str s.Name),I s.Arity,I s.RowCount,.own 0],[.arr 200 3 true (s.Groups.map Zf.c)]):=by
 have hl:=h.1;refine Zccp (Zccm ?_);by_cases e0:s.Groups=[]
 .rw[if_neg (by rw[e0];simp),e0]
 .have hi:0<s.Groups.length:=Y7.2 e0;have g:=h.2 _ (Yb hi);have ih:=l_s13b s h ⟨#[]⟩ 0 0 1 hi;rw[if_pos (by omega)];refine⟨by omega,_,gE (i:=0) hi,tks g.1,tks g.2.2,Zccn ⟨by omega,_,gE (i:=0) hi,?_⟩⟩;by_cases e:s.Groups[0].Values=[]
  .rw[if_neg (by rw[e];simp),w01];rw[<-tk1 hi]at ih;rw[<-ih];congr 2;exact Zf.ext rfl e.symm rfl
  .have h0:0<s.Groups[0].Values.length:=Y7.2 e;rw[if_pos (by omega),w01];have:=l_s13c s h _ hi ih 1 h0;rw[<-tk1 h0]at this;exact⟨by omega,_,gE (i:=0) h0,tks (g.2.1.2 _ (Yb h0)),this⟩
theorem cmpR_lt{a b c:List Int}(h1:cmpR a b<0)(h2:cmpR b c<0):cmpR a c<0:=by
 have h:=Zlt a b c (by omega) (by omega);rcases Yc6 h with h|h
 .exact h
 .have:=Zej _ _ h;subst this;have:=Zd9 a b;omega
theorem Zbvd:∀{l:List (List Int)} {p:Option (List Int)},adjL ltR p l=true->AscR l/\∀q,p=some q->∀x∈l,cmpR q x<0
 |[],p,_=>⟨List.Pairwise.nil,λq _ x hx=>by cases hx⟩
 |a::l,p,h=>by
  simp only[adjL,Yd]at h;obtain⟨h1,h2⟩:=Zbvd h.2;have h3:=h2 a rfl;refine⟨Ybi.2 ⟨h3,h1⟩,λq hq x hx=>?_⟩;subst hq;have h4:cmpR q a<0:=by simpa[nxt,ltR]using h.1
  rcases Yu.1 hx with rfl|hx
  .exact h4
  .exact cmpR_lt h4 (h3 x hx)
theorem Zbve{t:Zc}(h:Zy t=true):ansR t.Rows=t.Rows:=by
 unfold Zy at h;simp only[Yd]at h;exact Z0s (Zbbn _) (Zbvd h.2.2).1 λx=>Z0t _ _
def allC(n:Int):List Int:=if n=1 then[0]else if n=2 then[0,1]else[0,1,2]
theorem Zbvf{t:Zc}(h:Zy t=true){r:List Int}(hr:r∈t.Rows):(r.length:Int)=t.Arity:=by
 unfold Zy at h;simp only[Yd]at h;have h1:=Yn.1 h.2.1 r hr;unfold rwB at h1;simp only[Yd,decide_eq_true_eq]at h1;exact h1.2
theorem sel_all{n:Int}(h:inR n 1 3=true){r:List Int}(hr:(r.length:Int)=n):selC r (allC n)=r:=by
 have h':=Zw.1 h
 match r with
 |[a]=>obtain rfl:n=1:=(by simpa using hr.symm);rfl
 |[a,b]=>obtain rfl:n=2:=(by simpa using hr.symm);rfl
 |[a,b,c]=>obtain rfl:n=3:=(by simpa using hr.symm);rfl
 |[]=>simp at hr;omega
 |_::_::_::_::_=>simp at hr;omega
theorem Zbvg{t:Zc}(h:Zy t=true):grpV t.Rows (allC t.Arity)=t.Rows:=by
 unfold grpV
 have:selT t.Rows (allC t.Arity)=t.Rows:=by
  unfold selT;refine(Ybr λr hr=>sel_all (Zb6 h) (Zbvf h hr)).trans (List.map_id _)
 rw[this,Zbve h]
theorem Zbvh{t:Zc}(h:Zy t=true):(Zp t).Groups[((((Zp t).Groups.length:Int)-1)).toNat]?=some (grp t.Rows (allC t.Arity)):=by
 have h':=Zw.1 (Zb6 h)
 have:t.Arity=1\/t.Arity=2\/t.Arity=3:=by omega
 unfold Zp subs allC;rcases this with e|e|e<;>simp[e]
theorem Zbvi{t:Zc}(h:Zy t=true):0<(Zp t).Groups.length/\(Zp t).Groups.length<=7:=by
 have:=Zjw (Zb6 h);simpa[Zp]using this
theorem Zvb{t:Zc}(hT:Zy t=true):LeS (Zp t):=by
 have h7:=Zjw (Zb6 hT);have h8:=Zds hT;refine⟨by simp[Zp];omega,λg hg=>?_⟩;obtain⟨c,hc,rfl⟩:=Yo.1 hg;have hc3:=(Zbbo (Zb6 hT) c hc).1;have hg:=Z0w t.Rows c;refine⟨by simp only[grp];omega,⟨by simp only[grp];omega,λr hr=>?_⟩,by simp only[grp,grpN,Yp];omega⟩;have:=Zbbp hr;omega
theorem row4{t:Zc}(h:Zy t=true):∀r∈t.Rows,r.length<=4:=λr hr=>by
 have:=Zbvf h hr;have:=Zw.1 (Zb6 h);omega
theorem Zbvj{t:Zc}(h:LeT t)(hv:Zy t=true):Ziw (Zp t)=some (.tup [.agg [.t (.str t.Name),I t.Arity,L 1 (t.Rows.map isc)],Bo true],[]):=by
 have h7:=Zbvi hv;have h8:=Zds hv;refine Zb9j ?_;rw[if_pos (by omega),w_in (x:=((Zp t).Groups.length:Int)-1) ⟨by omega,by omega⟩];refine⟨by omega,_,Zbvh hv,t.Rows,?_,true,?_,?_⟩
 .rw[show(grp t.Rows (allC t.Arity)).Values=t.Rows from Zbvg hv];exact Zbba _ (row4 hv) (by omega)
 .have:=Z0f t h;rw[hv]at this;exact this
 .rw[if_pos rfl];refine .inr ⟨_,_,_,_,_,Zbbv h hv,true,?_,rfl⟩;have:=Zbuy (Zp t) (Zp t) (Zvb hv);rw[decide_eq_true rfl]at this;exact this
theorem Zbvk{t:Zc}(h:LeT t)(hv:Zy t=true):Zm6 (Zp t)=some (Bo true,[]):=Zb9k (.inl ⟨t,true,Zbvj h hv,rfl⟩)
theorem l_nt{t:Zc}(h:LeT t)(hv:Zy t=true)(a:ByteArray)(b:Int):∀i,i<=t.Rows.length->∀acc:List (List Int),acc.length<=i->(∀x∈acc,x.length<=4)->Zju acc (t.Rows.drop i)=t.Rows->Ztb a b t.Name t.Arity acc t.Rows i=some (.tup [.agg [.t (.str t.Name),I t.Arity,.own 0],Bo true],[.arr 56 1 true (t.Rows.map isc)]):=by
 have h8:=Zds hv;refine down _ ?_ ?_
 .intro acc ha h4 he;refine Zbq3 ?_;rw[Yg]at he;have he:acc=t.Rows:=he;subst he;rw[if_neg (by omega)];have:=Z0g t h;rw[hv]at this;exact⟨true,this,by rw[if_pos rfl]⟩
 .intro i hi ih acc ha h4 he;refine Zbq3 ?_;rw[Yc hi]at he;have hr4:=row4 hv _ (Yb hi);have hp:=Z0v acc t.Rows[i] false;rw[if_pos (by omega),if_pos (by omega),wS hi (by omega)];refine⟨by omega,_,gE hi,_,x_put1 (by omega) h4 hr4,ih _ (by omega) (λx hx=>?_) he⟩;rcases(Zpk _ _ _).1 hx with hx|rfl
  .exact h4 x hx
  .exact hr4
theorem x_put0(row:List Int)(hr:row.length<=4):Zyo row=some (.own 0,[.arr 56 1 true ((putR [] row false).map isc)]):=by
 refine Zcch ?_;refine Zccg ?_;simp[putR];omega
theorem Zchr{t:Zc}(hv:Zy t=true):Zk0 t.Name t.Arity=some (Bo true,[]):=by
 unfold Zy at hv;simp only[Yd]at hv;refine Zbqh ⟨_,Zbaz _,?_⟩;rw[hv.1.1.1,if_pos rfl];refine⟨_,Z6 _ _ _,?_⟩;rw[hv.1.1.2,if_pos rfl];refine Zbqg ?_;rw[if_neg (by omega)]
theorem x_NewT{t:Zc}(h:LeT t)(hv:Zy t=true):Zyr t.Name t.Arity t.Rows=some (.tup [.agg [.t (.str t.Name),I t.Arity,.own 0],Bo true],[.arr 56 1 true (t.Rows.map isc)]):=by
 have h8:=Zds hv;refine Zccj ?_;refine Zcci ?_;have hp:=Zbuq t.Rows;rw[Zbve hv]at hp;by_cases h0:t.Rows=[]
 .rw[if_neg (by rw[h0];simp)];refine⟨true,?_,by rw[if_pos rfl,h0]⟩;exact Zchr hv
 .have hl:0<t.Rows.length:=Y7.2 h0;rw[if_pos (by omega),show w (0+1)=((0+1:Nat):Int) by decide];have hr4:=row4 hv _ (Yb hl);refine⟨by omega,_,gE (i:=0) hl,_,x_put0 _ hr4,l_nt h hv _ _ (0+1) (by omega) _ ?_ ?_ ?_⟩
  .exact Z0v [] _ _
  .intro x hx;rcases(Zpk _ _ _).1 hx with hx|rfl
   .cases hx
   .exact hr4
  .have e:t.Rows=t.Rows[0]::t.Rows.drop (0+1):=by
    have:=Yc hl
    rwa [Yv]at this
   rw[e]at hp;exact hp.trans e.symm
theorem x_13T{t:Zc}(h:LeT t)(hv:Zy t=true):Zys (Zp t)=some (.tup [.agg [.t (.str t.Name),I t.Arity,.own 0],Bo true],[.arr 56 1 true (t.Rows.map isc)]):=by
 have h7:=Zbvi hv;refine Zcck ?_;rw[if_neg (by omega),w_in (x:=((Zp t).Groups.length:Int)-1) ⟨by omega,by omega⟩];refine⟨by omega,_,Zbvh hv,_,_,_,_,?_,rfl⟩;rw[show(grp t.Rows (allC t.Arity)).Values=t.Rows from Zbvg hv];exact x_NewT h hv
theorem Zbbx{t:Zc}(h:LeT t)(hv:Zy t=true):Zhn (Zp t)=some (Bo true,[]):=by
 refine Zccl ⟨_,_,_,_,x_13T h hv,?_⟩;rw[if_pos rfl];refine .inr ⟨_,_,_,_,_,Zbbw h hv,true,?_,rfl⟩;have:=Zbuz (Zp t) (Zp t) (Zvb hv) (Zvb hv);rw[decide_eq_true rfl]at this;exact this
def degS(t:Zc)(cols:List Int):List Int:=(srtI (grpN t.Rows cols)).reverse
def revO(l:List Int)(i k:Nat):Int:=if k<i\/l.length-1-k<i then l.getD (l.length-1-k) 0 else l.getD k 0
theorem l_rev(l:List Int)(hl:l.length<=1000):∀(m i:Nat) (s:List Int),m+2*i=l.length->s.length=l.length->(∀k,k<l.length->s.getD k 0=revO l i k)->Zrc s i ((l.length:Int)-1-i)=some (.tup [],[.arr 3 1 true (l.reverse.map ic)]):=by
 intro m
 induction m using Nat.strongRecOn with
 |_ m ih =>
  intro i s hm hs hk;refine Zb9s ?_;by_cases c:(i:Int)<(l.length:Int)-1-i
  .have hj:((l.length:Int)-1-i).toNat=l.length-1-i:=by omega
   rw[if_pos c,hj,Yi,w_in (x:=(i:Int)+1) ⟨by omega,by omega⟩,w_in (x:=(l.length:Int)-1-i-1) ⟨by omega,by omega⟩];refine⟨by omega,_,gD (show l.length-1-i<s.length by omega),by omega,_,gD (show i<s.length by omega),_,gD (by rw[Y5];omega),?_⟩
   have:=ih (m-2) (by omega) (i+1) ((s.set i (s.getD (l.length-1-i) 0)).set (l.length-1-i) (s.getD i 0)) (by omega) (by simp[hs]) (λk hk'=>by
    have h1:=hk k hk';have h2:=hk i (by omega);have h3:=hk (l.length-1-i) (by omega);unfold revO at h1 h2 h3|-;rw[if_neg (by omega)]at h2;rw[if_neg (by omega)]at h3;rw[Yw,List.getElem?_set];by_cases e1:l.length-1-i=k
    .rw[if_pos e1,if_pos (by rw[Y5];omega),if_pos (by omega),show l.length-1-k=i by omega,<-h2];rfl
    .rw[if_neg e1,List.getElem?_set];by_cases e2:i=k
     .rw[if_pos e2,if_pos (by omega),if_pos (by omega),<-e2,<-h3];rfl
     .rw[if_neg e2,<-Yw,h1];by_cases e3:k<i\/l.length-1-k<i
      .rw[if_pos e3,if_pos (by omega)]
      .rw[if_neg e3,if_neg (by omega)])
   have e:((i+1:Nat):Int)=(i:Int)+1:=by omega
   rw[e,show(l.length:Int)-1-((i:Int)+1)=(l.length:Int)-1-i-1 by omega]at this;exact this
  .rw[if_neg c]
   have:s=l.reverse:=by
    refine Yck (by simp[hs]) λk h1 h2=>?_
    have h3:=hk k (by omega);have e1:s[k]=s.getD k 0:=by rw[Yw,Yl h1];rfl
    rw[e1,h3,List.getElem_reverse];unfold revO;have e2:∀q,(hq:q<l.length)->l.getD q 0=l[q]:=λq hq=>by rw[Yw,Yl hq];rfl
    by_cases e3:k<i\/l.length-1-k<i
    .rw[if_pos e3,e2 _ (by omega)]
    .rw[if_neg e3,e2 _ (by omega)];congr 1;omega
   rw[this]
theorem x_rev{l:List Int}(hl:l.length<=1000):Zrb l=some (.tup [],[.arr 3 1 true (l.reverse.map ic)]):=by
 refine Zb9t ?_;rw[w_in (x:=(l.length:Int)-1) ⟨by omega,by omega⟩];have:=l_rev l hl l.length 0 l (by omega) rfl (λk hk=>by unfold revO;rw[if_neg (by omega)]);simpa using this
theorem Zbby(rows:List (List Int))(cols:List Int):(grpN rows cols).length<=rows.length:=by
 unfold grpN;rw[Yp];exact Z0w rows cols
theorem Zbvl(l:List Int):(srtI l).length=l.length:=(Ycn _ _).length_eq
theorem x_DegS{t:Zc}(h:LeT t)(hv:Zy t=true){cols:List Int}(hc:Zbq t.Arity cols=true):Zxb t cols=some (.own 0,[.arr 3 1 true ((degS t cols).map ic)]):=by
 have h8:=Zds hv;have hl:=Zbby t.Rows cols;have hs:=Zbvl (grpN t.Rows cols);refine Zb9u (.inr ⟨_,_,Zbbu h hv hc,_,Zbbi (by omega),_,(x_fin (by omega)).1,_,x_rev (by omega),rfl⟩)
theorem Zbbz{t:Zc}(h:LeT t)(hv:Zy t=true){cols:List Int}(hc:Zbq t.Arity cols=true):Zki (Zp t) cols=some (.own 0,[.arr 3 1 true ((degS t cols).map ic)]):=by
 refine Zb9v (.inl ⟨t,true,Zbvj h hv,?_⟩);rw[if_pos rfl];exact⟨_,x_DegS h hv hc,rfl⟩
theorem Zbb0(x:Int):∀(out:List Int) (k:Nat),k<=out.length->(∀z∈out.drop k,z<x)->(k=0\/¬out.getD (k-1) 0<x)->out.take k++[x]++out.drop k=putD x out
 |[],k,hk,_,_=>by
  have:k=0:=by simpa using hk
  subst this;rfl
 |y::ys,k,hk,h1,h2=>by
  unfold putD
  cases k with
  |zero =>
   rw[Yv]at h1;rw[if_pos ⟨h1 y (by simp),λz hz=>h1 z (by simp[hz])⟩]
   rfl
  |succ k =>
   have hn:¬(y<x/\∀z∈ys,z<x):=by
    rintro⟨c1,c2⟩;rcases h2 with h2|h2
    .omega
    .apply h2;rw[Ycr]
     cases k with
     |zero=>exact c1
     |succ k =>
      have hk':k<ys.length:=by simp at hk;omega
      have:(y::ys).getD (k+1) 0=ys[k]:=by rw[List.getD_cons_succ,Yw,Yl hk'];rfl
      rw[this];exact c2 _ (Yb hk')
   rw[if_neg hn]
   have:=Zbb0 x ys k (by simpa using hk) (by simpa using h1) (by
    cases k with
    |zero=>exact .inl rfl
    |succ k =>
     right;rcases h2 with h2|h2
     .omega
     .simpa using h2)
   rw[<-this];rfl
theorem putD_len(x:Int)(l:List Int):(putD x l).length=l.length+1:=by simpa using(Zz4 x l).length_eq
theorem l_down0{l out:List Int}{i:Nat}(hi:i<l.length)(ho:out.length<=1000)(res:AV×List Blk)(cc:Zho (putD l[i] out) l (w ((i:Int)+1))=some res):∀k,k<=out.length->(∀z∈out.drop k,z<l[i])->Zla out l i k=some res:=by
 intro k
 induction k with
 |zero =>
  intro hk hz;refine Zbrj ?_;rw[if_neg (by omega)];have e:=Zbb0 l[i] out 0 hk hz (.inl rfl);rw[<-e]at cc
  exact⟨by omega,by simp,by simp,by omega,_,gE hi,by simp,by simp;omega,by simpa using cc⟩
 |succ k ih =>
  intro hk hz;have hk':k<out.length:=by omega
  refine Zbrj ?_;have hw:w (((k+1:Nat):Int)-1)=(k:Int):=by rw[w_in ⟨by omega,by omega⟩];omega
  rw[if_pos (by omega),hw];refine⟨by omega,_,gDn hk',by omega,_,gE hi,?_⟩;by_cases c:out.getD k 0<l[i]
  .rw[if_pos c];refine ih (by omega) λz hz'=>?_
   rw[Yc hk']at hz';rcases Yu.1 hz' with rfl|hz'
   .rw[getI hk'];exact c
   .exact hz z hz'
  .rw[if_neg c];have e:=Zbb0 l[i] out (k+1) hk hz (.inr (by rw[Ycr];exact c));rw[<-e]at cc;rw[Yi];exact⟨by omega,hk,by rw[Ym];omega,by rw[Ym];omega,by rw[Ym,Ycc];omega,cc⟩
theorem l_down1(l:List Int)(hl:l.length<=500):∀i,i<=l.length->∀out:List Int,out.length<=i->Zho out l i=some (.own 0,[.arr 3 1 true (((l.drop i).foldl (λo x=>putD x o) out).map ic)]):=by
 refine down _ ?_ ?_
 .intro out ho;refine Zbrc ?_;rw[if_neg (by omega),Yg];rfl
 .intro i hi ih out ho;refine Zbrc ?_;rw[if_pos (by omega),Yc hi];exact l_down0 hi (by omega) _ (by rw[wS hi (by omega)];exact ih _ (by rw[putD_len];omega)) out.length (Yj _) (by simp)
theorem x_down{l:List Int}(hl:l.length<=500):Zy2 l=some (.own 0,[.arr 3 1 true ((srtI l).reverse.map ic)]):=by
 have:=l_down1 l hl 0 (Ya _) [] (by simp);refine Zccw ?_;rw[<-dwn_eq];exact this
def popc(x:Int):Nat:=(if andI (shrI x 0) 1=1 then 1 else 0)+(if andI (shrI x 1) 1=1 then 1 else 0)+(if andI (shrI x 2) 1=1 then 1 else 0)+(if andI (shrI x 3) 1=1 then 1 else 0)
abbrev M16(x:Int):Prop:=0<=x/\x<16
theorem m16{x:Int}(h:M16 x):∃a:Fin 16,x=(a.1:Int):=⟨⟨x.toNat,by omega⟩,by simp;omega⟩
set_option maxRecDepth 100000 in
theorem f_bit:∀(a:Fin 16) (i:Fin 4),(andI (shrI a.1 i.1) 1=0↔¬andI (shrI a.1 i.1) 1=1):=by decide
set_option maxRecDepth 100000 in
theorem f_pop:∀(a:Fin 16),(a.1<2->popc a.1<=1)/\(a.1<4->popc a.1<=2)/\(a.1<8->popc a.1<=3)/\popc a.1<=4:=by decide
def nearP(qa:List Atom)(m:Int):Nat->Bool:=λi=>decide (i<qa.length) && (!Z0 m i && shr qa (shlI 1 i) m)
def nearM(qa:List Atom)(m:Int):Int:=Zca (nearP qa m)
theorem Zbb1{m:Int}(hm:M16 m){i:Nat}(hi:i<4):andI (shrI m i) 1=0↔Z0 m i=false:=by
 obtain⟨a,rfl⟩:=m16 hm;have:=f_bit a ⟨i,hi⟩;simp only at this;rw[this,Z0,decide_eq_false_iff_not]
def stepM(qa:List Atom)(c x:Int):Int:=orI x (andI (nearM qa x) c)
def iterM(qa:List Atom)(c:Int):Nat->Int->Int
 |0,x=>x
 |n+1,x=>iterM qa c n (stepM qa c x)
def conn(qa:List Atom)(c:Int):Bool:=decide (iterM qa c qa.length (andI c (w (0-c)))=c)
abbrev MQ(qa:List Atom)(m:Int):Prop:=0<=m/\m<2 ^ qa.length
theorem MQ.m16{n:Int}{qa:List Atom}{m:Int}(hv:Zbi n qa=true)(h:MQ qa m):M16 m/\popc m<=qa.length:=by
 have hl:=Zbfv hv;obtain⟨h1,h2⟩:=h;have e:qa.length=1\/qa.length=2\/qa.length=3\/qa.length=4:=by omega
 have k16:M16 m:=by rcases e with e|e|e|e<;>rw[e]at h2<;>exact⟨h1,by omega⟩
 refine⟨k16,?_⟩;obtain⟨a,rfl⟩:=Go.Proofs.YtnnjbejcffjgfaaGreat.m16 k16;obtain⟨p1,p2,p3,p4⟩:=f_pop a;rcases e with e|e|e|e<;>rw[e]at h2|-
 .exact p1 (by omega)
 .exact p2 (by omega)
 .exact p3 (by omega)
 .exact p4
theorem Zbvm{n:Int}{qa:List Atom}(hv:Zbi n qa=true):Zcu n qa=2 ^ qa.length-1:=by
 unfold Zcu;rw[if_pos hv,(Zka hv).2.1]
theorem x_maskOk(q:Zg)(hq:LeQ q)(m:Int):Zxf q m=some (Bo (Zbi q.Zt q.Atoms && inR m 0 (Zcu q.Zt q.Atoms)),[]):=by
 refine Zb9z ⟨_,Zba0 q hq,?_⟩;rcases tf (Zbi q.Zt q.Atoms)with e|e
 .rw[e];simp
 .rw[e,if_pos rfl];refine⟨by omega,_,Zbs _ _ _,?_⟩;rw[show w (shlI 1 (q.Atoms.length:Int)-1)=shlI 1 (q.Atoms.length:Int)-1 from(Zka e).2.2.1];unfold Zcu;rw[if_pos e];simp
theorem x_l7Mask(q:Zg)(hq:LeQ q)(m:Int):Zy3 q m=some (Bo (Zbi q.Zt q.Atoms && inR m 0 (Zcu q.Zt q.Atoms)),[]):=by
 refine Zcc1 ⟨_,Zba9 q hq,?_⟩;rcases tf (Zbi q.Zt q.Atoms)with e|e
 .rw[e];simp
 .rw[e,if_pos rfl];refine⟨by omega,_,Z6 _ _ _,?_⟩;rw[show w (shlI 1 (q.Atoms.length:Int)-1)=shlI 1 (q.Atoms.length:Int)-1 from(Zka e).2.2.1];unfold Zcu;rw[if_pos e];simp
def isSplit(qa:List Atom)(c x:Int):Bool:=decide (andI x c=x) && (conn qa x && conn qa (c-x))
def splitsF(qa:List Atom)(c:Int)(k n:Nat):List Int:=((List.range' k n).filter (λm:Nat=>isSplit qa c (m:Int))).map (λm:Nat=>(m:Int))
def splits(qa:List Atom)(c:Int):List Int:=splitsF qa c 1 (c.toNat-1)
def Zh7(m:Int)(k n:Nat):List Int:=((List.range' k n).filter (λi:Nat=>Z0 m i)).map (λi:Nat=>(i:Int))
theorem Zbb2{m:Int}{k n:Nat}:Zh7 m k (n+1)=(if Z0 m k=true then[(k:Int)]else[])++Zh7 m (k+1) n:=by
 unfold Zh7;rw[List.range'_succ,Ycw];split<;>simp
def Zlw(m:Int):List Int:=Zh7 m 0 4
theorem Zchs(m:Int):∀k:Nat,k<=4->∀out:List Int,out.length<=k->Zm5 out m k=some (.own 0,[.arr Zbv 1 true ((out++Zh7 m k (4-k)).map ic)]):=by
 refine down _ ?_ ?_
 .intro out _;refine Zbor ?_;rw[if_neg (by omega)];simp[Zh7]
 .intro k hk ih out ho;have wk':w ((k:Int)+1)=(k:Int)+1:=Z8 (by omega) (by omega);refine Zbor ?_;rw[if_pos (by omega),show 4-k=(4-(k+1))+1 by omega,Zbb2,wk'];refine⟨by omega,?_⟩;by_cases e:andI (shrI m k) 1=1
  .have ih:=ih (out++[(k:Int)]) (by simp;omega);rw[if_pos e,if_pos (by simp[Z0,e])];exact⟨by omega,by simpa using ih⟩
  .have ih:=ih out (by omega);rw[if_neg e,if_neg (by simp[Z0,e])];simpa using ih
theorem Zvc{m:Int}(hm:M16 m):Zdd m=some (.own 0,[.arr Zbv 1 true ((Zlw m).map ic)]):=by
 have b:=Zchs m 0 (by omega) [] (by simp);refine Zb9h ⟨_,Zbs _ _ _,?_⟩;rw[if_pos (by simp[inR];omega)];simpa[Zlw]using b
theorem Zcht(m:Int)(hm:M16 m):∀k:Nat,k<=4->∀out:List Int,out.length<=k->Zor out m k=some (.own 0,[.arr Zbv 1 true ((out++Zh7 m k (4-k)).map ic)]):=by
 refine down _ ?_ ?_
 .intro out _;refine Zbrg ?_;rw[if_neg (by omega)];simp[Zh7]
 .intro k hk ih out ho;have wk':w ((k:Int)+1)=(k:Int)+1:=Z8 (by omega) (by omega);refine Zbrg ?_;rw[if_pos (by omega),show 4-k=(4-(k+1))+1 by omega,Zbb2,wk'];refine⟨_,Z6 _ _ _,?_⟩;rw[if_pos (by simp[inR];omega)];refine⟨by omega,?_⟩;by_cases e:andI (shrI m k) 1=1
  .have ih:=ih (out++[(k:Int)]) (by simp;omega);rw[if_pos e,if_pos (by simp[Z0,e])];exact⟨by omega,by simpa using ih⟩
  .have ih:=ih out (by omega);rw[if_neg e,if_neg (by simp[Z0,e])];simpa using ih
theorem Zchu{m:Int}(hm:M16 m):Zoq m=some (.own 0,[.arr Zbv 1 true ((Zlw m).map ic)]):=by
 have b:=Zcht m hm 0 (by omega) [] (by simp);exact Zcc0 (by simpa[Zlw]using b)
abbrev Zbd(q:Zg)(m:Int):List Int:=varL m q.Atoms q.Zt.toNat
theorem Z01(q:Zg)(hq:LeQ q)(hv:Zbi q.Zt q.Atoms=true)(m:Int)(hm:MQ q.Atoms m):Zfk q m=some (.own 0,[.arr Zbv 1 true ((Zbd q m).map ic)]):=by
 refine Zb90 ⟨_,x_maskOk q hq m,?_⟩
 have:inR m 0 (Zcu q.Zt q.Atoms)=true:=by rw[Zbvm hv];simp[inR];have:=hm.1;have:=hm.2;omega
 rw[hv,this,if_pos (by rfl)];exact⟨_,Zbti q m hq hv,rfl⟩
def Zga(q:Zg)(a b:Int):List Int:=(Zbd q a).filter (has (Zbd q b))
theorem Zh8(q:Zg)(hv:Zbi q.Zt q.Atoms=true)(m:Int):(Zbd q m).length<=4:=by
 have:=Zbfw m q.Atoms q.Zt.toNat;have:=Zwh hv;unfold Zbd;omega
theorem Zchv(q:Zg)(hq:LeQ q)(hv:Zbi q.Zt q.Atoms=true)(a b:Int)(ha:MQ q.Atoms a)(hb:MQ q.Atoms b):Zre q a b=some (.own 0,[.arr Zbv 1 true ((Zga q a b).map ic)]):=by
 have l1:=Zh8 q hv a;have l2:=Zh8 q hv b;exact Zb92 (.inl ⟨_,Z01 q hq hv a ha,.inl ⟨_,Z01 q hq hv b hb,_,x_both _ _ (by omega) (by omega),rfl⟩⟩)
theorem Zbvn(p:Nat->Bool):∀k:Nat,k<=4->∀out:List Int,out.length<=k->Zom out (Zca p) k=some (.own 0,[.arr Zbv 1 true ((out++((List.range' k (4-k)).filter p).map (λu:Nat=>(u:Int))).map ic)]):=by
 refine down _ ?_ ?_
 .intro out _;refine Zbq9 ?_;rw[if_neg (by omega)];simp
 .intro k hk ih out ho;have wk':w ((k:Int)+1)=(k:Int)+1:=Z8 (by omega) (by omega);have hb:=at_bit p (v:=(k:Int)) (by simp[inR];omega);rw[Yi]at hb;refine Zbq9 ?_;rw[if_pos (by omega),show 4-k=(4-(k+1))+1 by omega,List.range'_succ,Ycw,wk'];refine⟨by omega,?_⟩;rcases tf (p k)with e|e
  .have ih:=ih out (by omega);rw[if_neg (λhc=>by rw[hb.1 hc]at e;cases e),e,if_neg (by simp)];simpa using ih
  .have ih:=ih (out++[(k:Int)]) (by simp;omega);rw[if_pos (hb.2 e),e,if_pos rfl];exact⟨by omega,by simpa using ih⟩
theorem vars4(q:Zg)(hv:Zbi q.Zt q.Atoms=true)(m:Int):((List.range' 0 4).filter (pV m q.Atoms)).map (λu:Nat=>(u:Int))=Zbd q m:=by
 have hn:=Zwh hv;have e:List.range' 0 4=List.range q.Zt.toNat++List.range' q.Zt.toNat (4-q.Zt.toNat):=by
  have h:=List.range'_append_1 (s:=0) (m:=q.Zt.toNat) (n:=4-q.Zt.toNat);rw[Ys]at h;rw[List.range_eq_range',h];congr 1;omega
 unfold Zbd varL;rw[e,Ycu];have e2:(List.range' q.Zt.toNat (4-q.Zt.toNat)).filter (pV m q.Atoms)=[]:=by
  rw[Yct];intro u hu hp;have:=pV_lt hv hp;rw[List.mem_range'_1]at hu;omega
 rw[e2];simp
theorem Z02(q:Zg)(hq:LeQ q)(hv:Zbi q.Zt q.Atoms=true)(m:Int)(hm:MQ q.Atoms m):Zlb q m=some (.own 0,[.arr Zbv 1 true ((Zbd q m).map ic)]):=by
 have b:=Zbvn (pV m q.Atoms) 0 (by omega) [] (by simp);rw[show 4-0=4 from rfl,vars4 q hv m]at b;refine Zcc2 ⟨_,x_l7Mask q hq m,?_⟩
 have:inR m 0 (Zcu q.Zt q.Atoms)=true:=by rw[Zbvm hv];simp[inR];have:=hm.1;have:=hm.2;omega
 rw[hv,this,if_pos (by rfl)];exact⟨_,Zbtj q m hq (valid4 hv),_,Zbra (by simpa using b),rfl⟩
theorem Zchw(x y:List Int)(hy:Le y)(hx:x.length<=1000):∀i,i<=x.length->Zos ((x.take i).filter (has y)) x y i=some (.own 0,[.arr Zbv 1 true ((x.filter (has y)).map ic)]):=by
 refine down _ ?_ ?_
 .refine Zbrh ?_;rw[if_neg (by omega)];simp
 .intro i hi ih;have h4:=Zer (i:=i) (by omega);have e4:((x.take i).filter (has y)).length+1<=68719476736:=by
   have:=Ycv (has y) (x.take i);simp at this;omega
  rw[Zbfx _ hi]at ih;refine Zbrh ?_;rw[if_pos (by omega)];refine⟨by omega,x[i],by rw[Yi];exact Yl hi,_,Zpd y x[i] hy,?_⟩;rw[show w ((i:Int)+1)=(i:Int)+1 from h4];rcases tf (has y x[i])with e|e
  .rw[e,if_neg (by simp)];rw[e]at ih;simpa using ih
  .rw[e,if_pos rfl];rw[e]at ih;exact⟨e4,by simpa using ih⟩
theorem Zchx(q:Zg)(hq:LeQ q)(hv:Zbi q.Zt q.Atoms=true)(a b:Int)(ha:MQ q.Atoms a)(hb:MQ q.Atoms b):Ztj q a b=some (.own 0,[.arr Zbv 1 true ((Zga q a b).map ic)]):=by
 have l1:=Zh8 q hv a;have l2:=Zh8 q hv b;have c:=Zchw (Zbd q a) (Zbd q b) (by omega) (by omega) 0 (Ya _);exact Zcc3 ⟨_,Z02 q hq hv a ha,_,Z02 q hq hv b hb,by simpa[Zga]using c⟩
theorem grpV_nil(rows:List (List Int)):grpV rows []=if rows=[]then[]else[[]]:=by
 unfold grpV;refine Z0s (Zbbn _) ?_ λx=>?_
 .split
  .exact List.Pairwise.nil
  .exact List.pairwise_singleton _ _
 .rw[Z0t];unfold selT
  cases rows with
  |nil=>simp
  |cons r rows=>simp[selC]
theorem cnt_nil(rows:List (List Int)):cnt (selT rows []) []=rows.length:=by
 unfold cnt selT;rw[List.filter_eq_self.2 (by intro x hx;obtain⟨r,_,rfl⟩:=Yo.1 hx;simp[selC])];simp
theorem degS_nil(t:Zc):degS t []=if t.Rows=[]then[]else[(t.Rows.length:Int)]:=by
 unfold degS grpN;rw[grpV_nil];split
 .simp[srtI]
 .rw[Yt,Ycs,cnt_nil];simp[srtI]
theorem in_subs{n:Int}(h:inR n 1 3=true){cols:List Int}(hc:Zbq n cols=true)(h0:cols≠[]):cols∈subs n:=by
 have h':=Zw.1 h;have hl:=Zbbr hc (by omega);have hn:n=1\/n=2\/n=3:=by omega
 match cols,h0 with
 |[a],_ =>
  simp only[Zbq,ascN,nxt,ltI,Bool.and_true,Zw]at hc
  have:a=0\/a=1\/a=2:=by omega
  rcases hn with rfl|rfl|rfl<;>rcases this with rfl|rfl|rfl<;>first|decide|omega
 |[a,b],_ =>
  simp only[Zbq,ascN,nxt,ltI,Bool.and_true,Yd,Zw,decide_eq_true_eq]at hc
  have:a=0\/a=1\/a=2:=by omega
  have:b=0\/b=1\/b=2:=by omega
  rcases hn with rfl|rfl|rfl<;>rcases ‹a=0\/a=1\/a=2› with rfl|rfl|rfl<;>rcases ‹b=0\/b=1\/b=2› with rfl|rfl|rfl<;>first|decide|omega
 |[a,b,c],_ =>
  simp only[Zbq,ascN,nxt,ltI,Bool.and_true,Yd,Zw,decide_eq_true_eq]at hc;have e:a=0/\b=1/\c=2/\n=3:=by omega
  obtain⟨rfl,rfl,rfl,rfl⟩:=e
  decide
 |_::_::_::_::_,_=>simp at hl;omega
theorem l_13{t:Zc}(hv:Zy t=true){cols:List Int}(c:cols.length<=3):∀i,i<=(subs t.Arity).length->cols∈(subs t.Arity).drop i->Ztg (Zp t) cols i=some (.own 0,[.arr 3 1 true ((degS t cols).map ic)]):=by
 have h7:=Zjw (Zb6 hv);have h8:=Zds hv;have hgl:(Zp t).Groups.length=(subs t.Arity).length:=by simp[Zp]
 refine down _ ?_ ?_
 .intro hm;rw[Yg]at hm;cases hm
 .intro i hi ih hm;have hg:(Zp t).Groups[((i:Nat):Int).toNat]?=some (grp t.Rows (subs t.Arity)[i]):=by
   rw[Yi];unfold Zp;rw[Ybd,Yl hi];rfl
  have hc3:=(Zbbo (Zb6 hv) _ (Yb hi)).1;refine Zccx ?_;rw[if_pos (by omega),wS hi (by omega)];refine⟨by omega,_,hg,_,Zjo _ _ (by simp only[grp];omega) (by omega),?_⟩;rw[show(grp t.Rows (subs t.Arity)[i]).Columns=(subs t.Arity)[i]from rfl];by_cases e:(subs t.Arity)[i]=cols
  .rw[if_pos (by rw[<-e];exact Zh0 _)];have hl:=Zbby t.Rows (subs t.Arity)[i];refine⟨_,x_down (by simp only[grp];omega),?_⟩;rw[<-e];rfl
  .rw[if_neg (λhc=>e (Zej _ _ hc))];rw[Yc hi]at hm;rcases Yu.1 hm with hm|hm
   .exact absurd hm.symm e
   .exact ih hm
theorem x_13{t:Zc}(hv:Zy t=true){cols:List Int}(hc:Zbq t.Arity cols=true):Zoo (Zp t) cols=some (.own 0,[.arr 3 1 true ((degS t cols).map ic)]):=by
 have hA:=Zw.1 (Zb6 hv);have hl:=Zbbr hc (by omega);refine Zccy ?_;by_cases h0:cols=[]
 .subst h0;rw[if_pos (by simp),degS_nil];have e:(Zp t).RowCount=(t.Rows.length:Int):=rfl;by_cases h1:t.Rows=[]
  .rw[if_pos (by rw[e,h1];rfl),if_pos h1]
  .have:=Y7.2 h1;rw[if_neg (by rw[e];omega),if_neg h1,e]
 .have:=Y7.2 h0;rw[if_neg (by omega)];have:=l_13 hv (cols:=cols) (by omega) 0 (Ya _) (by rw[Yv];exact in_subs (Zb6 hv) hc h0);simpa using this
theorem Zbb3{t:Zc}(h:LeT t)(hv:Zy t=true){cols:List Int}(hc:Zbq t.Arity cols=true):Zlc (Zp t) cols=some (.own 0,[.arr 3 1 true ((degS t cols).map ic)]):=by
 refine Zcc4 ⟨_,Zbbx h hv,?_⟩;rw[if_pos rfl];exact⟨_,x_13 hv hc,rfl⟩
def degV(t:Zc)(cols:List Int):Int:=(degS t cols).getD 0 0
theorem Zbvo{t:Zc}(h:LeT t)(hv:Zy t=true){cols:List Int}(hc:Zbq t.Arity cols=true):Zkj (Zp t) cols=some (I (degV t cols),[]):=by
 refine Zb9w ⟨_,Zbbz h hv hc,?_⟩;unfold degV
 cases e:degS t cols with
 |nil=>rw[if_pos (by simp)];rfl
 |cons a l=>rw[if_neg (by simp;omega)];exact⟨a,rfl,rfl⟩
theorem Zchy{t:Zc}(h:LeT t)(hv:Zy t=true){cols:List Int}(hc:Zbq t.Arity cols=true):Zy7 (Zp t) cols=some (I (degV t cols),[]):=by
 refine Zcda ⟨_,Zbb3 h hv hc,?_⟩;unfold degV
 cases e:degS t cols with
 |nil=>rw[if_pos (by simp)];rfl
 |cons a l=>rw[if_neg (by simp;omega)];exact⟨a,rfl,rfl⟩
theorem degS_mem{t:Zc}(hv:Zy t=true){cols:List Int}{x:Int}(hx:x∈degS t cols):0<=x/\x<=8:=by
 have h8:=Zds hv;unfold degS at hx;rw[List.mem_reverse]at hx;obtain⟨g,_,rfl⟩:=Yo.1 ((Ycn _ _).mem_iff.1 hx);have h1:=Zbbq (selT t.Rows cols) g;have h2:=cnt_le (selT t.Rows cols) g;rw[Zu7]at h2;omega
theorem Zvd{t:Zc}(hv:Zy t=true)(cols:List Int):(degS t cols).length<=8:=by
 have h8:=Zds hv;unfold degS;rw[List.length_reverse,Zbvl];have:=Zbby t.Rows cols;omega
theorem degV_in{t:Zc}(hv:Zy t=true)(cols:List Int):0<=degV t cols/\degV t cols<=8:=by
 unfold degV
 cases e:degS t cols with
 |nil=>exact⟨by simp,by simp⟩
 |cons a l=>exact degS_mem hv (cols:=cols) (by rw[e];simp)
structure Ctx (s:Zj) (q:Zg):Prop where
 le:Zg6 s
 lq:LeQ q
 st:Zg7 s=true
 qf:qFor s.Zh q=true
def atA(q:Zg)(i:Nat):Atom:=q.Atoms.getD i ⟨⟨#[]⟩,[]⟩
def tab(s:Zj)(q:Zg)(i:Nat):Zc:=(Zbg s.Zh (atA q i).Name).getD ⟨⟨#[]⟩,0,[]⟩
theorem Zgb{q:Zg}{i:Nat}(h:i<q.Atoms.length):q.Atoms[((i:Nat):Int).toNat]?=some (atA q i):=by
 unfold atA;rw[Yi,Yw,Yl h];rfl
theorem atA_mem{q:Zg}{i:Nat}(h:i<q.Atoms.length):atA q i∈q.Atoms:=by
 unfold atA;rw[Yw,Yl h];exact Yb h
section
variable{s:Zj}{q:Zg}(c:Ctx s q)
include c
theorem Ctx.vd:Zbz s.Zh=true:=by
 have:=c.st;unfold Zg7 at this;simp only[Yd]at this;exact this.1.1.1
theorem Ctx.tabs:s.Zn.Tables=s.Zh.Tables.map Zp:=by
 have:=c.st;unfold Zg7 at this;simp only[Yd,decide_eq_true_eq]at this;exact this.1.2.symm
theorem Ctx.vq:Zbi q.Zt q.Atoms=true:=by
 have:=c.qf;unfold qFor at this;simp only[Yd]at this;exact this.1
theorem Ctx.n4:1<=q.Atoms.length/\q.Atoms.length<=4:=by
 have:=Zbfv c.vq;omega
theorem Ctx.look{i:Nat}(h:i<q.Atoms.length):Zbg s.Zh (atA q i).Name=some (tab s q i)/\(tab s q i).Arity=((atA q i).Vars.length:Int):=by
 have hq:=c.qf;unfold qFor at hq;simp only[Yd]at hq;have:=Yn.1 hq.2 _ (atA_mem h);unfold forOk at this;unfold tab
 cases e:Zbg s.Zh (atA q i).Name with
 |none=>rw[e]at this;cases this
 |some t=>rw[e]at this;exact⟨rfl,by simpa using this⟩
theorem Ctx.vt{i:Nat}(h:i<q.Atoms.length):Zy (tab s q i)=true:=Zg5 (c.look h).1
theorem Ctx.lt{i:Nat}(h:i<q.Atoms.length):LeT (tab s q i):=Zbu0 c.le.d (c.look h).1
theorem l_iLS(n:ByteArray):∀i,i<=s.Zh.Tables.length->∀t,(s.Zh.Tables.drop i).find? (λt=>decide (t.Name=n))=some t->Zm8 ⟨#[]⟩ 0 0 n s.Zn.Tables s.Zn.Tables.length i=some (.tup [.agg [.t (.str t.Name),I t.Arity,I (t.Rows.length:Int),.own 0],Bo true],[.arr 200 3 true ((Zp t).Groups.map Zf.c)]):=by
 have hl:s.Zn.Tables.length=s.Zh.Tables.length:=by rw[c.tabs,Yp]
 have h6:=Zu9 c.vd;refine down _ ?_ ?_
 .intro t ht;rw[Yg]at ht;cases ht
 .intro i hi ih t ht;have hg:s.Zn.Tables[((i:Nat):Int).toNat]?=some (Zp s.Zh.Tables[i]):=by
   rw[Yi,c.tabs,Ybd,Yl hi];rfl
  rw[Yc hi,List.find?_cons]at ht;have hT:=Yb hi;refine Zb9m ?_;rw[if_pos (by omega),wS hi (by omega)];refine⟨by omega,_,hg,?_⟩;have en:(Zp s.Zh.Tables[i]).Name=s.Zh.Tables[i].Name:=rfl;by_cases e:s.Zh.Tables[i].Name=n
  .rw[decide_eq_true e]at ht;cases ht;rw[if_pos (by rw[en];exact e)];refine⟨_,Zbvk (c.le.d.2 _ hT) (Zei c.vd hT),?_⟩;rw[if_pos rfl];exact⟨_,_,_,_,x_cStats _ (Zvb (Zei c.vd hT)),rfl⟩
  .rw[decide_eq_false e]at ht;rw[if_neg (by rw[en];exact e)];exact ih t ht
theorem l_sLS(n:ByteArray):∀i,i<=s.Zh.Tables.length->∀t,(s.Zh.Tables.drop i).find? (λt=>decide (t.Name=n))=some t->Zoh s.Zn ⟨#[]⟩ 0 0 n i=some (.tup [.agg [.t (.str t.Name),I t.Arity,I (t.Rows.length:Int),.own 0],Bo true],[.arr 200 3 true ((Zp t).Groups.map Zf.c)]):=by
 have hl:s.Zn.Tables.length=s.Zh.Tables.length:=by rw[c.tabs,Yp]
 have h6:=Zu9 c.vd;refine down _ ?_ ?_
 .intro t ht;rw[Yg]at ht;cases ht
 .intro i hi ih t ht;have hg:s.Zn.Tables[((i:Nat):Int).toNat]?=some (Zp s.Zh.Tables[i]):=by
   rw[Yi,c.tabs,Ybd,Yl hi];rfl
  rw[Yc hi,List.find?_cons]at ht;have hT:=Yb hi;refine Zccq ?_;rw[if_pos (by omega),wS hi (by omega)];refine⟨by omega,_,hg,?_⟩;have en:(Zp s.Zh.Tables[i]).Name=s.Zh.Tables[i].Name:=rfl;by_cases e:s.Zh.Tables[i].Name=n
  .rw[decide_eq_true e]at ht;cases ht;rw[if_pos (by rw[en];exact e)];refine⟨_,Zbbx (c.le.d.2 _ hT) (Zei c.vd hT),?_⟩;rw[if_pos rfl];exact⟨_,_,_,_,x_s13 _ (Zvb (Zei c.vd hT)),rfl⟩
  .rw[decide_eq_false e]at ht;rw[if_neg (by rw[en];exact e)];exact ih t ht
theorem Ctx.find{i:Nat}(h:i<q.Atoms.length):s.Zh.Tables.find? (λt=>decide (t.Name=(atA q i).Name))=some (tab s q i):=by
 have:=(c.look h).1;unfold Zbg at this
 rwa [if_pos c.vd]at this
theorem Zbvp{i:Nat}(h:i<q.Atoms.length):Zm7 s.Zn (atA q i).Name=some (.tup [.agg [.t (.str (tab s q i).Name),I (tab s q i).Arity,I ((tab s q i).Rows.length:Int),.own 0],Bo true],[.arr 200 3 true ((Zp (tab s q i)).Groups.map Zf.c)]) :=
 Zb9n (l_iLS c _ 0 (Ya _) _ (by rw[Yv];exact c.find h))
theorem Zchz{i:Nat}(h:i<q.Atoms.length):Zte s.Zn (atA q i).Name=some (.tup [.agg [.t (.str (tab s q i).Name),I (tab s q i).Arity,I ((tab s q i).Rows.length:Int),.own 0],Bo true],[.arr 200 3 true ((Zp (tab s q i)).Groups.map Zf.c)]) :=
 Zccr (l_sLS c _ 0 (Ya _) _ (by rw[Yv];exact c.find h))
theorem Z03{i:Nat}(h:i<q.Atoms.length):Zhh s q i=some (.agg [.t (.str (tab s q i).Name),I (tab s q i).Arity,I ((tab s q i).Rows.length:Int),.own 0],[.arr 200 3 true ((Zp (tab s q i)).Groups.map Zf.c)]) :=
 Zb9o ⟨by omega,_,Zgb h,_,_,_,_,_,Zbvp c h,rfl⟩
theorem x_16S{i:Nat}(h:i<q.Atoms.length):Zf3 s q i=some (.agg [.t (.str (tab s q i).Name),I (tab s q i).Arity,I ((tab s q i).Rows.length:Int),.own 0],[.arr 200 3 true ((Zp (tab s q i)).Groups.map Zf.c)]) :=
 Zccs ⟨by omega,_,Zgb h,_,_,_,_,_,Zchz c h,rfl⟩
end
noncomputable def okQ(s:Zj)(q:Zg)(m:Int):Bool:=Zg7 s && (qFor s.Zh q && inR m 1 (Zcu q.Zt q.Atoms))
theorem Zve{s:Zj}{q:Zg}(h:Zg6 s)(hq:LeQ q)(m:Int):Zfj s q m=some (Bo (okQ s q m),[]):=by
 refine Zb9g ⟨_,Zbvc h,?_⟩;unfold okQ;rcases ft (Zg7 s)with e|e
 .rw[e,if_pos rfl,Ye];refine⟨_,Zbtq _ h.d _ hq,?_⟩;rcases ft (qFor s.Zh q)with e2|e2
  .rw[e2,if_pos rfl,Ye];exact⟨_,Zbtg _ hq,_,Zbs _ _ _,rfl⟩
  .rw[e2,if_neg (by decide)];rfl
 .rw[e,if_neg (by decide)];rfl
theorem x_16Q{s:Zj}{q:Zg}(h:Zg6 s)(hq:LeQ q)(m:Int):Zfr s q m=some (Bo (okQ s q m),[]):=by
 refine Zccf ⟨_,Zchq h,?_⟩;unfold okQ;rcases ft (Zg7 s)with e|e
 .rw[e,if_pos rfl,Ye];refine⟨_,Zcfw _ h.d _ hq,?_⟩;rcases ft (qFor s.Zh q)with e2|e2
  .rw[e2,if_pos rfl,Ye];exact⟨_,Zbth _ hq,_,Z6 _ _ _,rfl⟩
  .rw[e2,if_neg (by decide)];rfl
 .rw[e,if_neg (by decide)];rfl
theorem ctx_of{s:Zj}{q:Zg}(h:Zg6 s)(hq:LeQ q){m:Int}(e:okQ s q m=true):Ctx s q/\1<=m/\m<2 ^ q.Atoms.length:=by
 unfold okQ at e;simp only[Yd]at e;have c:Ctx s q:=⟨h,hq,e.1,e.2.1⟩;have h1:=Zw.1 e.2.2;have h2:=(Zka c.vq).2.1;unfold Zcu at h1;rw[if_pos c.vq,h2]at h1;exact⟨c,by omega,by omega⟩
def Zb0(vars:List Int):Nat->List Int->List Int
 |_,[]=>[]
 |k,v::vs=>if has vars v=true then(k:Int)::Zb0 vars (k+1) vs else Zb0 vars (k+1) vs
theorem Zbb4(c:List Int)(n:Int):∀(vs:List Int) (k:Nat) (p:Option Int),(∀q,p=some q->q<k)->(k:Int)+vs.length<=n->ascN n p (Zb0 c k vs)=true
 |[],_,_,_,_=>rfl
 |v::vs,k,p,hp,hn=>by
  simp only[Y3]at hn;unfold Zb0;split
  .simp only[ascN,Yd];refine⟨⟨Zw.2 ⟨by omega,by omega⟩,?_⟩,Zbb4 c n vs (k+1) (some k) (λq hq=>by cases hq;omega) (by omega)⟩
   cases p with
   |none=>rfl
   |some q=>simpa[nxt,ltI]using hp q rfl
  .exact Zbb4 c n vs (k+1) p (λq hq=>by have:=hp q hq;omega) (by omega)
theorem colsF_ok(vars:List Int){n:Int}{vs:List Int}(h:n=vs.length):Zbq n (Zb0 vars 0 vs)=true:=Zbb4 vars n vs 0 none (λq hq=>by cases hq) (by omega)
theorem l_iac(a:Atom)(vars:List Int)(ha:a.Vars.length<=1000)(hv:Le vars):∀i,i<=a.Vars.length->∀out:List Int,out.length<=i->Znb out vars a.Vars a.Vars.length i=some (.own 0,[.arr 3 1 true ((out++Zb0 vars i (a.Vars.drop i)).map ic)]):=by
 refine down _ ?_ ?_
 .intro out ho;refine Zbow ?_;rw[if_neg (by omega),Yg];simp[Zb0]
 .intro i hi ih out ho;refine Zbow ?_;rw[if_pos (by omega),wS hi (by omega),Yc hi,Zb0];refine⟨by omega,_,gE hi,_,Zpc _ _ hv,?_⟩;rcases ft (has vars a.Vars[i])with e|e
  .rw[e,if_pos rfl,if_pos rfl];exact⟨by omega,by have:=ih (out++[(i:Int)]) (by simp;omega);simpa using this⟩
  .rw[e,if_neg (by decide),if_neg (by decide)];exact ih out (by omega)
theorem Zbb5{a:Atom}{vars:List Int}(ha:a.Vars.length<=1000)(hv:Le vars):Zix a vars=some (.own 0,[.arr 3 1 true ((Zb0 vars 0 a.Vars).map ic)]):=Zb9r (by simpa using l_iac a vars ha hv 0 (Ya _) [] (by simp))
theorem l_sac(a:Atom)(vars:List Int)(ha:a.Vars.length<=1000)(hv:Le vars):∀i,i<=a.Vars.length->∀out:List Int,out.length<=i->Zon a out vars i=some (.own 0,[.arr 3 1 true ((out++Zb0 vars i (a.Vars.drop i)).map ic)]):=by
 refine down _ ?_ ?_
 .intro out ho;refine Zbrb ?_;rw[if_neg (by omega),Yg];simp[Zb0]
 .intro i hi ih out ho;refine Zbrb ?_;rw[if_pos (by omega),wS hi (by omega),Yc hi,Zb0];refine⟨by omega,_,gE hi,_,Zpd _ _ hv,?_⟩;rcases ft (has vars a.Vars[i])with e|e
  .rw[e,if_pos rfl,if_pos rfl];exact⟨by omega,by have:=ih (out++[(i:Int)]) (by simp;omega);simpa using this⟩
  .rw[e,if_neg (by decide),if_neg (by decide)];exact ih out (by omega)
theorem Zbb6{a:Atom}{vars:List Int}(ha:a.Vars.length<=1000)(hv:Le vars):Zk9 a vars=some (.own 0,[.arr 3 1 true ((Zb0 vars 0 a.Vars).map ic)]):=Zccv (by simpa using l_sac a vars ha hv 0 (Ya _) [] (by simp))
theorem Ctx.vars3{s:Zj}{q:Zg}(c:Ctx s q){i:Nat}(h:i<q.Atoms.length):(atA q i).Vars.length<=3:=by
 have h1:=(c.look h).2;have h2:=Zw.1 (Zb6 (c.vt h));omega
theorem Ctx.cols{s:Zj}{q:Zg}(c:Ctx s q){i:Nat}(h:i<q.Atoms.length)(cc:List Int):Zbq (tab s q i).Arity (Zb0 cc 0 (atA q i).Vars)=true:=colsF_ok cc (c.look h).2
def mskL(m:Int):Nat->Nat->List Nat
 |_,0=>[]
 |i,k+1=>if Z0 m i=true then i::mskL m (i+1) k else mskL m (i+1) k
theorem Zbb7(m:Int):∀(k i:Nat),Zh7 m i k=(mskL m i k).map λn:Nat=>(n:Int)
 |0,i=>rfl
 |k+1,i=>by
  rw[Zbb2,Zbb7 m k (i+1),mskL];split<;>simp
theorem Zbb8(m:Int):∀(a i b:Nat),mskL m i (a+b)=mskL m i a++mskL m (i+a) b
 |0,i,b=>by simp[mskL]
 |a+1,i,b=>by
  rw[show a+1+b=(a+b)+1 by omega,mskL,mskL,Zbb8 m a (i+1) b,show i+1+a=i+(a+1) by omega];split<;>rfl
theorem Zbb9(m:Int):∀(k i:Nat),(∀j,i<=j->j<i+k->Z0 m j=false)->mskL m i k=[]
 |0,_,_=>rfl
 |k+1,i,h=>by
  rw[mskL,h i (by omega) (by omega),if_neg (by decide)];exact Zbb9 m k (i+1) λj h1 h2=>h j (by omega) (by omega)
set_option maxRecDepth 100000 in
theorem f_hi:∀(a:Fin 16) (n i:Fin 5),a.1<2 ^ n.1->n.1<=i.1->Z0 (a.1:Int) i.1=false:=by decide
theorem msk_n{m:Int}{n:Nat}(h0:0<=m)(hm:m<2 ^ n)(hn:n<=4):mskL m 0 4=mskL m 0 n:=by
 have h16:m<16:=by
  have:(2:Nat) ^ n<=2 ^ 4:=Nat.pow_le_pow_right (by decide) hn
  have e:((2:Int) ^ n)=(((2:Nat) ^ n:Nat):Int):=by push_cast;rfl
  omega
 obtain⟨a,rfl⟩:=m16 ⟨h0,h16⟩;have ha:a.1<2 ^ n:=by
  have e:((2:Int) ^ n)=(((2:Nat) ^ n:Nat):Int):=by push_cast;rfl
  omega
 have h4:mskL (a.1:Int) 0 4=mskL (a.1:Int) 0 n++mskL (a.1:Int) (0+n) (4-n):=by
  have:=Zbb8 (a.1:Int) n 0 (4-n)
  rwa [show n+(4-n)=4 by omega]at this
 rw[h4,Zbb9 (a.1:Int) (4-n) (0+n) λj h1 h2=>f_hi a ⟨n,by omega⟩ ⟨j,by omega⟩ ha (by simpa using h1),Ybm]
theorem Ze6{m:Int}:∀{k i j:Nat},j∈mskL m i k->i<=j/\j<i+k/\Z0 m j=true
 |0,i,j,h=>by cases h
 |k+1,i,j,h=>by
  rw[mskL]at h;split at h
  .rcases Yu.1 h with rfl|h
   .exact⟨Yj _,by omega,by assumption⟩
   .obtain⟨a,b,c⟩:=Ze6 h;exact⟨by omega,by omega,c⟩
  .obtain⟨a,b,c⟩:=Ze6 h;exact⟨by omega,by omega,c⟩
theorem Zh9{m:Int}{n:Nat}(h0:0<=m)(hm:m<2 ^ n)(hn:n<=4):M16 m:=by
 have:(2:Nat) ^ n<=2 ^ 4:=Nat.pow_le_pow_right (by decide) hn
 have e:((2:Int) ^ n)=(((2:Nat) ^ n:Nat):Int):=by push_cast;rfl
 exact⟨h0,by omega⟩
theorem gM{m:Int}{l:List Nat}{i:Nat}(h:i<l.length):(l.map λn:Nat=>(n:Int))[((i:Nat):Int).toNat]?=some ((l[i]:Nat):Int):=by
 rw[Yi,Ybd,Yl h];rfl
def Zbn(s:Zj)(q:Zg)(i:Nat):Int:=((tab s q i).Rows.length:Int)
def Zfy(s:Zj)(q:Zg)(l:List Nat)(n:Int):Int:=l.foldl (λa i=>a*Zbn s q i) n
theorem Zbvq{s:Zj}{q:Zg}(c:Ctx s q):∀(l:List Nat) (n:Int) (k:Nat),(∀i∈l,i<q.Atoms.length)->0<=n->n<=8 ^ k->k+l.length<=4->0<=Zfy s q l n/\Zfy s q l n<=4096
 |[],n,k,_,h0,h1,hk=>by
  refine⟨h0,Int.le_trans h1 ?_⟩
  have:(8:Nat) ^ k<=8 ^ 4:=Nat.pow_le_pow_right (by decide) (by simpa using hk)
  have e:((8:Int) ^ k)=(((8:Nat) ^ k:Nat):Int):=by push_cast;rfl
  omega
 |i::l,n,k,hm,h0,h1,hk=>by
  have h8:=Zds (c.vt (hm i (by simp)));have hr:0<=Zbn s q i/\Zbn s q i<=8:=⟨by unfold Zbn;omega,by unfold Zbn;omega⟩;refine Zbvq c l (n*Zbn s q i) (k+1) (λj hj=>hm j (by simp[hj])) (Int.mul_nonneg h0 hr.1) ?_ (by simp only[Y3]at hk;omega);rw[Int.pow_succ];exact Int.mul_le_mul h1 hr.2 hr.1 (Int.le_trans h0 h1)
theorem Zjx(m:Int):∀(k i:Nat),(mskL m i k).length<=k
 |0,_=>Yj _
 |k+1,i=>by
  rw[mskL];have:=Zjx m k (i+1);split
  .simp only[Y3];omega
  .omega
theorem Zbvr{s:Zj}{q:Zg}(c:Ctx s q){n:Int}{i:Nat}(hi:i<q.Atoms.length)(h0:0<=n)(h1:n<=4096):w (n*Zbn s q i)=n*Zbn s q i:=by
 have h8:=Zds (c.vt hi);have hr:0<=Zbn s q i/\Zbn s q i<=8:=⟨by unfold Zbn;omega,by unfold Zbn;omega⟩;have h2:=Int.mul_nonneg h0 hr.1;have h3:=Int.mul_le_mul h1 hr.2 hr.1 (by omega);exact w_in ⟨by omega,by omega⟩
section
variable{s:Zj}{q:Zg}(c:Ctx s q){m:Int}(h1:1<=m)(h2:m<2 ^ q.Atoms.length)
include c h1 h2
theorem Ctx.msk:Zlw m=(mskL m 0 q.Atoms.length).map λn:Nat=>(n:Int):=by
 unfold Zlw;rw[Zbb7,msk_n (by omega) h2 c.n4.2]
omit h1 h2 in
theorem l_iPB(l:List Nat)(hl:∀i∈l,i<q.Atoms.length)(h4:l.length<=4):∀i,i<=l.length->∀n,0<=n->n<=8 ^ i->Zra s q (l.map λn:Nat=>(n:Int)) n l.length i=some (I (Zfy s q (l.drop i) n),[]):=by
 have p8:∀i,i<=4->(8:Int) ^ i<=4096:=by
  intro i hi
  have:(8:Nat) ^ i<=8 ^ 4:=Nat.pow_le_pow_right (by decide) hi
  have e:((8:Int) ^ i)=(((8:Nat) ^ i:Nat):Int):=by push_cast;rfl
  omega
 refine down _ ?_ ?_
 .intro n _ _;refine Zbot ?_;rw[if_neg (by omega),Yg];rfl
 .intro i hi ih n h0 hn;have hm:=hl _ (Yb hi);have h8:=Zds (c.vt hm);have hr:0<=Zbn s q l[i]/\Zbn s q l[i]<=8:=⟨by unfold Zbn;omega,by unfold Zbn;omega⟩;have hp:=p8 i (by omega);refine Zbot ?_;rw[if_pos (by omega),wS hi (by omega),Yc hi];refine⟨by omega,_,gM (m:=0) hi,_,_,_,_,Z03 c hm,?_⟩;rw[show((tab s q l[i]).Rows.length:Int)=Zbn s q l[i]from rfl,Zbvr c hm h0 (by omega)];refine ih _ (Int.mul_nonneg h0 hr.1) ?_;rw[Int.pow_succ];exact Int.mul_le_mul hn hr.2 hr.1 (by omega)
theorem Zch0(le:okQ s q m=true):Zq9 s q m=some (I (Zfy s q (mskL m 0 q.Atoms.length) 1),[]):=by
 have h16:=Zh9 (by omega) h2 c.n4.2;refine Zb9p ⟨_,Zve c.le c.lq m,?_⟩;rw[le,if_pos rfl];refine .inr ⟨_,Zvc h16,?_⟩;rw[c.msk h1 h2,Yp];have hl:=Zjx m q.Atoms.length 0;have:=l_iPB c (mskL m 0 q.Atoms.length) (λi hi=>by have:=Ze6 hi;omega) (by have:=c.n4;omega) 0 (Ya _) 1 (by omega) (by simp);simpa using this
omit h1 h2 in
theorem l_sPB:∀i,i<=q.Atoms.length->∀n,0<=n->n<=8 ^ i->Zoi s q m n i=some (I (Zfy s q (mskL m i (q.Atoms.length-i)) n),[]):=by
 have hn4:=c.n4;have p8:∀i,i<=4->(8:Int) ^ i<=4096:=by
  intro i hi
  have:(8:Nat) ^ i<=8 ^ 4:=Nat.pow_le_pow_right (by decide) hi
  have e:((8:Int) ^ i)=(((8:Nat) ^ i:Nat):Int):=by push_cast;rfl
  omega
 refine down _ ?_ ?_
 .intro n _ _;refine Zbq7 ?_;rw[if_neg (by omega),Ybx];rfl
 .intro i hi ih n h0 hn;have h8:=Zds (c.vt hi);have hr:0<=Zbn s q i/\Zbn s q i<=8:=⟨by unfold Zbn;omega,by unfold Zbn;omega⟩;have hp:=p8 i (by omega);have hpp:(8:Int) ^ (i+1)=8 ^ i*8:=Int.pow_succ 8 i;refine Zbq7 ?_;rw[if_pos (by omega),wS hi (by omega),show q.Atoms.length-i=(q.Atoms.length-(i+1))+1 by omega,mskL];refine⟨by omega,?_⟩;by_cases e:andI (shrI m i) 1=1
  .rw[if_pos e,if_pos (by unfold Z0;exact decide_eq_true e)];refine⟨_,_,_,_,x_16S c hi,?_⟩;rw[show((tab s q i).Rows.length:Int)=Zbn s q i from rfl,Zbvr c hi h0 (by omega)];refine ih _ (Int.mul_nonneg h0 hr.1) ?_;rw[hpp];exact Int.mul_le_mul hn hr.2 hr.1 (by omega)
  .rw[if_neg e,if_neg (by unfold Z0;simpa using e)];exact ih n h0 (by omega)
theorem Zch1(le:okQ s q m=true):Ztf s q m=some (I (Zfy s q (mskL m 0 q.Atoms.length) 1),[]):=by
 refine Zcct ⟨_,x_16Q c.le c.lq m,?_⟩;rw[le,if_pos rfl];exact l_sPB c 0 (Ya _) 1 (by omega) (by simp)
omit h1 h2 in
theorem prod_in:0<=Zfy s q (mskL m 0 q.Atoms.length) 1/\Zfy s q (mskL m 0 q.Atoms.length) 1<=4096 :=
 Zbvq c _ 1 0 (λi hi=>by have:=Ze6 hi;omega) (by omega) (by simp) (by have:=Zjx m q.Atoms.length 0;have:=c.n4;omega)
end
def degC(s:Zj)(q:Zg)(i:Nat)(used:Int):Int:=if i<q.Atoms.length then degV (tab s q i) (Zb0 (Zbd q used) 0 (atA q i).Vars)else 0
def chG(s:Zj)(q:Zg):Nat->Int->Int->Int
 |0,_,_=>1
 |f+1,used,left=>if left=0 then 1 else(mskL left 0 4).foldl (λb i=>bst b (degC s q i used*chG s q f (orI used (shlI 1 i)) (Z3 left (shlI 1 i)))) (-1)
theorem Zbvs{s:Zj}{q:Zg}(c:Ctx s q)(i:Nat)(used:Int):0<=degC s q i used/\degC s q i used<=8:=by
 unfold degC;split
 .exact degV_in (c.vt ‹_›) _
 .omega
set_option maxRecDepth 100000 in
theorem Z04:∀(l:Fin 16) (i:Fin 4),Z0 (l.1:Int) i.1=true->M16 (Z3 l.1 (shlI 1 i.1))/\popc (Z3 l.1 (shlI 1 i.1))+1=popc l.1:=by decide
set_option maxRecDepth 100000 in
theorem f_zero:∀l:Fin 16,l.1≠0->1<=popc l.1/\mskL (l.1:Int) 0 4≠[]:=by decide
set_option maxRecDepth 100000 in
theorem f_le:∀(l:Fin 16) (i:Fin 4),Z3 (l.1:Int) (shlI 1 i.1)<=l.1:=by decide
theorem f_le2:∀(l u:Fin 16),Z3 (l.1:Int) u.1<=l.1:=by decide +kernel
theorem f_not0:∀l:Fin 16,Z3 (l.1:Int) 0=l.1:=by decide
theorem f_and0:∀l:Fin 16,andI 0 (l.1:Int)=0:=by decide
theorem chG_in{s:Zj}{q:Zg}(c:Ctx s q):∀(f:Nat) (used cc:Int),M16 cc->0<=chG s q f used cc/\chG s q f used cc<=8 ^ f
 |0,_,_,_=>⟨by simp[chG],by simp[chG]⟩
 |f+1,used,cc,hl=>by
  unfold chG;have hp:(1:Int)<=8 ^ f:=by exact_mod_cast Nat.pos_of_ne_zero (by simp)
  have e8:(8:Int) ^ (f+1)=8*8 ^ f:=by rw[Int.pow_succ,Int.mul_comm]
  split
  .omega
  .rename_i hne;obtain⟨a,rfl⟩:=m16 hl;refine Zbtb (by omega) _ (λi=>degC s q i used*chG s q f (orI used (shlI 1 i)) (Z3 (a.1:Int) (shlI 1 i))) _ (λi hi=>?_) (by omega) (.inl (f_zero a (by omega)).2);have hm:=Ze6 hi;have h1:=Zbvs c i used;have h2:=chG_in c f (orI used (shlI 1 i)) (Z3 (a.1:Int) (shlI 1 i)) (Z04 a ⟨i,by omega⟩ hm.2.2).1;refine⟨Int.mul_nonneg h1.1 h2.1,?_⟩;rw[e8];exact Int.mul_le_mul h1.2 h2.2 h2.1 (by omega)
theorem Zbvt{s:Zj}{q:Zg}(c:Ctx s q)(m:Int):Le (Zbd q m):=by
 have:=Zh8 q c.vq m;omega
theorem Zbvu{s:Zj}{q:Zg}{i:Nat}(h:i<q.Atoms.length)(used:Int):degC s q i used=degV (tab s q i) (Zb0 (Zbd q used) 0 (atA q i).Vars):=by
 unfold degC;rw[if_pos h]
theorem Zch2{s:Zj}{q:Zg}(c:Ctx s q){i:Nat}(h:i<q.Atoms.length)(used:Int):Zxc s q i (Zbd q used)=some (I (degC s q i used),[]):=by
 rw[Zbvu h];exact Zb9x ⟨_,_,_,_,Z03 c h,by omega,_,Zgb h,_,Zbb5 (by have:=c.vars3 h;omega) (Zbvt c used),_,Zbvo (c.lt h) (c.vt h) (c.cols h _),rfl⟩
theorem pw84{f:Nat}(h:f<=4):(1:Int)<=8 ^ f/\(8:Int) ^ f<=4096:=by
 have h1:(8:Nat) ^ f<=8 ^ 4:=Nat.pow_le_pow_right (by decide) h;have h2:1<=(8:Nat) ^ f:=Nat.pos_of_ne_zero (by simp);have e:((8:Int) ^ f)=(((8:Nat) ^ f:Nat):Int):=by push_cast;rfl
 omega
def trm(s:Zj)(q:Zg)(f:Nat)(used c:Int)(i:Nat):Int:=degC s q i used*chG s q f (orI used (shlI 1 i)) (Z3 c (shlI 1 i))
theorem trm_w{s:Zj}{q:Zg}(c:Ctx s q){f:Nat}(hf:f<=4){used left:Int}(hl:M16 left){i:Nat}(hi:i<4)(hm:Z0 left i=true):w (degC s q i used*chG s q f (orI used (shlI 1 i)) (Z3 left (shlI 1 i)))=trm s q f used left i:=by
 obtain⟨a,rfl⟩:=m16 hl;have h1:=Zbvs c i used;have h2:=chG_in c f (orI used (shlI 1 i)) (Z3 (a.1:Int) (shlI 1 i)) (Z04 a ⟨i,hi⟩ hm).1;have h3:=pw84 hf;have h4:=Int.mul_nonneg h1.1 h2.1;have h5:=Int.mul_le_mul h1.2 h2.2 h2.1 (by omega);exact w_in ⟨by omega,by omega⟩
theorem Zbvv{s:Zj}{q:Zg}{f:Nat}{used left:Int}(h:left≠0):chG s q (f+1) used left=(mskL left 0 4).foldl (λb i=>bst b (trm s q f used left i)) (-1):=by
 rw[chG,if_neg h];rfl
theorem l_ich{s:Zj}{q:Zg}(c:Ctx s q){f:Nat}(hf:f<=4){used left:Int}(hl:M16 left)(cc:left<2 ^ q.Atoms.length)(ih:∀(u l:Int),M16 l->l<2 ^ q.Atoms.length->popc l<=f->Znc s q u l=some (I (chG s q f u l),[]))(hp:popc left<=f+1):∀i,i<=(mskL left 0 4).length->∀b,Zkk s q ((mskL left 0 4).map λn:Nat=>(n:Int)) used left b (mskL left 0 4).length i=some (I (((mskL left 0 4).drop i).foldl (λb i=>bst b (trm s q f used left i)) b),[]):=by
 have hlen:=Zjx left 4 0;refine down _ ?_ ?_
 .intro b;refine Zbox ?_;rw[if_neg (by omega),Yg];rfl
 .intro i hi ihi b;obtain⟨_,hi4,hm⟩:=Ze6 (Yb hi);have hin:(mskL left 0 4)[i]<q.Atoms.length:=by
   rcases Ybf (mskL left 0 4)[i] q.Atoms.length with h|h
   .exact h
   .exfalso;obtain⟨a,rfl⟩:=m16 hl;have hn:=c.n4;have ha:a.1<2 ^ q.Atoms.length:=by
     have e:((2:Int) ^ q.Atoms.length)=(((2:Nat) ^ q.Atoms.length:Nat):Int):=by push_cast;rfl
     omega
    have:=f_hi a ⟨q.Atoms.length,by omega⟩ ⟨(mskL (a.1:Int) 0 4)[i],by omega⟩ ha h;simp only at this;rw[this]at hm;cases hm
  have hnext:M16 (Z3 left (shlI 1 ((mskL left 0 4)[i]:Nat)))/\popc (Z3 left (shlI 1 ((mskL left 0 4)[i]:Nat)))+1=popc left/\Z3 left (shlI 1 ((mskL left 0 4)[i]:Nat))<=left:=by
   obtain⟨a,rfl⟩:=m16 hl;have h1:=Z04 a ⟨(mskL (a.1:Int) 0 4)[i],by omega⟩ hm;exact⟨h1.1,h1.2,f_le a ⟨(mskL (a.1:Int) 0 4)[i],by omega⟩⟩
  refine Zbox ?_;rw[if_pos (by omega),wS hi (by omega),Yc hi,List.foldl_cons];refine⟨by omega,_,gM (m:=0) hi,_,Zbti q used c.lq c.vq,_,Zch2 c hin used,by omega,_,ih _ _ hnext.1 (by omega) (by omega),?_⟩;rw[trm_w c hf hl (by omega) hm];by_cases h1:b<0
  .rw[if_pos h1,show bst b (trm s q f used left (mskL left 0 4)[i])=trm s q f used left (mskL left 0 4)[i] by unfold bst;rw[if_pos (.inl h1)]];exact ihi _
  .rw[if_neg h1];by_cases h2:trm s q f used left (mskL left 0 4)[i]<b
   .rw[if_pos h2,show bst b (trm s q f used left (mskL left 0 4)[i])=trm s q f used left (mskL left 0 4)[i] by unfold bst;rw[if_pos (.inr h2)]];exact ihi _
   .rw[if_neg h2,show bst b (trm s q f used left (mskL left 0 4)[i])=b by unfold bst;rw[if_neg (by rintro(h|h);exact h1 h;exact h2 h)]];exact ihi _
theorem Zch3{s:Zj}{q:Zg}(c:Ctx s q):∀(f:Nat),f<=5->∀(used cc:Int),M16 cc->cc<2 ^ q.Atoms.length->popc cc<=f->Znc s q used cc=some (I (chG s q f used cc),[]):=by
 intro f
 induction f with
 |zero =>
  intro _ used cc hl _ hp;refine Zboy ?_;have h0:cc=0:=by
   obtain⟨a,rfl⟩:=m16 hl;by_cases h:a.1=0
   .omega
   .have:=(f_zero a h).1;omega
  rw[if_pos h0];rfl
 |succ f ih =>
  intro hf used cc hl hlt hp;refine Zboy ?_;by_cases h0:cc=0
  .rw[if_pos h0,chG,if_pos h0]
  rw[if_neg h0,Zbvv h0];refine .inr ⟨_,Zvc hl,?_⟩;have:=l_ich c (f:=f) (by omega) (used:=used) hl hlt (ih (by omega)) hp 0 (Ya _) (-1);unfold Zlw;rw[Zbb7,Yp];simpa using this
theorem popc4{m:Int}(h:M16 m):popc m<=4:=by
 obtain⟨a,rfl⟩:=m16 h;exact(f_pop a).2.2.2
theorem Zch4{s:Zj}{q:Zg}(c:Ctx s q){m:Int}(h1:1<=m)(h2:m<2 ^ q.Atoms.length)(le:okQ s q m=true):Zrd s q m=some (I (chG s q 4 0 m),[]):=by
 have h16:=Zh9 (by omega) h2 c.n4.2;refine Zb9y ⟨_,Zve c.le c.lq m,?_⟩;rw[le,if_pos rfl];exact⟨_,Zch3 c 4 (by omega) 0 m h16 h2 (popc4 h16),rfl⟩
theorem f_sub2:∀(m u:Fin 16),andI (u.1:Int) m.1=u.1->M16 (Z3 (m.1:Int) u.1)/\((u.1:Int)=m.1↔Z3 (m.1:Int) u.1=0):=by decide +kernel
theorem f_nxt:∀(m u:Fin 16) (i:Fin 4),andI (u.1:Int) m.1=u.1->(Z0 (Z3 (m.1:Int) u.1) i.1=(Z0 (m.1:Int) i.1 && !Z0 (u.1:Int) i.1))/\(Z0 (m.1:Int) i.1=true->andI (orI (u.1:Int) (shlI 1 i.1)) m.1=orI (u.1:Int) (shlI 1 i.1))/\M16 (orI (u.1:Int) (shlI 1 i.1))/\Z3 (m.1:Int) (orI (u.1:Int) (shlI 1 i.1))=Z3 (Z3 (m.1:Int) u.1) (shlI 1 i.1):=by decide +kernel
theorem l_sch{s:Zj}{q:Zg}(c:Ctx s q){f:Nat}(hf:f<=4){mask used:Int}(hm:M16 mask)(cc:mask<2 ^ q.Atoms.length)(hu:M16 used)(hs:andI used mask=used)(ih:∀(u:Int),M16 u->andI u mask=u->popc (Z3 mask u)<=f->Zop ((List.range q.Atoms.length).map λi=>Zp (tab s q i)) q mask u=some (I (chG s q f u (Z3 mask u)),[]))(hp:popc (Z3 mask used)<=f+1):∀i,i<=q.Atoms.length->∀b,Zhp q ((List.range q.Atoms.length).map λi=>Zp (tab s q i)) mask used b i=some (I ((mskL (Z3 mask used) i (q.Atoms.length-i)).foldl (λb i=>bst b (trm s q f used (Z3 mask used) i)) b),[]):=by
 have hn4:=c.n4;have hl16:M16 (Z3 mask used):=by
  obtain⟨a,rfl⟩:=m16 hm;obtain⟨u,rfl⟩:=m16 hu;exact(f_sub2 a u hs).1
 refine down _ ?_ ?_
 .intro b;refine Zbrd ?_;rw[if_neg (by omega),Ybx];rfl
 .intro i hi ihi b;have hb:Z0 (Z3 mask used) i=(Z0 mask i && !Z0 used i)/\(Z0 mask i=true->andI (orI used (shlI 1 i)) mask=orI used (shlI 1 i))/\M16 (orI used (shlI 1 i))/\Z3 mask (orI used (shlI 1 i))=Z3 (Z3 mask used) (shlI 1 i):=by
   obtain⟨a,rfl⟩:=m16 hm;obtain⟨u,rfl⟩:=m16 hu;exact f_nxt a u ⟨i,by omega⟩ hs
  refine Zbrd ?_;rw[if_pos (by omega),wS hi (by omega),show q.Atoms.length-i=(q.Atoms.length-(i+1))+1 by omega,mskL,hb.1];refine⟨by omega,?_⟩;by_cases e:andI (shrI mask i) 1=1
  .have e':Z0 mask i=true:=decide_eq_true e;rw[if_pos e,e',Ye];rcases ft (Z0 used i)with e2|e2
   .rw[if_neg (λhc=>by rw[(Zbb1 hu (by omega)).1 hc]at e2;cases e2),e2,if_neg (by decide)];exact ihi b
   .have hleft:Z0 (Z3 mask used) i=true:=by rw[hb.1,e',e2];rfl
    rw[if_pos ((Zbb1 hu (by omega)).2 e2),e2,if_pos (by rfl),List.foldl_cons];have hg:((List.range q.Atoms.length).map λi=>Zp (tab s q i))[((i:Nat):Int).toNat]?=some (Zp (tab s q i)):=by
     rw[Yi,Ybd,List.getElem?_range hi];rfl
    have hpn:popc (Z3 mask (orI used (shlI 1 i)))<=f:=by
     rw[hb.2.2.2];obtain⟨a,ha⟩:=m16 hl16;rw[ha]at hp hleft|-;have:=(Z04 a ⟨i,by omega⟩ hleft).2;simp only at this;omega
    have hd:((degS (tab s q i) (Zb0 (Zbd q used) 0 (atA q i).Vars))++[0])[0]?=some (degC s q i used):=by
     rw[Zbvu hi];unfold degV;cases degS (tab s q i) (Zb0 (Zbd q used) 0 (atA q i).Vars)<;>rfl
    have hlen:=Zvd (c.vt hi) (Zb0 (Zbd q used) 0 (atA q i).Vars);have hvl:Zol (Zca (pV used q.Atoms))=some (.own 0,[.arr 3 1 true ((Zbd q used).map ic)]):=by
     have:=Zbvn (pV used q.Atoms) 0 (by omega) [] (by simp);have e4:=vars4 q c.vq used;refine Zbra ?_;rw[Yce]at this;rw[show 4-0=4 from rfl,e4]at this;exact this
    refine⟨by omega,_,hg,_,Zgb hi,_,Zbtj q used c.lq (valid4 c.vq),_,hvl,_,Zbb6 (by have:=c.vars3 hi;omega) (Zbvt c used),_,x_13 (c.vt hi) (c.cols hi _),by omega,_,hd,_,ih _ hb.2.2.1 (hb.2.1 e') hpn,?_⟩;rw[hb.2.2.2,trm_w c hf hl16 (by omega) hleft];by_cases h1:b<0
    .rw[if_pos h1,show bst b (trm s q f used (Z3 mask used) i)=trm s q f used (Z3 mask used) i by unfold bst;rw[if_pos (.inl h1)]];exact ihi _
    .rw[if_neg h1];by_cases h2:trm s q f used (Z3 mask used) i<b
     .rw[if_pos h2,show bst b (trm s q f used (Z3 mask used) i)=trm s q f used (Z3 mask used) i by unfold bst;rw[if_pos (.inr h2)]];exact ihi _
     .rw[if_neg h2,show bst b (trm s q f used (Z3 mask used) i)=b by unfold bst;rw[if_neg (by rintro(h|h);exact h1 h;exact h2 h)]];exact ihi _
  .have e':Z0 mask i=false:=decide_eq_false e;rw[if_neg e,e',Ybk,if_neg (by decide)];exact ihi b
theorem Zch5{s:Zj}{q:Zg}(c:Ctx s q){mask:Int}(hm:M16 mask)(cc:mask<2 ^ q.Atoms.length):∀(f:Nat),f<=5->∀(used:Int),M16 used->andI used mask=used->popc (Z3 mask used)<=f->Zop ((List.range q.Atoms.length).map λi=>Zp (tab s q i)) q mask used=some (I (chG s q f used (Z3 mask used)),[]):=by
 intro f;have key:∀used,M16 used->andI used mask=used->M16 (Z3 mask used)/\(used=mask↔Z3 mask used=0):=by
  intro used hu hs;obtain⟨a,rfl⟩:=m16 hm;obtain⟨u,rfl⟩:=m16 hu;exact f_sub2 a u hs
 induction f with
 |zero =>
  intro _ used hu hs hp;obtain⟨k1,k2⟩:=key used hu hs;refine Zbre ?_;have h0:Z3 mask used=0:=by
   obtain⟨a,ha⟩:=m16 k1;rw[ha]at hp|-;by_cases h:a.1=0
   .omega
   .have:=(f_zero a h).1;omega
  rw[if_pos (k2.2 h0)];rfl
 |succ f ih =>
  intro hf used hu hs hp;obtain⟨k1,k2⟩:=key used hu hs;refine Zbre ?_;by_cases h0:used=mask
  .rw[if_pos h0,chG,if_pos (k2.1 h0)]
  have hne:Z3 mask used≠0:=λhc=>h0 (k2.2 hc)
  rw[if_neg h0,Zbvv hne];have hn4:=c.n4;have hlt:Z3 mask used<2 ^ q.Atoms.length:=by
   have:Z3 mask used<=mask:=by
    obtain⟨a,rfl⟩:=m16 hm;obtain⟨u,rfl⟩:=m16 hu;exact f_le2 a u
   omega
  have:=l_sch c (f:=f) (by omega) hm cc hu hs (ih (by omega)) hp 0 (Ya _) (-1);rw[Nat.sub_zero,<-msk_n k1.1 hlt hn4.2]at this;exact this
theorem Zch6{s:Zj}{q:Zg}(c:Ctx s q){m:Int}(h1:1<=m)(h2:m<2 ^ q.Atoms.length)(le:okQ s q m=true):Zth s q m=some (I (chG s q 4 0 m),[]):=by
 have hn4:=c.n4;have h16:=Zh9 (by omega) h2 c.n4.2;have e0:Z3 m 0=m:=by obtain⟨a,rfl⟩:=m16 h16;exact f_not0 a
 have main:∀i,i<=q.Atoms.length->Zti s q ((List.range i).map λi=>Zp (tab s q i)) m i=some (I (chG s q 4 0 m),[]):=by
  refine down _ ?_ ?_
  .refine Zbrf ?_;rw[if_neg (by omega)];refine⟨chG s q 4 0 m,?_,rfl⟩;have:=Zch5 c h16 h2 4 (by omega) 0 ⟨by omega,by omega⟩ (by obtain⟨a,rfl⟩:=m16 h16;exact f_and0 a) (by rw[e0];exact popc4 h16);rw[e0]at this;exact this
  .intro i hi ih;refine Zbrf ?_;rw[if_pos (by omega),wS hi (by omega)];rw[Yb0,Y1]at ih;exact⟨_,_,_,_,x_16S c hi,by simp;omega,ih⟩
 refine Zccz ⟨_,x_16Q c.le c.lq m,?_⟩;rw[le,if_pos rfl];exact main 0 (Ya _)
theorem ch_in{s:Zj}{q:Zg}(c:Ctx s q){m:Int}(h:M16 m):0<=chG s q 4 0 m:=(chG_in c 4 0 m h).1
def pairV(s:Zj)(q:Zg)(a b:Nat):Int:=pairS (degS (tab s q a) (Zb0 (Zga q (shlI 1 a) (shlI 1 b)) 0 (atA q a).Vars)) (degS (tab s q b) (Zb0 (Zga q (shlI 1 a) (shlI 1 b)) 0 (atA q b).Vars))
theorem Z05{s:Zj}{q:Zg}(c:Ctx s q){i:Nat}(h:i<q.Atoms.length):MQ q.Atoms (shlI 1 i):=by
 have hn4:=c.n4;have h1:(2:Nat) ^ i<2 ^ q.Atoms.length:=Nat.pow_lt_pow_right (by decide) h;rw[Zpj (n:=(i:Int)) (by omega) (by omega),Yi];have e:∀k:Nat,((2:Int) ^ k)=(((2:Nat) ^ k:Nat):Int):=λk=>by push_cast;rfl
 refine⟨?_,?_⟩
 .rw[e];exact Int.natCast_nonneg _
 .exact_mod_cast h1
theorem Zbvw{s:Zj}{q:Zg}(c:Ctx s q):okQ s q 1=true/\okQ s q (Zcu q.Zt q.Atoms)=true:=by
 have h1:=Zka c.vq;have hn:=c.n4;have h2:(2:Nat) ^ 1<=2 ^ q.Atoms.length:=Nat.pow_le_pow_right (by decide) hn.1;have e:((2:Int) ^ q.Atoms.length)=(((2:Nat) ^ q.Atoms.length:Nat):Int):=by push_cast;rfl
 have hf:Zcu q.Zt q.Atoms=2 ^ q.Atoms.length-1:=by unfold Zcu;rw[if_pos c.vq,h1.2.1]
 unfold okQ;rw[c.st,c.qf,hf,Ye,Ye,Ye,Ye];exact⟨Zw.2 ⟨by omega,by omega⟩,Zw.2 ⟨by omega,by omega⟩⟩
theorem Z06{s:Zj}{q:Zg}(c:Ctx s q)(a b:Int):Le (Zga q a b):=by
 have:=Zh8 q c.vq a;have h2:=Ycv (has (Zbd q b)) (Zbd q a);unfold Zga;omega
theorem Zch7{s:Zj}{q:Zg}(c:Ctx s q){a b:Nat}(ha:a<q.Atoms.length)(hb:b<q.Atoms.length)(cc:a≠b):Zri s q a b=some (I (pairV s q a b),[]):=by
 have hn4:=c.n4;have l1:=Zvd (c.vt ha) (Zb0 (Zga q (shlI 1 a) (shlI 1 b)) 0 (atA q a).Vars);have l2:=Zvd (c.vt hb) (Zb0 (Zga q (shlI 1 a) (shlI 1 b)) 0 (atA q b).Vars);refine Zb96 ⟨_,Zve c.le c.lq 1,?_⟩;rw[(Zbvw c).1,if_pos rfl,w_in (x:=(q.Atoms.length:Int)-1) ⟨by omega,by omega⟩];refine⟨_,Zbs _ _ _,?_⟩;rw[show inR (a:Int) 0 ((q.Atoms.length:Int)-1)=true from Zw.2 ⟨by omega,by omega⟩,if_pos rfl];refine⟨_,Zbs _ _ _,?_⟩;rw[show inR (b:Int) 0 ((q.Atoms.length:Int)-1)=true from Zw.2 ⟨by omega,by omega⟩,if_pos rfl,if_neg (by omega)];exact⟨by omega,by omega,_,Zchv q c.lq c.vq _ _ (Z05 c ha) (Z05 c hb),_,_,_,_,Z03 c ha,by omega,_,Zgb ha,_,Zbb5 (by have:=c.vars3 ha;omega) (Z06 c _ _),_,Zbbz (c.lt ha) (c.vt ha) (c.cols ha _),_,_,_,_,Z03 c hb,by omega,_,Zgb hb,_,Zbb5 (by have:=c.vars3 hb;omega) (Z06 c _ _),_,Zbbz (c.lt hb) (c.vt hb) (c.cols hb _),_,Zcgp (by omega) (by omega),rfl⟩
theorem Zch8{s:Zj}{q:Zg}(c:Ctx s q){a b:Nat}(ha:a<q.Atoms.length)(hb:b<q.Atoms.length)(cc:a≠b):Zov s q a b=some (I (pairV s q a b),[]):=by
 have hn4:=c.n4;have l1:=Zvd (c.vt ha) (Zb0 (Zga q (shlI 1 a) (shlI 1 b)) 0 (atA q a).Vars);have l2:=Zvd (c.vt hb) (Zb0 (Zga q (shlI 1 a) (shlI 1 b)) 0 (atA q b).Vars);refine Zcc7 ⟨_,Zbth _ c.lq,_,x_16Q c.le c.lq _,?_⟩;rw[(Zbvw c).2,if_pos rfl,w_in (x:=(q.Atoms.length:Int)-1) ⟨by omega,by omega⟩];refine⟨_,Z6 _ _ _,?_⟩;rw[show inR (a:Int) 0 ((q.Atoms.length:Int)-1)=true from Zw.2 ⟨by omega,by omega⟩,if_pos rfl];refine⟨_,Z6 _ _ _,?_⟩;rw[show inR (b:Int) 0 ((q.Atoms.length:Int)-1)=true from Zw.2 ⟨by omega,by omega⟩,if_pos rfl,if_neg (by omega)];exact⟨by omega,by omega,_,Zchx q c.lq c.vq _ _ (Z05 c ha) (Z05 c hb),_,_,_,_,x_16S c ha,by omega,_,Zgb ha,_,Zbb6 (by have:=c.vars3 ha;omega) (Z06 c _ _),_,Zbb3 (c.lt ha) (c.vt ha) (c.cols ha _),_,_,_,_,x_16S c hb,by omega,_,Zgb hb,_,Zbb6 (by have:=c.vars3 hb;omega) (Z06 c _ _),_,Zbb3 (c.lt hb) (c.vt hb) (c.cols hb _),_,Zcgq (by omega) (by omega),rfl⟩
end Go.Proofs.YtnnjbejcffjgfaaGreat
