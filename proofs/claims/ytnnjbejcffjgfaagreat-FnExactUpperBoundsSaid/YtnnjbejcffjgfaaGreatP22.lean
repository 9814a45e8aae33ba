/-
  Parts of the proofs for this seat: GD GE GF GH NAx LI MK SP LS LJ LK.
-/
import Derived.Test.YtnnjbejcffjgfaaGreatP13
import Derived.Test.YtnnjbejcffjgfaaGreatP14
import Derived.Test.YtnnjbejcffjgfaaGreatP15
import Derived.Test.YtnnjbejcffjgfaaGreatP16
import Derived.Test.YtnnjbejcffjgfaaGreatP17
import Derived.Test.YtnnjbejcffjgfaaGreatP18
import Derived.Test.YtnnjbejcffjgfaaGreatP19
import Derived.Test.YtnnjbejcffjgfaaGreatP20
import Derived.Test.YtnnjbejcffjgfaaGreatP21
set_option linter.unusedSectionVars false
set_option linter.unusedSimpArgs false
set_option linter.unusedVariables false
set_option maxRecDepth 100000
set_option maxHeartbeats 4000000
namespace Go.Proofs.YtnnjbejcffjgfaaGreat
open Go.AM
def stR(t:Ze):AV×List Blk:=(.agg [.t (.str t.Name),I t.Arity,I (t.Rows.length:Int),.own 0],[.arr 200 3 false ((Zt t).Groups.map Zh.c)])
theorem Zlr{n:Int}(h:inR n 1 3=true):0<(subs n).length/\(subs n).length<=7:=by
 have h':1<=n/\n<=3:=by simpa[inR]using h
 have:n=1\/n=2\/n=3:=by omega
 rcases this with rfl|rfl|rfl<;>decide
theorem Zce{t:Ze}(h:Z3 t=true):inR t.Arity 1 3=true:=by
 unfold Z3 at h;simp only[Yc]at h;exact h.1.1.2
theorem Zcvo{t:Ze}(h:LeT t)(hv:Z3 t=true)(a:ByteArray)(b c:Int)(a':ByteArray)(b' c':Int):∀i,i<=(subs t.Arity).length->Zmb t a b c a' b' c' false (((subs t.Arity).take i).map (grp t.Rows)) (subs t.Arity) (subs t.Arity).length i=some (.agg [.t (.str a'),I b',I c',.own 0],[.arr 200 3 false (((subs t.Arity).map (grp t.Rows)).map Zh.c)]):=by
 have h7:=Zlr (Zce hv);refine down _ ?_ ?_
 .refine Zbzc ?_;rw[if_neg (by omega),Yl]
 .intro i hi ih;refine Zbzc ?_;rw[if_pos (by omega),wS hi (by omega)];rw[Y1 hi,Y0]at ih;exact⟨by omega,_,gE hi,.inr ⟨_,_,Zbkt h hv (Z6n (Zce hv) _ (Yb hi)),by simp;omega,ih⟩⟩
theorem Zbku{t:Ze}(h:LeT t)(hv:Z3 t=true):Zho t=some (stR t):=by
 have h7:=Zlr (Zce hv);refine Zcmm ⟨_,Z55 t h,?_⟩;rw[hv,if_pos rfl];refine .inr ⟨_,Zcvl (Zce hv),Zcml ?_⟩;rw[if_pos (by omega)];refine⟨by omega,_,gE (i:=0) h7.1,.inr ⟨_,_,Zbkt h hv (Z6n (Zce hv) _ (Yb h7.1)),?_⟩⟩;have:=Zcvo h hv ⟨#[]⟩ 0 0 t.Name t.Arity (t.Rows.length:Int) 1 (by omega);rw[Y1 h7.1]at this;rw[show w (0+1)=1 from by decide];unfold stR Zt;simpa[grp]using this
theorem Zcvp{t:Ze}(h:LeT t)(hv:Z3 t=true)(a:ByteArray)(b c:Int)(a':ByteArray)(b' c':Int):∀i,i<=(subs t.Arity).length->Zv3 t a b c a' b' c' false (((subs t.Arity).take i).map (grp t.Rows)) (subs t.Arity) i=some (.agg [.t (.str a'),I b',I c',.own 0],[.arr 200 3 false (((subs t.Arity).map (grp t.Rows)).map Zh.c)]):=by
 have h7:=Zlr (Zce hv);refine down _ ?_ ?_
 .refine Zb1d ?_;rw[if_neg (by omega),Yl]
 .intro i hi ih;refine Zb1d ?_;rw[if_pos (by omega),wS hi (by omega)];rw[Y1 hi,Y0]at ih;exact⟨by omega,_,gE hi,_,_,Zb6f h hv (Z6n (Zce hv) _ (Yb hi)),by simp;omega,ih⟩
theorem Zbkv{t:Ze}(h:LeT t)(hv:Z3 t=true):Zht t=some (stR t):=by
 have h7:=Zlr (Zce hv);refine Zcpq ⟨_,Z56 t h,?_⟩;rw[hv,if_pos rfl];refine⟨_,Zcvm (Zce hv),Zcpp ?_⟩;rw[if_pos (by omega)];refine⟨by omega,_,gE (i:=0) h7.1,_,_,Zb6f h hv (Z6n (Zce hv) _ (Yb h7.1)),?_⟩;have:=Zcvp h hv ⟨#[]⟩ 0 0 t.Name t.Arity (t.Rows.length:Int) 1 (by omega);rw[Y1 h7.1]at this;rw[show w (0+1)=1 from by decide];unfold stR Zt;simpa[grp]using this
def catF(d:Zi)(v:Int):AV×List Blk:=if Zb6 d && inR v 1 999 then(if d.Tables=[]then(.tup [.agg [I v,.t .nil],Bo true],[])else(.tup [.agg [I v,.own 0],Bo true],[.arr 141 4 false ((d.Tables.map Zt).map Zg.c)]))else(.tup [.agg [I 0,.t .nil],Bo false],[])
theorem Zy1{d:Zi}(hv:Zb6 d=true):d.Tables.length<=6:=by
 unfold Zb6 at hv;simp only[Yc,decide_eq_true_eq]at hv;omega
theorem Zcvq{d:Zi}(h:LeD d)(hv:Zb6 d=true)(a b:Int):∀i,i<=d.Tables.length->Zmc a b false ((d.Tables.take i).map Zt) d.Tables d.Tables.length i=some (.tup [.agg [I b,.own 0],Bo true],[.arr 141 4 false ((d.Tables.map Zt).map Zg.c)]):=by
 have h6:=Zy1 hv;refine down _ ?_ ?_
 .refine Zbzd ?_;rw[if_neg (by omega),Yl]
 .intro i hi ih;refine Zbzd ?_;rw[if_pos (by omega),wS hi (by omega)];rw[Y1 hi,Y0]at ih;have hm:=Yb hi;exact⟨by omega,_,gE hi,.inr ⟨_,_,_,_,_,Zbku (h.2 _ hm) (Zfb hv hm),by simp;omega,ih⟩⟩
theorem Zcvr{d:Zi}(h:LeD d)(v:Int):Zpa d v=some (catF d v):=by
 refine Zcmo ⟨_,Zb43 d h,?_⟩;unfold catF;rcases tf (Zb6 d)with hv|hv
 .rw[hv];rfl
 rw[hv,if_pos rfl];refine⟨_,Zbv _ _ _,?_⟩;rcases tf (inR v 1 999)with e|e
 .rw[e];rfl
 rw[e,if_pos rfl,if_pos (by rfl)];refine Zcmn ?_;by_cases e0:d.Tables=[]
 .rw[if_neg (by rw[e0];simp),if_pos e0]
 .have h0:0<d.Tables.length:=Yba.2 e0;have hm:=Yb h0;rw[if_pos (by omega),if_neg e0];refine⟨by omega,_,gE (i:=0) h0,.inr ⟨_,_,_,_,_,Zbku (h.2 _ hm) (Zfb hv hm),?_⟩⟩;have:=Zcvq h hv 0 v 1 (by omega);rw[Y1 h0]at this;rw[show w (0+1)=1 from by decide];simpa[Zt]using this
theorem Zcvs{d:Zi}(h:LeD d)(hv:Zb6 d=true)(a b:Int):∀i,i<=d.Tables.length->Zm1 d a b false ((d.Tables.take i).map Zt) i=some (.tup [.agg [I b,.own 0],Bo true],[.arr 141 4 false ((d.Tables.map Zt).map Zg.c)]):=by
 have h6:=Zy1 hv;refine down _ ?_ ?_
 .refine Zb1e ?_;rw[if_neg (by omega),Yl]
 .intro i hi ih;refine Zb1e ?_;rw[if_pos (by omega),wS hi (by omega)];rw[Y1 hi,Y0]at ih;have hm:=Yb hi;exact⟨by omega,_,gE hi,.inr ⟨_,_,_,_,_,Zbkv (h.2 _ hm) (Zfb hv hm),by simp;omega,ih⟩⟩
theorem Zcvt{d:Zi}(h:LeD d)(v:Int):Zqe d v=some (catF d v):=by
 refine Zcps ⟨_,Zb44 d h,?_⟩;unfold catF;rcases tf (Zb6 d)with hv|hv
 .rw[hv];rfl
 rw[hv,if_pos rfl];refine⟨_,Z8 _ _ _,?_⟩;rcases tf (inR v 1 999)with e|e
 .rw[e];rfl
 rw[e,if_pos rfl,if_pos (by rfl)];refine Zcpr ?_;by_cases e0:d.Tables=[]
 .rw[if_neg (by rw[e0];simp),if_pos e0]
 .have h0:0<d.Tables.length:=Yba.2 e0;have hm:=Yb h0;rw[if_pos (by omega),if_neg e0];refine⟨by omega,_,gE (i:=0) h0,.inr ⟨_,_,_,_,_,Zbkv (h.2 _ hm) (Zfb hv hm),?_⟩⟩;have:=Zcvs h hv 0 v 1 (by omega);rw[Y1 h0]at this;rw[show w (0+1)=1 from by decide];simpa[Zt]using this
abbrev LeG(g:Zh):Prop:=g.Columns.length<=4294967296/\(g.Values.length<=4294967296/\∀r∈g.Values,r.length<=4294967296)/\g.Counts.length<=4294967296
abbrev LeS(s:Zg):Prop:=s.Groups.length<=4294967296/\∀g∈s.Groups,LeG g
abbrev LeK(c:Zl):Prop:=c.Tables.length<=4294967296/\∀s∈c.Tables,LeS s
theorem l_eqR(xs ys:List (List Int))(hl:ys.length=xs.length)(hx:xs.length<=4294967296/\∀a∈xs,a.length<=4294967296):∀i,i<=xs.length->Zt6 ys xs xs.length i=some (Bo (decide (xs.drop i=ys.drop i)),[]):=by
 refine down _ ?_ ?_
 .refine Zbzm ?_;rw[if_neg (by omega),Yg,<-hl,Yg];simp
 .intro i hi ih;have hi':i<ys.length:=by omega
  refine Zbzm ?_;rw[if_pos (by omega),wS hi (by omega),dropQ hi hi'];refine⟨by omega,_,gE hi,_,gE hi',_,Zcm5 ⟨_,Zy0 _ _ (hx.2 _ (Yb hi)),rfl⟩,?_⟩;by_cases c:xs[i]=ys[i]
  .rw[if_pos (by simpa using c),ih];simp[c]
  .rw[if_neg (by simpa using c)];simp[c]
theorem Zcvu(xs ys:List (List Int))(hx:xs.length<=4294967296/\∀a∈xs,a.length<=4294967296):Z1a xs ys=some (Bo (decide (xs=ys)),[]):=by
 refine Zcm7 ⟨decide (xs=ys),Zcm6 ?_,rfl⟩;by_cases c:(xs.length:Int)=(ys.length:Int)
 .rw[if_pos c];simpa using l_eqR xs ys (by omega) hx 0 (Ya _)
 .rw[if_neg c]
  have:¬xs=ys:=λhc=>c (by rw[hc])
  simp[this]
theorem Zcvv(a b:Zh)(h:LeG a):Zt7 a b=some (Bo (decide (a=b)),[]):=by
 refine Zcm8 ⟨_,Zy0 _ _ h.1,?_⟩;by_cases c:a.Columns=b.Columns
 .rw[if_pos (by simpa using c)];refine⟨_,Zcvu _ _ h.2.1,?_⟩;by_cases c2:a.Values=b.Values
  .rw[if_pos (by simpa using c2)];exact⟨_,Zy0 _ _ h.2.2,by simp[Zh.ext_iff,c,c2]⟩
  .rw[if_neg (by simpa using c2)];simp[Zh.ext_iff,c,c2]
 .rw[if_neg (by simpa using c)];simp[Zh.ext_iff,c]
theorem l_eqG(xs ys:List Zh)(hl:ys.length=xs.length)(hx:xs.length<=4294967296/\∀a∈xs,LeG a):∀i,i<=xs.length->Zt8 ys xs xs.length i=some (Bo (decide (xs.drop i=ys.drop i)),[]):=by
 refine down _ ?_ ?_
 .refine Zbzn ?_;rw[if_neg (by omega),Yg,<-hl,Yg];simp
 .intro i hi ih;have hi':i<ys.length:=by omega
  refine Zbzn ?_;rw[if_pos (by omega),wS hi (by omega),dropQ hi hi'];refine⟨by omega,_,gE hi,_,gE hi',_,Zcvv _ _ (hx.2 _ (Yb hi)),?_⟩;by_cases c:xs[i]=ys[i]
  .rw[if_pos (by simpa using c),ih];simp[c]
  .rw[if_neg (by simpa using c)];simp[c]
theorem Zb6g(a b:Zg)(h:LeS a):Zmf a b=some (Bo (decide (a=b)),[]):=by
 refine Zcna ?_;by_cases c:a.Name=b.Name
 .rw[if_pos c];by_cases c2:a.Arity=b.Arity
  .rw[if_pos c2];by_cases c3:a.RowCount=b.RowCount
   .rw[if_pos c3];refine⟨decide (a.Groups=b.Groups),Zcm9 ?_,by simp[Zg.ext_iff,c,c2,c3]⟩;by_cases c4:(a.Groups.length:Int)=(b.Groups.length:Int)
    .rw[if_pos c4];simpa using l_eqG a.Groups b.Groups (by omega) h 0 (Ya _)
    .rw[if_neg c4]
     have:¬a.Groups=b.Groups:=λhc=>c4 (by rw[hc])
     simp[this]
   .rw[if_neg c3];simp[Zg.ext_iff,c,c2,c3]
  .rw[if_neg c2];simp[Zg.ext_iff,c,c2]
 .rw[if_neg c];simp[Zg.ext_iff,c]
theorem l_eqS(xs ys:List Zg)(hl:ys.length=xs.length)(hx:xs.length<=4294967296/\∀a∈xs,LeS a):∀i,i<=xs.length->Zt9 ys xs xs.length i=some (Bo (decide (xs.drop i=ys.drop i)),[]):=by
 refine down _ ?_ ?_
 .refine Zbzo ?_;rw[if_neg (by omega),Yg,<-hl,Yg];simp
 .intro i hi ih;have hi':i<ys.length:=by omega
  refine Zbzo ?_;rw[if_pos (by omega),wS hi (by omega),dropQ hi hi'];refine⟨by omega,_,gE hi,_,gE hi',_,Zb6g _ _ (hx.2 _ (Yb hi)),?_⟩;by_cases c:xs[i]=ys[i]
  .rw[if_pos (by simpa using c),ih];simp[c]
  .rw[if_neg (by simpa using c)];simp[c]
def Zea(v:Int)(ts:List Zg)(c:Zl):Bool:=decide (v=c.Version/\ts=c.Tables)
theorem Zcvw(v:Int)(c:Zl):Ztt v c=some (Bo (Zea v [] c),[]):=by
 refine Zcmr ?_;unfold Zea;by_cases e:v=c.Version
 .rw[if_pos e];refine⟨decide ([]=c.Tables),Zcmq ?_,by simp[e]⟩;by_cases e2:c.Tables=[]
  .rw[if_pos (by rw[e2];simp)];refine Zcmp ?_;rw[if_neg (by omega),e2];simp
  .have h0:=Yba.2 e2;rw[if_neg (by omega)];simp[Ne.symm e2]
 .rw[if_neg e];simp[e]
theorem Zcvx(v:Int)(ts:List Zg)(c:Zl)(h:ts.length<=4294967296/\∀s∈ts,LeS s):Z1b ⟨v,ts⟩ c=some (Bo (Zea v ts c),[]):=by
 refine Zcnc ?_;unfold Zea;by_cases e:v=c.Version
 .rw[if_pos e];refine⟨decide (ts=c.Tables),Zcnb ?_,by simp[e]⟩;by_cases c4:(ts.length:Int)=(c.Tables.length:Int)
  .rw[if_pos c4];simpa using l_eqS ts c.Tables (by omega) h 0 (Ya _)
  .rw[if_neg c4]
   have:¬ts=c.Tables:=λhc=>c4 (by rw[hc])
   simp[this]
 .rw[if_neg e];simp[e]
theorem Zcvy(a b:Zg)(x y:Zh)(hl:y.Values.length=x.Values.length)(hx:LeG x)(hy:LeG y)(r:Bool)(i:Int)(cc:Zm5 a b (w (i+1))=some (Bo r,[])):∀k,k<=x.Values.length->Zqt a b x y i k=some (Bo (decide (x.Values.drop k=y.Values.drop k) && r),[]):=by
 refine down _ ?_ ?_
 .refine Zb1z ?_;rw[if_neg (by omega),Yg,<-hl,Yg,cc];simp
 .intro k hk ih;have hk':k<y.Values.length:=by omega
  refine Zb1z ?_;rw[if_pos (by omega),wS hk (by have:=hx.2.1.1;omega),dropQ hk hk'];have l1:=hx.2.1.2 _ (Yb hk);have l2:=hy.2.1.2 _ (Yb hk');refine⟨by omega,_,gE hk,_,gE hk',_,Zlj _ _ (by omega) (by omega),?_⟩;by_cases c:x.Values[k]=y.Values[k]
  .rw[if_pos (by rw[c];exact Zje _),ih];simp[c]
  .rw[if_neg (λh=>c (Zfc _ _ h))];simp[c]
theorem Zcvz(a b:Zg)(hl:b.Groups.length=a.Groups.length)(ha:LeS a)(hb:LeS b):∀i,i<=a.Groups.length->Zm5 a b i=some (Bo (decide (a.Groups.drop i=b.Groups.drop i)),[]):=by
 refine down _ ?_ ?_
 .refine Zb1y ?_;rw[if_neg (by omega),Yg,<-hl,Yg];simp
 .intro i hi ih;have hi':i<b.Groups.length:=by omega
  have l1:=ha.2 _ (Yb hi);have l2:=hb.2 _ (Yb hi');have l11:=l1.1;have l13:=l1.2.2;have l21:=l2.1;have l23:=l2.2.2;refine Zb1y ?_;rw[if_pos (by omega),dropQ hi hi'];refine⟨by omega,_,gE hi,_,gE hi',_,Zlj _ _ (by omega) (by omega),?_⟩;by_cases c1:a.Groups[i].Columns=b.Groups[i].Columns
  .rw[if_pos (by rw[c1];exact Zje _)];refine⟨_,Zlj _ _ (by omega) (by omega),?_⟩;by_cases c2:a.Groups[i].Counts=b.Groups[i].Counts
   .rw[if_pos (by rw[c2];exact Zje _)];by_cases c3:(a.Groups[i].Values.length:Int)=(b.Groups[i].Values.length:Int)
    .rw[if_pos c3];have:=Zcvy a b a.Groups[i] b.Groups[i] (by omega) l1 l2 _ i (by rw[wS hi (by have:=ha.1;omega)];exact ih) 0 (Ya _);rw[Yq,Yq]at this;have e:decide (a.Groups[i]=b.Groups[i])=decide (a.Groups[i].Values=b.Groups[i].Values):=by simp[Zh.ext_iff,c1,c2]
     rw[e];exact this
    .rw[if_neg c3]
     have:¬a.Groups[i]=b.Groups[i]:=λhc=>c3 (by rw[hc])
     simp[this]
   .rw[if_neg (λh=>c2 (Zfc _ _ h))]
    have:¬a.Groups[i]=b.Groups[i]:=λhc=>c2 (by rw[hc])
    simp[this]
  .rw[if_neg (λh=>c1 (Zfc _ _ h))]
   have:¬a.Groups[i]=b.Groups[i]:=λhc=>c1 (by rw[hc])
   simp[this]
theorem Zb6h(a b:Zg)(ha:LeS a)(hb:LeS b):Zqs a b=some (Bo (decide (a=b)),[]):=by
 refine Zcqb ?_;by_cases c:a.Name=b.Name
 .rw[if_pos c];by_cases c2:a.Arity=b.Arity
  .rw[if_pos c2];by_cases c3:a.RowCount=b.RowCount
   .rw[if_pos c3];by_cases c4:(a.Groups.length:Int)=(b.Groups.length:Int)
    .rw[if_pos c4];have e:decide (a=b)=decide (a.Groups=b.Groups):=by simp[Zg.ext_iff,c,c2,c3]
     rw[e];simpa using Zcvz a b (by omega) ha hb 0 (Ya _)
    .rw[if_neg c4]
     have:¬a=b:=λhc=>c4 (by rw[hc])
     simp[this]
   .rw[if_neg c3];simp[Zg.ext_iff,c,c2,c3]
  .rw[if_neg c2];simp[Zg.ext_iff,c,c2]
 .rw[if_neg c];simp[Zg.ext_iff,c]
theorem Zcv0(a b:Zl)(hl:b.Tables.length=a.Tables.length)(ha:LeK a)(hb:LeK b):∀i,i<=a.Tables.length->Zwl a b i=some (Bo (decide (a.Tables.drop i=b.Tables.drop i)),[]):=by
 refine down _ ?_ ?_
 .refine Zb10 ?_;rw[if_neg (by omega),Yg,<-hl,Yg];simp
 .intro i hi ih;have hi':i<b.Tables.length:=by omega
  refine Zb10 ?_;rw[if_pos (by omega),wS hi (by have:=ha.1;omega),dropQ hi hi'];refine⟨by omega,_,gE hi,_,gE hi',_,Zb6h _ _ (ha.2 _ (Yb hi)) (hb.2 _ (Yb hi')),?_⟩;by_cases c:a.Tables[i]=b.Tables[i]
  .rw[if_pos (by simpa using c),ih];simp[c]
  .rw[if_neg (by simpa using c)];simp[c]
theorem Zcv1(v:Int)(c:Zl):Zv6 v c=some (Bo (Zea v [] c),[]):=by
 refine Zcpu ?_;unfold Zea;by_cases e:v=c.Version
 .rw[if_pos e];by_cases e2:c.Tables=[]
  .rw[if_pos (by rw[e2];simp)];refine Zcpt ?_;rw[if_neg (by omega)];simp[e,e2]
  .have h0:=Yba.2 e2;rw[if_neg (by omega)];simp[Ne.symm e2]
 .rw[if_neg e];simp[e]
theorem Zcv2(v:Int)(ts:List Zg)(c:Zl)(h:ts.length<=4294967296/\∀s∈ts,LeS s)(hc:LeK c):Z22 ⟨v,ts⟩ c=some (Bo (Zea v ts c),[]):=by
 refine Zcqc ?_;unfold Zea;by_cases e:v=c.Version
 .rw[if_pos e];by_cases c4:(ts.length:Int)=(c.Tables.length:Int)
  .rw[if_pos c4];subst e;have:=Zcv0 ⟨c.Version,ts⟩ c (by simp only;omega) h hc 0 (Ya _);simp only[true_and];simpa using this
  .rw[if_neg c4]
   have:¬ts=c.Tables:=λhc=>c4 (by rw[hc])
   simp[this]
 .rw[if_neg e];simp[e]
def Zgo(d:Zi)(f:Zk):Bool:=match Zbl d f.Name with
 |none=>false
 |some t=>Zbw t.Arity f.From && inR f.To 0 (t.Arity-1) && !(has f.From f.To)
theorem Zh6{d:Zi}{n:ByteArray}{t:Ze}(h:Zbl d n=some t):Z3 t=true:=by
 obtain⟨h1,h2,_⟩:=Zb47 h;exact Zfb h1 h2
theorem Zb6i{d:Zi}(hd:LeD d){n:ByteArray}{t:Ze}(h:Zbl d n=some t):LeT t:=hd.2 t (Zb47 h).2.1
theorem Zb6j{d:Zi}(h:LeD d)(f:Zk)(hf:f.From.length<=4294967296):Zpb d f=some (Bo (Zgo d f),[]):=by
 have hl:=Zlk d h f.Name;refine Zcmy ?_;unfold Zgo
 cases hq:Zbl d f.Name with
 |none=>rw[hq]at hl;exact .inl ⟨_,_,hl,rfl⟩
 |some t =>
  rw[hq]at hl;have hA:=(Zg4 (Zh6 hq)).2;refine .inr ⟨_,_,_,hl,_,Zb6c _ hA _ (by omega),?_⟩;rcases tf (Zbw t.Arity f.From)with e|e
  .rw[e];simp[e]
  .rw[e,if_pos rfl,w1 hA];refine⟨_,Zbv _ _ _,?_⟩;rcases tf (inR f.To 0 (t.Arity-1))with e2|e2
   .rw[e2];simp[e,e2]
   .rw[e2,if_pos rfl];exact⟨_,Zr6 _ _ (by omega),by simp[e,e2]⟩
theorem Zcv3{t:Ze}(hv:Z3 t=true)(h0:t.Rows=[])(vs:List Int)(hl:Le vs):Z2x t.Name t.Arity vs=some (Bo (Zbw t.Arity vs),[]):=by
 have hA:=(Zg4 hv).2;have hV:Zm2 t.Name t.Arity=some (Bo true,[]):=by
  unfold Z3 at hv;simp only[Yc]at hv;refine Zb1i ⟨_,Zbjy _,?_⟩;rw[hv.1.1.1,if_pos rfl];refine⟨_,Z8 _ _ _,?_⟩;rw[hv.1.1.2,if_pos rfl];refine Zb1h ?_;rw[if_neg (by omega)]
 have main:∀i,i<=vs.length->Zqf t.Name t.Arity vs i=some (Bo (ascN t.Arity (pvA vs i) (vs.drop i)),[]):=by
  refine down _ ?_ ?_
  .refine Zb1j ?_;rw[if_neg (by omega),Yg];exact⟨_,hV,rfl⟩
  .intro i hi ih;refine Zb1j ?_;rw[if_pos (by omega),Yd hi,ascN,wS hi (by omega),w1 hA];refine⟨by omega,_,gE hi,_,Z8 _ _ _,?_⟩;rw[show pvA vs (i+1)=some vs[i]from Yj hi]at ih;rcases tf (inR vs[i] 0 (t.Arity-1))with e|e
   .rw[e];simp
   .rw[e,if_pos rfl,ih];by_cases h0:(0:Int)<(i:Int)
    .rw[if_pos h0,wP (by omega) hi (by omega),Zjd (by omega) (by omega)];refine⟨by omega,_,gE (by omega),?_⟩;by_cases h2:vs[i]<=vs[i-1]
     .rw[if_pos h2];simp[nxt,ltI];omega
     .rw[if_neg h2];simp[nxt,ltI,show vs[i-1]<vs[i] by omega]
    .obtain rfl:i=0:=by omega
     rw[if_neg h0];simp[nxt,pvA]
 exact Zcpy (by simpa[Zbw,pvA]using main 0 (Ya _))
theorem Zb6k{d:Zi}(h:LeD d)(f:Zk)(hf:f.From.length<=4294967296):Zqg d f=some (Bo (Zgo d f),[]):=by
 have hl:=Zn2 d h f.Name;refine Zcp0 ?_;unfold Zgo
 cases hq:Zbl d f.Name with
 |none=>rw[hq]at hl;exact .inl ⟨_,_,_,hl,rfl⟩
 |some t =>
  rw[hq]at hl;simp only[Zh1]at hl;have hv:=Zh6 hq;have hA:=(Zg4 hv).2;by_cases e0:t.Rows=[]
  .rw[if_pos e0]at hl;refine .inl ⟨_,_,_,hl,?_⟩;rw[if_pos rfl];refine⟨_,Zcv3 hv e0 _ (by omega),?_⟩;rcases tf (Zbw t.Arity f.From)with e|e
   .rw[e];simp[e]
   .rw[e,if_pos rfl,w1 hA];refine⟨_,Z8 _ _ _,?_⟩;rcases tf (inR f.To 0 (t.Arity-1))with e2|e2
    .rw[e2];simp[e,e2]
    .rw[e2,if_pos rfl];exact⟨_,Zn0 _ _ (by omega),by simp[e,e2]⟩
  .rw[if_neg e0]at hl;refine .inr ⟨_,_,_,hl,_,Zb6d t (Zb6i h hq) hA _ (by omega),?_⟩;rw[hv,Bool.and_true];rcases tf (Zbw t.Arity f.From)with e|e
   .rw[e];simp[e]
   .rw[e,if_pos rfl,w1 hA];refine⟨_,Z8 _ _ _,?_⟩;rcases tf (inR f.To 0 (t.Arity-1))with e2|e2
    .rw[e2];simp[e,e2]
    .rw[e2,if_pos rfl];exact⟨_,Zn0 _ _ (by omega),by simp[e,e2]⟩
def good(rows:List (List Int))(f:Zk)(i k:Nat):Prop:=selC (rows.getD i []) f.From=selC (rows.getD k []) f.From->(rows.getD i []).getD f.To.toNat 0=(rows.getD k []).getD f.To.toNat 0
def Zfd(rows:List (List Int))(f:Zk)(k:Nat):Prop:=∀k',k<=k'->k'<rows.length->∀i,i<k'->good rows f i k'
structure DepC (t:Ze) (f:Zk) (n:Nat):Prop where
 rows:RowsN t.Rows n
 cols:Zlq f.From n
 to:0<=f.To/\f.To<n
theorem Zb6l{d:Zi}{f:Zk}{t:Ze}(hq:Zbl d f.Name=some t)(hv:Zgo d f=true):DepC t f t.Arity.toNat:=by
 obtain⟨hR,hA⟩:=Zg4 (Zh6 hq);unfold Zgo at hv;rw[hq]at hv;simp only[Yc]at hv;have h2:0<=f.To/\f.To<=t.Arity-1:=by simpa[inR]using hv.1.2
 exact⟨hR,Zbkr hv.1.1 hA,by omega⟩
theorem gd{rows:List (List Int)}{i:Nat}(h:i<rows.length):rows.getD i []=rows[i]:=by
 rw[Yy,Yj h];rfl
def Vio(L:Option (AV×List Blk))(z:AV×List Blk)(ok:Prop):Prop:=(ok->L=some z)/\(¬ok->∃a b:Int,L=some (.own 0,[.arr 3 1 true (([a,b]:List Int).map ic)]))
theorem Vio.cong{L:Option (AV×List Blk)}{z:AV×List Blk}{p q:Prop}(h:Vio L z p)(e:p↔q):Vio L z q:=⟨λhq=>h.1 (e.2 hq),λhq=>h.2 λhp=>hq (e.1 hp)⟩
theorem Vio.map{L L':Option (AV×List Blk)}{z:AV×List Blk}{p:Prop}(h:Vio L z p)(e:∀r,L=some r->L'=some r):Vio L' z p:=⟨λhp=>e _ (h.1 hp),λhp=>(h.2 hp).imp λa ⟨b,hb⟩=>⟨b,e _ hb⟩⟩
theorem Zse{rows:List (List Int)}{f:Zk}{k i:Nat}(hi:i<k):((∀j,i<=j->j<k->good rows f j k)/\Zfd rows f (k+1))↔(good rows f i k/\((∀j,i+1<=j->j<k->good rows f j k)/\Zfd rows f (k+1))):=by
 constructor
 .rintro⟨h1,h2⟩;exact⟨h1 i (Yk _) hi,λj h3 h4=>h1 j (by omega) h4,h2⟩
 .rintro⟨h0,h1,h2⟩;refine⟨λj h3 h4=>?_,h2⟩;by_cases e:j=i
  .subst e;exact h0
  .exact h1 j (by omega) h4
theorem ok_out{rows:List (List Int)}{f:Zk}{k:Nat}(hk:k<rows.length):Zfd rows f k↔((∀j,0<=j->j<k->good rows f j k)/\Zfd rows f (k+1)):=by
 constructor
 .intro h;exact⟨λj _ h4=>h k (Yk _) hk j h4,λk' h1 h2=>h k' (by omega) h2⟩
 .rintro⟨h1,h2⟩ k' h3 h4 i hi;by_cases e:k'=k
  .subst e;exact h1 i (Ya _) hi
  .exact h2 k' (by omega) h4 i hi
theorem Zcv4{t:Ze}{f:Zk}{n:Nat}(h:DepC t f n){k:Nat}(hk:k<t.Rows.length)(c:Vio (Zpc f t t.Rows t.Rows.length (w ((k:Int)+1))) (.t .nil,[]) (Zfd t.Rows f (k+1))) :
  ∀i,i<=k->Vio (Zeq f t k t.Rows[k] t.Rows t.Rows.length k (t.Rows.take k) k i) (.t .nil,[]) ((∀j,i<=j->j<k->good t.Rows f j k)/\Zfd t.Rows f (k+1)):=by
 have h8:=h.rows.len;refine down _ ?_ ?_
 .refine(c.map λr hr=>?_).cong ⟨λhp=>⟨λj h1 h2=>by omega,hp⟩,λhp=>hp.2⟩;refine Zbzh ?_;rw[if_neg (by omega)];exact hr
 .intro i hi ih;have hi':i<t.Rows.length:=by omega
  have hit:i<(t.Rows.take k).length:=by rw[Yp];omega
  have ei:(t.Rows.take k)[i]=t.Rows[i]:=List.getElem_take ..;have hri:=h.rows.row _ (Yb hi');have hrk:=h.rows.row _ (Yb hk);have hc3:=h.cols.len;have hto:=h.to;have step:∀r,(if decide (selC t.Rows[i] f.From=selC t.Rows[k] f.From)=true then(if t.Rows[i].getD f.To.toNat 0=t.Rows[k].getD f.To.toNat 0 then Zeq f t k t.Rows[k] t.Rows t.Rows.length k (t.Rows.take k) k (w ((i:Int)+1))=some r else some (.own 0,[.arr 3 1 true (([(i:Int),(k:Int)]:List Int).map ic)])=some r)else Zeq f t k t.Rows[k] t.Rows t.Rows.length k (t.Rows.take k) k (w ((i:Int)+1))=some r)->Zeq f t k t.Rows[k] t.Rows t.Rows.length k (t.Rows.take k) k i=some r:=by
   intro r hr;refine Zbzh ?_;rw[if_pos (by omega)];refine⟨by omega,t.Rows[i],by rw[Yh,Yj hit,ei],.inr ⟨_,Zbks hri h.rows.n3 h.cols,.inr ⟨_,Zbks hrk h.rows.n3 h.cols,_,Zy0 _ _ (by simp[selC];omega),?_⟩⟩⟩;by_cases e:selC t.Rows[i] f.From=selC t.Rows[k] f.From
   .rw[if_pos (by simpa using e)]at hr|-;exact⟨h.to.1,_,gD (by omega),_,gD (by omega),hr⟩
   .rw[if_neg (by simpa using e)]at hr|-;exact hr
  rw[show w ((i:Int)+1)=((i+1:Nat):Int)from wS hi' (by omega)]at step;by_cases e:selC t.Rows[i] f.From=selC t.Rows[k] f.From
  .by_cases e2:t.Rows[i].getD f.To.toNat 0=t.Rows[k].getD f.To.toNat 0
   .refine(ih.map λr hr=>step r (by rw[if_pos (by simpa using e),if_pos e2];exact hr)).cong ?_;rw[Zse hi];exact⟨λhp=>⟨λ_=>by rw[gd hi',gd hk];exact e2,hp⟩,λhp=>hp.2⟩
   .refine⟨λhp=>absurd ((Zse hi).1 hp).1 λhg=>e2 ?_,λ_=>⟨_,_,step _ (by rw[if_pos (by simpa using e),if_neg e2])⟩⟩;have:=hg (by rw[gd hi',gd hk];exact e);rw[gd hi',gd hk]at this;exact this
  .refine(ih.map λr hr=>step r (by rw[if_neg (by simpa using e)];exact hr)).cong ?_;rw[Zse hi];exact⟨λhp=>⟨λhq=>absurd (by rw[gd hi',gd hk]at hq;exact hq) e,hp⟩,λhp=>hp.2⟩
theorem Zcv5{t:Ze}{f:Zk}{n:Nat}(h:DepC t f n):∀k,k<=t.Rows.length->Vio (Zpc f t t.Rows t.Rows.length k) (.t .nil,[]) (Zfd t.Rows f k):=by
 have h8:=h.rows.len;refine down _ ?_ ?_
 .refine⟨λ_=>Zbzg (by rw[if_neg (by omega)]),λhn=>absurd (λk' h1 h2=>by omega) hn⟩
 .intro k hk ih;rw[<-show w ((k:Int)+1)=((k+1:Nat):Int)from wS hk (by omega)]at ih;refine((Zcv4 h hk ih 0 (Ya _)).map λr hr=>?_).cong (ok_out hk).symm;refine Zbzg ?_;rw[if_pos (by omega)];refine⟨by omega,_,gE hk,by rw[Yh];omega,?_⟩;rw[Yh,show(((t.Rows.take k).length:Nat):Int)=(k:Int) by rw[Yp];omega];exact hr
theorem Zcv6{d:Zi}{t:Ze}{f:Zk}{n:Nat}(h:DepC t f n){k:Nat}(hk:k<t.Rows.length)(a:ByteArray)(b:Int)(c:Vio (Zqh d f a b t.Rows (w ((k:Int)+1))) (.own 0,[.arr 3 1 true (([]:List Int).map ic)]) (Zfd t.Rows f (k+1))) :
  ∀i,i<=k->Vio (Ziv d f a b t.Rows (selC t.Rows[k] f.From) k i) (.own 0,[.arr 3 1 true (([]:List Int).map ic)]) ((∀j,i<=j->j<k->good t.Rows f j k)/\Zfd t.Rows f (k+1)):=by
 have h8:=h.rows.len;refine down _ ?_ ?_
 .refine(c.map λr hr=>?_).cong ⟨λhp=>⟨λj h1 h2=>by omega,hp⟩,λhp=>hp.2⟩;refine Zb1m ?_;rw[if_neg (by omega)];exact hr
 .intro i hi ih;have hi':i<t.Rows.length:=by omega
  have hri:=h.rows.row _ (Yb hi');have hrk:=h.rows.row _ (Yb hk);have hc3:=h.cols.len;have hto:=h.to;have hs:∀r:List Int,(selC r f.From).length<=3:=λr=>by simp[selC];omega
  have step:∀r,(if selC t.Rows[i] f.From=selC t.Rows[k] f.From then(if t.Rows[i].getD f.To.toNat 0=t.Rows[k].getD f.To.toNat 0 then Ziv d f a b t.Rows (selC t.Rows[k] f.From) k (w ((i:Int)+1))=some r else some (.own 0,[.arr 3 1 true (([(i:Int),(k:Int)]:List Int).map ic)])=some r)else Ziv d f a b t.Rows (selC t.Rows[k] f.From) k (w ((i:Int)+1))=some r)->Ziv d f a b t.Rows (selC t.Rows[k] f.From) k i=some r:=by
   intro r hr;refine Zb1m ?_;rw[if_pos (by omega)];have q1:=hs t.Rows[i];have q2:=hs t.Rows[k];refine⟨by omega,_,gE hi',_,_,Z6o hri h.rows.n3 h.cols,_,Zlj _ _ (by omega) (by omega),?_⟩;by_cases e:selC t.Rows[i] f.From=selC t.Rows[k] f.From
   .rw[if_pos e]at hr;rw[if_pos (by rw[e];exact Zje _)];exact⟨h.to.1,_,gD (by omega),by omega,_,gE hk,_,gD (by omega),hr⟩
   .rw[if_neg e]at hr;rw[if_neg (λhc=>e (Zfc _ _ hc))];exact hr
  rw[show w ((i:Int)+1)=((i+1:Nat):Int)from wS hi' (by omega)]at step;by_cases e:selC t.Rows[i] f.From=selC t.Rows[k] f.From
  .by_cases e2:t.Rows[i].getD f.To.toNat 0=t.Rows[k].getD f.To.toNat 0
   .refine(ih.map λr hr=>step r (by rw[if_pos e,if_pos e2];exact hr)).cong ?_;rw[Zse hi];exact⟨λhp=>⟨λ_=>by rw[gd hi',gd hk];exact e2,hp⟩,λhp=>hp.2⟩
   .refine⟨λhp=>absurd ((Zse hi).1 hp).1 λhg=>e2 ?_,λ_=>⟨_,_,step _ (by rw[if_pos e,if_neg e2])⟩⟩;have:=hg (by rw[gd hi',gd hk];exact e);rw[gd hi',gd hk]at this;exact this
  .refine(ih.map λr hr=>step r (by rw[if_neg e];exact hr)).cong ?_;rw[Zse hi];exact⟨λhp=>⟨λhq=>absurd (by rw[gd hi',gd hk]at hq;exact hq) e,hp⟩,λhp=>hp.2⟩
theorem Zcv7{d:Zi}(hd:LeD d){t:Ze}{f:Zk}(hf:f.From.length<=4294967296)(hv:Zgo d f=true){n:Nat}(h:DepC t f n)(a:ByteArray)(b:Int):∀k,k<=t.Rows.length->Vio (Zqh d f a b t.Rows k) (.own 0,[.arr 3 1 true (([]:List Int).map ic)]) (Zfd t.Rows f k):=by
 have h8:=h.rows.len;refine down _ ?_ ?_
 .refine⟨λ_=>Zb1l (by rw[if_neg (by omega)]),λhn=>absurd (λk' h1 h2=>by omega) hn⟩
 .intro k hk ih;rw[<-show w ((k:Int)+1)=((k+1:Nat):Int)from wS hk (by omega)]at ih;refine((Zcv6 (d:=d) h hk a b ih 0 (Ya _)).map λr hr=>?_).cong (ok_out hk).symm;refine Zb1l ?_;rw[if_pos (by omega)];refine⟨_,Zb6k hd f hf,?_⟩;rw[hv,if_pos rfl];exact⟨by omega,_,gE hk,_,_,Z6o (h.rows.row _ (Yb hk)) h.rows.n3 h.cols,hr⟩
open Classical in
noncomputable def Zjj(d:Zi)(f:Zk):Bool:=Zgo d f && (match Zbl d f.Name with
 |none=>true
 |some t=>decide (Zfd t.Rows f 0))
theorem Zcv8{d:Zi}(h:LeD d)(f:Zk)(hf:f.From.length<=4294967296):Z07 d f=some (Bo (Zjj d f),[]):=by
 refine Zcm0 ⟨_,Zb6j h f hf,?_⟩;unfold Zjj;rcases tf (Zgo d f)with hv|hv
 .rw[hv];rfl
 rw[hv,if_pos rfl,Ye]
 cases hq:Zbl d f.Name with
 |none=>unfold Zgo at hv;rw[hq]at hv;cases hv
 |some t =>
  have hl:=Zlk d h f.Name;rw[hq]at hl;have V:=(Zcv5 (Zb6l hq hv) 0 (Ya _)).map (L':=Ztz d f) λr hr=>Zcmz ⟨_,Zb6j h f hf,by rw[hv,if_pos rfl];exact .inr ⟨_,_,_,hl,hr⟩⟩
  by_cases e:Zfd t.Rows f 0
  .exact .inl ⟨V.1 e,by simp[e]⟩
  .obtain⟨x,y,hxy⟩:=V.2 e;exact .inr ⟨_,hxy,by simp[e]⟩
theorem Zcv9{d:Zi}(h:LeD d)(f:Zk)(hf:f.From.length<=4294967296):Zwe d f=some (Bo (Zjj d f),[]):=by
 refine Zcp2 ⟨_,Zb6k h f hf,?_⟩;unfold Zjj;rcases tf (Zgo d f)with hv|hv
 .rw[hv];rfl
 rw[hv,if_pos rfl,Ye]
 cases hq:Zbl d f.Name with
 |none=>unfold Zgo at hv;rw[hq]at hv;cases hv
 |some t =>
  have hl:=Zn2 d h f.Name;rw[hq]at hl;simp only[Zh1]at hl;by_cases e0:t.Rows=[]
  .rw[if_pos e0]at hl;have e:Zfd t.Rows f 0:=λk' h1 h2=>by rw[e0]at h2;simp at h2
   refine⟨[],Zb1n (.inl ⟨_,_,_,hl,Zcp1 (by rw[if_neg (by omega)])⟩),by simp[e]⟩
  .rw[if_neg e0]at hl;have V:=(Zcv7 h hf hv (Zb6l hq hv) t.Name t.Arity 0 (Ya _)).map (L':=Z2y d f) λr hr=>Zb1n (.inr ⟨_,_,_,hl,hr⟩)
   by_cases e:Zfd t.Rows f 0
   .exact⟨[],V.1 e,by simp[e]⟩
   .obtain⟨x,y,hxy⟩:=V.2 e;exact⟨_,hxy,by simp[e]⟩
def Zjk(d:Zi)(x:Zj):Bool:=match Zbl d x.Name,Zbl d x.Into with
 |some a,some b=>inR x.Column 0 (a.Arity-1) && inR x.IntoColumn 0 (b.Arity-1)
 |_,_=>false
theorem Zb6m{d:Zi}(h:LeD d)(x:Zj):Zt0 d x=some (Bo (Zjk d x),[]):=by
 have h1:=Zlk d h x.Name;have h2:=Zlk d h x.Into;refine Zcm1 ?_;unfold Zjk
 cases hq:Zbl d x.Name with
 |none =>
  rw[hq]at h1
  cases hq2:Zbl d x.Into with
  |none=>rw[hq2]at h2;exact .inl ⟨_,_,h1,.inl ⟨_,_,h2,rfl⟩⟩
  |some b=>rw[hq2]at h2;exact .inl ⟨_,_,h1,.inr ⟨_,_,_,h2,rfl⟩⟩
 |some a =>
  rw[hq]at h1
  cases hq2:Zbl d x.Into with
  |none=>rw[hq2]at h2;exact .inr ⟨_,_,_,h1,.inl ⟨_,_,h2,rfl⟩⟩
  |some b =>
   rw[hq2]at h2;refine .inr ⟨_,_,_,h1,.inr ⟨_,_,_,h2,_,Zbv _ _ _,?_⟩⟩;rw[w1 (Zg4 (Zh6 hq)).2,w1 (Zg4 (Zh6 hq2)).2];rcases tf (inR x.Column 0 (a.Arity-1))with e|e
   .rw[e];simp[e]
   .rw[e,if_pos rfl];exact⟨_,Zbv _ _ _,by simp[e]⟩
theorem Zb6n{d:Zi}(h:LeD d)(x:Zj):Zqi d x=some (Bo (Zjk d x),[]):=by
 have h1:=Zn2 d h x.Name;have h2:=Zn2 d h x.Into;refine Zcp3 ?_;unfold Zjk
 cases hq:Zbl d x.Name with
 |none =>
  rw[hq]at h1
  cases hq2:Zbl d x.Into with
  |none=>rw[hq2]at h2;exact .inl ⟨_,_,_,h1,.inl ⟨_,_,_,h2,by simp⟩⟩
  |some b =>
   rw[hq2]at h2;simp only[Zh1]at h2;by_cases e2:b.Rows=[]
   .rw[if_pos e2]at h2;exact .inl ⟨_,_,_,h1,.inl ⟨_,_,_,h2,by simp⟩⟩
   .rw[if_neg e2]at h2;exact .inl ⟨_,_,_,h1,.inr ⟨_,_,_,h2,by simp⟩⟩
 |some a =>
  rw[hq]at h1;simp only[Zh1]at h1;have wa:=w1 (Zg4 (Zh6 hq)).2
  cases hq2:Zbl d x.Into with
  |none =>
   rw[hq2]at h2;by_cases e1:a.Rows=[]
   .rw[if_pos e1]at h1;exact .inl ⟨_,_,_,h1,.inl ⟨_,_,_,h2,by simp⟩⟩
   .rw[if_neg e1]at h1;exact .inr ⟨_,_,_,h1,.inl ⟨_,_,_,h2,by simp⟩⟩
  |some b =>
   rw[hq2]at h2;simp only[Zh1]at h2;have wb:=w1 (Zg4 (Zh6 hq2)).2;by_cases e1:a.Rows=[]
   .rw[if_pos e1]at h1;by_cases e2:b.Rows=[]
    .rw[if_pos e2]at h2;refine .inl ⟨_,_,_,h1,.inl ⟨_,_,_,h2,?_⟩⟩;rw[if_pos rfl,if_pos rfl,wa,wb];refine⟨_,Z8 _ _ _,?_⟩;rcases tf (inR x.Column 0 (a.Arity-1))with e|e
     .rw[e];simp[e]
     .rw[e,if_pos rfl];exact⟨_,Z8 _ _ _,by simp[e]⟩
    .rw[if_neg e2]at h2;refine .inl ⟨_,_,_,h1,.inr ⟨_,_,_,h2,?_⟩⟩;rw[if_pos rfl,wa,wb];refine⟨_,Z8 _ _ _,?_⟩;rcases tf (inR x.Column 0 (a.Arity-1))with e|e
     .rw[e];simp[e]
     .rw[e,if_pos rfl];exact⟨_,Z8 _ _ _,by simp[e]⟩
   .rw[if_neg e1]at h1;by_cases e2:b.Rows=[]
    .rw[if_pos e2]at h2;refine .inr ⟨_,_,_,h1,.inl ⟨_,_,_,h2,?_⟩⟩;rw[if_pos rfl,wa,wb];refine⟨_,Z8 _ _ _,?_⟩;rcases tf (inR x.Column 0 (a.Arity-1))with e|e
     .rw[e];simp[e]
     .rw[e,if_pos rfl];exact⟨_,Z8 _ _ _,by simp[e]⟩
    .rw[if_neg e2]at h2;refine .inr ⟨_,_,_,h1,.inr ⟨_,_,_,h2,_,Z8 _ _ _,?_⟩⟩;rw[wa,wb];rcases tf (inR x.Column 0 (a.Arity-1))with e|e
     .rw[e];simp[e]
     .rw[e,if_pos rfl];exact⟨_,Z8 _ _ _,by simp[e]⟩
def colV(rows:List (List Int))(c:Int):List Int:=rows.map λr=>r.getD c.toNat 0
structure ColD (rows:List (List Int)) (c:Int):Prop where
 len:rows.length<=8
 row:∀r∈rows,(c.toNat<r.length/\r.length<=3)/\∀v∈r,0<=v/\v<=9
 c0:0<=c
theorem Zb6o{t:Ze}(hv:Z3 t=true){c:Int}(hc:inR c 0 (t.Arity-1)=true):ColD t.Rows c:=by
 obtain⟨hR,hA⟩:=Zg4 hv;have h2:0<=c/\c<=t.Arity-1:=by simpa[inR]using hc
 refine⟨hR.len,λr hr=>⟨?_,λv hx=>?_⟩,h2.1⟩
 .have:=hR.row r hr;omega
 .unfold Z3 at hv;simp only[Yc]at hv;have h1:=Yn.1 hv.2.1 r hr;unfold rwB at h1;simp only[Yc]at h1;simpa[dig,inR]using Yn.1 h1.1 v hx
theorem colV_in{rows:List (List Int)}{c:Int}(h:ColD rows c):∀v∈colV rows c,0<=v/\v<=9:=by
 intro v hv;obtain⟨r,hr,rfl⟩:=Yr.1 hv;obtain⟨⟨h1,_⟩,h2⟩:=h.row r hr;refine h2 _ ?_;rw[Yy,Yj h1];exact Yb h1
def Zcr(A B:List Int):List Int:=A.filter λv=>!(has B v)
theorem Zb6p:∀{l:List Int},cptI l=[]->l=[]
 |[],_=>rfl
 |[a],h=>by simp[cptI]at h
 |a::b::l,h=>by
  unfold cptI at h;split at h
  .have:=Zb6p h;cases this
  .cases h
theorem miss_len(l:List Int):((cptI (srtI l)).length=0)↔l=[]:=by
 have hl:(srtI l).length=l.length:=(Ycu _ _).length_eq;constructor
 .intro h;have h1:=Zb6p (Yb1 h);rw[h1]at hl;exact Yb1 hl.symm
 .intro h;subst h;simp[srtI,cptI]
theorem x_fin{out:List Int}(h:out.length<=4096):Zme out=some (.tup [],[.arr 3 1 true ((srtI out).map ic)])/\Z08 (srtI out)=some (.own 1,[.dead,.arr 3 1 true ((cptI (srtI out)).map ic)]):=by
 have hl:(srtI out).length=out.length:=(Ycu _ _).length_eq;unfold Zme Z08;exact⟨c_sortI h,c_cptI (by omega)⟩
theorem Zcwa{x:Zj}{A:List (List Int)}(hA:ColD A x.Column)(there:List Int)(ht:there.length<=4096):∀i,i<=A.length->Zpg x there (Zcr (colV (A.take i) x.Column) there) A A.length i=some (.own 0,[.arr 3 1 true ((cptI (srtI (Zcr (colV A x.Column) there))).map ic)]):=by
 have h8:=hA.len;have hml:∀i,(Zcr (colV (A.take i) x.Column) there).length<=A.length:=λi=>by
  have:=Yct (λv=>!(has there v)) (colV (A.take i) x.Column);unfold Zcr;simp only[colV,Yo,Yp]at this|-;omega
 refine down _ ?_ ?_
 .refine Zbzj ?_;rw[if_neg (by omega),Yl];have hm:=hml A.length;rw[Yl]at hm;have:=x_fin (out:=Zcr (colV A x.Column) there) (by omega);exact⟨_,this.1,_,this.2,rfl⟩
 .intro i hi ih;obtain⟨⟨h1,h2⟩,_⟩:=hA.row _ (Yb hi);refine Zbzj ?_;rw[if_pos (by omega),wS hi (by omega)];refine⟨by omega,_,gE hi,hA.c0,_,gD h1,_,Zr6 _ _ (by omega),?_⟩;have e:Zcr (colV (A.take (i+1)) x.Column) there=Zcr (colV (A.take i) x.Column) there++(if has there (A[i].getD x.Column.toNat 0)=true then[]else[A[i].getD x.Column.toNat 0]):=by
   unfold Zcr colV;rw[Y1 hi,Y0,Ycz];simp only[Ys,Yco];generalize A[i].getD x.Column.toNat 0=g;rw[Ycv,List.filter_nil];cases has there g<;>rfl
  rw[e]at ih;rcases tf (has there (A[i].getD x.Column.toNat 0))with q|q
  .rw[if_neg (by rw[q];simp)]at ih|-;exact⟨by have:=hml i;omega,ih⟩
  .rw[if_pos q,Ybl]at ih;rw[if_pos q];exact ih
theorem Zcwb{x:Zj}{A B:List (List Int)}(hA:ColD A x.Column)(hB:ColD B x.IntoColumn)(a:ByteArray)(b:Int):∀i,i<=B.length->Zt2 x a b A (colV (B.take i) x.IntoColumn) B B.length i=some (.own 0,[.arr 3 1 true ((cptI (srtI (Zcr (colV A x.Column) (colV B x.IntoColumn)))).map ic)]):=by
 have h8:=hB.len;refine down _ ?_ ?_
 .refine Zbzi ?_;rw[if_neg (by omega),Yl];exact Zcwa hA _ (by simp[colV];omega) 0 (Ya _)
 .intro i hi ih;obtain⟨⟨h1,h2⟩,_⟩:=hB.row _ (Yb hi);refine Zbzi ?_;rw[if_pos (by omega),wS hi (by omega)];rw[show colV (B.take (i+1)) x.IntoColumn=colV (B.take i) x.IntoColumn++[B[i].getD x.IntoColumn.toNat 0] by unfold colV;rw[Y1 hi,Y0];rfl]at ih;exact⟨by omega,_,gE hi,hB.c0,_,gD h1,by simp[colV];omega,ih⟩
def Zg5(d:Zi)(x:Zj):Bool:=Zjk d x && (match Zbl d x.Name,Zbl d x.Into with
 |some a,some b=>(Zcr (colV a.Rows x.Column) (colV b.Rows x.IntoColumn)).isEmpty
 |_,_=>true)
theorem inc_of{d:Zi}{x:Zj}(hv:Zjk d x=true):∃a b,Zbl d x.Name=some a/\Zbl d x.Into=some b/\ColD a.Rows x.Column/\ColD b.Rows x.IntoColumn:=by
 unfold Zjk at hv
 cases hq:Zbl d x.Name with
 |none=>rw[hq]at hv;cases hv
 |some a =>
  cases hq2:Zbl d x.Into with
  |none=>rw[hq,hq2]at hv;cases hv
  |some b =>
   rw[hq,hq2]at hv;simp only[Yc]at hv;exact⟨a,b,rfl,rfl,Zb6o (Zh6 hq) hv.1,Zb6o (Zh6 hq2) hv.2⟩
theorem Zcwc{d:Zi}(h:LeD d)(x:Zj):Z09 d x=some (Bo (Zg5 d x),[]):=by
 refine Zcm3 ⟨_,Zb6m h x,?_⟩;unfold Zg5;rcases tf (Zjk d x)with hv|hv
 .rw[hv];rfl
 obtain⟨a,b,h1,h2,hA,hB⟩:=inc_of hv;rw[hv,if_pos rfl,Ye,h1,h2];have l1:=Zlk d h x.Name;have l2:=Zlk d h x.Into;rw[h1]at l1;rw[h2]at l2;have hM:Zt1 d x=some (.own 0,[.arr 3 1 true ((cptI (srtI (Zcr (colV a.Rows x.Column) (colV b.Rows x.IntoColumn)))).map ic)]):=by
  refine Zcm2 ⟨_,Zb6m h x,?_⟩;rw[hv,if_pos rfl];exact .inr ⟨_,_,_,l1,.inr ⟨_,_,_,l2,by simpa[colV]using Zcwb hA hB a.Name a.Arity 0 (Ya _)⟩⟩
 refine .inr ⟨_,hM,?_⟩
 .have:=miss_len (Zcr (colV a.Rows x.Column) (colV b.Rows x.IntoColumn));by_cases e:Zcr (colV a.Rows x.Column) (colV b.Rows x.IntoColumn)=[]
  .simp[e,cptI,srtI]
  .have e2:¬((cptI (srtI (Zcr (colV a.Rows x.Column) (colV b.Rows x.IntoColumn)))).length=0):=λhc=>e (this.1 hc)
   have e4:¬cptI (srtI (Zcr (colV a.Rows x.Column) (colV b.Rows x.IntoColumn)))=[]:=λhc=>e2 (by rw[hc];rfl)
   have e5:(Zcr (colV a.Rows x.Column) (colV b.Rows x.IntoColumn)).isEmpty=false:=List.isEmpty_eq_false_iff.2 e;simp[e4,e5]
def Zeb(A B:List Int)(u:Nat):List Int:=((List.range' u (10-u)).filter λv:Nat=>has A (v:Int) && !(has B (v:Int))).map λn:Nat=>(n:Int)
theorem Z6p{A B:List Int}{u:Nat}(h:u<10):Zeb A B u=(if(has A (u:Int) && !(has B (u:Int)))=true then[(u:Int)]else[])++Zeb A B (u+1):=by
 unfold Zeb;rw[show 10-u=(10-(u+1))+1 by omega,Ydg,Ycv];split<;>simp
theorem Zb6q{xs:List Int}{v:Int}:has xs v=true↔v∈xs:=by simp[has]
theorem Zcwd{A B:List Int}(hA:∀v∈A,0<=v/\v<=9):Zeb A B 0=[]↔Zcr A B=[]:=by
 constructor
 .intro h;unfold Zcr;rw[Ycs];intro v hv hb;have h1:=hA v hv;unfold Zeb at h;rw[List.map_eq_nil_iff,Ycs]at h;refine h v.toNat (by simp[List.mem_range'];omega) ?_;rw[show((v.toNat:Nat):Int)=v by omega,Zb6q.2 hv,Ye];exact hb
 .intro h;unfold Zeb;rw[List.map_eq_nil_iff,Ycs];intro n _ hb;simp only[Yc]at hb;unfold Zcr at h;rw[Ycs]at h;exact h _ (Zb6q.1 hb.1) hb.2
theorem Z6q(r:List Int)(rows:List (List Int))(c v:Int):has (colV (r::rows) c) v=(decide (r.getD c.toNat 0=v) || has (colV rows c) v):=by
 simp only[has,colV,Ys,Yck];rw[show decide (v=r.getD c.toNat 0)=decide (r.getD c.toNat 0=v) by simp[eq_comm]]
theorem l_s1{x:Zj}(a:ByteArray)(b:Int)(a':ByteArray)(b':Int)(out:List Int)(v:Int)(one:Bool)(r:AV×List Blk)(hr:(if(one && !(false))=true then out.length+1<=68719476736/\Zgf x (out++[v]) a b a' b' (w (v+1))=some r else Zgf x out a b a' b' (w (v+1))=some r)):Zqp x out a b a' b' v one false 0=some r:=by
 refine Zcp6 ?_;rw[if_neg (by omega)];cases one<;>simpa using hr
theorem l_s0{x:Zj}(a:ByteArray)(b:Int)(a':ByteArray)(b':Int)(out:List Int)(v:Int)(c:Bool)(r:AV×List Blk)(hr:Zqp x out a b a' b' v false c 0=some r):Zwf x out a b a' b' v false c 0=some r:=by
 refine Zcp4 ?_;rw[if_neg (by omega)];exact hr
theorem l_s2{x:Zj}(a:ByteArray)(b:Int)(a':ByteArray)(b':Int):∀u,u<=10->∀out:List Int,out.length<=u->Zgf x out a b a' b' u=some (.own 0,[.arr 3 1 true ((out++Zeb (colV ([]:List (List Int)) x.Column) (colV ([]:List (List Int)) x.IntoColumn) u).map ic)]):=by
 refine down _ ?_ ?_
 .intro out ho;refine Zb1o ?_;rw[if_neg (by omega)];simp[Zeb]
 .intro u hu ih out ho;have step:∀r,(if(false && !(false))=true then out.length+1<=68719476736/\Zgf x (out++[(u:Int)]) a b a' b' (w ((u:Int)+1))=some r else Zgf x out a b a' b' (w ((u:Int)+1))=some r)->Zgf x out a b a' b' u=some r:=by
   intro r hr;refine Zb1o ?_;rw[if_pos (by omega)];have q1:=l_s1 a b a' b' out u (false) r (by simpa using hr);exact l_s0 a b a' b' out u false r q1
  rw[Z6p hu,show w ((u:Int)+1)=((u+1:Nat):Int)from wS hu (by omega)]at *
  have e1:has (colV ([]:List (List Int)) x.Column) (u:Int)=false:=rfl;have e2:has (colV ([]:List (List Int)) x.IntoColumn) (u:Int)=false:=rfl;rw[e1,e2];refine step _ ?_;rcases tf (false && !(false))with e|e
  .rw[if_neg (by rw[e];simp),if_neg (by rw[e];simp),Yb2];exact ih _ (by omega)
  .rw[if_pos e,if_pos e];refine⟨by omega,?_⟩;rw[<-Yz];exact ih _ (by simp;omega)
theorem l_s1a{x:Zj}{B:List (List Int)}(hB:ColD B x.IntoColumn)(a:ByteArray)(b:Int)(a':ByteArray)(b':Int)(out:List Int)(v:Int)(c:Bool)(r:AV×List Blk):∀i,i<=B.length->∀two:Bool,(if(c && !(two || has (colV (B.drop i) x.IntoColumn) v))=true then out.length+1<=68719476736/\Zgg x (out++[v]) a b a' b' B (w (v+1))=some r else Zgg x out a b a' b' B (w (v+1))=some r)->Zm3 x out a b a' b' B v c two i=some r:=by
 have h8:=hB.len;refine down _ ?_ ?_
 .intro two hr;refine Zb1u ?_;rw[if_neg (by omega)];rw[Yg,show has (colV [] x.IntoColumn) v=false from rfl,Bool.or_false]at hr;cases c<;>cases two<;>simpa using hr
 .intro i hi ih two hr;obtain⟨⟨h1,h2⟩,_⟩:=hB.row _ (Yb hi);refine Zb1u ?_;rw[if_pos (by omega),wS hi (by omega)];rw[Yd hi,Z6q]at hr;rcases tf two with e|e
  .rw[if_neg (by rw[e];simp)];refine⟨by omega,_,gE hi,hB.c0,_,gD h1,ih _ ?_⟩;rw[e,Y7]at hr;exact hr
  .rw[if_pos e];refine ih true ?_;rw[e]at hr;simpa using hr
theorem l_s0a{x:Zj}{B:List (List Int)}(hB:ColD B x.IntoColumn)(a:ByteArray)(b:Int)(a':ByteArray)(b':Int)(out:List Int)(v:Int)(c:Bool)(r:AV×List Blk)(hr:Zm3 x out a b a' b' B v false c 0=some r):Zwg x out a b a' b' B v false c 0=some r:=by
 refine Zcp5 ?_;rw[if_neg (by omega)];exact hr
theorem l_s2a{x:Zj}{B:List (List Int)}(hB:ColD B x.IntoColumn)(a:ByteArray)(b:Int)(a':ByteArray)(b':Int):∀u,u<=10->∀out:List Int,out.length<=u->Zgg x out a b a' b' B u=some (.own 0,[.arr 3 1 true ((out++Zeb (colV ([]:List (List Int)) x.Column) (colV B x.IntoColumn) u).map ic)]):=by
 refine down _ ?_ ?_
 .intro out ho;refine Zb1p ?_;rw[if_neg (by omega)];simp[Zeb]
 .intro u hu ih out ho;have step:∀r,(if(false && !(has (colV B x.IntoColumn) (u:Int)))=true then out.length+1<=68719476736/\Zgg x (out++[(u:Int)]) a b a' b' B (w ((u:Int)+1))=some r else Zgg x out a b a' b' B (w ((u:Int)+1))=some r)->Zgg x out a b a' b' B u=some r:=by
   intro r hr;refine Zb1p ?_;rw[if_pos (by omega)];have q1:=l_s1a hB a b a' b' out u (false) r 0 (Ya _) false (by simpa using hr);exact l_s0a hB a b a' b' out u false r q1
  rw[Z6p hu,show w ((u:Int)+1)=((u+1:Nat):Int)from wS hu (by omega)]at *
  have e1:has (colV ([]:List (List Int)) x.Column) (u:Int)=false:=rfl;have e2:has (colV B x.IntoColumn) (u:Int)=has (colV B x.IntoColumn) (u:Int):=rfl;rw[e1,e2];refine step _ ?_;rcases tf (false && !(has (colV B x.IntoColumn) (u:Int)))with e|e
  .rw[if_neg (by rw[e];simp),if_neg (by rw[e];simp),Yb2];exact ih _ (by omega)
  .rw[if_pos e,if_pos e];refine⟨by omega,?_⟩;rw[<-Yz];exact ih _ (by simp;omega)
theorem l_s1b{x:Zj}{A:List (List Int)}(hA:ColD A x.Column)(a:ByteArray)(b:Int)(a':ByteArray)(b':Int)(out:List Int)(v:Int)(one:Bool)(r:AV×List Blk)(hr:(if(one && !(false))=true then out.length+1<=68719476736/\Zgh x (out++[v]) a b A a' b' (w (v+1))=some r else Zgh x out a b A a' b' (w (v+1))=some r)):Zqq x out a b A a' b' v one false 0=some r:=by
 refine Zcp7 ?_;rw[if_neg (by omega)];cases one<;>simpa using hr
theorem l_s0b{x:Zj}{A:List (List Int)}(hA:ColD A x.Column)(a:ByteArray)(b:Int)(a':ByteArray)(b':Int)(out:List Int)(v:Int)(c:Bool)(r:AV×List Blk):∀i,i<=A.length->∀one:Bool,Zqq x out a b A a' b' v (one || has (colV (A.drop i) x.Column) v) c 0=some r->Zqn x out a b A a' b' v one c i=some r:=by
 have h8:=hA.len;refine down _ ?_ ?_
 .intro one hr;refine Zb1s ?_;rw[if_neg (by omega)];rw[Yg,show has (colV [] x.Column) v=false from rfl,Bool.or_false]at hr;exact hr
 .intro i hi ih one hr;obtain⟨⟨h1,h2⟩,_⟩:=hA.row _ (Yb hi);refine Zb1s ?_;rw[if_pos (by omega),wS hi (by omega)];rw[Yd hi,Z6q]at hr;rcases tf one with e|e
  .rw[if_neg (by rw[e];simp)];refine⟨by omega,_,gE hi,hA.c0,_,gD h1,ih _ ?_⟩;rw[e,Y7]at hr;exact hr
  .rw[if_pos e];refine ih true ?_;rw[e]at hr;simpa using hr
theorem l_s2b{x:Zj}{A:List (List Int)}(hA:ColD A x.Column)(a:ByteArray)(b:Int)(a':ByteArray)(b':Int):∀u,u<=10->∀out:List Int,out.length<=u->Zgh x out a b A a' b' u=some (.own 0,[.arr 3 1 true ((out++Zeb (colV A x.Column) (colV ([]:List (List Int)) x.IntoColumn) u).map ic)]):=by
 refine down _ ?_ ?_
 .intro out ho;refine Zb1q ?_;rw[if_neg (by omega)];simp[Zeb]
 .intro u hu ih out ho;have step:∀r,(if(has (colV A x.Column) (u:Int) && !(false))=true then out.length+1<=68719476736/\Zgh x (out++[(u:Int)]) a b A a' b' (w ((u:Int)+1))=some r else Zgh x out a b A a' b' (w ((u:Int)+1))=some r)->Zgh x out a b A a' b' u=some r:=by
   intro r hr;refine Zb1q ?_;rw[if_pos (by omega)];have q1:=l_s1b hA a b a' b' out u (has (colV A x.Column) (u:Int)) r (by simpa using hr);exact l_s0b hA a b a' b' out u false r 0 (Ya _) false (by simpa using q1)
  rw[Z6p hu,show w ((u:Int)+1)=((u+1:Nat):Int)from wS hu (by omega)]at *
  have e1:has (colV A x.Column) (u:Int)=has (colV A x.Column) (u:Int):=rfl;have e2:has (colV ([]:List (List Int)) x.IntoColumn) (u:Int)=false:=rfl;rw[e1,e2];refine step _ ?_;rcases tf (has (colV A x.Column) (u:Int) && !(false))with e|e
  .rw[if_neg (by rw[e];simp),if_neg (by rw[e];simp),Yb2];exact ih _ (by omega)
  .rw[if_pos e,if_pos e];refine⟨by omega,?_⟩;rw[<-Yz];exact ih _ (by simp;omega)
theorem l_s1c{x:Zj}{A:List (List Int)}(hA:ColD A x.Column){B:List (List Int)}(hB:ColD B x.IntoColumn)(a:ByteArray)(b:Int)(a':ByteArray)(b':Int)(out:List Int)(v:Int)(c:Bool)(r:AV×List Blk):∀i,i<=B.length->∀two:Bool,(if(c && !(two || has (colV (B.drop i) x.IntoColumn) v))=true then out.length+1<=68719476736/\Zgi x (out++[v]) a b A a' b' B (w (v+1))=some r else Zgi x out a b A a' b' B (w (v+1))=some r)->Zm4 x out a b A a' b' B v c two i=some r:=by
 have h8:=hB.len;refine down _ ?_ ?_
 .intro two hr;refine Zb1v ?_;rw[if_neg (by omega)];rw[Yg,show has (colV [] x.IntoColumn) v=false from rfl,Bool.or_false]at hr;cases c<;>cases two<;>simpa using hr
 .intro i hi ih two hr;obtain⟨⟨h1,h2⟩,_⟩:=hB.row _ (Yb hi);refine Zb1v ?_;rw[if_pos (by omega),wS hi (by omega)];rw[Yd hi,Z6q]at hr;rcases tf two with e|e
  .rw[if_neg (by rw[e];simp)];refine⟨by omega,_,gE hi,hB.c0,_,gD h1,ih _ ?_⟩;rw[e,Y7]at hr;exact hr
  .rw[if_pos e];refine ih true ?_;rw[e]at hr;simpa using hr
theorem l_s0c{x:Zj}{A:List (List Int)}(hA:ColD A x.Column){B:List (List Int)}(hB:ColD B x.IntoColumn)(a:ByteArray)(b:Int)(a':ByteArray)(b':Int)(out:List Int)(v:Int)(c:Bool)(r:AV×List Blk):∀i,i<=A.length->∀one:Bool,Zm4 x out a b A a' b' B v (one || has (colV (A.drop i) x.Column) v) c 0=some r->Zqo x out a b A a' b' B v one c i=some r:=by
 have h8:=hA.len;refine down _ ?_ ?_
 .intro one hr;refine Zb1t ?_;rw[if_neg (by omega)];rw[Yg,show has (colV [] x.Column) v=false from rfl,Bool.or_false]at hr;exact hr
 .intro i hi ih one hr;obtain⟨⟨h1,h2⟩,_⟩:=hA.row _ (Yb hi);refine Zb1t ?_;rw[if_pos (by omega),wS hi (by omega)];rw[Yd hi,Z6q]at hr;rcases tf one with e|e
  .rw[if_neg (by rw[e];simp)];refine⟨by omega,_,gE hi,hA.c0,_,gD h1,ih _ ?_⟩;rw[e,Y7]at hr;exact hr
  .rw[if_pos e];refine ih true ?_;rw[e]at hr;simpa using hr
theorem l_s2c{x:Zj}{A:List (List Int)}(hA:ColD A x.Column){B:List (List Int)}(hB:ColD B x.IntoColumn)(a:ByteArray)(b:Int)(a':ByteArray)(b':Int):∀u,u<=10->∀out:List Int,out.length<=u->Zgi x out a b A a' b' B u=some (.own 0,[.arr 3 1 true ((out++Zeb (colV A x.Column) (colV B x.IntoColumn) u).map ic)]):=by
 refine down _ ?_ ?_
 .intro out ho;refine Zb1r ?_;rw[if_neg (by omega)];simp[Zeb]
 .intro u hu ih out ho;have step:∀r,(if(has (colV A x.Column) (u:Int) && !(has (colV B x.IntoColumn) (u:Int)))=true then out.length+1<=68719476736/\Zgi x (out++[(u:Int)]) a b A a' b' B (w ((u:Int)+1))=some r else Zgi x out a b A a' b' B (w ((u:Int)+1))=some r)->Zgi x out a b A a' b' B u=some r:=by
   intro r hr;refine Zb1r ?_;rw[if_pos (by omega)];have q1:=l_s1c hA hB a b a' b' out u (has (colV A x.Column) (u:Int)) r 0 (Ya _) false (by simpa using hr);exact l_s0c hA hB a b a' b' out u false r 0 (Ya _) false (by simpa using q1)
  rw[Z6p hu,show w ((u:Int)+1)=((u+1:Nat):Int)from wS hu (by omega)]at *
  have e1:has (colV A x.Column) (u:Int)=has (colV A x.Column) (u:Int):=rfl;have e2:has (colV B x.IntoColumn) (u:Int)=has (colV B x.IntoColumn) (u:Int):=rfl;rw[e1,e2];refine step _ ?_;rcases tf (has (colV A x.Column) (u:Int) && !(has (colV B x.IntoColumn) (u:Int)))with e|e
  .rw[if_neg (by rw[e];simp),if_neg (by rw[e];simp),Yb2];exact ih _ (by omega)
  .rw[if_pos e,if_pos e];refine⟨by omega,?_⟩;rw[<-Yz];exact ih _ (by simp;omega)
theorem Zcwe{d:Zi}(h:LeD d)(x:Zj):Z2z d x=some (Bo (Zg5 d x),[]):=by
 refine Zcp9 ⟨_,Zb6n h x,?_⟩;unfold Zg5;rcases tf (Zjk d x)with hv|hv
 .rw[hv];rfl
 obtain⟨a,b,h1,h2,hA,hB⟩:=inc_of hv;rw[hv,if_pos rfl,Ye,h1,h2];have l1:=Zn2 d h x.Name;have l2:=Zn2 d h x.Into;rw[h1]at l1;rw[h2]at l2;simp only[Zh1]at l1 l2;refine⟨Zeb (colV a.Rows x.Column) (colV b.Rows x.IntoColumn) 0,Zcp8 ⟨_,Zb6n h x,?_⟩,?_⟩
 .rw[hv,if_pos rfl];by_cases e1:a.Rows=[]
  .rw[if_pos e1]at l1;rw[e1];by_cases e2:b.Rows=[]
   .rw[if_pos e2]at l2;rw[e2];exact .inl ⟨_,_,_,l1,.inl ⟨_,_,_,l2,l_s2 _ _ _ _ 0 (by omega) [] (by simp)⟩⟩
   .rw[if_neg e2]at l2;exact .inl ⟨_,_,_,l1,.inr ⟨_,_,_,l2,l_s2a hB _ _ _ _ 0 (by omega) [] (by simp)⟩⟩
  .rw[if_neg e1]at l1;by_cases e2:b.Rows=[]
   .rw[if_pos e2]at l2;rw[e2];exact .inr ⟨_,_,_,l1,.inl ⟨_,_,_,l2,l_s2b hA _ _ _ _ 0 (by omega) [] (by simp)⟩⟩
   .rw[if_neg e2]at l2;exact .inr ⟨_,_,_,l1,.inr ⟨_,_,_,l2,l_s2c hA hB _ _ _ _ 0 (by omega) [] (by simp)⟩⟩
 .have:=Zcwd (B:=colV b.Rows x.IntoColumn) (colV_in hA);by_cases e:Zcr (colV a.Rows x.Column) (colV b.Rows x.IntoColumn)=[]
  .rw[this.2 e];simp[e]
  .have e2:¬Zeb (colV a.Rows x.Column) (colV b.Rows x.IntoColumn) 0=[]:=λhc=>e (this.1 hc)
   have e5:(Zcr (colV a.Rows x.Column) (colV b.Rows x.IntoColumn)).isEmpty=false:=List.isEmpty_eq_false_iff.2 e;simp[e2,e5]
noncomputable def Zy2(d:Zi)(fs:List Zk)(xs:List Zj):Bool:=fs.all (Zjj d) && xs.all (Zg5 d) && (decide (fs.length<=8) && decide (xs.length<=8))
abbrev LeF(fs:List Zk):Prop:=Le fs/\∀f∈fs,f.From.length<=4294967296
theorem Zcwf{d:Zi}(h:LeD d)(fs:List Zk)(xs:List Zj)(hx:Le xs):∀i,i<=xs.length->Zt5 d fs xs xs xs.length i=some (Bo ((xs.drop i).all (Zg5 d) && (decide (fs.length<=8) && decide (xs.length<=8))),[]):=by
 refine down _ ?_ ?_
 .refine Zbzl ?_;rw[if_neg (by omega),Yg];by_cases e:fs.length<=8
  .rw[if_pos (by omega)];simp[e];omega
  .rw[if_neg (by omega)];simp[e]
 .intro i hi ih;refine Zbzl ?_;rw[if_pos (by omega),wS hi hx,Yd hi,Y5];refine⟨by omega,_,gE hi,_,Zcwc h _,?_⟩;rcases tf (Zg5 d xs[i])with e|e
  .rw[e];simp
  .rw[e,if_pos rfl,ih];simp
theorem Zb6r{d:Zi}(h:LeD d){fs:List Zk}(hf:LeF fs){xs:List Zj}(hx:Le xs):Zph d fs xs=some (Bo (Zy2 d fs xs),[]):=by
 have main:∀i,i<=fs.length->Zt4 d fs xs fs fs.length i=some (Bo ((fs.drop i).all (Zjj d) && xs.all (Zg5 d) && (decide (fs.length<=8) && decide (xs.length<=8))),[]):=by
  refine down _ ?_ ?_
  .refine Zbzk ?_;rw[if_neg (by omega),Yg];simpa using Zcwf h fs xs hx 0 (Ya _)
  .intro i hi ih;refine Zbzk ?_;rw[if_pos (by omega),wS hi hf.1,Yd hi,Y5];refine⟨by omega,_,gE hi,_,Zcv8 h _ (hf.2 _ (Yb hi)),?_⟩;rcases tf (Zjj d fs[i])with e|e
   .rw[e];simp
   .rw[e,if_pos rfl,ih];simp
 exact Zcm4 (by simpa[Zy2]using main 0 (Ya _))
theorem Zcwg{d:Zi}(h:LeD d)(xs:List Zj)(hx:Le xs):∀i,i<=xs.length->Zwj d xs i=some (Bo ((xs.drop i).all (Zg5 d)),[]):=by
 refine down _ ?_ ?_
 .refine Zb1x ?_;rw[if_neg (by omega),Yg];rfl
 .intro i hi ih;refine Zb1x ?_;rw[if_pos (by omega),wS hi hx,Yd hi,Y5];refine⟨by omega,_,gE hi,_,Zcwe h _,?_⟩;rcases tf (Zg5 d xs[i])with e|e
  .rw[e];simp
  .rw[e,if_pos rfl,ih];simp
theorem Zb6s{d:Zi}(h:LeD d){fs:List Zk}(hf:LeF fs){xs:List Zj}(hx:Le xs):Zqr d fs xs=some (Bo (Zy2 d fs xs),[]):=by
 have main:∀i,i<=fs.length->Zwi d fs xs i=some (Bo ((fs.drop i).all (Zjj d) && xs.all (Zg5 d)),[]):=by
  refine down _ ?_ ?_
  .refine Zb1w ?_;rw[if_neg (by omega),Yg];simpa using Zcwg h xs hx 0 (Ya _)
  .intro i hi ih;refine Zb1w ?_;rw[if_pos (by omega),wS hi hf.1,Yd hi,Y5];refine⟨by omega,_,gE hi,_,Zcv9 h _ (hf.2 _ (Yb hi)),?_⟩;rcases tf (Zjj d fs[i])with e|e
   .rw[e];simp
   .rw[e,if_pos rfl,ih];simp
 refine Zcqa ?_;unfold Zy2;by_cases e1:fs.length<=8
 .rw[if_neg (by omega)];by_cases e2:xs.length<=8
  .rw[if_neg (by omega)];simpa[e1,e2]using main 0 (Ya _)
  .rw[if_pos (by omega)];simp[e2]
 .rw[if_pos (by omega)];simp[e1]
structure Zcs (s:Zf):Prop where
 d:LeD s.Zi
 k:LeK s.Zl
 f:LeF s.Dependencies
 x:Le s.Inclusions
noncomputable def Zh7(s:Zf):Bool:=Zb6 s.Zi && inR s.Zl.Version 1 999 && decide (s.Zi.Tables.map Zt=s.Zl.Tables) && Zy2 s.Zi s.Dependencies s.Inclusions
theorem Zb6t{d:Zi}(hv:Zb6 d=true):(d.Tables.map Zt).length<=4294967296/\∀s∈d.Tables.map Zt,LeS s:=by
 have h6:=Zy1 hv;refine⟨by simp;omega,λs hs=>?_⟩;obtain⟨t,ht,rfl⟩:=Yr.1 hs;have hT:=Zfb hv ht;have h7:=Zlr (Zce hT);have h8:=Zd8 hT;refine⟨by simp[Zt];omega,λg hg=>?_⟩;obtain⟨c,hc,rfl⟩:=Yr.1 hg;have hc3:=(Zbkn (Zce hT) c hc).1;have hg:=Z6m t.Rows c;refine⟨by simp only[grp];omega,⟨by simp only[grp];omega,λr hr=>?_⟩,by simp only[grp,grpN,Yo];omega⟩;have:=Zbko hr;omega
theorem Zb6u{s:Zf}(h:Zcs s):Zpi s=some (Bo (Zh7 s),[]):=by
 have hb:=Zcvr h.d s.Zl.Version;refine Zcnd ?_;unfold Zh7;unfold catF at hb;rcases tf (Zb6 s.Zi && inR s.Zl.Version 1 999)with e|e
 .rw[e]at hb|-;exact .inl ⟨_,_,hb,by simp⟩
 .rw[e]at hb|-;rw[if_pos rfl]at hb;rw[Ye];have hv:Zb6 s.Zi=true:=by simp only[Yc]at e;exact e.1
  by_cases e0:s.Zi.Tables=[]
  .rw[if_pos e0]at hb;refine .inl ⟨_,_,hb,?_⟩;rw[if_pos rfl];refine⟨_,Zcvw _ _,?_⟩;have q:Zea s.Zl.Version [] s.Zl=decide (s.Zi.Tables.map Zt=s.Zl.Tables):=by simp[Zea,e0]
   rw[q];rcases tf (decide (s.Zi.Tables.map Zt=s.Zl.Tables))with e2|e2
   .rw[e2];simp
   .rw[e2,if_pos rfl];exact⟨_,Zb6r h.d h.f h.x,by simp⟩
  .rw[if_neg e0]at hb;refine .inr ⟨_,_,_,hb,_,Zcvx _ _ _ (Zb6t hv),?_⟩;have q:Zea s.Zl.Version (s.Zi.Tables.map Zt) s.Zl=decide (s.Zi.Tables.map Zt=s.Zl.Tables):=by simp[Zea]
   rw[q];rcases tf (decide (s.Zi.Tables.map Zt=s.Zl.Tables))with e2|e2
   .rw[e2];simp
   .rw[e2,if_pos rfl];exact⟨_,Zb6r h.d h.f h.x,by simp⟩
theorem Zcwh{s:Zf}(h:Zcs s):Zwm s=some (Bo (Zh7 s),[]):=by
 have hb:=Zcvt h.d s.Zl.Version;refine Zcqd ?_;unfold Zh7;unfold catF at hb;rcases tf (Zb6 s.Zi && inR s.Zl.Version 1 999)with e|e
 .rw[e]at hb|-;exact .inl ⟨_,_,hb,by simp⟩
 .rw[e]at hb|-;rw[if_pos rfl]at hb;rw[Ye];have hv:Zb6 s.Zi=true:=by simp only[Yc]at e;exact e.1
  by_cases e0:s.Zi.Tables=[]
  .rw[if_pos e0]at hb;refine .inl ⟨_,_,hb,?_⟩;rw[if_pos rfl];refine⟨_,Zcv1 _ _,?_⟩;have q:Zea s.Zl.Version [] s.Zl=decide (s.Zi.Tables.map Zt=s.Zl.Tables):=by simp[Zea,e0]
   rw[q];rcases tf (decide (s.Zi.Tables.map Zt=s.Zl.Tables))with e2|e2
   .rw[e2];simp
   .rw[e2,if_pos rfl];exact⟨_,Zb6s h.d h.f h.x,by simp⟩
  .rw[if_neg e0]at hb;refine .inr ⟨_,_,_,hb,_,Zcv2 _ _ _ (Zb6t hv) h.k,?_⟩;have q:Zea s.Zl.Version (s.Zi.Tables.map Zt) s.Zl=decide (s.Zi.Tables.map Zt=s.Zl.Tables):=by simp[Zea]
   rw[q];rcases tf (decide (s.Zi.Tables.map Zt=s.Zl.Tables))with e2|e2
   .rw[e2];simp
   .rw[e2,if_pos rfl];exact⟨_,Zb6s h.d h.f h.x,by simp⟩
abbrev Lf{α:Type}(xs:List α):Prop:=xs.length<=4294967296
abbrev LfT(t:Ze):Prop:=Lf t.Rows/\∀r∈t.Rows,Lf r
abbrev LfD(d:Zi):Prop:=Lf d.Tables/\∀t∈d.Tables,LfT t
abbrev LfF(fs:List Zk):Prop:=Lf fs/\∀f∈fs,Lf f.From
structure LfS (s:Zf):Prop where
 d:LfD s.Zi
 k:LeK s.Zl
 f:LfF s.Dependencies
 x:Lf s.Inclusions
theorem LfS.le{s:Zf}(h:LfS s):Zcs s :=
 ⟨⟨by have:=h.d.1;omega,λt ht=>⟨by have:=(h.d.2 t ht).1;omega,λr hr=>by have:=(h.d.2 t ht).2 r hr;omega⟩⟩,h.k,⟨by have:=h.f.1;omega,λx hx=>by have:=h.f.2 x hx;omega⟩,by have:=h.x;omega⟩
theorem tkS{α:Type}{xs:List α}{i:Nat}(h:i<xs.length):xs.take i++[xs[i]]=xs.take (i+1):=(Y1 h).symm
theorem tk1{α:Type}{xs:List α}(h:0<xs.length):[xs[0]]=xs.take 1:=by
 rw[<-tkS h];rfl
theorem w01:w (0+1)=((1:Nat):Int):=by decide
theorem tkl{α:Type}{xs:List α}{i:Nat}(h:i<xs.length)(hl:xs.length<=4294967296):(xs.take i).length+1<=68719476736:=by
 rw[Yp];omega
theorem tks{α:Type}{xs:List α}(h:xs.length<=4294967296):xs.length<=68719476736:=by omega
theorem l_cRows(xs:List (List Int))(hl:Lf xs)(hr:∀r∈xs,Lf r):∀i,i<=xs.length->Zo8 (xs.take i) xs xs.length i=some (.own 0,[.arr 56 1 true (xs.map isc)]):=by
 refine down _ ?_ ?_
 .refine Z5p ?_;rw[if_neg (by omega),Yl]
 .intro i hi ih;refine Z5p ?_;rw[if_pos (by omega),wS hi (by omega)];rw[<-tkS hi]at ih;exact⟨by omega,_,gE hi,_,Zyt _ (tks (hr _ (Yb hi))),tkl hi hl,ih⟩
theorem x_cRows(xs:List (List Int))(hl:Lf xs)(hr:∀r∈xs,Lf r):Zhn xs=some (.own 0,[.arr 56 1 true (xs.map isc)]) :=
 Zby7 (by simpa using l_cRows xs hl hr 0 (Ya _))
theorem l_cStats(s:Zg)(h:LeS s)(a:ByteArray)(b c:Int):∀i,i<=s.Groups.length->Zue s a b c (s.Groups.take i) s.Groups s.Groups.length i=some (.agg [.t (.str s.Name),I s.Arity,I s.RowCount,.own 0],[.arr 200 3 true (s.Groups.map Zh.c)]):=by
 have hl:=h.1;refine down _ ?_ ?_
 .refine Zbzu ?_;rw[if_neg (by omega),Yl]
 .intro i hi ih;refine Zbzu ?_;rw[if_pos (by omega),wS hi (by omega)];rw[<-tkS hi]at ih;have g:=h.2 _ (Yb hi);exact⟨by omega,_,gE hi,_,Zyt _ (tks g.1),_,x_cRows _ g.2.1.1 g.2.1.2,_,Zyt _ (tks g.2.2),tkl hi hl,ih⟩
theorem x_cStats(s:Zg)(h:LeS s):Z1i s=some (.agg [.t (.str s.Name),I s.Arity,I s.RowCount,.own 0],[.arr 200 3 true (s.Groups.map Zh.c)]) :=
 Zcnn (by simpa using l_cStats s h ⟨#[]⟩ 0 0 0 (Ya _))
theorem l_s13(s:Zg)(h:LeS s)(a:ByteArray)(b c:Int)(r:AV×List Blk){i:Nat}(hi:i<s.Groups.length)(cc:Zhv s a b c s.Name s.Arity s.RowCount (s.Groups.take (i+1)) ((i+1:Nat):Int)=some r) :
  (∀k,k<=s.Groups[i].Values.length->Zwr s a b c s.Name s.Arity s.RowCount (s.Groups.take i) s.Groups[i].Columns (s.Groups[i].Values.take k) s.Groups[i].Counts i k=some r):=by
 have hl:=h.1;have g:=h.2 _ (Yb hi);have hv:=g.2.1.1;refine down _ ?_ ?_
 .refine Zb17 ⟨by omega,_,gE hi,?_⟩;rw[if_neg (by omega),Yl,wS hi (by omega)];rw[<-tkS hi]at cc;exact⟨tkl hi hl,cc⟩
 .intro k hk ih;refine Zb17 ⟨by omega,_,gE hi,?_⟩;rw[if_pos (by omega),wS hk (by omega)];rw[<-tkS hk]at ih;exact⟨by omega,_,gE hk,tks (g.2.1.2 _ (Yb hk)),tkl hk hv,ih⟩
theorem l_s13b(s:Zg)(h:LeS s)(a:ByteArray)(b c:Int):∀i,i<=s.Groups.length->Zhv s a b c s.Name s.Arity s.RowCount (s.Groups.take i) i=some (.agg [.t (.str s.Name),I s.Arity,I s.RowCount,.own 0],[.arr 200 3 true (s.Groups.map Zh.c)]):=by
 have hl:=h.1;refine down _ ?_ ?_
 .refine Zb16 ?_;rw[if_neg (by omega),Yl]
 .intro i hi ih;have g:=h.2 _ (Yb hi);have hv:=g.2.1.1;refine Zb16 ?_;rw[if_pos (by omega)];refine⟨by omega,_,gE hi,tks g.1,tks g.2.2,Zcqq ⟨by omega,_,gE hi,?_⟩⟩;by_cases e:s.Groups[i].Values=[]
  .rw[if_neg (by rw[e];simp),wS hi (by omega)];rw[<-tkS hi]at ih;refine⟨tkl hi hl,?_⟩;rw[<-ih];congr 3;exact Zh.ext rfl e.symm rfl
  .have h0:0<s.Groups[i].Values.length:=Yba.2 e;rw[if_pos (by omega),w01];have:=l_s13 s h a b c _ hi ih 1 h0;rw[<-tk1 h0]at this;exact⟨by omega,_,gE (i:=0) h0,tks (g.2.1.2 _ (Yb h0)),this⟩
theorem l_s13c(s:Zg)(h:LeS s)(r:AV×List Blk)(hi:0<s.Groups.length)(c:Zhv s ⟨#[]⟩ 0 0 s.Name s.Arity s.RowCount (s.Groups.take 1) ((1:Nat):Int)=some r) :
  ∀k,k<=s.Groups[0].Values.length->Zwq s ⟨#[]⟩ 0 0 s.Name s.Arity s.RowCount s.Groups[0].Columns (s.Groups[0].Values.take k) s.Groups[0].Counts 0 k=some r:=by
 have hl:=h.1;have g:=h.2 _ (Yb hi);have hv:=g.2.1.1;refine down _ ?_ ?_
 .refine Zb15 ⟨by omega,_,gE (i:=0) hi,?_⟩;rw[if_neg (by omega),Yl,w01];rw[<-tk1 hi]at c;exact c
 .intro k hk ih;refine Zb15 ⟨by omega,_,gE (i:=0) hi,?_⟩;rw[if_pos (by omega),wS hk (by omega)];rw[<-tkS hk]at ih;exact⟨by omega,_,gE hk,tks (g.2.1.2 _ (Yb hk)),tkl hk hv,ih⟩
theorem x_s13(s:Zg)(h:LeS s):Z3b s=some (.agg [.t (.str s.Name),I s.Arity,I s.RowCount,.own 0],[.arr 200 3 true (s.Groups.map Zh.c)]):=by
 have hl:=h.1;refine Zcqr (Zcqo ?_);by_cases e0:s.Groups=[]
 .rw[if_neg (by rw[e0];simp),e0]
 .have hi:0<s.Groups.length:=Yba.2 e0;have g:=h.2 _ (Yb hi);have ih:=l_s13b s h ⟨#[]⟩ 0 0 1 hi;rw[if_pos (by omega)];refine⟨by omega,_,gE (i:=0) hi,tks g.1,tks g.2.2,Zcqp ⟨by omega,_,gE (i:=0) hi,?_⟩⟩;by_cases e:s.Groups[0].Values=[]
  .rw[if_neg (by rw[e];simp),w01];rw[<-tk1 hi]at ih;rw[<-ih];congr 2;exact Zh.ext rfl e.symm rfl
  .have h0:0<s.Groups[0].Values.length:=Yba.2 e;rw[if_pos (by omega),w01];have:=l_s13c s h _ hi ih 1 h0;rw[<-tk1 h0]at this;exact⟨by omega,_,gE (i:=0) h0,tks (g.2.1.2 _ (Yb h0)),this⟩
theorem cmpR_lt{a b c:List Int}(h1:cmpR a b<0)(h2:cmpR b c<0):cmpR a c<0:=by
 have h:=Zn3 a b c (by omega) (by omega);rcases Yc8 h with h|h
 .exact h
 .have:=Zfc _ _ h;subst this;have:=Zey a b;omega
theorem Zb6v:∀{l:List (List Int)} {p:Option (List Int)},adjL ltR p l=true->AscR l/\∀q,p=some q->∀x∈l,cmpR q x<0
 |[],p,_=>⟨List.Pairwise.nil,λq _ x hx=>by cases hx⟩
 |a::l,p,h=>by
  simp only[adjL,Yc]at h;obtain⟨h1,h2⟩:=Zb6v h.2;have h3:=h2 a rfl;refine⟨Ybm.2 ⟨h3,h1⟩,λq hq x hx=>?_⟩;subst hq;have h4:cmpR q a<0:=by simpa[nxt,ltR]using h.1
  rcases Yx.1 hx with rfl|hx
  .exact h4
  .exact cmpR_lt h4 (h3 x hx)
theorem Zb6w{t:Ze}(h:Z3 t=true):ansR t.Rows=t.Rows:=by
 unfold Z3 at h;simp only[Yc]at h;exact Z6i (Zbkm _) (Zb6v h.2.2).1 λx=>Z6j _ _
def allC(n:Int):List Int:=if n=1 then[0]else if n=2 then[0,1]else[0,1,2]
theorem Zb6x{t:Ze}(h:Z3 t=true){r:List Int}(hr:r∈t.Rows):(r.length:Int)=t.Arity:=by
 unfold Z3 at h;simp only[Yc]at h;have h1:=Yn.1 h.2.1 r hr;unfold rwB at h1;simp only[Yc,decide_eq_true_eq]at h1;exact h1.2
theorem sel_all{n:Int}(h:inR n 1 3=true){r:List Int}(hr:(r.length:Int)=n):selC r (allC n)=r:=by
 have h':=Zy.1 h
 match r with
 |[a] =>
  obtain rfl:n=1:=by simpa using hr.symm
  rfl
 |[a,b] =>
  obtain rfl:n=2:=by simpa using hr.symm
  rfl
 |[a,b,c] =>
  obtain rfl:n=3:=by simpa using hr.symm
  rfl
 |[]=>simp at hr;omega
 |_::_::_::_::_=>simp at hr;omega
theorem Zb6y{t:Ze}(h:Z3 t=true):grpV t.Rows (allC t.Arity)=t.Rows:=by
 unfold grpV
 have:selT t.Rows (allC t.Arity)=t.Rows:=by
  unfold selT;refine(Ybw λr hr=>sel_all (Zce h) (Zb6x h hr)).trans (List.map_id _)
 rw[this,Zb6w h]
theorem Zb6z{t:Ze}(h:Z3 t=true):(Zt t).Groups[((((Zt t).Groups.length:Int)-1)).toNat]?=some (grp t.Rows (allC t.Arity)):=by
 have h':=Zy.1 (Zce h)
 have:t.Arity=1\/t.Arity=2\/t.Arity=3:=by omega
 unfold Zt subs allC;rcases this with e|e|e<;>simp[e]
theorem Zb60{t:Ze}(h:Z3 t=true):0<(Zt t).Groups.length/\(Zt t).Groups.length<=7:=by
 have:=Zlr (Zce h);simpa[Zt]using this
theorem Zy3{t:Ze}(hT:Z3 t=true):LeS (Zt t):=by
 have h7:=Zlr (Zce hT);have h8:=Zd8 hT;refine⟨by simp[Zt];omega,λg hg=>?_⟩;obtain⟨c,hc,rfl⟩:=Yr.1 hg;have hc3:=(Zbkn (Zce hT) c hc).1;have hg:=Z6m t.Rows c;refine⟨by simp only[grp];omega,⟨by simp only[grp];omega,λr hr=>?_⟩,by simp only[grp,grpN,Yo];omega⟩;have:=Zbko hr;omega
theorem row4{t:Ze}(h:Z3 t=true):∀r∈t.Rows,r.length<=4:=λr hr=>by
 have:=Zb6x h hr;have:=Zy.1 (Zce h);omega
theorem Zb61{t:Ze}(h:LeT t)(hv:Z3 t=true):Zkg (Zt t)=some (.tup [.agg [.t (.str t.Name),I t.Arity,L 1 (t.Rows.map isc)],Bo true],[]):=by
 have h7:=Zb60 hv;have h8:=Zd8 hv;refine Zcnl ?_;rw[if_pos (by omega),w_in (x:=((Zt t).Groups.length:Int)-1) ⟨by omega,by omega⟩];refine⟨by omega,_,Zb6z hv,t.Rows,?_,true,?_,?_⟩
 .rw[show(grp t.Rows (allC t.Arity)).Values=t.Rows from Zb6y hv];exact Zbj9 _ (row4 hv) (by omega)
 .have:=Z55 t h;rw[hv]at this;exact this
 .rw[if_pos rfl];refine .inr ⟨_,_,_,_,_,Zbku h hv,true,?_,rfl⟩;have:=Zb6g (Zt t) (Zt t) (Zy3 hv);rw[decide_eq_true rfl]at this;exact this
theorem Zb62{t:Ze}(h:LeT t)(hv:Z3 t=true):Zpl (Zt t)=some (Bo true,[]):=Zcnm (.inl ⟨t,true,Zb61 h hv,rfl⟩)
theorem l_nt{t:Ze}(h:LeT t)(hv:Z3 t=true)(a:ByteArray)(b:Int):∀i,i<=t.Rows.length->∀acc:List (List Int),acc.length<=i->(∀x∈acc,x.length<=4)->Zlp acc (t.Rows.drop i)=t.Rows->Zwp a b t.Name t.Arity acc t.Rows i=some (.tup [.agg [.t (.str t.Name),I t.Arity,.own 0],Bo true],[.arr 56 1 true (t.Rows.map isc)]):=by
 have h8:=Zd8 hv;refine down _ ?_ ?_
 .intro acc ha h4 he;refine Zb14 ?_;rw[Yg]at he;have he:acc=t.Rows:=he;subst he;rw[if_neg (by omega)];have:=Z56 t h;rw[hv]at this;exact⟨true,this,by rw[if_pos rfl]⟩
 .intro i hi ih acc ha h4 he;refine Zb14 ?_;rw[Yd hi]at he;have hr4:=row4 hv _ (Yb hi);have hp:=Z6l acc t.Rows[i] false;rw[if_pos (by omega),if_pos (by omega),wS hi (by omega)];refine⟨by omega,_,gE hi,_,x_put1 (by omega) h4 hr4,ih _ (by omega) (λx hx=>?_) he⟩;rcases(Zsd _ _ _).1 hx with hx|rfl
  .exact h4 x hx
  .exact hr4
theorem x_put0(row:List Int)(hr:row.length<=4):Z26 row=some (.own 0,[.arr 56 1 true ((putR [] row false).map isc)]):=by
 refine Zcqj ?_;refine Zcqi ?_;simp[putR];omega
theorem Zcwi{t:Ze}(hv:Z3 t=true):Zm2 t.Name t.Arity=some (Bo true,[]):=by
 unfold Z3 at hv;simp only[Yc]at hv;refine Zb1i ⟨_,Zbjy _,?_⟩;rw[hv.1.1.1,if_pos rfl];refine⟨_,Z8 _ _ _,?_⟩;rw[hv.1.1.2,if_pos rfl];refine Zb1h ?_;rw[if_neg (by omega)]
theorem x_NewT{t:Ze}(h:LeT t)(hv:Z3 t=true):Z29 t.Name t.Arity t.Rows=some (.tup [.agg [.t (.str t.Name),I t.Arity,.own 0],Bo true],[.arr 56 1 true (t.Rows.map isc)]):=by
 have h8:=Zd8 hv;refine Zcql ?_;refine Zcqk ?_;have hp:=Zb58 t.Rows;rw[Zb6w hv]at hp;by_cases h0:t.Rows=[]
 .rw[if_neg (by rw[h0];simp)];refine⟨true,?_,by rw[if_pos rfl,h0]⟩;exact Zcwi hv
 .have hl:0<t.Rows.length:=Yba.2 h0;rw[if_pos (by omega),show w (0+1)=((0+1:Nat):Int) by decide];have hr4:=row4 hv _ (Yb hl);refine⟨by omega,_,gE (i:=0) hl,_,x_put0 _ hr4,l_nt h hv _ _ (0+1) (by omega) _ ?_ ?_ ?_⟩
  .exact Z6l [] _ _
  .intro x hx;rcases(Zsd _ _ _).1 hx with hx|rfl
   .cases hx
   .exact hr4
  .have e:t.Rows=t.Rows[0]::t.Rows.drop (0+1):=by
    have:=Yd hl
    rwa [Yq]at this
   rw[e]at hp;exact hp.trans e.symm
theorem x_13T{t:Ze}(h:LeT t)(hv:Z3 t=true):Z3a (Zt t)=some (.tup [.agg [.t (.str t.Name),I t.Arity,.own 0],Bo true],[.arr 56 1 true (t.Rows.map isc)]):=by
 have h7:=Zb60 hv;refine Zcqm ?_;rw[if_neg (by omega),w_in (x:=((Zt t).Groups.length:Int)-1) ⟨by omega,by omega⟩];refine⟨by omega,_,Zb6z hv,_,_,_,_,?_,rfl⟩;rw[show(grp t.Rows (allC t.Arity)).Values=t.Rows from Zb6y hv];exact x_NewT h hv
theorem Zbkw{t:Ze}(h:LeT t)(hv:Z3 t=true):Ziw (Zt t)=some (Bo true,[]):=by
 refine Zcqn ⟨_,_,_,_,x_13T h hv,?_⟩;rw[if_pos rfl];refine .inr ⟨_,_,_,_,_,Zbkv h hv,true,?_,rfl⟩;have:=Zb6h (Zt t) (Zt t) (Zy3 hv) (Zy3 hv);rw[decide_eq_true rfl]at this;exact this
def degS(t:Ze)(cols:List Int):List Int:=(srtI (grpN t.Rows cols)).reverse
def revO(l:List Int)(i k:Nat):Int:=if k<i\/l.length-1-k<i then l.getD (l.length-1-k) 0 else l.getD k 0
theorem l_rev(l:List Int)(hl:l.length<=1000):∀(m i:Nat) (s:List Int),m+2*i=l.length->s.length=l.length->(∀k,k<l.length->s.getD k 0=revO l i k)->Zuj s i ((l.length:Int)-1-i)=some (.tup [],[.arr 3 1 true (l.reverse.map ic)]):=by
 intro m
 induction m using Nat.strongRecOn with
 |_ m ih =>
  intro i s hm hs hk;refine Zcnu ?_;by_cases c:(i:Int)<(l.length:Int)-1-i
  .have hj:((l.length:Int)-1-i).toNat=l.length-1-i:=by omega
   rw[if_pos c,hj,Yh,w_in (x:=(i:Int)+1) ⟨by omega,by omega⟩,w_in (x:=(l.length:Int)-1-i-1) ⟨by omega,by omega⟩];refine⟨by omega,_,gD (show l.length-1-i<s.length by omega),by omega,_,gD (show i<s.length by omega),_,gD (by rw[Y9];omega),?_⟩
   have:=ih (m-2) (by omega) (i+1) ((s.set i (s.getD (l.length-1-i) 0)).set (l.length-1-i) (s.getD i 0)) (by omega) (by simp[hs]) (λk hk'=>by
    have h1:=hk k hk';have h2:=hk i (by omega);have h3:=hk (l.length-1-i) (by omega);unfold revO at h1 h2 h3|-;rw[if_neg (by omega)]at h2;rw[if_neg (by omega)]at h3;rw[Yy,List.getElem?_set];by_cases e1:l.length-1-i=k
    .rw[if_pos e1,if_pos (by rw[Y9];omega),if_pos (by omega),show l.length-1-k=i by omega,<-h2];rfl
    .rw[if_neg e1,List.getElem?_set];by_cases e2:i=k
     .rw[if_pos e2,if_pos (by omega),if_pos (by omega),<-e2,<-h3];rfl
     .rw[if_neg e2,<-Yy,h1];by_cases e3:k<i\/l.length-1-k<i
      .rw[if_pos e3,if_pos (by omega)]
      .rw[if_neg e3,if_neg (by omega)])
   have e:((i+1:Nat):Int)=(i:Int)+1:=by omega
   rw[e,show(l.length:Int)-1-((i:Int)+1)=(l.length:Int)-1-i-1 by omega]at this;exact this
  .rw[if_neg c]
   have:s=l.reverse:=by
    refine Ycq (by simp[hs]) λk h1 h2=>?_
    have h3:=hk k (by omega);have e1:s[k]=s.getD k 0:=by rw[Yy,Yj h1];rfl
    rw[e1,h3,List.getElem_reverse];unfold revO;have e2:∀q,(hq:q<l.length)->l.getD q 0=l[q]:=λq hq=>by rw[Yy,Yj hq];rfl
    by_cases e3:k<i\/l.length-1-k<i
    .rw[if_pos e3,e2 _ (by omega)]
    .rw[if_neg e3,e2 _ (by omega)];congr 1;omega
   rw[this]
theorem x_rev{l:List Int}(hl:l.length<=1000):Zui l=some (.tup [],[.arr 3 1 true (l.reverse.map ic)]):=by
 refine Zcnv ?_;rw[w_in (x:=(l.length:Int)-1) ⟨by omega,by omega⟩];have:=l_rev l hl l.length 0 l (by omega) rfl (λk hk=>by unfold revO;rw[if_neg (by omega)]);simpa using this
theorem Zbkx(rows:List (List Int))(cols:List Int):(grpN rows cols).length<=rows.length:=by
 unfold grpN;rw[Yo];exact Z6m rows cols
theorem Zb63(l:List Int):(srtI l).length=l.length:=(Ycu _ _).length_eq
theorem x_DegS{t:Ze}(h:LeT t)(hv:Z3 t=true){cols:List Int}(hc:Zbw t.Arity cols=true):Z1o t cols=some (.own 0,[.arr 3 1 true ((degS t cols).map ic)]):=by
 have h8:=Zd8 hv;have hl:=Zbkx t.Rows cols;have hs:=Zb63 (grpN t.Rows cols);refine Zcnw (.inr ⟨_,_,Zbkt h hv hc,_,Zbkh (by omega),_,(x_fin (by omega)).1,_,x_rev (by omega),rfl⟩)
theorem Zbky{t:Ze}(h:LeT t)(hv:Z3 t=true){cols:List Int}(hc:Zbw t.Arity cols=true):Zmi (Zt t) cols=some (.own 0,[.arr 3 1 true ((degS t cols).map ic)]):=by
 refine Zcnx (.inl ⟨t,true,Zb61 h hv,?_⟩);rw[if_pos rfl];exact⟨_,x_DegS h hv hc,rfl⟩
theorem Zbkz(x:Int):∀(out:List Int) (k:Nat),k<=out.length->(∀z∈out.drop k,z<x)->(k=0\/¬out.getD (k-1) 0<x)->out.take k++[x]++out.drop k=putD x out
 |[],k,hk,_,_=>by
  have:k=0:=by simpa using hk
  subst this;rfl
 |y::ys,k,hk,h1,h2=>by
  unfold putD
  cases k with
  |zero =>
   rw[Yq]at h1;rw[if_pos ⟨h1 y (by simp),λz hz=>h1 z (by simp[hz])⟩]
   rfl
  |succ k =>
   have hn:¬(y<x/\∀z∈ys,z<x):=by
    rintro⟨c1,c2⟩;rcases h2 with h2|h2
    .omega
    .apply h2;rw[Ycy]
     cases k with
     |zero=>exact c1
     |succ k =>
      have hk':k<ys.length:=by simp at hk;omega
      have:(y::ys).getD (k+1) 0=ys[k]:=by rw[List.getD_cons_succ,Yy,Yj hk'];rfl
      rw[this];exact c2 _ (Yb hk')
   rw[if_neg hn]
   have:=Zbkz x ys k (by simpa using hk) (by simpa using h1) (by
    cases k with
    |zero=>exact .inl rfl
    |succ k =>
     right;rcases h2 with h2|h2
     .omega
     .simpa using h2)
   rw[<-this];rfl
theorem putD_len(x:Int)(l:List Int):(putD x l).length=l.length+1:=by simpa using(Z5t x l).length_eq
theorem l_down0{l out:List Int}{i:Nat}(hi:i<l.length)(ho:out.length<=1000)(res:AV×List Blk)(cc:Ziy (putD l[i] out) l (w ((i:Int)+1))=some res):∀k,k<=out.length->(∀z∈out.drop k,z<l[i])->Znc out l i k=some res:=by
 intro k
 induction k with
 |zero =>
  intro hk hz;refine Zb2k ?_;rw[if_neg (by omega)];have e:=Zbkz l[i] out 0 hk hz (.inl rfl);rw[<-e]at cc
  exact⟨by omega,by simp,by simp,by omega,_,gE hi,by simp,by simp;omega,by simpa using cc⟩
 |succ k ih =>
  intro hk hz;have hk':k<out.length:=by omega
  refine Zb2k ?_;have hw:w (((k+1:Nat):Int)-1)=(k:Int):=by rw[w_in ⟨by omega,by omega⟩];omega
  rw[if_pos (by omega),hw];refine⟨by omega,_,gDn hk',by omega,_,gE hi,?_⟩;by_cases c:out.getD k 0<l[i]
  .rw[if_pos c];refine ih (by omega) λz hz'=>?_
   rw[Yd hk']at hz';rcases Yx.1 hz' with rfl|hz'
   .rw[getI hk'];exact c
   .exact hz z hz'
  .rw[if_neg c];have e:=Zbkz l[i] out (k+1) hk hz (.inr (by rw[Ycy];exact c));rw[<-e]at cc;rw[Yh];exact⟨by omega,hk,by rw[Yp];omega,by rw[Yp];omega,by rw[Yp,Yce];omega,cc⟩
theorem l_down1(l:List Int)(hl:l.length<=500):∀i,i<=l.length->∀out:List Int,out.length<=i->Ziy out l i=some (.own 0,[.arr 3 1 true (((l.drop i).foldl (λo x=>putD x o) out).map ic)]):=by
 refine down _ ?_ ?_
 .intro out ho;refine Zb2d ?_;rw[if_neg (by omega),Yg];rfl
 .intro i hi ih out ho;refine Zb2d ?_;rw[if_pos (by omega),Yd hi];exact l_down0 hi (by omega) _ (by rw[wS hi (by omega)];exact ih _ (by rw[putD_len];omega)) out.length (Yk _) (by simp)
theorem x_down{l:List Int}(hl:l.length<=500):Z3n l=some (.own 0,[.arr 3 1 true ((srtI l).reverse.map ic)]):=by
 have:=l_down1 l hl 0 (Ya _) [] (by simp);refine Zcqy ?_;rw[<-dwn_eq];exact this
def popc(x:Int):Nat:=(if andI (shrI x 0) 1=1 then 1 else 0)+(if andI (shrI x 1) 1=1 then 1 else 0)+(if andI (shrI x 2) 1=1 then 1 else 0)+(if andI (shrI x 3) 1=1 then 1 else 0)
abbrev M16(x:Int):Prop:=0<=x/\x<16
theorem m16{x:Int}(h:M16 x):∃a:Fin 16,x=(a.1:Int):=⟨⟨x.toNat,by omega⟩,by simp;omega⟩
set_option maxRecDepth 100000 in
theorem f_or:∀a b:Fin 16,M16 (orI a.1 b.1)/\andI a.1 (orI a.1 b.1)=a.1/\(orI a.1 b.1=a.1\/popc a.1+1<=popc (orI a.1 b.1)):=by decide
set_option maxRecDepth 100000 in
theorem f_and:∀a b:Fin 16,M16 (andI a.1 b.1)/\andI (andI a.1 b.1) b.1=andI a.1 b.1/\(andI (a.1:Int) b.1=a.1->popc a.1<=popc b.1/\(popc b.1<=popc a.1->a.1=b.1)):=by decide
set_option maxRecDepth 1000000 in
theorem f_sub:∀a b c:Fin 16,andI (a.1:Int) c.1=a.1->andI (b.1:Int) c.1=b.1->andI (orI a.1 b.1) c.1=orI a.1 b.1:=by decide
set_option maxRecDepth 100000 in
theorem f_bit:∀(a:Fin 16) (i:Fin 4),(andI (shrI a.1 i.1) 1=0↔¬andI (shrI a.1 i.1) 1=1):=by decide
set_option maxRecDepth 100000 in
theorem f_shl:∀(i j:Fin 4),(andI (shrI (shlI 1 i.1) j.1) 1=1↔i=j)/\M16 (shlI 1 i.1):=by decide
set_option maxRecDepth 100000 in
theorem f_low:∀a:Fin 16,M16 (andI a.1 (w (0-a.1)))/\andI (andI a.1 (w (0-a.1))) a.1=andI a.1 (w (0-(a.1:Int))):=by decide
set_option maxRecDepth 100000 in
theorem f_pop:∀(a:Fin 16),(a.1<2->popc a.1<=1)/\(a.1<4->popc a.1<=2)/\(a.1<8->popc a.1<=3)/\popc a.1<=4:=by decide
theorem f_bits:∀a b c d:Bool,M16 (bit4 a b c d):=by decide
def Zec(qa:List Atom)(m:Int):Nat->Bool:=λi=>decide (i<qa.length) && (!Zx m i && shr qa (shlI 1 i) m)
def Zjl(qa:List Atom)(m:Int):Int:=Zbo (Zec qa m)
theorem nearM_16(qa:List Atom)(m:Int):M16 (Zjl qa m):=f_bits _ _ _ _
theorem Zcwj{i j:Nat}(hi:i<4)(hj:j<4):Zx (shlI 1 i) j=decide (i=j):=by
 have:=(f_shl ⟨i,hi⟩ ⟨j,hj⟩).1;simp only[Zx,Fin.mk.injEq]at this|-;rw[Ycn,decide_eq_true_eq,decide_eq_true_eq];exact this
theorem Zg6{m:Int}(hm:M16 m){i:Nat}(hi:i<4):andI (shrI m i) 1=0↔Zx m i=false:=by
 obtain⟨a,rfl⟩:=m16 hm;have:=f_bit a ⟨i,hi⟩;simp only at this;rw[this,Zx,decide_eq_false_iff_not]
theorem hasV_one(qa:List Atom)(h4:qa.length<=4){i:Nat}(hi:i<qa.length)(u:Int):∀k,k<=qa.length->hasV (shlI 1 i) (qa.drop k) k u=(decide (k<=i) && has qa[i].Vars u):=by
 refine down _ ?_ ?_
 .rw[Yg,hasV,decide_eq_false (by omega)];rfl
 .intro k hk ih;rw[Z81 _ hk,ih,Zcwj (by omega) (by omega)];by_cases e:i=k
  .subst e;rw[decide_eq_true rfl,decide_eq_true (Yk _),decide_eq_false (by omega)];simp
  .by_cases e2:k<=i
   .rw[decide_eq_false e,decide_eq_true (by omega),decide_eq_true e2];simp
   .rw[decide_eq_false e,decide_eq_false (by omega),decide_eq_false e2];simp
theorem pV_one(qa:List Atom)(h4:qa.length<=4){i:Nat}(hi:i<qa.length)(u:Nat):pV (shlI 1 i) qa u=has qa[i].Vars u:=by
 have:=hasV_one qa h4 hi u 0 (Ya _);simpa[pV]using this
theorem shr_one{n:Int}{qa:List Atom}(h:Z6 n qa=true){i:Nat}(hi:i<qa.length)(m:Int):shr qa (shlI 1 i) m=qa[i].Vars.any (λv=>has (varL m qa n.toNat) v):=by
 have h4:=(Zeo h).2;rw[Ycn,shr,List.any_eq_true,List.any_eq_true];simp only[Zbpm h,pV_one qa h4 hi,Yc,Ybo];constructor
 .rintro⟨u,hu,h1,h2⟩;refine⟨(u:Int),Zim.1 h1,?_⟩;simp only[vin,Yc];exact⟨by simp[inR];omega,by simpa using h2⟩
 .rintro⟨v,hv,h2⟩;have h3:=Ztd h _ (Yb hi) v hv;simp[inR]at h3;simp only[vin,Yc]at h2;refine⟨v.toNat,by omega,?_,h2.2⟩;rw[Zim,Int.toNat_of_nonneg h3.1];exact hv
theorem Zb64{qa:List Atom}{m:Int}{i:Nat}(hi:i<4)(h:Zec qa m i=true):addV (λu=>decide (u<i) && Zec qa m u) [(i:Int)]=λu=>decide (u<i+1) && Zec qa m u:=by
 funext u;simp only[addV,has];by_cases e:u=i
 .subst e;rw[decide_eq_true (by omega:u<u+1),h];simp
 .by_cases e2:u<i
  .rw[decide_eq_true e2,decide_eq_true (by omega)]
   have:¬((u:Int)=(i:Int)):=by omega
   simp[this]
  .rw[decide_eq_false e2,decide_eq_false (by omega)]
   have:¬((u:Int)=(i:Int)):=by omega
   simp[this]
theorem Z6r{qa:List Atom}{m:Int}{i:Nat}(h:Zec qa m i=false):(λu=>decide (u<i) && Zec qa m u)=λu=>decide (u<i+1) && Zec qa m u:=by
 funext u;by_cases e:u=i
 .subst e;rw[h];simp
 .by_cases e2:u<i
  .rw[decide_eq_true e2,decide_eq_true (by omega)]
  .rw[decide_eq_false e2,decide_eq_false (by omega)]
theorem Zb65(qa:List Atom)(m:Int):(λu=>decide (u<qa.length) && Zec qa m u)=Zec qa m:=by
 funext u;unfold Zec;by_cases e:u<qa.length
 .rw[decide_eq_true e];simp
 .rw[decide_eq_false e];simp
theorem Zcwk(q:Zb)(hq:LeQ q)(hv:Z6 q.Zp q.Atoms=true)(m:Int)(hm:M16 m):∀i,i<=q.Atoms.length->
  Zns (varL m q.Atoms q.Zp.toNat) m (Zbo λu=>decide (u<i) && Zec q.Atoms m u) q.Atoms q.Atoms.length i=some (I (Zjl q.Atoms m),[]):=by
 have h4:=(Zeo hv).2;refine down _ ?_ ?_
 .refine Zb3u ?_;rw[if_neg (by omega),Zb65];rfl
 .intro i hi ih;have hi4:i<4:=by omega
  have hinc:=Zd1 (i:=i) (by omega);simp only[Int.natCast_add,Ydf]at ih;refine Zb3u ?_;rw[if_pos (by omega)];refine⟨by omega,q.Atoms[i],by rw[Yh];exact Yj hi,by omega,?_⟩;rw[show w ((i:Int)+1)=(i:Int)+1 from hinc];have hn:Zec q.Atoms m i=(!Zx m i && q.Atoms[i].Vars.any (λv=>has (varL m q.Atoms q.Zp.toNat) v)):=by
   unfold Zec;rw[decide_eq_true hi,shr_one hv hi];simp
  have hvars:=Zcdy hv _ (Yb hi);have hvl:=Z82 m q.Atoms q.Zp.toNat;have hvn:=Zl9 hv;rcases tf (Zx m i)with e1|e1
  .rw[if_pos ((Zg6 hm hi4).2 e1)];refine⟨_,x_both q.Atoms[i].Vars (varL m q.Atoms q.Zp.toNat) (by omega) (by omega),?_⟩;rcases tf (q.Atoms[i].Vars.any (λv=>has (varL m q.Atoms q.Zp.toNat) v))with e2|e2
   .have e3:q.Atoms[i].Vars.filter (has (varL m q.Atoms q.Zp.toNat))=[]:=by
     rw[Ycs];intro a ha;have:=Ydn.1 e2 a ha;simpa using this
    rw[e3,if_neg (by simp),Z6r (by rw[hn,e2];simp)];exact ih
   .have e3:0<(q.Atoms[i].Vars.filter (has (varL m q.Atoms q.Zp.toNat))).length:=by
     obtain⟨v,hv1,hv2⟩:=List.any_eq_true.1 e2;exact List.length_pos_of_mem (Ycj.2 ⟨hv1,hv2⟩)
    rw[if_pos (by omega),Z0m _ (by simp[inR];omega),Zb64 hi4 (by rw[hn,e1,e2];rfl)];exact ih
  .rw[if_neg (λhc=>by rw[(Zg6 hm hi4).1 hc]at e1;cases e1),Z6r (by rw[hn,e1];rfl)];exact ih
theorem Zb66(q:Zb)(hq:LeQ q)(hv:Z6 q.Zp q.Atoms=true)(m:Int)(hm:M16 m):Z4t q m=some (I (Zjl q.Atoms m),[]):=by
 have b:=Zcwk q hq hv m hm 0 (Ya _);refine Zcsn ⟨_,Z52 q m hq hv,?_⟩;simpa[Zbo,bit4]using b
theorem l_near(q:Zb)(hq:LeQ q)(hv:Z6 q.Zp q.Atoms=true)(m:Int)(hm:M16 m):∀i,i<=q.Atoms.length->
  Znu q m (Zbo λu=>decide (u<i) && Zec q.Atoms m u) (Zbo (pV m q.Atoms)) i=some (I (Zjl q.Atoms m),[]):=by
 have h4:=(Zeo hv).2;refine down _ ?_ ?_
 .refine Zb3z ?_;rw[if_neg (by omega),Zb65];rfl
 .intro i hi ih;have hi4:i<4:=by omega
  have hinc:=Zd1 (i:=i) (by omega);simp only[Int.natCast_add,Ydf]at ih;refine Zb3z ?_;rw[if_pos (by omega)];refine⟨by omega,?_⟩;rw[show w ((i:Int)+1)=(i:Int)+1 from hinc];have hn:Zec q.Atoms m i=(!Zx m i && shr q.Atoms (shlI 1 i) m):=by
   unfold Zec;rw[decide_eq_true hi];simp
  rcases tf (Zx m i)with e1|e1
  .rw[if_pos ((Zg6 hm hi4).2 e1)];refine⟨_,Z53 q (shlI 1 i) hq (Ztd hv),?_⟩;rcases tf (shr q.Atoms (shlI 1 i) m)with e2|e2
   .rw[if_pos ((Zbpn q.Atoms (shlI 1 i) m).2 e2),Z6r (by rw[hn,e2];simp)];exact ih
   .rw[if_neg (λhc=>by rw[(Zbpn q.Atoms (shlI 1 i) m).1 hc]at e2;cases e2),Z0m _ (by simp[inR];omega),Zb64 hi4 (by rw[hn,e1,e2];rfl)];exact ih
  .rw[if_neg (λhc=>by rw[(Zg6 hm hi4).1 hc]at e1;cases e1),Z6r (by rw[hn,e1];rfl)];exact ih
theorem x_near(q:Zb)(hq:LeQ q)(hv:Z6 q.Zp q.Atoms=true)(m:Int)(hm:M16 m):Zx9 q m=some (I (Zjl q.Atoms m),[]):=by
 have b:=l_near q hq hv m hm 0 (Ya _);refine Zcsp ⟨_,Z53 q m hq (Ztd hv),?_⟩;simpa[Zbo,bit4]using b
def Zh8(qa:List Atom)(mask x:Int):Int:=orI x (andI (Zjl qa x) mask)
def iterM(qa:List Atom)(mask:Int):Nat->Int->Int
 |0,x=>x
 |n+1,x=>iterM qa mask n (Zh8 qa mask x)
def conn(qa:List Atom)(mask:Int):Bool:=decide (iterM qa mask qa.length (andI mask (w (0-mask)))=mask)
abbrev SubM(x mask:Int):Prop:=andI x mask=x
theorem Zbk0{qa:List Atom}{mask x:Int}(hm:M16 mask)(hx:M16 x)(hs:SubM x mask):M16 (Zh8 qa mask x)/\SubM (Zh8 qa mask x) mask/\(Zh8 qa mask x=x\/popc x+1<=popc (Zh8 qa mask x)):=by
 obtain⟨a,rfl⟩:=m16 hx;obtain⟨b,rfl⟩:=m16 hm;obtain⟨c,hc⟩:=m16 (nearM_16 qa (a.1:Int));unfold Zh8;rw[hc];obtain⟨d1,d2,_⟩:=f_and c b;obtain⟨d,hd⟩:=m16 d1;rw[hd]at d2|-;obtain⟨e1,_,e3⟩:=f_or a d;exact⟨e1,f_sub a d b hs d2,e3⟩
theorem Zb67{qa:List Atom}{mask x:Int}(h:Zh8 qa mask x=x):∀n,iterM qa mask n x=x
 |0=>rfl
 |n+1=>by rw[iterM,h];exact Zb67 h n
theorem Zcwl(q:Zb)(hq:LeQ q)(hv:Z6 q.Zp q.Atoms=true)(mask:Int)(hm:M16 mask)(hp:popc mask<=q.Atoms.length):∀(f:Nat) (x:Int),M16 x->SubM x mask->q.Atoms.length<=popc x+f->
  Zx8 q mask x=some (Bo (decide (iterM q.Atoms mask f x=mask)),[]):=by
 intro f
 induction f with
 |zero =>
  intro x hx hs hf;have hxm:x=mask:=by
   obtain⟨a,rfl⟩:=m16 hx;obtain⟨b,rfl⟩:=m16 hm;have:=((f_and a b).2.2 hs).2 (by omega);omega
  obtain⟨s1,s2,s3⟩:=Zbk0 (qa:=q.Atoms) hm hx hs;have hfix:Zh8 q.Atoms mask x=x:=by
   rcases s3 with h|h
   .exact h
   .obtain⟨a,ha⟩:=m16 s1;obtain⟨b,rfl⟩:=m16 hm;rw[ha]at s2 h;have:=((f_and a b).2.2 s2).1;rw[hxm]at h;omega
  refine Zb3v ⟨_,Zb66 q hq hv x hx,?_⟩
  rw[if_pos (show orI x (andI (Zjl q.Atoms x) mask)=x from hfix)];rfl
 |succ f ih =>
  intro x hx hs hf;obtain⟨s1,s2,s3⟩:=Zbk0 (qa:=q.Atoms) hm hx hs;refine Zb3v ⟨_,Zb66 q hq hv x hx,?_⟩;by_cases h:Zh8 q.Atoms mask x=x
  .rw[if_pos (show orI x (andI (Zjl q.Atoms x) mask)=x from h),Zb67 h]
  .rw[if_neg (show ¬orI x (andI (Zjl q.Atoms x) mask)=x from h)];exact ih (Zh8 q.Atoms mask x) s1 s2 (by rcases s3 with h'|h';exact absurd h' h;omega)
theorem l_joined(q:Zb)(hq:LeQ q)(hv:Z6 q.Zp q.Atoms=true)(mask:Int)(hm:M16 mask):∀i,i<=q.Atoms.length->∀x,M16 x->SubM x mask->
  Zya q mask x i=some (Bo (decide (iterM q.Atoms mask (q.Atoms.length-i) x=mask)),[]):=by
 have h4:=(Zeo hv).2;refine down _ ?_ ?_
 .intro x _ _;refine Zb30 ?_;rw[if_neg (by omega),Y6];rfl
 .intro i hi ih x hx hs;obtain⟨s1,s2,s3⟩:=Zbk0 (qa:=q.Atoms) hm hx hs;have hinc:=Zd1 (i:=i) (by omega);refine Zb30 ?_;rw[if_pos (by omega)];refine⟨_,x_near q hq hv x hx,?_⟩;have ih:=ih _ s1 s2;simp only[Int.natCast_add,Ydf]at ih;rw[show w ((i:Int)+1)=(i:Int)+1 from hinc,show q.Atoms.length-i=(q.Atoms.length-(i+1))+1 by omega,iterM];exact ih
abbrev MQ(qa:List Atom)(m:Int):Prop:=0<=m/\m<2 ^ qa.length
theorem MQ.m16{n:Int}{qa:List Atom}{m:Int}(hv:Z6 n qa=true)(h:MQ qa m):M16 m/\popc m<=qa.length:=by
 have hl:=Zeo hv;obtain⟨h1,h2⟩:=h;have e:qa.length=1\/qa.length=2\/qa.length=3\/qa.length=4:=by omega
 have k16:M16 m:=by rcases e with e|e|e|e<;>rw[e]at h2<;>exact⟨h1,by omega⟩
 refine⟨k16,?_⟩;obtain⟨a,rfl⟩:=Go.Proofs.YtnnjbejcffjgfaaGreat.m16 k16;obtain⟨p1,p2,p3,p4⟩:=f_pop a;rcases e with e|e|e|e<;>rw[e]at h2|-
 .exact p1 (by omega)
 .exact p2 (by omega)
 .exact p3 (by omega)
 .exact p4
theorem Zb68(q:Zb)(hq:LeQ q)(hv:Z6 q.Zp q.Atoms=true)(m:Int)(hm:MQ q.Atoms m)(h0:m≠0):Zrt q m=some (Bo (conn q.Atoms m),[]):=by
 obtain⟨k1,k2⟩:=hm.m16 hv;refine Zb3w ?_;rw[if_neg h0];obtain⟨a,rfl⟩:=m16 k1;obtain⟨l1,l2⟩:=f_low a;exact Zcwl q hq hv _ k1 k2 q.Atoms.length _ l1 l2 (by omega)
theorem x_joined(q:Zb)(hq:LeQ q)(hv:Z6 q.Zp q.Atoms=true)(m:Int)(hm:MQ q.Atoms m):Z4w q m=some (Bo (conn q.Atoms m),[]):=by
 obtain⟨k1,k2⟩:=hm.m16 hv;refine Zcsq ?_;obtain⟨a,rfl⟩:=m16 k1;obtain⟨l1,l2⟩:=f_low a;exact l_joined q hq hv _ k1 0 (Ya _) _ l1 l2
theorem Zjm{n:Int}{qa:List Atom}(hv:Z6 n qa=true):Zbm n qa=2 ^ qa.length-1:=by
 unfold Zbm;rw[if_pos hv,(Zkc hv).2.1]
theorem Zb69(q:Zb)(hq:LeQ q)(m:Int):Zpr q m=some (Bo (Z6 q.Zp q.Atoms && inR m 0 (Zbm q.Zp q.Atoms)),[]):=by
 refine Zcn1 ⟨_,Zbjz q hq,?_⟩;rcases tf (Z6 q.Zp q.Atoms)with e|e
 .rw[e];simp
 .rw[e,if_pos rfl];refine⟨by omega,_,Zbv _ _ _,?_⟩;rw[show w (shlI 1 (q.Atoms.length:Int)-1)=shlI 1 (q.Atoms.length:Int)-1 from(Zkc e).2.2.1];unfold Zbm;rw[if_pos e];simp
theorem Zb7a(q:Zb)(hq:LeQ q)(m:Int):Zq8 q m=some (Bo (Z6 q.Zp q.Atoms && inR m 0 (Zbm q.Zp q.Atoms)),[]):=by
 refine Zcq3 ⟨_,Zbj8 q hq,?_⟩;rcases tf (Z6 q.Zp q.Atoms)with e|e
 .rw[e];simp
 .rw[e,if_pos rfl];refine⟨by omega,_,Z8 _ _ _,?_⟩;rw[show w (shlI 1 (q.Atoms.length:Int)-1)=shlI 1 (q.Atoms.length:Int)-1 from(Zkc e).2.2.1];unfold Zbm;rw[if_pos e];simp
theorem inR_MQ{n:Int}{qa:List Atom}(hv:Z6 n qa=true){m:Int}(h:inR m 0 (Zbm n qa)=true):MQ qa m:=by
 rw[Zjm hv]at h;simp[inR]at h;exact⟨h.1,by omega⟩
def Zg7(n:Int)(qa:List Atom)(m:Int):Bool:=Z6 n qa && inR m 0 (Zbm n qa) && decide (m≠0) && conn qa m
theorem Zcwm(q:Zb)(hq:LeQ q)(m:Int):Zyb q m=some (Bo (Zg7 q.Zp q.Atoms m),[]):=by
 refine Zcst ⟨_,Zb69 q hq m,?_⟩;unfold Zg7;rcases tf (Z6 q.Zp q.Atoms)with e|e
 .rw[e];simp
 rcases tf (inR m 0 (Zbm q.Zp q.Atoms))with e1|e1
 .rw[e,e1];simp
 rw[e,e1,if_pos (by rfl)];have hm:=inR_MQ e e1;by_cases h0:m=0
 .refine⟨false,Zb3w (by rw[if_pos h0]),?_⟩;simp[h0]
 .exact⟨_,Zb68 q hq e m hm h0,by simp[h0]⟩
theorem Zbk1(q:Zb)(hq:LeQ q)(m:Int):Znv q m=some (Bo (Zg7 q.Zp q.Atoms m),[]):=by
 refine Zcsr ⟨_,Zb7a q hq m,?_⟩;unfold Zg7;rcases tf (Z6 q.Zp q.Atoms)with e|e
 .rw[e];simp
 rcases tf (inR m 0 (Zbm q.Zp q.Atoms))with e1|e1
 .rw[e,e1];simp
 rw[e,e1,if_pos (by rfl)];have hm:=inR_MQ e e1;by_cases h0:m=0
 .rw[if_neg (by omega)];simp[h0]
 .rw[if_pos (by have:=hm.1;omega)];exact⟨_,x_joined q hq e m hm,by simp[h0]⟩
def Zfy(qa:List Atom)(k n:Nat):List Int:=((List.range' k n).filter (λm:Nat=>conn qa (m:Int))).map (λm:Nat=>(m:Int))
theorem Zbk2{qa:List Atom}{k n:Nat}:Zfy qa k (n+1)=(if conn qa (k:Int)=true then[(k:Int)]else[])++Zfy qa (k+1) n:=by
 unfold Zfy;rw[Ydg,Ycv];split<;>simp
theorem Zb7b{qa:List Atom}{k:Nat}:Zfy qa k 0=[]:=rfl
theorem Zb7c{qa:List Atom}{k n:Nat}:(Zfy qa k n).length<=n:=by
 unfold Zfy;rw[Yo];exact Y2 (Yct _ _) (by simp)
theorem Zn6(k:Nat):((2 ^ k:Nat):Int)=2 ^ k:=by simp
theorem Zcwn(q:Zb)(hq:LeQ q)(hv:Z6 q.Zp q.Atoms=true):∀k:Nat,k<=2 ^ q.Atoms.length->1<=k->∀out:List Int,out.length<=k->
  Zru q out k=some (.own 0,[.arr Zbc 1 true ((out++Zfy q.Atoms k (2 ^ q.Atoms.length-k)).map ic)]):=by
 have hf:=Zjm hv;have hp:=Zn6 q.Atoms.length;have h16:2 ^ q.Atoms.length<=16:=Nat.pow_le_pow_right (by omega:0<2) (Zeo hv).2;refine down _ ?_ ?_
 .intro _ out _;refine Zb3x ⟨_,Zn1 q hq,?_⟩;rw[if_neg (by rw[hf];omega),Y6];simp[Zfy]
 .intro k hk ih h1 out ho;have wk':w ((k:Int)+1)=(k:Int)+1:=Zw (by omega) (by omega);refine Zb3x ⟨_,Zn1 q hq,?_⟩;rw[if_pos (by rw[hf];omega)];refine⟨_,Zb68 q hq hv k ⟨by omega,by omega⟩ (by omega),?_⟩;rw[show 2 ^ q.Atoms.length-k=(2 ^ q.Atoms.length-(k+1))+1 by omega,Zbk2,wk'];rcases tf (conn q.Atoms k)with e|e
  .have ih:=ih (by omega) out (by omega);rw[e,if_neg (by simp)];simpa using ih
  .have ih:=ih (by omega) (out++[(k:Int)]) (by simp;omega);rw[e,if_pos rfl];refine⟨by omega,?_⟩;simpa using ih
def Zsf(qa:List Atom):List Int:=Zfy qa 1 (2 ^ qa.length-1)
theorem Zb7d(q:Zb)(hq:LeQ q)(hv:Z6 q.Zp q.Atoms=true):Znt q=some (.own 0,[.arr Zbc 1 true ((Zsf q.Atoms).map ic)]):=by
 have hpos:1<=2 ^ q.Atoms.length:=Nat.one_le_two_pow;have b:=Zcwn q hq hv 1 hpos (Yk _) [] (by simp);exact Zcso (by simpa[Zsf]using b)
def isSplit(qa:List Atom)(mask x:Int):Bool:=decide (andI x mask=x) && (conn qa x && conn qa (mask-x))
def splitsF(qa:List Atom)(mask:Int)(k n:Nat):List Int:=((List.range' k n).filter (λm:Nat=>isSplit qa mask (m:Int))).map (λm:Nat=>(m:Int))
def splits(qa:List Atom)(mask:Int):List Int:=splitsF qa mask 1 (mask.toNat-1)
def Zjn(m:Int)(k n:Nat):List Int:=((List.range' k n).filter (λi:Nat=>Zx m i)).map (λi:Nat=>(i:Int))
theorem Zbk3{m:Int}{k n:Nat}:Zjn m k (n+1)=(if Zx m k=true then[(k:Int)]else[])++Zjn m (k+1) n:=by
 unfold Zjn;rw[Ydg,Ycv];split<;>simp
def Zls(m:Int):List Int:=Zjn m 0 4
theorem Zcwo(m:Int):∀k:Nat,k<=4->∀out:List Int,out.length<=k->Zpk out m k=some (.own 0,[.arr Zbc 1 true ((out++Zjn m k (4-k)).map ic)]):=by
 refine down _ ?_ ?_
 .intro out _;refine Zbzt ?_;rw[if_neg (by omega)];simp[Zjn]
 .intro k hk ih out ho;have wk':w ((k:Int)+1)=(k:Int)+1:=Zw (by omega) (by omega);refine Zbzt ?_;rw[if_pos (by omega),show 4-k=(4-(k+1))+1 by omega,Zbk3,wk'];refine⟨by omega,?_⟩;by_cases e:andI (shrI m k) 1=1
  .have ih:=ih (out++[(k:Int)]) (by simp;omega);rw[if_pos e,if_pos (by simp[Zx,e])];exact⟨by omega,by simpa using ih⟩
  .have ih:=ih out (by omega);rw[if_neg e,if_neg (by simp[Zx,e])];simpa using ih
theorem Zlt{m:Int}(hm:M16 m):Zca m=some (.own 0,[.arr Zbc 1 true ((Zls m).map ic)]):=by
 have b:=Zcwo m 0 (by omega) [] (by simp);refine Zcnj ⟨_,Zbv _ _ _,?_⟩;rw[if_pos (by simp[inR];omega)];simpa[Zls]using b
theorem Zcwp(m:Int)(hm:M16 m):∀k:Nat,k<=4->∀out:List Int,out.length<=k->Zq7 out m k=some (.own 0,[.arr Zbc 1 true ((out++Zjn m k (4-k)).map ic)]):=by
 refine down _ ?_ ?_
 .intro out _;refine Zb2h ?_;rw[if_neg (by omega)];simp[Zjn]
 .intro k hk ih out ho;have wk':w ((k:Int)+1)=(k:Int)+1:=Zw (by omega) (by omega);refine Zb2h ?_;rw[if_pos (by omega),show 4-k=(4-(k+1))+1 by omega,Zbk3,wk'];refine⟨_,Z8 _ _ _,?_⟩;rw[if_pos (by simp[inR];omega)];refine⟨by omega,?_⟩;by_cases e:andI (shrI m k) 1=1
  .have ih:=ih (out++[(k:Int)]) (by simp;omega);rw[if_pos e,if_pos (by simp[Zx,e])];exact⟨by omega,by simpa using ih⟩
  .have ih:=ih out (by omega);rw[if_neg e,if_neg (by simp[Zx,e])];simpa using ih
theorem Zcwq{m:Int}(hm:M16 m):Zq6 m=some (.own 0,[.arr Zbc 1 true ((Zls m).map ic)]):=by
 have b:=Zcwp m hm 0 (by omega) [] (by simp);exact Zcq2 (by simpa[Zls]using b)
abbrev Zbe(q:Zb)(m:Int):List Int:=varL m q.Atoms q.Zp.toNat
theorem Z6s(q:Zb)(hq:LeQ q)(hv:Z6 q.Zp q.Atoms=true)(m:Int)(hm:MQ q.Atoms m):Zgc q m=some (.own 0,[.arr Zbc 1 true ((Zbe q m).map ic)]):=by
 refine Zcn2 ⟨_,Zb69 q hq m,?_⟩
 have:inR m 0 (Zbm q.Zp q.Atoms)=true:=by rw[Zjm hv];simp[inR];have:=hm.1;have:=hm.2;omega
 rw[hv,this,if_pos (by rfl)];exact⟨_,Z52 q m hq hv,rfl⟩
def Zed(q:Zb)(a b:Int):List Int:=(Zbe q a).filter (has (Zbe q b))
theorem Zjo(q:Zb)(hv:Z6 q.Zp q.Atoms=true)(m:Int):(Zbe q m).length<=4:=by
 have:=Z82 m q.Atoms q.Zp.toNat;have:=Zl9 hv;unfold Zbe;omega
theorem Zcwr(q:Zb)(hq:LeQ q)(hv:Z6 q.Zp q.Atoms=true)(a b:Int)(ha:MQ q.Atoms a)(hb:MQ q.Atoms b):Zul q a b=some (.own 0,[.arr Zbc 1 true ((Zed q a b).map ic)]):=by
 have l1:=Zjo q hv a;have l2:=Zjo q hv b;exact Zcn4 (.inl ⟨_,Z6s q hq hv a ha,.inl ⟨_,Z6s q hq hv b hb,_,x_both _ _ (by omega) (by omega),rfl⟩⟩)
theorem Zb7e(p:Nat->Bool):∀k:Nat,k<=4->∀out:List Int,out.length<=k->Zq1 out (Zbo p) k=some (.own 0,[.arr Zbc 1 true ((out++((List.range' k (4-k)).filter p).map (λu:Nat=>(u:Int))).map ic)]):=by
 refine down _ ?_ ?_
 .intro out _;refine Zb2a ?_;rw[if_neg (by omega)];simp
 .intro k hk ih out ho;have wk':w ((k:Int)+1)=(k:Int)+1:=Zw (by omega) (by omega);have hb:=at_bit p (v:=(k:Int)) (by simp[inR];omega);rw[Yh]at hb;refine Zb2a ?_;rw[if_pos (by omega),show 4-k=(4-(k+1))+1 by omega,Ydg,Ycv,wk'];refine⟨by omega,?_⟩;rcases tf (p k)with e|e
  .have ih:=ih out (by omega);rw[if_neg (λhc=>by rw[hb.1 hc]at e;cases e),e,if_neg (by simp)];simpa using ih
  .have ih:=ih (out++[(k:Int)]) (by simp;omega);rw[if_pos (hb.2 e),e,if_pos rfl];exact⟨by omega,by simpa using ih⟩
theorem vars4(q:Zb)(hv:Z6 q.Zp q.Atoms=true)(m:Int):((List.range' 0 4).filter (pV m q.Atoms)).map (λu:Nat=>(u:Int))=Zbe q m:=by
 have hn:=Zl9 hv;have e:List.range' 0 4=List.range q.Zp.toNat++List.range' q.Zp.toNat (4-q.Zp.toNat):=by
  have h:=List.range'_append_1 (s:=0) (m:=q.Zp.toNat) (n:=4-q.Zp.toNat);rw[Yv]at h;rw[List.range_eq_range',h];congr 1;omega
 unfold Zbe varL;rw[e,Ycz];have e2:(List.range' q.Zp.toNat (4-q.Zp.toNat)).filter (pV m q.Atoms)=[]:=by
  rw[Ycs];intro u hu hp;have:=pV_lt hv hp;rw[List.mem_range'_1]at hu;omega
 rw[e2];simp
theorem Z6t(q:Zb)(hq:LeQ q)(hv:Z6 q.Zp q.Atoms=true)(m:Int)(hm:MQ q.Atoms m):Znd q m=some (.own 0,[.arr Zbc 1 true ((Zbe q m).map ic)]):=by
 have b:=Zb7e (pV m q.Atoms) 0 (by omega) [] (by simp);rw[show 4-0=4 from rfl,vars4 q hv m]at b;refine Zcq4 ⟨_,Zb7a q hq m,?_⟩
 have:inR m 0 (Zbm q.Zp q.Atoms)=true:=by rw[Zjm hv];simp[inR];have:=hm.1;have:=hm.2;omega
 rw[hv,this,if_pos (by rfl)];exact⟨_,Z53 q m hq (Ztd hv),_,Zb2b (by simpa using b),rfl⟩
theorem Zcws(x y:List Int)(hy:Le y)(hx:x.length<=1000):∀i,i<=x.length->Zq9 ((x.take i).filter (has y)) x y i=some (.own 0,[.arr Zbc 1 true ((x.filter (has y)).map ic)]):=by
 refine down _ ?_ ?_
 .refine Zb2i ?_;rw[if_neg (by omega)];simp
 .intro i hi ih;have h4:=Zd1 (i:=i) (by omega);have e4:((x.take i).filter (has y)).length+1<=68719476736:=by
   have:=Yct (has y) (x.take i);simp at this;omega
  rw[Zbpl _ hi]at ih;refine Zb2i ?_;rw[if_pos (by omega)];refine⟨by omega,x[i],by rw[Yh];exact Yj hi,_,Zn0 y x[i] hy,?_⟩;rw[show w ((i:Int)+1)=(i:Int)+1 from h4];rcases tf (has y x[i])with e|e
  .rw[e,if_neg (by simp)];rw[e]at ih;simpa using ih
  .rw[e,if_pos rfl];rw[e]at ih;exact⟨e4,by simpa using ih⟩
theorem Zb7f(q:Zb)(hq:LeQ q)(hv:Z6 q.Zp q.Atoms=true)(a b:Int)(ha:MQ q.Atoms a)(hb:MQ q.Atoms b):Zne q a b=some (.own 0,[.arr Zbc 1 true ((Zed q a b).map ic)]):=by
 have l1:=Zjo q hv a;have l2:=Zjo q hv b;have c:=Zcws (Zbe q a) (Zbe q b) (by omega) (by omega) 0 (Ya _);exact Zcq5 ⟨_,Z6t q hq hv a ha,_,Z6t q hq hv b hb,by simpa[Zed]using c⟩
theorem grpV_nil(rows:List (List Int)):grpV rows []=if rows=[]then[]else[[]]:=by
 unfold grpV;refine Z6i (Zbkm _) ?_ λx=>?_
 .split
  .exact List.Pairwise.nil
  .exact List.pairwise_singleton _ _
 .rw[Z6j];unfold selT
  cases rows with
  |nil=>simp
  |cons r rows=>simp[selC]
theorem cnt_nil(rows:List (List Int)):cnt (selT rows []) []=rows.length:=by
 unfold cnt selT;rw[List.filter_eq_self.2 (by intro x hx;obtain⟨r,_,rfl⟩:=Yr.1 hx;simp[selC])];simp
theorem degS_nil(t:Ze):degS t []=if t.Rows=[]then[]else[(t.Rows.length:Int)]:=by
 unfold degS grpN;rw[grpV_nil];split
 .simp[srtI]
 .rw[Ys,Yco,cnt_nil];simp[srtI]
theorem in_subs{n:Int}(h:inR n 1 3=true){cols:List Int}(hc:Zbw n cols=true)(h0:cols≠[]):cols∈subs n:=by
 have h':=Zy.1 h;have hl:=Zbkq hc (by omega);have hn:n=1\/n=2\/n=3:=by omega
 match cols,h0 with
 |[a],_ =>
  simp only[Zbw,ascN,nxt,ltI,Bool.and_true,Zy]at hc
  have:a=0\/a=1\/a=2:=by omega
  rcases hn with rfl|rfl|rfl<;>rcases this with rfl|rfl|rfl<;>first|decide|omega
 |[a,b],_ =>
  simp only[Zbw,ascN,nxt,ltI,Bool.and_true,Yc,Zy,decide_eq_true_eq]at hc
  have:a=0\/a=1\/a=2:=by omega
  have:b=0\/b=1\/b=2:=by omega
  rcases hn with rfl|rfl|rfl<;>rcases ‹a=0\/a=1\/a=2› with rfl|rfl|rfl<;>rcases ‹b=0\/b=1\/b=2› with rfl|rfl|rfl<;>first|decide|omega
 |[a,b,c],_ =>
  simp only[Zbw,ascN,nxt,ltI,Bool.and_true,Yc,Zy,decide_eq_true_eq]at hc;have e:a=0/\b=1/\c=2/\n=3:=by omega
  obtain⟨rfl,rfl,rfl,rfl⟩:=e
  decide
 |_::_::_::_::_,_=>simp at hl;omega
theorem l_13{t:Ze}(hv:Z3 t=true){cols:List Int}(c:cols.length<=3):∀i,i<=(subs t.Arity).length->cols∈(subs t.Arity).drop i->Zwv (Zt t) cols i=some (.own 0,[.arr 3 1 true ((degS t cols).map ic)]):=by
 have h7:=Zlr (Zce hv);have h8:=Zd8 hv;have hgl:(Zt t).Groups.length=(subs t.Arity).length:=by simp[Zt]
 refine down _ ?_ ?_
 .intro hm;rw[Yg]at hm;cases hm
 .intro i hi ih hm;have hg:(Zt t).Groups[((i:Nat):Int).toNat]?=some (grp t.Rows (subs t.Arity)[i]):=by
   rw[Yh];unfold Zt;rw[Ybh,Yj hi];rfl
  have hc3:=(Zbkn (Zce hv) _ (Yb hi)).1;refine Zcqz ?_;rw[if_pos (by omega),wS hi (by omega)];refine⟨by omega,_,hg,_,Zlj _ _ (by simp only[grp];omega) (by omega),?_⟩;rw[show(grp t.Rows (subs t.Arity)[i]).Columns=(subs t.Arity)[i]from rfl];by_cases e:(subs t.Arity)[i]=cols
  .rw[if_pos (by rw[<-e];exact Zje _)];have hl:=Zbkx t.Rows (subs t.Arity)[i];refine⟨_,x_down (by simp only[grp];omega),?_⟩;rw[<-e];rfl
  .rw[if_neg (λhc=>e (Zfc _ _ hc))];rw[Yd hi]at hm;rcases Yx.1 hm with hm|hm
   .exact absurd hm.symm e
   .exact ih hm
theorem x_13{t:Ze}(hv:Z3 t=true){cols:List Int}(hc:Zbw t.Arity cols=true):Zq4 (Zt t) cols=some (.own 0,[.arr 3 1 true ((degS t cols).map ic)]):=by
 have hA:=Zy.1 (Zce hv);have hl:=Zbkq hc (by omega);refine Zcq0 ?_;by_cases h0:cols=[]
 .subst h0;rw[if_pos (by simp),degS_nil];have e:(Zt t).RowCount=(t.Rows.length:Int):=rfl;by_cases h1:t.Rows=[]
  .rw[if_pos (by rw[e,h1];rfl),if_pos h1]
  .have:=Yba.2 h1;rw[if_neg (by rw[e];omega),if_neg h1,e]
 .have:=Yba.2 h0;rw[if_neg (by omega)];have:=l_13 hv (cols:=cols) (by omega) 0 (Ya _) (by rw[Yq];exact in_subs (Zce hv) hc h0);simpa using this
theorem Zbk4{t:Ze}(h:LeT t)(hv:Z3 t=true){cols:List Int}(hc:Zbw t.Arity cols=true):Znf (Zt t) cols=some (.own 0,[.arr 3 1 true ((degS t cols).map ic)]):=by
 refine Zcq6 ⟨_,Zbkw h hv,?_⟩;rw[if_pos rfl];exact⟨_,x_13 hv hc,rfl⟩
def degV(t:Ze)(cols:List Int):Int:=(degS t cols).getD 0 0
theorem Zb7g{t:Ze}(h:LeT t)(hv:Z3 t=true){cols:List Int}(hc:Zbw t.Arity cols=true):Zmj (Zt t) cols=some (I (degV t cols),[]):=by
 refine Zcny ⟨_,Zbky h hv hc,?_⟩;unfold degV
 cases e:degS t cols with
 |nil=>rw[if_pos (by simp)];rfl
 |cons a l=>rw[if_neg (by simp;omega)];exact⟨a,rfl,rfl⟩
theorem Zcwt{t:Ze}(h:LeT t)(hv:Z3 t=true){cols:List Int}(hc:Zbw t.Arity cols=true):Z3w (Zt t) cols=some (I (degV t cols),[]):=by
 refine Zcrc ⟨_,Zbk4 h hv hc,?_⟩;unfold degV
 cases e:degS t cols with
 |nil=>rw[if_pos (by simp)];rfl
 |cons a l=>rw[if_neg (by simp;omega)];exact⟨a,rfl,rfl⟩
theorem degS_mem{t:Ze}(hv:Z3 t=true){cols:List Int}{x:Int}(hx:x∈degS t cols):0<=x/\x<=8:=by
 have h8:=Zd8 hv;unfold degS at hx;rw[List.mem_reverse]at hx;obtain⟨g,_,rfl⟩:=Yr.1 ((Ycu _ _).mem_iff.1 hx);have h1:=Zbkp (selT t.Rows cols) g;have h2:=cnt_le (selT t.Rows cols) g;rw[Zyz]at h2;omega
theorem Zy4{t:Ze}(hv:Z3 t=true)(cols:List Int):(degS t cols).length<=8:=by
 have h8:=Zd8 hv;unfold degS;rw[List.length_reverse,Zb63];have:=Zbkx t.Rows cols;omega
theorem degV_in{t:Ze}(hv:Z3 t=true)(cols:List Int):0<=degV t cols/\degV t cols<=8:=by
 unfold degV
 cases e:degS t cols with
 |nil=>exact⟨by simp,by simp⟩
 |cons a l=>exact degS_mem hv (cols:=cols) (by rw[e];simp)
structure Ctx (s:Zf) (q:Zb):Prop where
 le:Zcs s
 lq:LeQ q
 st:Zh7 s=true
 qf:qFor s.Zi q=true
def atA(q:Zb)(i:Nat):Atom:=q.Atoms.getD i ⟨⟨#[]⟩,[]⟩
def tab(s:Zf)(q:Zb)(i:Nat):Ze:=(Zbl s.Zi (atA q i).Name).getD ⟨⟨#[]⟩,0,[]⟩
theorem Ze0{q:Zb}{i:Nat}(h:i<q.Atoms.length):q.Atoms[((i:Nat):Int).toNat]?=some (atA q i):=by
 unfold atA;rw[Yh,Yy,Yj h];rfl
theorem atA_mem{q:Zb}{i:Nat}(h:i<q.Atoms.length):atA q i∈q.Atoms:=by
 unfold atA;rw[Yy,Yj h];exact Yb h
section
variable{s:Zf}{q:Zb}(c:Ctx s q)
include c
theorem Ctx.vd:Zb6 s.Zi=true:=by
 have:=c.st;unfold Zh7 at this;simp only[Yc]at this;exact this.1.1.1
theorem Ctx.tabs:s.Zl.Tables=s.Zi.Tables.map Zt:=by
 have:=c.st;unfold Zh7 at this;simp only[Yc,decide_eq_true_eq]at this;exact this.1.2.symm
theorem Ctx.vq:Z6 q.Zp q.Atoms=true:=by
 have:=c.qf;unfold qFor at this;simp only[Yc]at this;exact this.1
theorem Ctx.n4:1<=q.Atoms.length/\q.Atoms.length<=4:=by
 have:=Zeo c.vq;omega
theorem Ctx.look{i:Nat}(h:i<q.Atoms.length):Zbl s.Zi (atA q i).Name=some (tab s q i)/\(tab s q i).Arity=((atA q i).Vars.length:Int):=by
 have hq:=c.qf;unfold qFor at hq;simp only[Yc]at hq;have:=Yn.1 hq.2 _ (atA_mem h);unfold forOk at this;unfold tab
 cases e:Zbl s.Zi (atA q i).Name with
 |none=>rw[e]at this;cases this
 |some t=>rw[e]at this;exact⟨rfl,by simpa using this⟩
theorem Ctx.vt{i:Nat}(h:i<q.Atoms.length):Z3 (tab s q i)=true:=Zh6 (c.look h).1
theorem Ctx.lt{i:Nat}(h:i<q.Atoms.length):LeT (tab s q i):=Zb6i c.le.d (c.look h).1
theorem l_iLS(n:ByteArray):∀i,i<=s.Zi.Tables.length->∀t,(s.Zi.Tables.drop i).find? (λt=>decide (t.Name=n))=some t->Zpn ⟨#[]⟩ 0 0 n s.Zl.Tables s.Zl.Tables.length i=some (.tup [.agg [.t (.str t.Name),I t.Arity,I (t.Rows.length:Int),.own 0],Bo true],[.arr 200 3 true ((Zt t).Groups.map Zh.c)]):=by
 have hl:s.Zl.Tables.length=s.Zi.Tables.length:=by rw[c.tabs,Yo]
 have h6:=Zy1 c.vd;refine down _ ?_ ?_
 .intro t ht;rw[Yg]at ht;cases ht
 .intro i hi ih t ht;have hg:s.Zl.Tables[((i:Nat):Int).toNat]?=some (Zt s.Zi.Tables[i]):=by
   rw[Yh,c.tabs,Ybh,Yj hi];rfl
  rw[Yd hi,List.find?_cons]at ht;have hT:=Yb hi;refine Zcno ?_;rw[if_pos (by omega),wS hi (by omega)];refine⟨by omega,_,hg,?_⟩;have en:(Zt s.Zi.Tables[i]).Name=s.Zi.Tables[i].Name:=rfl;by_cases e:s.Zi.Tables[i].Name=n
  .rw[decide_eq_true e]at ht;cases ht;rw[if_pos (by rw[en];exact e)];refine⟨_,Zb62 (c.le.d.2 _ hT) (Zfb c.vd hT),?_⟩;rw[if_pos rfl];exact⟨_,_,_,_,x_cStats _ (Zy3 (Zfb c.vd hT)),rfl⟩
  .rw[decide_eq_false e]at ht;rw[if_neg (by rw[en];exact e)];exact ih t ht
theorem l_sLS(n:ByteArray):∀i,i<=s.Zi.Tables.length->∀t,(s.Zi.Tables.drop i).find? (λt=>decide (t.Name=n))=some t->Zqx s.Zl ⟨#[]⟩ 0 0 n i=some (.tup [.agg [.t (.str t.Name),I t.Arity,I (t.Rows.length:Int),.own 0],Bo true],[.arr 200 3 true ((Zt t).Groups.map Zh.c)]):=by
 have hl:s.Zl.Tables.length=s.Zi.Tables.length:=by rw[c.tabs,Yo]
 have h6:=Zy1 c.vd;refine down _ ?_ ?_
 .intro t ht;rw[Yg]at ht;cases ht
 .intro i hi ih t ht;have hg:s.Zl.Tables[((i:Nat):Int).toNat]?=some (Zt s.Zi.Tables[i]):=by
   rw[Yh,c.tabs,Ybh,Yj hi];rfl
  rw[Yd hi,List.find?_cons]at ht;have hT:=Yb hi;refine Zcqs ?_;rw[if_pos (by omega),wS hi (by omega)];refine⟨by omega,_,hg,?_⟩;have en:(Zt s.Zi.Tables[i]).Name=s.Zi.Tables[i].Name:=rfl;by_cases e:s.Zi.Tables[i].Name=n
  .rw[decide_eq_true e]at ht;cases ht;rw[if_pos (by rw[en];exact e)];refine⟨_,Zbkw (c.le.d.2 _ hT) (Zfb c.vd hT),?_⟩;rw[if_pos rfl];exact⟨_,_,_,_,x_s13 _ (Zy3 (Zfb c.vd hT)),rfl⟩
  .rw[decide_eq_false e]at ht;rw[if_neg (by rw[en];exact e)];exact ih t ht
theorem Ctx.find{i:Nat}(h:i<q.Atoms.length):s.Zi.Tables.find? (λt=>decide (t.Name=(atA q i).Name))=some (tab s q i):=by
 have:=(c.look h).1;unfold Zbl at this
 rwa [if_pos c.vd]at this
theorem Zb7h{i:Nat}(h:i<q.Atoms.length):Zpm s.Zl (atA q i).Name=some (.tup [.agg [.t (.str (tab s q i).Name),I (tab s q i).Arity,I ((tab s q i).Rows.length:Int),.own 0],Bo true],[.arr 200 3 true ((Zt (tab s q i)).Groups.map Zh.c)]) :=
 Zcnp (l_iLS c _ 0 (Ya _) _ (by rw[Yq];exact c.find h))
theorem Zcwu{i:Nat}(h:i<q.Atoms.length):Zws s.Zl (atA q i).Name=some (.tup [.agg [.t (.str (tab s q i).Name),I (tab s q i).Arity,I ((tab s q i).Rows.length:Int),.own 0],Bo true],[.arr 200 3 true ((Zt (tab s q i)).Groups.map Zh.c)]) :=
 Zcqt (l_sLS c _ 0 (Ya _) _ (by rw[Yq];exact c.find h))
theorem Zsg{i:Nat}(h:i<q.Atoms.length):Zgb s q i=some (.agg [.t (.str (tab s q i).Name),I (tab s q i).Arity,I ((tab s q i).Rows.length:Int),.own 0],[.arr 200 3 true ((Zt (tab s q i)).Groups.map Zh.c)]) :=
 Zcnq ⟨by omega,_,Ze0 h,_,_,_,_,_,Zb7h c h,rfl⟩
theorem x_16S{i:Nat}(h:i<q.Atoms.length):Zfs s q i=some (.agg [.t (.str (tab s q i).Name),I (tab s q i).Arity,I ((tab s q i).Rows.length:Int),.own 0],[.arr 200 3 true ((Zt (tab s q i)).Groups.map Zh.c)]) :=
 Zcqu ⟨by omega,_,Ze0 h,_,_,_,_,_,Zcwu c h,rfl⟩
end
noncomputable def okQ(s:Zf)(q:Zb)(m:Int):Bool:=Zh7 s && (qFor s.Zi q && inR m 1 (Zbm q.Zp q.Atoms))
theorem Zjp{s:Zf}{q:Zb}(h:Zcs s)(hq:LeQ q)(m:Int):Zcu s q m=some (Bo (okQ s q m),[]):=by
 refine Zcni ⟨_,Zb6u h,?_⟩;unfold okQ;rcases ft (Zh7 s)with e|e
 .rw[e,if_pos rfl,Ye];refine⟨_,Zb48 _ h.d _ hq,?_⟩;rcases ft (qFor s.Zi q)with e2|e2
  .rw[e2,if_pos rfl,Ye];exact⟨_,Zn1 _ hq,_,Zbv _ _ _,rfl⟩
  .rw[e2,if_neg (by decide)];rfl
 .rw[e,if_neg (by decide)];rfl
theorem Zgp{s:Zf}{q:Zb}(h:Zcs s)(hq:LeQ q)(m:Int):Zcv s q m=some (Bo (okQ s q m),[]):=by
 refine Zcqh ⟨_,Zcwh h,?_⟩;unfold okQ;rcases ft (Zh7 s)with e|e
 .rw[e,if_pos rfl,Ye];refine⟨_,Zcun _ h.d _ hq,?_⟩;rcases ft (qFor s.Zi q)with e2|e2
  .rw[e2,if_pos rfl,Ye];exact⟨_,Zjc _ hq,_,Z8 _ _ _,rfl⟩
  .rw[e2,if_neg (by decide)];rfl
 .rw[e,if_neg (by decide)];rfl
theorem Zh9{s:Zf}{q:Zb}(h:Zcs s)(hq:LeQ q){m:Int}(e:okQ s q m=true):Ctx s q/\1<=m/\m<2 ^ q.Atoms.length:=by
 unfold okQ at e;simp only[Yc]at e;have c:Ctx s q:=⟨h,hq,e.1,e.2.1⟩;have h1:=Zy.1 e.2.2;have h2:=(Zkc c.vq).2.1;unfold Zbm at h1;rw[if_pos c.vq,h2]at h1;exact⟨c,by omega,by omega⟩
def Zb7(vars:List Int):Nat->List Int->List Int
 |_,[]=>[]
 |k,v::vs=>if has vars v=true then(k:Int)::Zb7 vars (k+1) vs else Zb7 vars (k+1) vs
theorem Zbk5(c:List Int)(n:Int):∀(vs:List Int) (k:Nat) (p:Option Int),(∀q,p=some q->q<k)->(k:Int)+vs.length<=n->ascN n p (Zb7 c k vs)=true
 |[],_,_,_,_=>rfl
 |v::vs,k,p,hp,hn=>by
  simp only[Yw]at hn;unfold Zb7;split
  .simp only[ascN,Yc];refine⟨⟨Zy.2 ⟨by omega,by omega⟩,?_⟩,Zbk5 c n vs (k+1) (some k) (λq hq=>by cases hq;omega) (by omega)⟩
   cases p with
   |none=>rfl
   |some q=>simpa[nxt,ltI]using hp q rfl
  .exact Zbk5 c n vs (k+1) p (λq hq=>by have:=hp q hq;omega) (by omega)
theorem colsF_ok(vars:List Int){n:Int}{vs:List Int}(h:n=vs.length):Zbw n (Zb7 vars 0 vs)=true:=Zbk5 vars n vs 0 none (λq hq=>by cases hq) (by omega)
theorem l_iac(a:Atom)(vars:List Int)(ha:a.Vars.length<=1000)(hv:Le vars):∀i,i<=a.Vars.length->∀out:List Int,out.length<=i->Zpp out vars a.Vars a.Vars.length i=some (.own 0,[.arr 3 1 true ((out++Zb7 vars i (a.Vars.drop i)).map ic)]):=by
 refine down _ ?_ ?_
 .intro out ho;refine Zbzy ?_;rw[if_neg (by omega),Yg];simp[Zb7]
 .intro i hi ih out ho;refine Zbzy ?_;rw[if_pos (by omega),wS hi (by omega),Yd hi,Zb7];refine⟨by omega,_,gE hi,_,Zr6 _ _ hv,?_⟩;rcases ft (has vars a.Vars[i])with e|e
  .rw[e,if_pos rfl,if_pos rfl];exact⟨by omega,by have:=ih (out++[(i:Int)]) (by simp;omega);simpa using this⟩
  .rw[e,if_neg (by decide),if_neg (by decide)];exact ih out (by omega)
theorem Zbk6{a:Atom}{vars:List Int}(ha:a.Vars.length<=1000)(hv:Le vars):Zkh a vars=some (.own 0,[.arr 3 1 true ((Zb7 vars 0 a.Vars).map ic)]):=Zcnt (by simpa using l_iac a vars ha hv 0 (Ya _) [] (by simp))
theorem l_sac(a:Atom)(vars:List Int)(ha:a.Vars.length<=1000)(hv:Le vars):∀i,i<=a.Vars.length->∀out:List Int,out.length<=i->Zq2 a out vars i=some (.own 0,[.arr 3 1 true ((out++Zb7 vars i (a.Vars.drop i)).map ic)]):=by
 refine down _ ?_ ?_
 .intro out ho;refine Zb2c ?_;rw[if_neg (by omega),Yg];simp[Zb7]
 .intro i hi ih out ho;refine Zb2c ?_;rw[if_pos (by omega),wS hi (by omega),Yd hi,Zb7];refine⟨by omega,_,gE hi,_,Zn0 _ _ hv,?_⟩;rcases ft (has vars a.Vars[i])with e|e
  .rw[e,if_pos rfl,if_pos rfl];exact⟨by omega,by have:=ih (out++[(i:Int)]) (by simp;omega);simpa using this⟩
  .rw[e,if_neg (by decide),if_neg (by decide)];exact ih out (by omega)
theorem Zbk7{a:Atom}{vars:List Int}(ha:a.Vars.length<=1000)(hv:Le vars):Znb a vars=some (.own 0,[.arr 3 1 true ((Zb7 vars 0 a.Vars).map ic)]):=Zcqx (by simpa using l_sac a vars ha hv 0 (Ya _) [] (by simp))
theorem Ctx.vars3{s:Zf}{q:Zb}(c:Ctx s q){i:Nat}(h:i<q.Atoms.length):(atA q i).Vars.length<=3:=by
 have h1:=(c.look h).2;have h2:=Zy.1 (Zce (c.vt h));omega
theorem Ctx.cols{s:Zf}{q:Zb}(c:Ctx s q){i:Nat}(h:i<q.Atoms.length)(cc:List Int):Zbw (tab s q i).Arity (Zb7 cc 0 (atA q i).Vars)=true:=colsF_ok cc (c.look h).2
def mskL(m:Int):Nat->Nat->List Nat
 |_,0=>[]
 |i,k+1=>if Zx m i=true then i::mskL m (i+1) k else mskL m (i+1) k
theorem Z6u(m:Int):∀(k i:Nat),Zjn m i k=(mskL m i k).map λn:Nat=>(n:Int)
 |0,i=>rfl
 |k+1,i=>by
  rw[Zbk3,Z6u m k (i+1),mskL];split<;>simp
theorem Zbk8(m:Int):∀(a i b:Nat),mskL m i (a+b)=mskL m i a++mskL m (i+a) b
 |0,i,b=>by simp[mskL]
 |a+1,i,b=>by
  rw[show a+1+b=(a+b)+1 by omega,mskL,mskL,Zbk8 m a (i+1) b,show i+1+a=i+(a+1) by omega];split<;>rfl
theorem Zbk9(m:Int):∀(k i:Nat),(∀j,i<=j->j<i+k->Zx m j=false)->mskL m i k=[]
 |0,_,_=>rfl
 |k+1,i,h=>by
  rw[mskL,h i (by omega) (by omega),if_neg (by decide)];exact Zbk9 m k (i+1) λj h1 h2=>h j (by omega) (by omega)
set_option maxRecDepth 100000 in
theorem f_hi:∀(a:Fin 16) (n i:Fin 5),a.1<2 ^ n.1->n.1<=i.1->Zx (a.1:Int) i.1=false:=by decide
theorem msk_n{m:Int}{n:Nat}(h0:0<=m)(hm:m<2 ^ n)(hn:n<=4):mskL m 0 4=mskL m 0 n:=by
 have h16:m<16:=by
  have:(2:Nat) ^ n<=2 ^ 4:=Nat.pow_le_pow_right (by decide) hn
  have e:((2:Int) ^ n)=(((2:Nat) ^ n:Nat):Int):=by push_cast;rfl
  omega
 obtain⟨a,rfl⟩:=m16 ⟨h0,h16⟩;have ha:a.1<2 ^ n:=by
  have e:((2:Int) ^ n)=(((2:Nat) ^ n:Nat):Int):=by push_cast;rfl
  omega
 have h4:mskL (a.1:Int) 0 4=mskL (a.1:Int) 0 n++mskL (a.1:Int) (0+n) (4-n):=by
  have:=Zbk8 (a.1:Int) n 0 (4-n)
  rwa [show n+(4-n)=4 by omega]at this
 rw[h4,Zbk9 (a.1:Int) (4-n) (0+n) λj h1 h2=>f_hi a ⟨n,by omega⟩ ⟨j,by omega⟩ ha (by simpa using h1),Ybl]
theorem Zee{m:Int}:∀{k i j:Nat},j∈mskL m i k->i<=j/\j<i+k/\Zx m j=true
 |0,i,j,h=>by cases h
 |k+1,i,j,h=>by
  rw[mskL]at h;split at h
  .rcases Yx.1 h with rfl|h
   .exact⟨Yk _,by omega,by assumption⟩
   .obtain⟨a,b,c⟩:=Zee h;exact⟨by omega,by omega,c⟩
  .obtain⟨a,b,c⟩:=Zee h;exact⟨by omega,by omega,c⟩
theorem Zdo{m:Int}{n:Nat}(h0:0<=m)(hm:m<2 ^ n)(hn:n<=4):M16 m:=by
 have:(2:Nat) ^ n<=2 ^ 4:=Nat.pow_le_pow_right (by decide) hn
 have e:((2:Int) ^ n)=(((2:Nat) ^ n:Nat):Int):=by push_cast;rfl
 exact⟨h0,by omega⟩
theorem gM{m:Int}{l:List Nat}{i:Nat}(h:i<l.length):(l.map λn:Nat=>(n:Int))[((i:Nat):Int).toNat]?=some ((l[i]:Nat):Int):=by
 rw[Yh,Ybh,Yj h];rfl
def Zbp(s:Zf)(q:Zb)(i:Nat):Int:=((tab s q i).Rows.length:Int)
def Zgq(s:Zf)(q:Zb)(l:List Nat)(n:Int):Int:=l.foldl (λa i=>a*Zbp s q i) n
theorem Zb7i{s:Zf}{q:Zb}(c:Ctx s q):∀(l:List Nat) (n:Int) (k:Nat),(∀i∈l,i<q.Atoms.length)->0<=n->n<=8 ^ k->k+l.length<=4->0<=Zgq s q l n/\Zgq s q l n<=4096
 |[],n,k,_,h0,h1,hk=>by
  refine⟨h0,Int.le_trans h1 ?_⟩
  have:(8:Nat) ^ k<=8 ^ 4:=Nat.pow_le_pow_right (by decide) (by simpa using hk)
  have e:((8:Int) ^ k)=(((8:Nat) ^ k:Nat):Int):=by push_cast;rfl
  omega
 |i::l,n,k,hm,h0,h1,hk=>by
  have h8:=Zd8 (c.vt (hm i (by simp)));have hr:0<=Zbp s q i/\Zbp s q i<=8:=⟨by unfold Zbp;omega,by unfold Zbp;omega⟩;refine Zb7i c l (n*Zbp s q i) (k+1) (λj hj=>hm j (by simp[hj])) (Int.mul_nonneg h0 hr.1) ?_ (by simp only[Yw]at hk;omega);rw[Int.pow_succ];exact Int.mul_le_mul h1 hr.2 hr.1 (Int.le_trans h0 h1)
theorem Zg8(m:Int):∀(k i:Nat),(mskL m i k).length<=k
 |0,_=>Yk _
 |k+1,i=>by
  rw[mskL];have:=Zg8 m k (i+1);split
  .simp only[Yw];omega
  .omega
theorem Zb7j{s:Zf}{q:Zb}(c:Ctx s q){n:Int}{i:Nat}(hi:i<q.Atoms.length)(h0:0<=n)(h1:n<=4096):w (n*Zbp s q i)=n*Zbp s q i:=by
 have h8:=Zd8 (c.vt hi);have hr:0<=Zbp s q i/\Zbp s q i<=8:=⟨by unfold Zbp;omega,by unfold Zbp;omega⟩;have h2:=Int.mul_nonneg h0 hr.1;have h3:=Int.mul_le_mul h1 hr.2 hr.1 (by omega);exact w_in ⟨by omega,by omega⟩
section
variable{s:Zf}{q:Zb}(c:Ctx s q){m:Int}(h1:1<=m)(h2:m<2 ^ q.Atoms.length)
include c h1 h2
theorem Ctx.msk:Zls m=(mskL m 0 q.Atoms.length).map λn:Nat=>(n:Int):=by
 unfold Zls;rw[Z6u,msk_n (by omega) h2 c.n4.2]
omit h1 h2 in
theorem l_iPB(l:List Nat)(hl:∀i∈l,i<q.Atoms.length)(h4:l.length<=4):∀i,i<=l.length->∀n,0<=n->n<=8 ^ i->Zug s q (l.map λn:Nat=>(n:Int)) n l.length i=some (I (Zgq s q (l.drop i) n),[]):=by
 have p8:∀i,i<=4->(8:Int) ^ i<=4096:=by
  intro i hi
  have:(8:Nat) ^ i<=8 ^ 4:=Nat.pow_le_pow_right (by decide) hi
  have e:((8:Int) ^ i)=(((8:Nat) ^ i:Nat):Int):=by push_cast;rfl
  omega
 refine down _ ?_ ?_
 .intro n _ _;refine Zbzv ?_;rw[if_neg (by omega),Yg];rfl
 .intro i hi ih n h0 hn;have hm:=hl _ (Yb hi);have h8:=Zd8 (c.vt hm);have hr:0<=Zbp s q l[i]/\Zbp s q l[i]<=8:=⟨by unfold Zbp;omega,by unfold Zbp;omega⟩;have hp:=p8 i (by omega);refine Zbzv ?_;rw[if_pos (by omega),wS hi (by omega),Yd hi];refine⟨by omega,_,gM (m:=0) hi,_,_,_,_,Zsg c hm,?_⟩;rw[show((tab s q l[i]).Rows.length:Int)=Zbp s q l[i]from rfl,Zb7j c hm h0 (by omega)];refine ih _ (Int.mul_nonneg h0 hr.1) ?_;rw[Int.pow_succ];exact Int.mul_le_mul hn hr.2 hr.1 (by omega)
theorem Zcwv(le:okQ s q m=true):Zuf s q m=some (I (Zgq s q (mskL m 0 q.Atoms.length) 1),[]):=by
 have h16:=Zdo (by omega) h2 c.n4.2;refine Zcnr ⟨_,Zjp c.le c.lq m,?_⟩;rw[le,if_pos rfl];refine .inr ⟨_,Zlt h16,?_⟩;rw[c.msk h1 h2,Yo];have hl:=Zg8 m q.Atoms.length 0;have:=l_iPB c (mskL m 0 q.Atoms.length) (λi hi=>by have:=Zee hi;omega) (by have:=c.n4;omega) 0 (Ya _) 1 (by omega) (by simp);simpa using this
omit h1 h2 in
theorem l_sPB:∀i,i<=q.Atoms.length->∀n,0<=n->n<=8 ^ i->Zqy s q m n i=some (I (Zgq s q (mskL m i (q.Atoms.length-i)) n),[]):=by
 have hn4:=c.n4;have p8:∀i,i<=4->(8:Int) ^ i<=4096:=by
  intro i hi
  have:(8:Nat) ^ i<=8 ^ 4:=Nat.pow_le_pow_right (by decide) hi
  have e:((8:Int) ^ i)=(((8:Nat) ^ i:Nat):Int):=by push_cast;rfl
  omega
 refine down _ ?_ ?_
 .intro n _ _;refine Zb18 ?_;rw[if_neg (by omega),Y6];rfl
 .intro i hi ih n h0 hn;have h8:=Zd8 (c.vt hi);have hr:0<=Zbp s q i/\Zbp s q i<=8:=⟨by unfold Zbp;omega,by unfold Zbp;omega⟩;have hp:=p8 i (by omega);have hpp:(8:Int) ^ (i+1)=8 ^ i*8:=Int.pow_succ 8 i;refine Zb18 ?_;rw[if_pos (by omega),wS hi (by omega),show q.Atoms.length-i=(q.Atoms.length-(i+1))+1 by omega,mskL];refine⟨by omega,?_⟩;by_cases e:andI (shrI m i) 1=1
  .rw[if_pos e,if_pos (by unfold Zx;exact decide_eq_true e)];refine⟨_,_,_,_,x_16S c hi,?_⟩;rw[show((tab s q i).Rows.length:Int)=Zbp s q i from rfl,Zb7j c hi h0 (by omega)];refine ih _ (Int.mul_nonneg h0 hr.1) ?_;rw[hpp];exact Int.mul_le_mul hn hr.2 hr.1 (by omega)
  .rw[if_neg e,if_neg (by unfold Zx;simpa using e)];exact ih n h0 (by omega)
theorem Zcww(le:okQ s q m=true):Zwt s q m=some (I (Zgq s q (mskL m 0 q.Atoms.length) 1),[]):=by
 refine Zcqv ⟨_,Zgp c.le c.lq m,?_⟩;rw[le,if_pos rfl];exact l_sPB c 0 (Ya _) 1 (by omega) (by simp)
omit h1 h2 in
theorem prod_in:0<=Zgq s q (mskL m 0 q.Atoms.length) 1/\Zgq s q (mskL m 0 q.Atoms.length) 1<=4096 :=
 Zb7i c _ 1 0 (λi hi=>by have:=Zee hi;omega) (by omega) (by simp) (by have:=Zg8 m q.Atoms.length 0;have:=c.n4;omega)
end
def degC(s:Zf)(q:Zb)(i:Nat)(used:Int):Int:=if i<q.Atoms.length then degV (tab s q i) (Zb7 (Zbe q used) 0 (atA q i).Vars)else 0
def chG(s:Zf)(q:Zb):Nat->Int->Int->Int
 |0,_,_=>1
 |f+1,used,left=>if left=0 then 1 else(mskL left 0 4).foldl (λb i=>bst b (degC s q i used*chG s q f (orI used (shlI 1 i)) (Zr left (shlI 1 i)))) (-1)
theorem Zb7k{s:Zf}{q:Zb}(c:Ctx s q)(i:Nat)(used:Int):0<=degC s q i used/\degC s q i used<=8:=by
 unfold degC;split
 .exact degV_in (c.vt ‹_›) _
 .omega
set_option maxRecDepth 100000 in
theorem Zlu:∀(l:Fin 16) (i:Fin 4),Zx (l.1:Int) i.1=true->M16 (Zr l.1 (shlI 1 i.1))/\popc (Zr l.1 (shlI 1 i.1))+1=popc l.1:=by decide
set_option maxRecDepth 100000 in
theorem Zy5:∀l:Fin 16,l.1≠0->1<=popc l.1/\mskL (l.1:Int) 0 4≠[]:=by decide
set_option maxRecDepth 100000 in
theorem f_le:∀(l:Fin 16) (i:Fin 4),Zr (l.1:Int) (shlI 1 i.1)<=l.1:=by decide
theorem f_le2:∀(l u:Fin 16),Zr (l.1:Int) u.1<=l.1:=by decide +kernel
theorem f_not0:∀l:Fin 16,Zr (l.1:Int) 0=l.1:=by decide
theorem f_and0:∀l:Fin 16,andI 0 (l.1:Int)=0:=by decide
theorem chG_in{s:Zf}{q:Zb}(c:Ctx s q):∀(f:Nat) (used cc:Int),M16 cc->0<=chG s q f used cc/\chG s q f used cc<=8 ^ f
 |0,_,_,_=>⟨by simp[chG],by simp[chG]⟩
 |f+1,used,cc,hl=>by
  unfold chG;have hp:(1:Int)<=8 ^ f:=by exact_mod_cast Nat.pos_of_ne_zero (by simp)
  have e8:(8:Int) ^ (f+1)=8*8 ^ f:=by rw[Int.pow_succ,Int.mul_comm]
  split
  .omega
  .rename_i hne;obtain⟨a,rfl⟩:=m16 hl;refine Zb4x (by omega) _ (λi=>degC s q i used*chG s q f (orI used (shlI 1 i)) (Zr (a.1:Int) (shlI 1 i))) _ (λi hi=>?_) (by omega) (.inl (Zy5 a (by omega)).2);have hm:=Zee hi;have h1:=Zb7k c i used;have h2:=chG_in c f (orI used (shlI 1 i)) (Zr (a.1:Int) (shlI 1 i)) (Zlu a ⟨i,by omega⟩ hm.2.2).1;refine⟨Int.mul_nonneg h1.1 h2.1,?_⟩;rw[e8];exact Int.mul_le_mul h1.2 h2.2 h2.1 (by omega)
end Go.Proofs.YtnnjbejcffjgfaaGreat
