/-
  Parts of the proofs for this seat: GD GE GF GH NAx.
-/
import Derived.Test.YtnnjbejcffjgfaaGreatP13
import Derived.Test.YtnnjbejcffjgfaaGreatP14
import Derived.Test.YtnnjbejcffjgfaaGreatP15
import Derived.Test.YtnnjbejcffjgfaaGreatP16
import Derived.Test.YtnnjbejcffjgfaaGreatP17
import Derived.Test.YtnnjbejcffjgfaaGreatP18
import Derived.Test.YtnnjbejcffjgfaaGreatP20
set_option linter.unusedSectionVars false
set_option linter.unusedSimpArgs false
set_option linter.unusedVariables false
set_option maxRecDepth 100000
set_option maxHeartbeats 4000000
namespace Go.Proofs.YtnnjbejcffjgfaaGreat
open Go.AM
def stR(t:Ze):AV×List Blk:=(.agg [.t (.str t.Name),I t.Arity,I (t.Rows.length:Int),.own 0],[.arr 200 3 false ((Zt t).Groups.map Zg.c)])
theorem Zln{n:Int}(h:inR n 1 3=true):0<(subs n).length/\(subs n).length<=7:=by
 have h':1<=n/\n<=3:=by simpa[inR]using h
 have:n=1\/n=2\/n=3:=by omega
 rcases this with rfl|rfl|rfl<;>decide
theorem Zcd{t:Ze}(h:Z3 t=true):inR t.Arity 1 3=true:=by
 unfold Z3 at h;simp only[Yc]at h;exact h.1.1.2
theorem Zcuu{t:Ze}(h:LeT t)(hv:Z3 t=true)(a:ByteArray)(b c:Int)(a':ByteArray)(b' c':Int):∀i,i<=(subs t.Arity).length->Zl7 t a b c a' b' c' false (((subs t.Arity).take i).map (grp t.Rows)) (subs t.Arity) (subs t.Arity).length i=some (.agg [.t (.str a'),I b',I c',.own 0],[.arr 200 3 false (((subs t.Arity).map (grp t.Rows)).map Zg.c)]):=by
 have h7:=Zln (Zcd hv);refine down _ ?_ ?_
 .refine Zbyu _ _ _ _ _ _ _ _ _ _ _ _ _ ?_;rw[if_neg (by omega),Yl]
 .intro i hi ih;refine Zbyu _ _ _ _ _ _ _ _ _ _ _ _ _ ?_;rw[if_pos (by omega),wS hi (by omega)];rw[Y1 hi,Y0]at ih;exact⟨by omega,_,gE hi,.inr ⟨_,_,Zbki h hv (Z6h (Zcd hv) _ (Yb hi)),by simp;omega,ih⟩⟩
theorem Zbkj{t:Ze}(h:LeT t)(hv:Z3 t=true):Zhl t=some (stR t):=by
 have h7:=Zln (Zcd hv);refine Zclu _ _ ⟨_,Z5z t h,?_⟩;rw[hv,if_pos rfl];refine .inr ⟨_,Zcur (Zcd hv),Zclt _ _ _ _ _ _ _ _ _ _ _ ?_⟩;rw[if_pos (by omega)];refine⟨by omega,_,gE (i:=0) h7.1,.inr ⟨_,_,Zbki h hv (Z6h (Zcd hv) _ (Yb h7.1)),?_⟩⟩;have:=Zcuu h hv ⟨#[]⟩ 0 0 t.Name t.Arity (t.Rows.length:Int) 1 (by omega);rw[Y1 h7.1]at this;rw[show w (0+1)=1 from by decide];unfold stR Zt;simpa[grp]using this
theorem Zcuv{t:Ze}(h:LeT t)(hv:Z3 t=true)(a:ByteArray)(b c:Int)(a':ByteArray)(b' c':Int):∀i,i<=(subs t.Arity).length->Zvy t a b c a' b' c' false (((subs t.Arity).take i).map (grp t.Rows)) (subs t.Arity) i=some (.agg [.t (.str a'),I b',I c',.own 0],[.arr 200 3 false (((subs t.Arity).map (grp t.Rows)).map Zg.c)]):=by
 have h7:=Zln (Zcd hv);refine down _ ?_ ?_
 .refine Zb0v _ _ _ _ _ _ _ _ _ _ _ _ ?_;rw[if_neg (by omega),Yl]
 .intro i hi ih;refine Zb0v _ _ _ _ _ _ _ _ _ _ _ _ ?_;rw[if_pos (by omega),wS hi (by omega)];rw[Y1 hi,Y0]at ih;exact⟨by omega,_,gE hi,_,_,Zb5x h hv (Z6h (Zcd hv) _ (Yb hi)),by simp;omega,ih⟩
theorem Zbkk{t:Ze}(h:LeT t)(hv:Z3 t=true):Zhq t=some (stR t):=by
 have h7:=Zln (Zcd hv);refine Zcoy _ _ ⟨_,Z50 t h,?_⟩;rw[hv,if_pos rfl];refine⟨_,Zcus (Zcd hv),Zcox _ _ _ _ _ _ _ _ _ _ ?_⟩;rw[if_pos (by omega)];refine⟨by omega,_,gE (i:=0) h7.1,_,_,Zb5x h hv (Z6h (Zcd hv) _ (Yb h7.1)),?_⟩;have:=Zcuv h hv ⟨#[]⟩ 0 0 t.Name t.Arity (t.Rows.length:Int) 1 (by omega);rw[Y1 h7.1]at this;rw[show w (0+1)=1 from by decide];unfold stR Zt;simpa[grp]using this
def catF(d:Zi)(v:Int):AV×List Blk:=if Zb5 d && inR v 1 999 then(if d.Tables=[]then(.tup [.agg [I v,.t .nil],Bo true],[])else(.tup [.agg [I v,.own 0],Bo true],[.arr 141 4 false ((d.Tables.map Zt).map Zf.c)]))else(.tup [.agg [I 0,.t .nil],Bo false],[])
theorem Zyy{d:Zi}(hv:Zb5 d=true):d.Tables.length<=6:=by
 unfold Zb5 at hv;simp only[Yc,decide_eq_true_eq]at hv;omega
theorem Zcuw{d:Zi}(h:LeD d)(hv:Zb5 d=true)(a b:Int):∀i,i<=d.Tables.length->Zl8 a b false ((d.Tables.take i).map Zt) d.Tables d.Tables.length i=some (.tup [.agg [I b,.own 0],Bo true],[.arr 141 4 false ((d.Tables.map Zt).map Zf.c)]):=by
 have h6:=Zyy hv;refine down _ ?_ ?_
 .refine Zbyv _ _ _ _ _ _ _ _ ?_;rw[if_neg (by omega),Yl]
 .intro i hi ih;refine Zbyv _ _ _ _ _ _ _ _ ?_;rw[if_pos (by omega),wS hi (by omega)];rw[Y1 hi,Y0]at ih;have hm:=Yb hi;exact⟨by omega,_,gE hi,.inr ⟨_,_,_,_,_,Zbkj (h.2 _ hm) (Zfa hv hm),by simp;omega,ih⟩⟩
theorem Zcux{d:Zi}(h:LeD d)(v:Int):Zo8 d v=some (catF d v):=by
 refine Zclw _ _ _ ⟨_,Zb4l d h,?_⟩;unfold catF;rcases tf (Zb5 d)with hv|hv
 .rw[hv];rfl
 rw[hv,if_pos rfl];refine⟨_,Zbu _ _ _,?_⟩;rcases tf (inR v 1 999)with e|e
 .rw[e];rfl
 rw[e,if_pos rfl,if_pos (by rfl)];refine Zclv _ _ _ _ _ _ ?_;by_cases e0:d.Tables=[]
 .rw[if_neg (by rw[e0];simp),if_pos e0]
 .have h0:0<d.Tables.length:=Yba.2 e0;have hm:=Yb h0;rw[if_pos (by omega),if_neg e0];refine⟨by omega,_,gE (i:=0) h0,.inr ⟨_,_,_,_,_,Zbkj (h.2 _ hm) (Zfa hv hm),?_⟩⟩;have:=Zcuw h hv 0 v 1 (by omega);rw[Y1 h0]at this;rw[show w (0+1)=1 from by decide];simpa[Zt]using this
theorem Zcuy{d:Zi}(h:LeD d)(hv:Zb5 d=true)(a b:Int):∀i,i<=d.Tables.length->Zmx d a b false ((d.Tables.take i).map Zt) i=some (.tup [.agg [I b,.own 0],Bo true],[.arr 141 4 false ((d.Tables.map Zt).map Zf.c)]):=by
 have h6:=Zyy hv;refine down _ ?_ ?_
 .refine Zb0w _ _ _ _ _ _ _ ?_;rw[if_neg (by omega),Yl]
 .intro i hi ih;refine Zb0w _ _ _ _ _ _ _ ?_;rw[if_pos (by omega),wS hi (by omega)];rw[Y1 hi,Y0]at ih;have hm:=Yb hi;exact⟨by omega,_,gE hi,.inr ⟨_,_,_,_,_,Zbkk (h.2 _ hm) (Zfa hv hm),by simp;omega,ih⟩⟩
theorem Zcuz{d:Zi}(h:LeD d)(v:Int):Zqb d v=some (catF d v):=by
 refine Zco0 _ _ _ ⟨_,Zb4m d h,?_⟩;unfold catF;rcases tf (Zb5 d)with hv|hv
 .rw[hv];rfl
 rw[hv,if_pos rfl];refine⟨_,Z8 _ _ _,?_⟩;rcases tf (inR v 1 999)with e|e
 .rw[e];rfl
 rw[e,if_pos rfl,if_pos (by rfl)];refine Zcoz _ _ _ _ _ ?_;by_cases e0:d.Tables=[]
 .rw[if_neg (by rw[e0];simp),if_pos e0]
 .have h0:0<d.Tables.length:=Yba.2 e0;have hm:=Yb h0;rw[if_pos (by omega),if_neg e0];refine⟨by omega,_,gE (i:=0) h0,.inr ⟨_,_,_,_,_,Zbkk (h.2 _ hm) (Zfa hv hm),?_⟩⟩;have:=Zcuy h hv 0 v 1 (by omega);rw[Y1 h0]at this;rw[show w (0+1)=1 from by decide];simpa[Zt]using this
abbrev LeG(g:Zg):Prop:=g.Columns.length<=4294967296/\(g.Values.length<=4294967296/\∀r∈g.Values,r.length<=4294967296)/\g.Counts.length<=4294967296
abbrev LeS(s:Zf):Prop:=s.Groups.length<=4294967296/\∀g∈s.Groups,LeG g
abbrev LeK(c:Zl):Prop:=c.Tables.length<=4294967296/\∀s∈c.Tables,LeS s
theorem l_eqR(xs ys:List (List Int))(hl:ys.length=xs.length)(hx:xs.length<=4294967296/\∀a∈xs,a.length<=4294967296):∀i,i<=xs.length->Zt0 ys xs xs.length i=some (Bo (decide (xs.drop i=ys.drop i)),[]):=by
 refine down _ ?_ ?_
 .refine Zby4 _ _ _ _ _ ?_;rw[if_neg (by omega),Yg,<-hl,Yg];simp
 .intro i hi ih;have hi':i<ys.length:=by omega
  refine Zby4 _ _ _ _ _ ?_;rw[if_pos (by omega),wS hi (by omega),dropQ hi hi'];refine⟨by omega,_,gE hi,_,gE hi',_,Zcmd _ _ _ ⟨_,Zyx _ _ (hx.2 _ (Yb hi)),rfl⟩,?_⟩;by_cases c:xs[i]=ys[i]
  .rw[if_pos (by simpa using c),ih];simp[c]
  .rw[if_neg (by simpa using c)];simp[c]
theorem Zcu0(xs ys:List (List Int))(hx:xs.length<=4294967296/\∀a∈xs,a.length<=4294967296):Z06 xs ys=some (Bo (decide (xs=ys)),[]):=by
 refine Zcmf _ _ _ ⟨decide (xs=ys),Zcme _ _ _ ?_,rfl⟩;by_cases c:(xs.length:Int)=(ys.length:Int)
 .rw[if_pos c];simpa using l_eqR xs ys (by omega) hx 0 (Ya _)
 .rw[if_neg c]
  have:¬xs=ys:=λhc=>c (by rw[hc])
  simp[this]
theorem Zcu1(a b:Zg)(h:LeG a):Zt1 a b=some (Bo (decide (a=b)),[]):=by
 refine Zcmg _ _ _ ⟨_,Zyx _ _ h.1,?_⟩;by_cases c:a.Columns=b.Columns
 .rw[if_pos (by simpa using c)];refine⟨_,Zcu0 _ _ h.2.1,?_⟩;by_cases c2:a.Values=b.Values
  .rw[if_pos (by simpa using c2)];exact⟨_,Zyx _ _ h.2.2,by simp[Zg.ext_iff,c,c2]⟩
  .rw[if_neg (by simpa using c2)];simp[Zg.ext_iff,c,c2]
 .rw[if_neg (by simpa using c)];simp[Zg.ext_iff,c]
theorem l_eqG(xs ys:List Zg)(hl:ys.length=xs.length)(hx:xs.length<=4294967296/\∀a∈xs,LeG a):∀i,i<=xs.length->Zt2 ys xs xs.length i=some (Bo (decide (xs.drop i=ys.drop i)),[]):=by
 refine down _ ?_ ?_
 .refine Zby5 _ _ _ _ _ ?_;rw[if_neg (by omega),Yg,<-hl,Yg];simp
 .intro i hi ih;have hi':i<ys.length:=by omega
  refine Zby5 _ _ _ _ _ ?_;rw[if_pos (by omega),wS hi (by omega),dropQ hi hi'];refine⟨by omega,_,gE hi,_,gE hi',_,Zcu1 _ _ (hx.2 _ (Yb hi)),?_⟩;by_cases c:xs[i]=ys[i]
  .rw[if_pos (by simpa using c),ih];simp[c]
  .rw[if_neg (by simpa using c)];simp[c]
theorem Zb5y(a b:Zf)(h:LeS a):Zmb a b=some (Bo (decide (a=b)),[]):=by
 refine Zcmi _ _ _ ?_;by_cases c:a.Name=b.Name
 .rw[if_pos c];by_cases c2:a.Arity=b.Arity
  .rw[if_pos c2];by_cases c3:a.RowCount=b.RowCount
   .rw[if_pos c3];refine⟨decide (a.Groups=b.Groups),Zcmh _ _ _ ?_,by simp[Zf.ext_iff,c,c2,c3]⟩;by_cases c4:(a.Groups.length:Int)=(b.Groups.length:Int)
    .rw[if_pos c4];simpa using l_eqG a.Groups b.Groups (by omega) h 0 (Ya _)
    .rw[if_neg c4]
     have:¬a.Groups=b.Groups:=λhc=>c4 (by rw[hc])
     simp[this]
   .rw[if_neg c3];simp[Zf.ext_iff,c,c2,c3]
  .rw[if_neg c2];simp[Zf.ext_iff,c,c2]
 .rw[if_neg c];simp[Zf.ext_iff,c]
theorem l_eqS(xs ys:List Zf)(hl:ys.length=xs.length)(hx:xs.length<=4294967296/\∀a∈xs,LeS a):∀i,i<=xs.length->Zt3 ys xs xs.length i=some (Bo (decide (xs.drop i=ys.drop i)),[]):=by
 refine down _ ?_ ?_
 .refine Zby6 _ _ _ _ _ ?_;rw[if_neg (by omega),Yg,<-hl,Yg];simp
 .intro i hi ih;have hi':i<ys.length:=by omega
  refine Zby6 _ _ _ _ _ ?_;rw[if_pos (by omega),wS hi (by omega),dropQ hi hi'];refine⟨by omega,_,gE hi,_,gE hi',_,Zb5y _ _ (hx.2 _ (Yb hi)),?_⟩;by_cases c:xs[i]=ys[i]
  .rw[if_pos (by simpa using c),ih];simp[c]
  .rw[if_neg (by simpa using c)];simp[c]
def Zd9(v:Int)(ts:List Zf)(c:Zl):Bool:=decide (v=c.Version/\ts=c.Tables)
theorem Zcu2(v:Int)(c:Zl):Ztn v c=some (Bo (Zd9 v [] c),[]):=by
 refine Zclz _ _ _ ?_;unfold Zd9;by_cases e:v=c.Version
 .rw[if_pos e];refine⟨decide ([]=c.Tables),Zcly _ _ ?_,by simp[e]⟩;by_cases e2:c.Tables=[]
  .rw[if_pos (by rw[e2];simp)];refine Zclx _ _ _ _ ?_;rw[if_neg (by omega),e2];simp
  .have h0:=Yba.2 e2;rw[if_neg (by omega)];simp[Ne.symm e2]
 .rw[if_neg e];simp[e]
theorem Zcu3(v:Int)(ts:List Zf)(c:Zl)(h:ts.length<=4294967296/\∀s∈ts,LeS s):Z07 ⟨v,ts⟩ c=some (Bo (Zd9 v ts c),[]):=by
 refine Zcmk _ _ _ ?_;unfold Zd9;by_cases e:v=c.Version
 .rw[if_pos e];refine⟨decide (ts=c.Tables),Zcmj _ _ _ ?_,by simp[e]⟩;by_cases c4:(ts.length:Int)=(c.Tables.length:Int)
  .rw[if_pos c4];simpa using l_eqS ts c.Tables (by omega) h 0 (Ya _)
  .rw[if_neg c4]
   have:¬ts=c.Tables:=λhc=>c4 (by rw[hc])
   simp[this]
 .rw[if_neg e];simp[e]
theorem Zcu4(a b:Zf)(x y:Zg)(hl:y.Values.length=x.Values.length)(hx:LeG x)(hy:LeG y)(r:Bool)(i:Int)(cc:Zm1 a b (w (i+1))=some (Bo r,[])):∀k,k<=x.Values.length->Zqq a b x y i k=some (Bo (decide (x.Values.drop k=y.Values.drop k) && r),[]):=by
 refine down _ ?_ ?_
 .refine Zb1h _ _ _ _ _ _ _ ?_;rw[if_neg (by omega),Yg,<-hl,Yg,cc];simp
 .intro k hk ih;have hk':k<y.Values.length:=by omega
  refine Zb1h _ _ _ _ _ _ _ ?_;rw[if_pos (by omega),wS hk (by have:=hx.2.1.1;omega),dropQ hk hk'];have l1:=hx.2.1.2 _ (Yb hk);have l2:=hy.2.1.2 _ (Yb hk');refine⟨by omega,_,gE hk,_,gE hk',_,Zlf _ _ (by omega) (by omega),?_⟩;by_cases c:x.Values[k]=y.Values[k]
  .rw[if_pos (by rw[c];exact Zi9 _),ih];simp[c]
  .rw[if_neg (λh=>c (Zfb _ _ h))];simp[c]
theorem Zcu5(a b:Zf)(hl:b.Groups.length=a.Groups.length)(ha:LeS a)(hb:LeS b):∀i,i<=a.Groups.length->Zm1 a b i=some (Bo (decide (a.Groups.drop i=b.Groups.drop i)),[]):=by
 refine down _ ?_ ?_
 .refine Zb1g _ _ _ _ ?_;rw[if_neg (by omega),Yg,<-hl,Yg];simp
 .intro i hi ih;have hi':i<b.Groups.length:=by omega
  have l1:=ha.2 _ (Yb hi);have l2:=hb.2 _ (Yb hi');have l11:=l1.1;have l13:=l1.2.2;have l21:=l2.1;have l23:=l2.2.2;refine Zb1g _ _ _ _ ?_;rw[if_pos (by omega),dropQ hi hi'];refine⟨by omega,_,gE hi,_,gE hi',_,Zlf _ _ (by omega) (by omega),?_⟩;by_cases c1:a.Groups[i].Columns=b.Groups[i].Columns
  .rw[if_pos (by rw[c1];exact Zi9 _)];refine⟨_,Zlf _ _ (by omega) (by omega),?_⟩;by_cases c2:a.Groups[i].Counts=b.Groups[i].Counts
   .rw[if_pos (by rw[c2];exact Zi9 _)];by_cases c3:(a.Groups[i].Values.length:Int)=(b.Groups[i].Values.length:Int)
    .rw[if_pos c3];have:=Zcu4 a b a.Groups[i] b.Groups[i] (by omega) l1 l2 _ i (by rw[wS hi (by have:=ha.1;omega)];exact ih) 0 (Ya _);rw[Yq,Yq]at this;have e:decide (a.Groups[i]=b.Groups[i])=decide (a.Groups[i].Values=b.Groups[i].Values):=by simp[Zg.ext_iff,c1,c2]
     rw[e];exact this
    .rw[if_neg c3]
     have:¬a.Groups[i]=b.Groups[i]:=λhc=>c3 (by rw[hc])
     simp[this]
   .rw[if_neg (λh=>c2 (Zfb _ _ h))]
    have:¬a.Groups[i]=b.Groups[i]:=λhc=>c2 (by rw[hc])
    simp[this]
  .rw[if_neg (λh=>c1 (Zfb _ _ h))]
   have:¬a.Groups[i]=b.Groups[i]:=λhc=>c1 (by rw[hc])
   simp[this]
theorem Zb5z(a b:Zf)(ha:LeS a)(hb:LeS b):Zqp a b=some (Bo (decide (a=b)),[]):=by
 refine Zcpj _ _ _ ?_;by_cases c:a.Name=b.Name
 .rw[if_pos c];by_cases c2:a.Arity=b.Arity
  .rw[if_pos c2];by_cases c3:a.RowCount=b.RowCount
   .rw[if_pos c3];by_cases c4:(a.Groups.length:Int)=(b.Groups.length:Int)
    .rw[if_pos c4];have e:decide (a=b)=decide (a.Groups=b.Groups):=by simp[Zf.ext_iff,c,c2,c3]
     rw[e];simpa using Zcu5 a b (by omega) ha hb 0 (Ya _)
    .rw[if_neg c4]
     have:¬a=b:=λhc=>c4 (by rw[hc])
     simp[this]
   .rw[if_neg c3];simp[Zf.ext_iff,c,c2,c3]
  .rw[if_neg c2];simp[Zf.ext_iff,c,c2]
 .rw[if_neg c];simp[Zf.ext_iff,c]
theorem Zcu6(a b:Zl)(hl:b.Tables.length=a.Tables.length)(ha:LeK a)(hb:LeK b):∀i,i<=a.Tables.length->Zwg a b i=some (Bo (decide (a.Tables.drop i=b.Tables.drop i)),[]):=by
 refine down _ ?_ ?_
 .refine Zb1i _ _ _ _ ?_;rw[if_neg (by omega),Yg,<-hl,Yg];simp
 .intro i hi ih;have hi':i<b.Tables.length:=by omega
  refine Zb1i _ _ _ _ ?_;rw[if_pos (by omega),wS hi (by have:=ha.1;omega),dropQ hi hi'];refine⟨by omega,_,gE hi,_,gE hi',_,Zb5z _ _ (ha.2 _ (Yb hi)) (hb.2 _ (Yb hi')),?_⟩;by_cases c:a.Tables[i]=b.Tables[i]
  .rw[if_pos (by simpa using c),ih];simp[c]
  .rw[if_neg (by simpa using c)];simp[c]
theorem Zcu7(v:Int)(c:Zl):Zv1 v c=some (Bo (Zd9 v [] c),[]):=by
 refine Zco2 _ _ _ ?_;unfold Zd9;by_cases e:v=c.Version
 .rw[if_pos e];by_cases e2:c.Tables=[]
  .rw[if_pos (by rw[e2];simp)];refine Zco1 _ _ _ _ ?_;rw[if_neg (by omega)];simp[e,e2]
  .have h0:=Yba.2 e2;rw[if_neg (by omega)];simp[Ne.symm e2]
 .rw[if_neg e];simp[e]
theorem Zcu8(v:Int)(ts:List Zf)(c:Zl)(h:ts.length<=4294967296/\∀s∈ts,LeS s)(hc:LeK c):Z2y ⟨v,ts⟩ c=some (Bo (Zd9 v ts c),[]):=by
 refine Zcpk _ _ _ ?_;unfold Zd9;by_cases e:v=c.Version
 .rw[if_pos e];by_cases c4:(ts.length:Int)=(c.Tables.length:Int)
  .rw[if_pos c4];subst e;have:=Zcu6 ⟨c.Version,ts⟩ c (by simp only;omega) h hc 0 (Ya _);simp only[true_and];simpa using this
  .rw[if_neg c4]
   have:¬ts=c.Tables:=λhc=>c4 (by rw[hc])
   simp[this]
 .rw[if_neg e];simp[e]
def Zgo(d:Zi)(f:Zk):Bool:=match Zbl d f.Name with
 |none=>false
 |some t=>Zbv t.Arity f.From && inR f.To 0 (t.Arity-1) && !(has f.From f.To)
theorem Zh3{d:Zi}{n:ByteArray}{t:Ze}(h:Zbl d n=some t):Z3 t=true:=by
 obtain⟨h1,h2,_⟩:=Zb4p h;exact Zfa h1 h2
theorem Zb50{d:Zi}(hd:LeD d){n:ByteArray}{t:Ze}(h:Zbl d n=some t):LeT t:=hd.2 t (Zb4p h).2.1
theorem Zb51{d:Zi}(h:LeD d)(f:Zk)(hf:f.From.length<=4294967296):Zo9 d f=some (Bo (Zgo d f),[]):=by
 have hl:=Zlg d h f.Name;refine Zcl6 _ _ _ ?_;unfold Zgo
 cases hq:Zbl d f.Name with
 |none=>rw[hq]at hl;exact .inl ⟨_,_,hl,rfl⟩
 |some t =>
  rw[hq]at hl;have hA:=(Zg2 (Zh3 hq)).2;refine .inr ⟨_,_,_,hl,_,Zb5u _ hA _ (by omega),?_⟩;rcases tf (Zbv t.Arity f.From)with e|e
  .rw[e];simp[e]
  .rw[e,if_pos rfl,w1 hA];refine⟨_,Zbu _ _ _,?_⟩;rcases tf (inR f.To 0 (t.Arity-1))with e2|e2
   .rw[e2];simp[e,e2]
   .rw[e2,if_pos rfl];exact⟨_,Zr1 _ _ (by omega),by simp[e,e2]⟩
theorem Zcu9{t:Ze}(hv:Z3 t=true)(h0:t.Rows=[])(vs:List Int)(hl:Le vs):Z2t t.Name t.Arity vs=some (Bo (Zbv t.Arity vs),[]):=by
 have hA:=(Zg2 hv).2;have hV:Zmy t.Name t.Arity=some (Bo true,[]):=by
  unfold Z3 at hv;simp only[Yc]at hv;refine Zb00 _ _ _ ⟨_,Zbjn _,?_⟩;rw[hv.1.1.1,if_pos rfl];refine⟨_,Z8 _ _ _,?_⟩;rw[hv.1.1.2,if_pos rfl];refine Zb0z _ _ _ _ ?_;rw[if_neg (by omega)]
 have main:∀i,i<=vs.length->Zqc t.Name t.Arity vs i=some (Bo (ascN t.Arity (pvA vs i) (vs.drop i)),[]):=by
  refine down _ ?_ ?_
  .refine Zb01 _ _ _ _ _ ?_;rw[if_neg (by omega),Yg];exact⟨_,hV,rfl⟩
  .intro i hi ih;refine Zb01 _ _ _ _ _ ?_;rw[if_pos (by omega),Yd hi,ascN,wS hi (by omega),w1 hA];refine⟨by omega,_,gE hi,_,Z8 _ _ _,?_⟩;rw[show pvA vs (i+1)=some vs[i]from Yj hi]at ih;rcases tf (inR vs[i] 0 (t.Arity-1))with e|e
   .rw[e];simp
   .rw[e,if_pos rfl,ih];by_cases h0:(0:Int)<(i:Int)
    .rw[if_pos h0,wP (by omega) hi (by omega),Zi8 (by omega) (by omega)];refine⟨by omega,_,gE (by omega),?_⟩;by_cases h2:vs[i]<=vs[i-1]
     .rw[if_pos h2];simp[nxt,ltI];omega
     .rw[if_neg h2];simp[nxt,ltI,show vs[i-1]<vs[i] by omega]
    .obtain rfl:i=0:=by omega
     rw[if_neg h0];simp[nxt,pvA]
 exact Zco6 _ _ _ _ (by simpa[Zbv,pvA]using main 0 (Ya _))
theorem Zb52{d:Zi}(h:LeD d)(f:Zk)(hf:f.From.length<=4294967296):Zqd d f=some (Bo (Zgo d f),[]):=by
 have hl:=Znz d h f.Name;refine Zco8 _ _ _ ?_;unfold Zgo
 cases hq:Zbl d f.Name with
 |none=>rw[hq]at hl;exact .inl ⟨_,_,_,hl,rfl⟩
 |some t =>
  rw[hq]at hl;simp only[Zhy]at hl;have hv:=Zh3 hq;have hA:=(Zg2 hv).2;by_cases e0:t.Rows=[]
  .rw[if_pos e0]at hl;refine .inl ⟨_,_,_,hl,?_⟩;rw[if_pos rfl];refine⟨_,Zcu9 hv e0 _ (by omega),?_⟩;rcases tf (Zbv t.Arity f.From)with e|e
   .rw[e];simp[e]
   .rw[e,if_pos rfl,w1 hA];refine⟨_,Z8 _ _ _,?_⟩;rcases tf (inR f.To 0 (t.Arity-1))with e2|e2
    .rw[e2];simp[e,e2]
    .rw[e2,if_pos rfl];exact⟨_,Znx _ _ (by omega),by simp[e,e2]⟩
  .rw[if_neg e0]at hl;refine .inr ⟨_,_,_,hl,_,Zb5v t (Zb50 h hq) hA _ (by omega),?_⟩;rw[hv,Bool.and_true];rcases tf (Zbv t.Arity f.From)with e|e
   .rw[e];simp[e]
   .rw[e,if_pos rfl,w1 hA];refine⟨_,Z8 _ _ _,?_⟩;rcases tf (inR f.To 0 (t.Arity-1))with e2|e2
    .rw[e2];simp[e,e2]
    .rw[e2,if_pos rfl];exact⟨_,Znx _ _ (by omega),by simp[e,e2]⟩
def good(rows:List (List Int))(f:Zk)(i k:Nat):Prop:=selC (rows.getD i []) f.From=selC (rows.getD k []) f.From->(rows.getD i []).getD f.To.toNat 0=(rows.getD k []).getD f.To.toNat 0
def Zfc(rows:List (List Int))(f:Zk)(k:Nat):Prop:=∀k',k<=k'->k'<rows.length->∀i,i<k'->good rows f i k'
structure DepC (t:Ze) (f:Zk) (n:Nat):Prop where
 rows:RowsN t.Rows n
 cols:Zlm f.From n
 to:0<=f.To/\f.To<n
theorem Zb53{d:Zi}{f:Zk}{t:Ze}(hq:Zbl d f.Name=some t)(hv:Zgo d f=true):DepC t f t.Arity.toNat:=by
 obtain⟨hR,hA⟩:=Zg2 (Zh3 hq);unfold Zgo at hv;rw[hq]at hv;simp only[Yc]at hv;have h2:0<=f.To/\f.To<=t.Arity-1:=by simpa[inR]using hv.1.2
 exact⟨hR,Zbkg hv.1.1 hA,by omega⟩
theorem gd{rows:List (List Int)}{i:Nat}(h:i<rows.length):rows.getD i []=rows[i]:=by
 rw[Yy,Yj h];rfl
def Vio(L:Option (AV×List Blk))(z:AV×List Blk)(ok:Prop):Prop:=(ok->L=some z)/\(¬ok->∃a b:Int,L=some (.own 0,[.arr 3 1 true (([a,b]:List Int).map ic)]))
theorem Vio.cong{L:Option (AV×List Blk)}{z:AV×List Blk}{p q:Prop}(h:Vio L z p)(e:p↔q):Vio L z q:=⟨λhq=>h.1 (e.2 hq),λhq=>h.2 λhp=>hq (e.1 hp)⟩
theorem Vio.map{L L':Option (AV×List Blk)}{z:AV×List Blk}{p:Prop}(h:Vio L z p)(e:∀r,L=some r->L'=some r):Vio L' z p:=⟨λhp=>e _ (h.1 hp),λhp=>(h.2 hp).imp λa ⟨b,hb⟩=>⟨b,e _ hb⟩⟩
theorem Zr9{rows:List (List Int)}{f:Zk}{k i:Nat}(hi:i<k):((∀j,i<=j->j<k->good rows f j k)/\Zfc rows f (k+1))↔(good rows f i k/\((∀j,i+1<=j->j<k->good rows f j k)/\Zfc rows f (k+1))):=by
 constructor
 .rintro⟨h1,h2⟩;exact⟨h1 i (Yk _) hi,λj h3 h4=>h1 j (by omega) h4,h2⟩
 .rintro⟨h0,h1,h2⟩;refine⟨λj h3 h4=>?_,h2⟩;by_cases e:j=i
  .subst e;exact h0
  .exact h1 j (by omega) h4
theorem ok_out{rows:List (List Int)}{f:Zk}{k:Nat}(hk:k<rows.length):Zfc rows f k↔((∀j,0<=j->j<k->good rows f j k)/\Zfc rows f (k+1)):=by
 constructor
 .intro h;exact⟨λj _ h4=>h k (Yk _) hk j h4,λk' h1 h2=>h k' (by omega) h2⟩
 .rintro⟨h1,h2⟩ k' h3 h4 i hi;by_cases e:k'=k
  .subst e;exact h1 i (Ya _) hi
  .exact h2 k' (by omega) h4 i hi
theorem Zcva{t:Ze}{f:Zk}{n:Nat}(h:DepC t f n){k:Nat}(hk:k<t.Rows.length)(c:Vio (Zpa f t t.Rows t.Rows.length (w ((k:Int)+1))) (.t .nil,[]) (Zfc t.Rows f (k+1))) :
  ∀i,i<=k->Vio (Zep f t k t.Rows[k] t.Rows t.Rows.length k (t.Rows.take k) k i) (.t .nil,[]) ((∀j,i<=j->j<k->good t.Rows f j k)/\Zfc t.Rows f (k+1)):=by
 have h8:=h.rows.len;refine down _ ?_ ?_
 .refine(c.map λr hr=>?_).cong ⟨λhp=>⟨λj h1 h2=>by omega,hp⟩,λhp=>hp.2⟩;refine Zbyz _ _ _ _ _ _ _ _ _ _ _ ?_;rw[if_neg (by omega)];exact hr
 .intro i hi ih;have hi':i<t.Rows.length:=by omega
  have hit:i<(t.Rows.take k).length:=by rw[Yp];omega
  have ei:(t.Rows.take k)[i]=t.Rows[i]:=List.getElem_take ..;have hri:=h.rows.row _ (Yb hi');have hrk:=h.rows.row _ (Yb hk);have hc3:=h.cols.len;have hto:=h.to;have step:∀r,(if decide (selC t.Rows[i] f.From=selC t.Rows[k] f.From)=true then(if t.Rows[i].getD f.To.toNat 0=t.Rows[k].getD f.To.toNat 0 then Zep f t k t.Rows[k] t.Rows t.Rows.length k (t.Rows.take k) k (w ((i:Int)+1))=some r else some (.own 0,[.arr 3 1 true (([(i:Int),(k:Int)]:List Int).map ic)])=some r)else Zep f t k t.Rows[k] t.Rows t.Rows.length k (t.Rows.take k) k (w ((i:Int)+1))=some r)->Zep f t k t.Rows[k] t.Rows t.Rows.length k (t.Rows.take k) k i=some r:=by
   intro r hr;refine Zbyz _ _ _ _ _ _ _ _ _ _ _ ?_;rw[if_pos (by omega)];refine⟨by omega,t.Rows[i],by rw[Yh,Yj hit,ei],.inr ⟨_,Zbkh hri h.rows.n3 h.cols,.inr ⟨_,Zbkh hrk h.rows.n3 h.cols,_,Zyx _ _ (by simp[selC];omega),?_⟩⟩⟩;by_cases e:selC t.Rows[i] f.From=selC t.Rows[k] f.From
   .rw[if_pos (by simpa using e)]at hr|-;exact⟨h.to.1,_,gD (by omega),_,gD (by omega),hr⟩
   .rw[if_neg (by simpa using e)]at hr|-;exact hr
  rw[show w ((i:Int)+1)=((i+1:Nat):Int)from wS hi' (by omega)]at step;by_cases e:selC t.Rows[i] f.From=selC t.Rows[k] f.From
  .by_cases e2:t.Rows[i].getD f.To.toNat 0=t.Rows[k].getD f.To.toNat 0
   .refine(ih.map λr hr=>step r (by rw[if_pos (by simpa using e),if_pos e2];exact hr)).cong ?_;rw[Zr9 hi];exact⟨λhp=>⟨λ_=>by rw[gd hi',gd hk];exact e2,hp⟩,λhp=>hp.2⟩
   .refine⟨λhp=>absurd ((Zr9 hi).1 hp).1 λhg=>e2 ?_,λ_=>⟨_,_,step _ (by rw[if_pos (by simpa using e),if_neg e2])⟩⟩;have:=hg (by rw[gd hi',gd hk];exact e);rw[gd hi',gd hk]at this;exact this
  .refine(ih.map λr hr=>step r (by rw[if_neg (by simpa using e)];exact hr)).cong ?_;rw[Zr9 hi];exact⟨λhp=>⟨λhq=>absurd (by rw[gd hi',gd hk]at hq;exact hq) e,hp⟩,λhp=>hp.2⟩
theorem Zcvb{t:Ze}{f:Zk}{n:Nat}(h:DepC t f n):∀k,k<=t.Rows.length->Vio (Zpa f t t.Rows t.Rows.length k) (.t .nil,[]) (Zfc t.Rows f k):=by
 have h8:=h.rows.len;refine down _ ?_ ?_
 .refine⟨λ_=>Zbyy _ _ _ _ _ _ (by rw[if_neg (by omega)]),λhn=>absurd (λk' h1 h2=>by omega) hn⟩
 .intro k hk ih;rw[<-show w ((k:Int)+1)=((k+1:Nat):Int)from wS hk (by omega)]at ih;refine((Zcva h hk ih 0 (Ya _)).map λr hr=>?_).cong (ok_out hk).symm;refine Zbyy _ _ _ _ _ _ ?_;rw[if_pos (by omega)];refine⟨by omega,_,gE hk,by rw[Yh];omega,?_⟩;rw[Yh,show(((t.Rows.take k).length:Nat):Int)=(k:Int) by rw[Yp];omega];exact hr
theorem Zcvc{d:Zi}{t:Ze}{f:Zk}{n:Nat}(h:DepC t f n){k:Nat}(hk:k<t.Rows.length)(a:ByteArray)(b:Int)(c:Vio (Zqe d f a b t.Rows (w ((k:Int)+1))) (.own 0,[.arr 3 1 true (([]:List Int).map ic)]) (Zfc t.Rows f (k+1))) :
  ∀i,i<=k->Vio (Zis d f a b t.Rows (selC t.Rows[k] f.From) k i) (.own 0,[.arr 3 1 true (([]:List Int).map ic)]) ((∀j,i<=j->j<k->good t.Rows f j k)/\Zfc t.Rows f (k+1)):=by
 have h8:=h.rows.len;refine down _ ?_ ?_
 .refine(c.map λr hr=>?_).cong ⟨λhp=>⟨λj h1 h2=>by omega,hp⟩,λhp=>hp.2⟩;refine Zb04 _ _ _ _ _ _ _ _ _ ?_;rw[if_neg (by omega)];exact hr
 .intro i hi ih;have hi':i<t.Rows.length:=by omega
  have hri:=h.rows.row _ (Yb hi');have hrk:=h.rows.row _ (Yb hk);have hc3:=h.cols.len;have hto:=h.to;have hs:∀r:List Int,(selC r f.From).length<=3:=λr=>by simp[selC];omega
  have step:∀r,(if selC t.Rows[i] f.From=selC t.Rows[k] f.From then(if t.Rows[i].getD f.To.toNat 0=t.Rows[k].getD f.To.toNat 0 then Zis d f a b t.Rows (selC t.Rows[k] f.From) k (w ((i:Int)+1))=some r else some (.own 0,[.arr 3 1 true (([(i:Int),(k:Int)]:List Int).map ic)])=some r)else Zis d f a b t.Rows (selC t.Rows[k] f.From) k (w ((i:Int)+1))=some r)->Zis d f a b t.Rows (selC t.Rows[k] f.From) k i=some r:=by
   intro r hr;refine Zb04 _ _ _ _ _ _ _ _ _ ?_;rw[if_pos (by omega)];have q1:=hs t.Rows[i];have q2:=hs t.Rows[k];refine⟨by omega,_,gE hi',_,_,Z6i hri h.rows.n3 h.cols,_,Zlf _ _ (by omega) (by omega),?_⟩;by_cases e:selC t.Rows[i] f.From=selC t.Rows[k] f.From
   .rw[if_pos e]at hr;rw[if_pos (by rw[e];exact Zi9 _)];exact⟨h.to.1,_,gD (by omega),by omega,_,gE hk,_,gD (by omega),hr⟩
   .rw[if_neg e]at hr;rw[if_neg (λhc=>e (Zfb _ _ hc))];exact hr
  rw[show w ((i:Int)+1)=((i+1:Nat):Int)from wS hi' (by omega)]at step;by_cases e:selC t.Rows[i] f.From=selC t.Rows[k] f.From
  .by_cases e2:t.Rows[i].getD f.To.toNat 0=t.Rows[k].getD f.To.toNat 0
   .refine(ih.map λr hr=>step r (by rw[if_pos e,if_pos e2];exact hr)).cong ?_;rw[Zr9 hi];exact⟨λhp=>⟨λ_=>by rw[gd hi',gd hk];exact e2,hp⟩,λhp=>hp.2⟩
   .refine⟨λhp=>absurd ((Zr9 hi).1 hp).1 λhg=>e2 ?_,λ_=>⟨_,_,step _ (by rw[if_pos e,if_neg e2])⟩⟩;have:=hg (by rw[gd hi',gd hk];exact e);rw[gd hi',gd hk]at this;exact this
  .refine(ih.map λr hr=>step r (by rw[if_neg e];exact hr)).cong ?_;rw[Zr9 hi];exact⟨λhp=>⟨λhq=>absurd (by rw[gd hi',gd hk]at hq;exact hq) e,hp⟩,λhp=>hp.2⟩
theorem Zcvd{d:Zi}(hd:LeD d){t:Ze}{f:Zk}(hf:f.From.length<=4294967296)(hv:Zgo d f=true){n:Nat}(h:DepC t f n)(a:ByteArray)(b:Int):∀k,k<=t.Rows.length->Vio (Zqe d f a b t.Rows k) (.own 0,[.arr 3 1 true (([]:List Int).map ic)]) (Zfc t.Rows f k):=by
 have h8:=h.rows.len;refine down _ ?_ ?_
 .refine⟨λ_=>Zb03 _ _ _ _ _ _ _ (by rw[if_neg (by omega)]),λhn=>absurd (λk' h1 h2=>by omega) hn⟩
 .intro k hk ih;rw[<-show w ((k:Int)+1)=((k+1:Nat):Int)from wS hk (by omega)]at ih;refine((Zcvc (d:=d) h hk a b ih 0 (Ya _)).map λr hr=>?_).cong (ok_out hk).symm;refine Zb03 _ _ _ _ _ _ _ ?_;rw[if_pos (by omega)];refine⟨_,Zb52 hd f hf,?_⟩;rw[hv,if_pos rfl];exact⟨by omega,_,gE hk,_,_,Z6i (h.rows.row _ (Yb hk)) h.rows.n3 h.cols,hr⟩
open Classical in
noncomputable def Zje(d:Zi)(f:Zk):Bool:=Zgo d f && (match Zbl d f.Name with
 |none=>true
 |some t=>decide (Zfc t.Rows f 0))
theorem Zcve{d:Zi}(h:LeD d)(f:Zk)(hf:f.From.length<=4294967296):Z03 d f=some (Bo (Zje d f),[]):=by
 refine Zcl8 _ _ _ ⟨_,Zb51 h f hf,?_⟩;unfold Zje;rcases tf (Zgo d f)with hv|hv
 .rw[hv];rfl
 rw[hv,if_pos rfl,Ye]
 cases hq:Zbl d f.Name with
 |none=>unfold Zgo at hv;rw[hq]at hv;cases hv
 |some t =>
  have hl:=Zlg d h f.Name;rw[hq]at hl;have V:=(Zcvb (Zb53 hq hv) 0 (Ya _)).map (L':=Ztt d f) λr hr=>Zcl7 _ _ _ ⟨_,Zb51 h f hf,by rw[hv,if_pos rfl];exact .inr ⟨_,_,_,hl,hr⟩⟩
  by_cases e:Zfc t.Rows f 0
  .exact .inl ⟨V.1 e,by simp[e]⟩
  .obtain⟨x,y,hxy⟩:=V.2 e;exact .inr ⟨_,hxy,by simp[e]⟩
theorem Zcvf{d:Zi}(h:LeD d)(f:Zk)(hf:f.From.length<=4294967296):Zv9 d f=some (Bo (Zje d f),[]):=by
 refine Zcpa _ _ _ ⟨_,Zb52 h f hf,?_⟩;unfold Zje;rcases tf (Zgo d f)with hv|hv
 .rw[hv];rfl
 rw[hv,if_pos rfl,Ye]
 cases hq:Zbl d f.Name with
 |none=>unfold Zgo at hv;rw[hq]at hv;cases hv
 |some t =>
  have hl:=Znz d h f.Name;rw[hq]at hl;simp only[Zhy]at hl;by_cases e0:t.Rows=[]
  .rw[if_pos e0]at hl;have e:Zfc t.Rows f 0:=λk' h1 h2=>by rw[e0]at h2;simp at h2
   refine⟨[],Zb05 _ _ _ (.inl ⟨_,_,_,hl,Zco9 _ _ _ _ _ _ (by rw[if_neg (by omega)])⟩),by simp[e]⟩
  .rw[if_neg e0]at hl;have V:=(Zcvd h hf hv (Zb53 hq hv) t.Name t.Arity 0 (Ya _)).map (L':=Z2u d f) λr hr=>Zb05 _ _ _ (.inr ⟨_,_,_,hl,hr⟩)
   by_cases e:Zfc t.Rows f 0
   .exact⟨[],V.1 e,by simp[e]⟩
   .obtain⟨x,y,hxy⟩:=V.2 e;exact⟨_,hxy,by simp[e]⟩
def Zjf(d:Zi)(x:Zj):Bool:=match Zbl d x.Name,Zbl d x.Into with
 |some a,some b=>inR x.Column 0 (a.Arity-1) && inR x.IntoColumn 0 (b.Arity-1)
 |_,_=>false
theorem Zb54{d:Zi}(h:LeD d)(x:Zj):Ztu d x=some (Bo (Zjf d x),[]):=by
 have h1:=Zlg d h x.Name;have h2:=Zlg d h x.Into;refine Zcl9 _ _ _ ?_;unfold Zjf
 cases hq:Zbl d x.Name with
 |none =>
  rw[hq]at h1
  cases hq2:Zbl d x.Into with
  |none=>rw[hq2]at h2;exact .inl ⟨_,_,h1,.inl ⟨_,_,h2,rfl⟩⟩
  |some b=>rw[hq2]at h2;exact .inl ⟨_,_,h1,.inr ⟨_,_,_,h2,rfl⟩⟩
 |some a =>
  rw[hq]at h1
  cases hq2:Zbl d x.Into with
  |none=>rw[hq2]at h2;exact .inr ⟨_,_,_,h1,.inl ⟨_,_,h2,rfl⟩⟩
  |some b =>
   rw[hq2]at h2;refine .inr ⟨_,_,_,h1,.inr ⟨_,_,_,h2,_,Zbu _ _ _,?_⟩⟩;rw[w1 (Zg2 (Zh3 hq)).2,w1 (Zg2 (Zh3 hq2)).2];rcases tf (inR x.Column 0 (a.Arity-1))with e|e
   .rw[e];simp[e]
   .rw[e,if_pos rfl];exact⟨_,Zbu _ _ _,by simp[e]⟩
theorem Zb55{d:Zi}(h:LeD d)(x:Zj):Zqf d x=some (Bo (Zjf d x),[]):=by
 have h1:=Znz d h x.Name;have h2:=Znz d h x.Into;refine Zcpb _ _ _ ?_;unfold Zjf
 cases hq:Zbl d x.Name with
 |none =>
  rw[hq]at h1
  cases hq2:Zbl d x.Into with
  |none=>rw[hq2]at h2;exact .inl ⟨_,_,_,h1,.inl ⟨_,_,_,h2,by simp⟩⟩
  |some b =>
   rw[hq2]at h2;simp only[Zhy]at h2;by_cases e2:b.Rows=[]
   .rw[if_pos e2]at h2;exact .inl ⟨_,_,_,h1,.inl ⟨_,_,_,h2,by simp⟩⟩
   .rw[if_neg e2]at h2;exact .inl ⟨_,_,_,h1,.inr ⟨_,_,_,h2,by simp⟩⟩
 |some a =>
  rw[hq]at h1;simp only[Zhy]at h1;have wa:=w1 (Zg2 (Zh3 hq)).2
  cases hq2:Zbl d x.Into with
  |none =>
   rw[hq2]at h2;by_cases e1:a.Rows=[]
   .rw[if_pos e1]at h1;exact .inl ⟨_,_,_,h1,.inl ⟨_,_,_,h2,by simp⟩⟩
   .rw[if_neg e1]at h1;exact .inr ⟨_,_,_,h1,.inl ⟨_,_,_,h2,by simp⟩⟩
  |some b =>
   rw[hq2]at h2;simp only[Zhy]at h2;have wb:=w1 (Zg2 (Zh3 hq2)).2;by_cases e1:a.Rows=[]
   .rw[if_pos e1]at h1;by_cases e2:b.Rows=[]
    .rw[if_pos e2]at h2;refine .inl ⟨_,_,_,h1,.inl ⟨_,_,_,h2,?_⟩⟩;rw[if_pos rfl,if_pos rfl,wa,wb];refine⟨_,Z8 _ _ _,?_⟩;rcases tf (inR x.Column 0 (a.Arity-1))with e|e
     .rw[e];simp[e]
     .rw[e,if_pos rfl];exact⟨_,Z8 _ _ _,by simp[e]⟩
    .rw[if_neg e2]at h2;refine .inl ⟨_,_,_,h1,.inr ⟨_,_,_,h2,?_⟩⟩;rw[if_pos rfl,wa,wb];refine⟨_,Z8 _ _ _,?_⟩;rcases tf (inR x.Column 0 (a.Arity-1))with e|e
     .rw[e];simp[e]
     .rw[e,if_pos rfl];exact⟨_,Z8 _ _ _,by simp[e]⟩
   .rw[if_neg e1]at h1;by_cases e2:b.Rows=[]
    .rw[if_pos e2]at h2;refine .inr ⟨_,_,_,h1,.inl ⟨_,_,_,h2,?_⟩⟩;rw[if_pos rfl,wa,wb];refine⟨_,Z8 _ _ _,?_⟩;rcases tf (inR x.Column 0 (a.Arity-1))with e|e
     .rw[e];simp[e]
     .rw[e,if_pos rfl];exact⟨_,Z8 _ _ _,by simp[e]⟩
    .rw[if_neg e2]at h2;refine .inr ⟨_,_,_,h1,.inr ⟨_,_,_,h2,_,Z8 _ _ _,?_⟩⟩;rw[wa,wb];rcases tf (inR x.Column 0 (a.Arity-1))with e|e
     .rw[e];simp[e]
     .rw[e,if_pos rfl];exact⟨_,Z8 _ _ _,by simp[e]⟩
def colV(rows:List (List Int))(c:Int):List Int:=rows.map λr=>r.getD c.toNat 0
structure ColD (rows:List (List Int)) (c:Int):Prop where
 len:rows.length<=8
 row:∀r∈rows,(c.toNat<r.length/\r.length<=3)/\∀v∈r,0<=v/\v<=9
 c0:0<=c
theorem Zb56{t:Ze}(hv:Z3 t=true){c:Int}(hc:inR c 0 (t.Arity-1)=true):ColD t.Rows c:=by
 obtain⟨hR,hA⟩:=Zg2 hv;have h2:0<=c/\c<=t.Arity-1:=by simpa[inR]using hc
 refine⟨hR.len,λr hr=>⟨?_,λv hx=>?_⟩,h2.1⟩
 .have:=hR.row r hr;omega
 .unfold Z3 at hv;simp only[Yc]at hv;have h1:=Yn.1 hv.2.1 r hr;unfold rwB at h1;simp only[Yc]at h1;simpa[dig,inR]using Yn.1 h1.1 v hx
theorem colV_in{rows:List (List Int)}{c:Int}(h:ColD rows c):∀v∈colV rows c,0<=v/\v<=9:=by
 intro v hv;obtain⟨r,hr,rfl⟩:=Yr.1 hv;obtain⟨⟨h1,_⟩,h2⟩:=h.row r hr;refine h2 _ ?_;rw[Yy,Yj h1];exact Yb h1
def Zcr(A B:List Int):List Int:=A.filter λv=>!(has B v)
theorem Zb57:∀{l:List Int},cptI l=[]->l=[]
 |[],_=>rfl
 |[a],h=>by simp[cptI]at h
 |a::b::l,h=>by
  unfold cptI at h;split at h
  .have:=Zb57 h;cases this
  .cases h
theorem miss_len(l:List Int):((cptI (srtI l)).length=0)↔l=[]:=by
 have hl:(srtI l).length=l.length:=(Yct _ _).length_eq;constructor
 .intro h;have h1:=Zb57 (Yb1 h);rw[h1]at hl;exact Yb1 hl.symm
 .intro h;subst h;simp[srtI,cptI]
theorem x_fin{out:List Int}(h:out.length<=4096):Zma out=some (.tup [],[.arr 3 1 true ((srtI out).map ic)])/\Z04 (srtI out)=some (.own 1,[.dead,.arr 3 1 true ((cptI (srtI out)).map ic)]):=by
 have hl:(srtI out).length=out.length:=(Yct _ _).length_eq;unfold Zma Z04;exact⟨c_sortI h,c_cptI (by omega)⟩
theorem Zcvg{x:Zj}{A:List (List Int)}(hA:ColD A x.Column)(there:List Int)(ht:there.length<=4096):∀i,i<=A.length->Zpe x there (Zcr (colV (A.take i) x.Column) there) A A.length i=some (.own 0,[.arr 3 1 true ((cptI (srtI (Zcr (colV A x.Column) there))).map ic)]):=by
 have h8:=hA.len;have hml:∀i,(Zcr (colV (A.take i) x.Column) there).length<=A.length:=λi=>by
  have:=Ycs (λv=>!(has there v)) (colV (A.take i) x.Column);unfold Zcr;simp only[colV,Yo,Yp]at this|-;omega
 refine down _ ?_ ?_
 .refine Zby1 _ _ _ _ _ _ _ ?_;rw[if_neg (by omega),Yl];have hm:=hml A.length;rw[Yl]at hm;have:=x_fin (out:=Zcr (colV A x.Column) there) (by omega);exact⟨_,this.1,_,this.2,rfl⟩
 .intro i hi ih;obtain⟨⟨h1,h2⟩,_⟩:=hA.row _ (Yb hi);refine Zby1 _ _ _ _ _ _ _ ?_;rw[if_pos (by omega),wS hi (by omega)];refine⟨by omega,_,gE hi,hA.c0,_,gD h1,_,Zr1 _ _ (by omega),?_⟩;have e:Zcr (colV (A.take (i+1)) x.Column) there=Zcr (colV (A.take i) x.Column) there++(if has there (A[i].getD x.Column.toNat 0)=true then[]else[A[i].getD x.Column.toNat 0]):=by
   unfold Zcr colV;rw[Y1 hi,Y0,Ycz];simp only[Yv,Ycy];generalize A[i].getD x.Column.toNat 0=g;rw[Ycu,List.filter_nil];cases has there g<;>rfl
  rw[e]at ih;rcases tf (has there (A[i].getD x.Column.toNat 0))with q|q
  .rw[if_neg (by rw[q];simp)]at ih|-;exact⟨by have:=hml i;omega,ih⟩
  .rw[if_pos q,Ybl]at ih;rw[if_pos q];exact ih
theorem Zcvh{x:Zj}{A B:List (List Int)}(hA:ColD A x.Column)(hB:ColD B x.IntoColumn)(a:ByteArray)(b:Int):∀i,i<=B.length->Ztw x a b A (colV (B.take i) x.IntoColumn) B B.length i=some (.own 0,[.arr 3 1 true ((cptI (srtI (Zcr (colV A x.Column) (colV B x.IntoColumn)))).map ic)]):=by
 have h8:=hB.len;refine down _ ?_ ?_
 .refine Zby0 _ _ _ _ _ _ _ _ _ ?_;rw[if_neg (by omega),Yl];exact Zcvg hA _ (by simp[colV];omega) 0 (Ya _)
 .intro i hi ih;obtain⟨⟨h1,h2⟩,_⟩:=hB.row _ (Yb hi);refine Zby0 _ _ _ _ _ _ _ _ _ ?_;rw[if_pos (by omega),wS hi (by omega)];rw[show colV (B.take (i+1)) x.IntoColumn=colV (B.take i) x.IntoColumn++[B[i].getD x.IntoColumn.toNat 0] by unfold colV;rw[Y1 hi,Y0];rfl]at ih;exact⟨by omega,_,gE hi,hB.c0,_,gD h1,by simp[colV];omega,ih⟩
def Zg3(d:Zi)(x:Zj):Bool:=Zjf d x && (match Zbl d x.Name,Zbl d x.Into with
 |some a,some b=>(Zcr (colV a.Rows x.Column) (colV b.Rows x.IntoColumn)).isEmpty
 |_,_=>true)
theorem inc_of{d:Zi}{x:Zj}(hv:Zjf d x=true):∃a b,Zbl d x.Name=some a/\Zbl d x.Into=some b/\ColD a.Rows x.Column/\ColD b.Rows x.IntoColumn:=by
 unfold Zjf at hv
 cases hq:Zbl d x.Name with
 |none=>rw[hq]at hv;cases hv
 |some a =>
  cases hq2:Zbl d x.Into with
  |none=>rw[hq,hq2]at hv;cases hv
  |some b =>
   rw[hq,hq2]at hv;simp only[Yc]at hv;exact⟨a,b,rfl,rfl,Zb56 (Zh3 hq) hv.1,Zb56 (Zh3 hq2) hv.2⟩
theorem Zcvi{d:Zi}(h:LeD d)(x:Zj):Z05 d x=some (Bo (Zg3 d x),[]):=by
 refine Zcmb _ _ _ ⟨_,Zb54 h x,?_⟩;unfold Zg3;rcases tf (Zjf d x)with hv|hv
 .rw[hv];rfl
 obtain⟨a,b,h1,h2,hA,hB⟩:=inc_of hv;rw[hv,if_pos rfl,Ye,h1,h2];have l1:=Zlg d h x.Name;have l2:=Zlg d h x.Into;rw[h1]at l1;rw[h2]at l2;have hM:Ztv d x=some (.own 0,[.arr 3 1 true ((cptI (srtI (Zcr (colV a.Rows x.Column) (colV b.Rows x.IntoColumn)))).map ic)]):=by
  refine Zcma _ _ _ ⟨_,Zb54 h x,?_⟩;rw[hv,if_pos rfl];exact .inr ⟨_,_,_,l1,.inr ⟨_,_,_,l2,by simpa[colV]using Zcvh hA hB a.Name a.Arity 0 (Ya _)⟩⟩
 refine .inr ⟨_,hM,?_⟩
 .have:=miss_len (Zcr (colV a.Rows x.Column) (colV b.Rows x.IntoColumn));by_cases e:Zcr (colV a.Rows x.Column) (colV b.Rows x.IntoColumn)=[]
  .simp[e,cptI,srtI]
  .have e2:¬((cptI (srtI (Zcr (colV a.Rows x.Column) (colV b.Rows x.IntoColumn)))).length=0):=λhc=>e (this.1 hc)
   have e4:¬cptI (srtI (Zcr (colV a.Rows x.Column) (colV b.Rows x.IntoColumn)))=[]:=λhc=>e2 (by rw[hc];rfl)
   have e5:(Zcr (colV a.Rows x.Column) (colV b.Rows x.IntoColumn)).isEmpty=false:=List.isEmpty_eq_false_iff.2 e;simp[e4,e5]
def Zea(A B:List Int)(u:Nat):List Int:=((List.range' u (10-u)).filter λv:Nat=>has A (v:Int) && !(has B (v:Int))).map λn:Nat=>(n:Int)
theorem Z6j{A B:List Int}{u:Nat}(h:u<10):Zea A B u=(if(has A (u:Int) && !(has B (u:Int)))=true then[(u:Int)]else[])++Zea A B (u+1):=by
 unfold Zea;rw[show 10-u=(10-(u+1))+1 by omega,Ydg,Ycu];split<;>simp
theorem Zb58{xs:List Int}{v:Int}:has xs v=true↔v∈xs:=by simp[has]
theorem Zcvj{A B:List Int}(hA:∀v∈A,0<=v/\v<=9):Zea A B 0=[]↔Zcr A B=[]:=by
 constructor
 .intro h;unfold Zcr;rw[Ycr];intro v hv hb;have h1:=hA v hv;unfold Zea at h;rw[List.map_eq_nil_iff,Ycr]at h;refine h v.toNat (by simp[List.mem_range'];omega) ?_;rw[show((v.toNat:Nat):Int)=v by omega,Zb58.2 hv,Ye];exact hb
 .intro h;unfold Zea;rw[List.map_eq_nil_iff,Ycr];intro n _ hb;simp only[Yc]at hb;unfold Zcr at h;rw[Ycr]at h;exact h _ (Zb58.1 hb.1) hb.2
theorem Z6k(r:List Int)(rows:List (List Int))(c v:Int):has (colV (r::rows) c) v=(decide (r.getD c.toNat 0=v) || has (colV rows c) v):=by
 simp only[has,colV,Yv,Yck];rw[show decide (v=r.getD c.toNat 0)=decide (r.getD c.toNat 0=v) by simp[eq_comm]]
theorem l_s1{x:Zj}(a:ByteArray)(b:Int)(a':ByteArray)(b':Int)(out:List Int)(v:Int)(one:Bool)(r:AV×List Blk)(hr:(if(one && !(false))=true then out.length+1<=68719476736/\Zgf x (out++[v]) a b a' b' (w (v+1))=some r else Zgf x out a b a' b' (w (v+1))=some r)):Zqm x out a b a' b' v one false 0=some r:=by
 refine Zcpe _ _ _ _ _ _ _ _ _ _ _ ?_;rw[if_neg (by omega)];cases one<;>simpa using hr
theorem l_s0{x:Zj}(a:ByteArray)(b:Int)(a':ByteArray)(b':Int)(out:List Int)(v:Int)(c:Bool)(r:AV×List Blk)(hr:Zqm x out a b a' b' v false c 0=some r):Zwa x out a b a' b' v false c 0=some r:=by
 refine Zcpc _ _ _ _ _ _ _ _ _ _ _ ?_;rw[if_neg (by omega)];exact hr
theorem l_s2{x:Zj}(a:ByteArray)(b:Int)(a':ByteArray)(b':Int):∀u,u<=10->∀out:List Int,out.length<=u->Zgf x out a b a' b' u=some (.own 0,[.arr 3 1 true ((out++Zea (colV ([]:List (List Int)) x.Column) (colV ([]:List (List Int)) x.IntoColumn) u).map ic)]):=by
 refine down _ ?_ ?_
 .intro out ho;refine Zb06 _ _ _ _ _ _ _ _ ?_;rw[if_neg (by omega)];simp[Zea]
 .intro u hu ih out ho;have step:∀r,(if(false && !(false))=true then out.length+1<=68719476736/\Zgf x (out++[(u:Int)]) a b a' b' (w ((u:Int)+1))=some r else Zgf x out a b a' b' (w ((u:Int)+1))=some r)->Zgf x out a b a' b' u=some r:=by
   intro r hr;refine Zb06 _ _ _ _ _ _ _ _ ?_;rw[if_pos (by omega)];have q1:=l_s1 a b a' b' out u (false) r (by simpa using hr);exact l_s0 a b a' b' out u false r q1
  rw[Z6j hu,show w ((u:Int)+1)=((u+1:Nat):Int)from wS hu (by omega)]at *
  have e1:has (colV ([]:List (List Int)) x.Column) (u:Int)=false:=rfl;have e2:has (colV ([]:List (List Int)) x.IntoColumn) (u:Int)=false:=rfl;rw[e1,e2];refine step _ ?_;rcases tf (false && !(false))with e|e
  .rw[if_neg (by rw[e];simp),if_neg (by rw[e];simp),Yb2];exact ih _ (by omega)
  .rw[if_pos e,if_pos e];refine⟨by omega,?_⟩;rw[<-Yz];exact ih _ (by simp;omega)
theorem l_s1a{x:Zj}{B:List (List Int)}(hB:ColD B x.IntoColumn)(a:ByteArray)(b:Int)(a':ByteArray)(b':Int)(out:List Int)(v:Int)(c:Bool)(r:AV×List Blk):∀i,i<=B.length->∀two:Bool,(if(c && !(two || has (colV (B.drop i) x.IntoColumn) v))=true then out.length+1<=68719476736/\Zgg x (out++[v]) a b a' b' B (w (v+1))=some r else Zgg x out a b a' b' B (w (v+1))=some r)->Zmz x out a b a' b' B v c two i=some r:=by
 have h8:=hB.len;refine down _ ?_ ?_
 .intro two hr;refine Zb1c _ _ _ _ _ _ _ _ _ _ _ _ ?_;rw[if_neg (by omega)];rw[Yg,show has (colV [] x.IntoColumn) v=false from rfl,Bool.or_false]at hr;cases c<;>cases two<;>simpa using hr
 .intro i hi ih two hr;obtain⟨⟨h1,h2⟩,_⟩:=hB.row _ (Yb hi);refine Zb1c _ _ _ _ _ _ _ _ _ _ _ _ ?_;rw[if_pos (by omega),wS hi (by omega)];rw[Yd hi,Z6k]at hr;rcases tf two with e|e
  .rw[if_neg (by rw[e];simp)];refine⟨by omega,_,gE hi,hB.c0,_,gD h1,ih _ ?_⟩;rw[e,Y7]at hr;exact hr
  .rw[if_pos e];refine ih true ?_;rw[e]at hr;simpa using hr
theorem l_s0a{x:Zj}{B:List (List Int)}(hB:ColD B x.IntoColumn)(a:ByteArray)(b:Int)(a':ByteArray)(b':Int)(out:List Int)(v:Int)(c:Bool)(r:AV×List Blk)(hr:Zmz x out a b a' b' B v false c 0=some r):Zwb x out a b a' b' B v false c 0=some r:=by
 refine Zcpd _ _ _ _ _ _ _ _ _ _ _ _ ?_;rw[if_neg (by omega)];exact hr
theorem l_s2a{x:Zj}{B:List (List Int)}(hB:ColD B x.IntoColumn)(a:ByteArray)(b:Int)(a':ByteArray)(b':Int):∀u,u<=10->∀out:List Int,out.length<=u->Zgg x out a b a' b' B u=some (.own 0,[.arr 3 1 true ((out++Zea (colV ([]:List (List Int)) x.Column) (colV B x.IntoColumn) u).map ic)]):=by
 refine down _ ?_ ?_
 .intro out ho;refine Zb07 _ _ _ _ _ _ _ _ _ ?_;rw[if_neg (by omega)];simp[Zea]
 .intro u hu ih out ho;have step:∀r,(if(false && !(has (colV B x.IntoColumn) (u:Int)))=true then out.length+1<=68719476736/\Zgg x (out++[(u:Int)]) a b a' b' B (w ((u:Int)+1))=some r else Zgg x out a b a' b' B (w ((u:Int)+1))=some r)->Zgg x out a b a' b' B u=some r:=by
   intro r hr;refine Zb07 _ _ _ _ _ _ _ _ _ ?_;rw[if_pos (by omega)];have q1:=l_s1a hB a b a' b' out u (false) r 0 (Ya _) false (by simpa using hr);exact l_s0a hB a b a' b' out u false r q1
  rw[Z6j hu,show w ((u:Int)+1)=((u+1:Nat):Int)from wS hu (by omega)]at *
  have e1:has (colV ([]:List (List Int)) x.Column) (u:Int)=false:=rfl;have e2:has (colV B x.IntoColumn) (u:Int)=has (colV B x.IntoColumn) (u:Int):=rfl;rw[e1,e2];refine step _ ?_;rcases tf (false && !(has (colV B x.IntoColumn) (u:Int)))with e|e
  .rw[if_neg (by rw[e];simp),if_neg (by rw[e];simp),Yb2];exact ih _ (by omega)
  .rw[if_pos e,if_pos e];refine⟨by omega,?_⟩;rw[<-Yz];exact ih _ (by simp;omega)
theorem l_s1b{x:Zj}{A:List (List Int)}(hA:ColD A x.Column)(a:ByteArray)(b:Int)(a':ByteArray)(b':Int)(out:List Int)(v:Int)(one:Bool)(r:AV×List Blk)(hr:(if(one && !(false))=true then out.length+1<=68719476736/\Zgh x (out++[v]) a b A a' b' (w (v+1))=some r else Zgh x out a b A a' b' (w (v+1))=some r)):Zqn x out a b A a' b' v one false 0=some r:=by
 refine Zcpf _ _ _ _ _ _ _ _ _ _ _ _ ?_;rw[if_neg (by omega)];cases one<;>simpa using hr
theorem l_s0b{x:Zj}{A:List (List Int)}(hA:ColD A x.Column)(a:ByteArray)(b:Int)(a':ByteArray)(b':Int)(out:List Int)(v:Int)(c:Bool)(r:AV×List Blk):∀i,i<=A.length->∀one:Bool,Zqn x out a b A a' b' v (one || has (colV (A.drop i) x.Column) v) c 0=some r->Zqk x out a b A a' b' v one c i=some r:=by
 have h8:=hA.len;refine down _ ?_ ?_
 .intro one hr;refine Zb1a _ _ _ _ _ _ _ _ _ _ _ _ ?_;rw[if_neg (by omega)];rw[Yg,show has (colV [] x.Column) v=false from rfl,Bool.or_false]at hr;exact hr
 .intro i hi ih one hr;obtain⟨⟨h1,h2⟩,_⟩:=hA.row _ (Yb hi);refine Zb1a _ _ _ _ _ _ _ _ _ _ _ _ ?_;rw[if_pos (by omega),wS hi (by omega)];rw[Yd hi,Z6k]at hr;rcases tf one with e|e
  .rw[if_neg (by rw[e];simp)];refine⟨by omega,_,gE hi,hA.c0,_,gD h1,ih _ ?_⟩;rw[e,Y7]at hr;exact hr
  .rw[if_pos e];refine ih true ?_;rw[e]at hr;simpa using hr
theorem l_s2b{x:Zj}{A:List (List Int)}(hA:ColD A x.Column)(a:ByteArray)(b:Int)(a':ByteArray)(b':Int):∀u,u<=10->∀out:List Int,out.length<=u->Zgh x out a b A a' b' u=some (.own 0,[.arr 3 1 true ((out++Zea (colV A x.Column) (colV ([]:List (List Int)) x.IntoColumn) u).map ic)]):=by
 refine down _ ?_ ?_
 .intro out ho;refine Zb08 _ _ _ _ _ _ _ _ _ ?_;rw[if_neg (by omega)];simp[Zea]
 .intro u hu ih out ho;have step:∀r,(if(has (colV A x.Column) (u:Int) && !(false))=true then out.length+1<=68719476736/\Zgh x (out++[(u:Int)]) a b A a' b' (w ((u:Int)+1))=some r else Zgh x out a b A a' b' (w ((u:Int)+1))=some r)->Zgh x out a b A a' b' u=some r:=by
   intro r hr;refine Zb08 _ _ _ _ _ _ _ _ _ ?_;rw[if_pos (by omega)];have q1:=l_s1b hA a b a' b' out u (has (colV A x.Column) (u:Int)) r (by simpa using hr);exact l_s0b hA a b a' b' out u false r 0 (Ya _) false (by simpa using q1)
  rw[Z6j hu,show w ((u:Int)+1)=((u+1:Nat):Int)from wS hu (by omega)]at *
  have e1:has (colV A x.Column) (u:Int)=has (colV A x.Column) (u:Int):=rfl;have e2:has (colV ([]:List (List Int)) x.IntoColumn) (u:Int)=false:=rfl;rw[e1,e2];refine step _ ?_;rcases tf (has (colV A x.Column) (u:Int) && !(false))with e|e
  .rw[if_neg (by rw[e];simp),if_neg (by rw[e];simp),Yb2];exact ih _ (by omega)
  .rw[if_pos e,if_pos e];refine⟨by omega,?_⟩;rw[<-Yz];exact ih _ (by simp;omega)
theorem l_s1c{x:Zj}{A:List (List Int)}(hA:ColD A x.Column){B:List (List Int)}(hB:ColD B x.IntoColumn)(a:ByteArray)(b:Int)(a':ByteArray)(b':Int)(out:List Int)(v:Int)(c:Bool)(r:AV×List Blk):∀i,i<=B.length->∀two:Bool,(if(c && !(two || has (colV (B.drop i) x.IntoColumn) v))=true then out.length+1<=68719476736/\Zgi x (out++[v]) a b A a' b' B (w (v+1))=some r else Zgi x out a b A a' b' B (w (v+1))=some r)->Zm0 x out a b A a' b' B v c two i=some r:=by
 have h8:=hB.len;refine down _ ?_ ?_
 .intro two hr;refine Zb1d _ _ _ _ _ _ _ _ _ _ _ _ _ ?_;rw[if_neg (by omega)];rw[Yg,show has (colV [] x.IntoColumn) v=false from rfl,Bool.or_false]at hr;cases c<;>cases two<;>simpa using hr
 .intro i hi ih two hr;obtain⟨⟨h1,h2⟩,_⟩:=hB.row _ (Yb hi);refine Zb1d _ _ _ _ _ _ _ _ _ _ _ _ _ ?_;rw[if_pos (by omega),wS hi (by omega)];rw[Yd hi,Z6k]at hr;rcases tf two with e|e
  .rw[if_neg (by rw[e];simp)];refine⟨by omega,_,gE hi,hB.c0,_,gD h1,ih _ ?_⟩;rw[e,Y7]at hr;exact hr
  .rw[if_pos e];refine ih true ?_;rw[e]at hr;simpa using hr
theorem l_s0c{x:Zj}{A:List (List Int)}(hA:ColD A x.Column){B:List (List Int)}(hB:ColD B x.IntoColumn)(a:ByteArray)(b:Int)(a':ByteArray)(b':Int)(out:List Int)(v:Int)(c:Bool)(r:AV×List Blk):∀i,i<=A.length->∀one:Bool,Zm0 x out a b A a' b' B v (one || has (colV (A.drop i) x.Column) v) c 0=some r->Zql x out a b A a' b' B v one c i=some r:=by
 have h8:=hA.len;refine down _ ?_ ?_
 .intro one hr;refine Zb1b _ _ _ _ _ _ _ _ _ _ _ _ _ ?_;rw[if_neg (by omega)];rw[Yg,show has (colV [] x.Column) v=false from rfl,Bool.or_false]at hr;exact hr
 .intro i hi ih one hr;obtain⟨⟨h1,h2⟩,_⟩:=hA.row _ (Yb hi);refine Zb1b _ _ _ _ _ _ _ _ _ _ _ _ _ ?_;rw[if_pos (by omega),wS hi (by omega)];rw[Yd hi,Z6k]at hr;rcases tf one with e|e
  .rw[if_neg (by rw[e];simp)];refine⟨by omega,_,gE hi,hA.c0,_,gD h1,ih _ ?_⟩;rw[e,Y7]at hr;exact hr
  .rw[if_pos e];refine ih true ?_;rw[e]at hr;simpa using hr
theorem l_s2c{x:Zj}{A:List (List Int)}(hA:ColD A x.Column){B:List (List Int)}(hB:ColD B x.IntoColumn)(a:ByteArray)(b:Int)(a':ByteArray)(b':Int):∀u,u<=10->∀out:List Int,out.length<=u->Zgi x out a b A a' b' B u=some (.own 0,[.arr 3 1 true ((out++Zea (colV A x.Column) (colV B x.IntoColumn) u).map ic)]):=by
 refine down _ ?_ ?_
 .intro out ho;refine Zb09 _ _ _ _ _ _ _ _ _ _ ?_;rw[if_neg (by omega)];simp[Zea]
 .intro u hu ih out ho;have step:∀r,(if(has (colV A x.Column) (u:Int) && !(has (colV B x.IntoColumn) (u:Int)))=true then out.length+1<=68719476736/\Zgi x (out++[(u:Int)]) a b A a' b' B (w ((u:Int)+1))=some r else Zgi x out a b A a' b' B (w ((u:Int)+1))=some r)->Zgi x out a b A a' b' B u=some r:=by
   intro r hr;refine Zb09 _ _ _ _ _ _ _ _ _ _ ?_;rw[if_pos (by omega)];have q1:=l_s1c hA hB a b a' b' out u (has (colV A x.Column) (u:Int)) r 0 (Ya _) false (by simpa using hr);exact l_s0c hA hB a b a' b' out u false r 0 (Ya _) false (by simpa using q1)
  rw[Z6j hu,show w ((u:Int)+1)=((u+1:Nat):Int)from wS hu (by omega)]at *
  have e1:has (colV A x.Column) (u:Int)=has (colV A x.Column) (u:Int):=rfl;have e2:has (colV B x.IntoColumn) (u:Int)=has (colV B x.IntoColumn) (u:Int):=rfl;rw[e1,e2];refine step _ ?_;rcases tf (has (colV A x.Column) (u:Int) && !(has (colV B x.IntoColumn) (u:Int)))with e|e
  .rw[if_neg (by rw[e];simp),if_neg (by rw[e];simp),Yb2];exact ih _ (by omega)
  .rw[if_pos e,if_pos e];refine⟨by omega,?_⟩;rw[<-Yz];exact ih _ (by simp;omega)
theorem Zcvk{d:Zi}(h:LeD d)(x:Zj):Z2v d x=some (Bo (Zg3 d x),[]):=by
 refine Zcph _ _ _ ⟨_,Zb55 h x,?_⟩;unfold Zg3;rcases tf (Zjf d x)with hv|hv
 .rw[hv];rfl
 obtain⟨a,b,h1,h2,hA,hB⟩:=inc_of hv;rw[hv,if_pos rfl,Ye,h1,h2];have l1:=Znz d h x.Name;have l2:=Znz d h x.Into;rw[h1]at l1;rw[h2]at l2;simp only[Zhy]at l1 l2;refine⟨Zea (colV a.Rows x.Column) (colV b.Rows x.IntoColumn) 0,Zcpg _ _ _ ⟨_,Zb55 h x,?_⟩,?_⟩
 .rw[hv,if_pos rfl];by_cases e1:a.Rows=[]
  .rw[if_pos e1]at l1;rw[e1];by_cases e2:b.Rows=[]
   .rw[if_pos e2]at l2;rw[e2];exact .inl ⟨_,_,_,l1,.inl ⟨_,_,_,l2,l_s2 _ _ _ _ 0 (by omega) [] (by simp)⟩⟩
   .rw[if_neg e2]at l2;exact .inl ⟨_,_,_,l1,.inr ⟨_,_,_,l2,l_s2a hB _ _ _ _ 0 (by omega) [] (by simp)⟩⟩
  .rw[if_neg e1]at l1;by_cases e2:b.Rows=[]
   .rw[if_pos e2]at l2;rw[e2];exact .inr ⟨_,_,_,l1,.inl ⟨_,_,_,l2,l_s2b hA _ _ _ _ 0 (by omega) [] (by simp)⟩⟩
   .rw[if_neg e2]at l2;exact .inr ⟨_,_,_,l1,.inr ⟨_,_,_,l2,l_s2c hA hB _ _ _ _ 0 (by omega) [] (by simp)⟩⟩
 .have:=Zcvj (B:=colV b.Rows x.IntoColumn) (colV_in hA);by_cases e:Zcr (colV a.Rows x.Column) (colV b.Rows x.IntoColumn)=[]
  .rw[this.2 e];simp[e]
  .have e2:¬Zea (colV a.Rows x.Column) (colV b.Rows x.IntoColumn) 0=[]:=λhc=>e (this.1 hc)
   have e5:(Zcr (colV a.Rows x.Column) (colV b.Rows x.IntoColumn)).isEmpty=false:=List.isEmpty_eq_false_iff.2 e;simp[e2,e5]
noncomputable def Zyz(d:Zi)(fs:List Zk)(xs:List Zj):Bool:=fs.all (Zje d) && xs.all (Zg3 d) && (decide (fs.length<=8) && decide (xs.length<=8))
abbrev LeF(fs:List Zk):Prop:=Le fs/\∀f∈fs,f.From.length<=4294967296
theorem Zcvl{d:Zi}(h:LeD d)(fs:List Zk)(xs:List Zj)(hx:Le xs):∀i,i<=xs.length->Ztz d fs xs xs xs.length i=some (Bo ((xs.drop i).all (Zg3 d) && (decide (fs.length<=8) && decide (xs.length<=8))),[]):=by
 refine down _ ?_ ?_
 .refine Zby3 _ _ _ _ _ _ _ ?_;rw[if_neg (by omega),Yg];by_cases e:fs.length<=8
  .rw[if_pos (by omega)];simp[e];omega
  .rw[if_neg (by omega)];simp[e]
 .intro i hi ih;refine Zby3 _ _ _ _ _ _ _ ?_;rw[if_pos (by omega),wS hi hx,Yd hi,Y5];refine⟨by omega,_,gE hi,_,Zcvi h _,?_⟩;rcases tf (Zg3 d xs[i])with e|e
  .rw[e];simp
  .rw[e,if_pos rfl,ih];simp
theorem Zb59{d:Zi}(h:LeD d){fs:List Zk}(hf:LeF fs){xs:List Zj}(hx:Le xs):Zpf d fs xs=some (Bo (Zyz d fs xs),[]):=by
 have main:∀i,i<=fs.length->Zty d fs xs fs fs.length i=some (Bo ((fs.drop i).all (Zje d) && xs.all (Zg3 d) && (decide (fs.length<=8) && decide (xs.length<=8))),[]):=by
  refine down _ ?_ ?_
  .refine Zby2 _ _ _ _ _ _ _ ?_;rw[if_neg (by omega),Yg];simpa using Zcvl h fs xs hx 0 (Ya _)
  .intro i hi ih;refine Zby2 _ _ _ _ _ _ _ ?_;rw[if_pos (by omega),wS hi hf.1,Yd hi,Y5];refine⟨by omega,_,gE hi,_,Zcve h _ (hf.2 _ (Yb hi)),?_⟩;rcases tf (Zje d fs[i])with e|e
   .rw[e];simp
   .rw[e,if_pos rfl,ih];simp
 exact Zcmc _ _ _ _ (by simpa[Zyz]using main 0 (Ya _))
theorem Zcvm{d:Zi}(h:LeD d)(xs:List Zj)(hx:Le xs):∀i,i<=xs.length->Zwe d xs i=some (Bo ((xs.drop i).all (Zg3 d)),[]):=by
 refine down _ ?_ ?_
 .refine Zb1f _ _ _ _ ?_;rw[if_neg (by omega),Yg];rfl
 .intro i hi ih;refine Zb1f _ _ _ _ ?_;rw[if_pos (by omega),wS hi hx,Yd hi,Y5];refine⟨by omega,_,gE hi,_,Zcvk h _,?_⟩;rcases tf (Zg3 d xs[i])with e|e
  .rw[e];simp
  .rw[e,if_pos rfl,ih];simp
theorem Zb6a{d:Zi}(h:LeD d){fs:List Zk}(hf:LeF fs){xs:List Zj}(hx:Le xs):Zqo d fs xs=some (Bo (Zyz d fs xs),[]):=by
 have main:∀i,i<=fs.length->Zwd d fs xs i=some (Bo ((fs.drop i).all (Zje d) && xs.all (Zg3 d)),[]):=by
  refine down _ ?_ ?_
  .refine Zb1e _ _ _ _ _ ?_;rw[if_neg (by omega),Yg];simpa using Zcvm h xs hx 0 (Ya _)
  .intro i hi ih;refine Zb1e _ _ _ _ _ ?_;rw[if_pos (by omega),wS hi hf.1,Yd hi,Y5];refine⟨by omega,_,gE hi,_,Zcvf h _ (hf.2 _ (Yb hi)),?_⟩;rcases tf (Zje d fs[i])with e|e
   .rw[e];simp
   .rw[e,if_pos rfl,ih];simp
 refine Zcpi _ _ _ _ ?_;unfold Zyz;by_cases e1:fs.length<=8
 .rw[if_neg (by omega)];by_cases e2:xs.length<=8
  .rw[if_neg (by omega)];simpa[e1,e2]using main 0 (Ya _)
  .rw[if_pos (by omega)];simp[e2]
 .rw[if_pos (by omega)];simp[e1]
structure Zc0 (s:Zh):Prop where
 d:LeD s.Zi
 k:LeK s.Zl
 f:LeF s.Dependencies
 x:Le s.Inclusions
noncomputable def Zh4(s:Zh):Bool:=Zb5 s.Zi && inR s.Zl.Version 1 999 && decide (s.Zi.Tables.map Zt=s.Zl.Tables) && Zyz s.Zi s.Dependencies s.Inclusions
theorem Zb6b{d:Zi}(hv:Zb5 d=true):(d.Tables.map Zt).length<=4294967296/\∀s∈d.Tables.map Zt,LeS s:=by
 have h6:=Zyy hv;refine⟨by simp;omega,λs hs=>?_⟩;obtain⟨t,ht,rfl⟩:=Yr.1 hs;have hT:=Zfa hv ht;have h7:=Zln (Zcd hT);have h8:=Zd7 hT;refine⟨by simp[Zt];omega,λg hg=>?_⟩;obtain⟨c,hc,rfl⟩:=Yr.1 hg;have hc3:=(Zbkc (Zcd hT) c hc).1;have hg:=Z6g t.Rows c;refine⟨by simp only[grp];omega,⟨by simp only[grp];omega,λr hr=>?_⟩,by simp only[grp,grpN,Yo];omega⟩;have:=Zbkd hr;omega
theorem Zb6c{s:Zh}(h:Zc0 s):Zpg s=some (Bo (Zh4 s),[]):=by
 have hb:=Zcux h.d s.Zl.Version;refine Zcml _ _ ?_;unfold Zh4;unfold catF at hb;rcases tf (Zb5 s.Zi && inR s.Zl.Version 1 999)with e|e
 .rw[e]at hb|-;exact .inl ⟨_,_,hb,by simp⟩
 .rw[e]at hb|-;rw[if_pos rfl]at hb;rw[Ye];have hv:Zb5 s.Zi=true:=by simp only[Yc]at e;exact e.1
  by_cases e0:s.Zi.Tables=[]
  .rw[if_pos e0]at hb;refine .inl ⟨_,_,hb,?_⟩;rw[if_pos rfl];refine⟨_,Zcu2 _ _,?_⟩;have q:Zd9 s.Zl.Version [] s.Zl=decide (s.Zi.Tables.map Zt=s.Zl.Tables):=by simp[Zd9,e0]
   rw[q];rcases tf (decide (s.Zi.Tables.map Zt=s.Zl.Tables))with e2|e2
   .rw[e2];simp
   .rw[e2,if_pos rfl];exact⟨_,Zb59 h.d h.f h.x,by simp⟩
  .rw[if_neg e0]at hb;refine .inr ⟨_,_,_,hb,_,Zcu3 _ _ _ (Zb6b hv),?_⟩;have q:Zd9 s.Zl.Version (s.Zi.Tables.map Zt) s.Zl=decide (s.Zi.Tables.map Zt=s.Zl.Tables):=by simp[Zd9]
   rw[q];rcases tf (decide (s.Zi.Tables.map Zt=s.Zl.Tables))with e2|e2
   .rw[e2];simp
   .rw[e2,if_pos rfl];exact⟨_,Zb59 h.d h.f h.x,by simp⟩
theorem Zcvn{s:Zh}(h:Zc0 s):Zwh s=some (Bo (Zh4 s),[]):=by
 have hb:=Zcuz h.d s.Zl.Version;refine Zcpl _ _ ?_;unfold Zh4;unfold catF at hb;rcases tf (Zb5 s.Zi && inR s.Zl.Version 1 999)with e|e
 .rw[e]at hb|-;exact .inl ⟨_,_,hb,by simp⟩
 .rw[e]at hb|-;rw[if_pos rfl]at hb;rw[Ye];have hv:Zb5 s.Zi=true:=by simp only[Yc]at e;exact e.1
  by_cases e0:s.Zi.Tables=[]
  .rw[if_pos e0]at hb;refine .inl ⟨_,_,hb,?_⟩;rw[if_pos rfl];refine⟨_,Zcu7 _ _,?_⟩;have q:Zd9 s.Zl.Version [] s.Zl=decide (s.Zi.Tables.map Zt=s.Zl.Tables):=by simp[Zd9,e0]
   rw[q];rcases tf (decide (s.Zi.Tables.map Zt=s.Zl.Tables))with e2|e2
   .rw[e2];simp
   .rw[e2,if_pos rfl];exact⟨_,Zb6a h.d h.f h.x,by simp⟩
  .rw[if_neg e0]at hb;refine .inr ⟨_,_,_,hb,_,Zcu8 _ _ _ (Zb6b hv) h.k,?_⟩;have q:Zd9 s.Zl.Version (s.Zi.Tables.map Zt) s.Zl=decide (s.Zi.Tables.map Zt=s.Zl.Tables):=by simp[Zd9]
   rw[q];rcases tf (decide (s.Zi.Tables.map Zt=s.Zl.Tables))with e2|e2
   .rw[e2];simp
   .rw[e2,if_pos rfl];exact⟨_,Zb6a h.d h.f h.x,by simp⟩
abbrev Lf{α:Type}(xs:List α):Prop:=xs.length<=4294967296
abbrev LfT(t:Ze):Prop:=Lf t.Rows/\∀r∈t.Rows,Lf r
abbrev LfD(d:Zi):Prop:=Lf d.Tables/\∀t∈d.Tables,LfT t
abbrev LfF(fs:List Zk):Prop:=Lf fs/\∀f∈fs,Lf f.From
structure LfS (s:Zh):Prop where
 d:LfD s.Zi
 k:LeK s.Zl
 f:LfF s.Dependencies
 x:Lf s.Inclusions
theorem LfS.le{s:Zh}(h:LfS s):Zc0 s :=
 ⟨⟨by have:=h.d.1;omega,λt ht=>⟨by have:=(h.d.2 t ht).1;omega,λr hr=>by have:=(h.d.2 t ht).2 r hr;omega⟩⟩,h.k,⟨by have:=h.f.1;omega,λx hx=>by have:=h.f.2 x hx;omega⟩,by have:=h.x;omega⟩
theorem tkS{α:Type}{xs:List α}{i:Nat}(h:i<xs.length):xs.take i++[xs[i]]=xs.take (i+1):=(Y1 h).symm
theorem tk1{α:Type}{xs:List α}(h:0<xs.length):[xs[0]]=xs.take 1:=by
 rw[<-tkS h];rfl
theorem w01:w (0+1)=((1:Nat):Int):=by decide
theorem tkl{α:Type}{xs:List α}{i:Nat}(h:i<xs.length)(hl:xs.length<=4294967296):(xs.take i).length+1<=68719476736:=by
 rw[Yp];omega
theorem tks{α:Type}{xs:List α}(h:xs.length<=4294967296):xs.length<=68719476736:=by omega
theorem l_cRows(xs:List (List Int))(hl:Lf xs)(hr:∀r∈xs,Lf r):∀i,i<=xs.length->Zo6 (xs.take i) xs xs.length i=some (.own 0,[.arr 56 1 true (xs.map isc)]):=by
 refine down _ ?_ ?_
 .refine Z5j _ _ _ _ _ ?_;rw[if_neg (by omega),Yl]
 .intro i hi ih;refine Z5j _ _ _ _ _ ?_;rw[if_pos (by omega),wS hi (by omega)];rw[<-tkS hi]at ih;exact⟨by omega,_,gE hi,_,Zyq _ (tks (hr _ (Yb hi))),tkl hi hl,ih⟩
theorem x_cRows(xs:List (List Int))(hl:Lf xs)(hr:∀r∈xs,Lf r):Zhk xs=some (.own 0,[.arr 56 1 true (xs.map isc)]) :=
 Zbyp _ _ (by simpa using l_cRows xs hl hr 0 (Ya _))
theorem l_cStats(s:Zf)(h:LeS s)(a:ByteArray)(b c:Int):∀i,i<=s.Groups.length->Zt8 s a b c (s.Groups.take i) s.Groups s.Groups.length i=some (.agg [.t (.str s.Name),I s.Arity,I s.RowCount,.own 0],[.arr 200 3 true (s.Groups.map Zg.c)]):=by
 have hl:=h.1;refine down _ ?_ ?_
 .refine Zbzc _ _ _ _ _ _ _ _ _ ?_;rw[if_neg (by omega),Yl]
 .intro i hi ih;refine Zbzc _ _ _ _ _ _ _ _ _ ?_;rw[if_pos (by omega),wS hi (by omega)];rw[<-tkS hi]at ih;have g:=h.2 _ (Yb hi);exact⟨by omega,_,gE hi,_,Zyq _ (tks g.1),_,x_cRows _ g.2.1.1 g.2.1.2,_,Zyq _ (tks g.2.2),tkl hi hl,ih⟩
theorem x_cStats(s:Zf)(h:LeS s):Z1e s=some (.agg [.t (.str s.Name),I s.Arity,I s.RowCount,.own 0],[.arr 200 3 true (s.Groups.map Zg.c)]) :=
 Zcmv _ _ (by simpa using l_cStats s h ⟨#[]⟩ 0 0 0 (Ya _))
theorem l_s13(s:Zf)(h:LeS s)(a:ByteArray)(b c:Int)(r:AV×List Blk){i:Nat}(hi:i<s.Groups.length)(cc:Zhs s a b c s.Name s.Arity s.RowCount (s.Groups.take (i+1)) ((i+1:Nat):Int)=some r) :
  (∀k,k<=s.Groups[i].Values.length->Zwm s a b c s.Name s.Arity s.RowCount (s.Groups.take i) s.Groups[i].Columns (s.Groups[i].Values.take k) s.Groups[i].Counts i k=some r):=by
 have hl:=h.1;have g:=h.2 _ (Yb hi);have hv:=g.2.1.1;refine down _ ?_ ?_
 .refine Zb1p _ _ _ _ _ _ _ _ _ _ _ _ _ _ ⟨by omega,_,gE hi,?_⟩;rw[if_neg (by omega),Yl,wS hi (by omega)];rw[<-tkS hi]at cc;exact⟨tkl hi hl,cc⟩
 .intro k hk ih;refine Zb1p _ _ _ _ _ _ _ _ _ _ _ _ _ _ ⟨by omega,_,gE hi,?_⟩;rw[if_pos (by omega),wS hk (by omega)];rw[<-tkS hk]at ih;exact⟨by omega,_,gE hk,tks (g.2.1.2 _ (Yb hk)),tkl hk hv,ih⟩
theorem l_s13b(s:Zf)(h:LeS s)(a:ByteArray)(b c:Int):∀i,i<=s.Groups.length->Zhs s a b c s.Name s.Arity s.RowCount (s.Groups.take i) i=some (.agg [.t (.str s.Name),I s.Arity,I s.RowCount,.own 0],[.arr 200 3 true (s.Groups.map Zg.c)]):=by
 have hl:=h.1;refine down _ ?_ ?_
 .refine Zb1o _ _ _ _ _ _ _ _ _ _ ?_;rw[if_neg (by omega),Yl]
 .intro i hi ih;have g:=h.2 _ (Yb hi);have hv:=g.2.1.1;refine Zb1o _ _ _ _ _ _ _ _ _ _ ?_;rw[if_pos (by omega)];refine⟨by omega,_,gE hi,tks g.1,tks g.2.2,Zcpy _ _ _ _ _ _ _ _ _ _ _ _ _ ⟨by omega,_,gE hi,?_⟩⟩;by_cases e:s.Groups[i].Values=[]
  .rw[if_neg (by rw[e];simp),wS hi (by omega)];rw[<-tkS hi]at ih;refine⟨tkl hi hl,?_⟩;rw[<-ih];congr 3;exact Zg.ext rfl e.symm rfl
  .have h0:0<s.Groups[i].Values.length:=Yba.2 e;rw[if_pos (by omega),w01];have:=l_s13 s h a b c _ hi ih 1 h0;rw[<-tk1 h0]at this;exact⟨by omega,_,gE (i:=0) h0,tks (g.2.1.2 _ (Yb h0)),this⟩
theorem l_s13c(s:Zf)(h:LeS s)(r:AV×List Blk)(hi:0<s.Groups.length)(c:Zhs s ⟨#[]⟩ 0 0 s.Name s.Arity s.RowCount (s.Groups.take 1) ((1:Nat):Int)=some r) :
  ∀k,k<=s.Groups[0].Values.length->Zwl s ⟨#[]⟩ 0 0 s.Name s.Arity s.RowCount s.Groups[0].Columns (s.Groups[0].Values.take k) s.Groups[0].Counts 0 k=some r:=by
 have hl:=h.1;have g:=h.2 _ (Yb hi);have hv:=g.2.1.1;refine down _ ?_ ?_
 .refine Zb1n _ _ _ _ _ _ _ _ _ _ _ _ _ ⟨by omega,_,gE (i:=0) hi,?_⟩;rw[if_neg (by omega),Yl,w01];rw[<-tk1 hi]at c;exact c
 .intro k hk ih;refine Zb1n _ _ _ _ _ _ _ _ _ _ _ _ _ ⟨by omega,_,gE (i:=0) hi,?_⟩;rw[if_pos (by omega),wS hk (by omega)];rw[<-tkS hk]at ih;exact⟨by omega,_,gE hk,tks (g.2.1.2 _ (Yb hk)),tkl hk hv,ih⟩
theorem x_s13(s:Zf)(h:LeS s):Z27 s=some (.agg [.t (.str s.Name),I s.Arity,I s.RowCount,.own 0],[.arr 200 3 true (s.Groups.map Zg.c)]):=by
 have hl:=h.1;refine Zcpz _ _ (Zcpw _ _ _ _ _ _ _ _ _ ?_);by_cases e0:s.Groups=[]
 .rw[if_neg (by rw[e0];simp),e0]
 .have hi:0<s.Groups.length:=Yba.2 e0;have g:=h.2 _ (Yb hi);have ih:=l_s13b s h ⟨#[]⟩ 0 0 1 hi;rw[if_pos (by omega)];refine⟨by omega,_,gE (i:=0) hi,tks g.1,tks g.2.2,Zcpx _ _ _ _ _ _ _ _ _ _ _ _ ⟨by omega,_,gE (i:=0) hi,?_⟩⟩;by_cases e:s.Groups[0].Values=[]
  .rw[if_neg (by rw[e];simp),w01];rw[<-tk1 hi]at ih;rw[<-ih];congr 2;exact Zg.ext rfl e.symm rfl
  .have h0:0<s.Groups[0].Values.length:=Yba.2 e;rw[if_pos (by omega),w01];have:=l_s13c s h _ hi ih 1 h0;rw[<-tk1 h0]at this;exact⟨by omega,_,gE (i:=0) h0,tks (g.2.1.2 _ (Yb h0)),this⟩
end Go.Proofs.YtnnjbejcffjgfaaGreat
