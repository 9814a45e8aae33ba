/-
  Parts of the proofs for this seat: TB PA PB OF OE TC CB.
-/
import Derived.Test.YtcfaekfjkeobhaaGreatP20
set_option linter.unusedSectionVars false
set_option linter.unusedSimpArgs false
set_option linter.unusedVariables false
set_option maxRecDepth 100000
set_option maxHeartbeats 4000000
namespace Go.Proofs.YtcfaekfjkeobhaaGreat
open Go.AM
theorem Zb2i(a:Int):Zs4 a=some (.agg [.own 0],[.arr 162 3 true (([(⟨1,a,0⟩:Zb)]).map Zb.c)]):=Zbzq _ _ rfl
theorem Zb2j(a:Int):Zru a=some (.agg [.own 0],[.arr 162 3 true (([(⟨1,a,0⟩:Zb)]).map Zb.c)]):=Zbw2 _ _ rfl
theorem Zyz(p:Plan)(h:p.Steps.length<=1000):Zdx p=some (.agg [.own 0],[.arr 162 3 true (p.Steps.map Zb.c)]):=Z6n _ _ ⟨by omega,rfl⟩
def Zcv(a b:List Zb)(k v:Int):List Zb:=a++b++[(⟨k,0,v⟩:Zb)]
def sortS(a:List Zb)(v:Int):List Zb:=a++[(⟨2,0,v⟩:Zb)]
theorem Zpw(a b:Plan)(k v:Int)(ha:a.Steps.length<=1000)(hb:b.Steps.length<=1000):Zhx a b k v=some (.agg [.own 0],[.arr 162 3 true ((Zcv a.Steps b.Steps k v).map Zb.c)]) :=
 Zbzw _ _ _ _ _ ⟨_,Zyz a ha,by omega,by omega,rfl⟩
theorem Zkk(a b:Plan)(k v:Int)(ha:a.Steps.length<=1000)(hb:b.Steps.length<=1000):Zf5 a b k v=some (.agg [.own 0],[.arr 162 3 true ((Zcv a.Steps b.Steps k v).map Zb.c)]) :=
 Zbw4 _ _ _ _ _ ⟨by omega,by omega,by omega,rfl⟩
theorem Zb2k(a:Plan)(v:Int)(ha:a.Steps.length<=1000):Zxt a v=some (.agg [.own 0],[.arr 162 3 true ((sortS a.Steps v).map Zb.c)]) :=
 Zbz0 _ _ _ ⟨_,Zyz a ha,by omega,rfl⟩
theorem Zbl1(a:Plan)(v:Int)(ha:a.Steps.length<=1000):Zn2 a v=some (.agg [.own 0],[.arr 162 3 true ((sortS a.Steps v).map Zb.c)]) :=
 Zbw7 _ _ _ ⟨by omega,by omega,rfl⟩
def Zcw(l:List Za)(c:Int):Nat->Int
 |0=>-1
 |k+1=>match l[k]? with
  |none=>Zcw l c k
  |some e=>if e.Mask=c then(match l[(Zcw l c k).toNat]? with
    |some b=>if Zcw l c k<0 then(k:Int)else if e.Cost<b.Cost then(k:Int)else Zcw l c k
    |none=>(k:Int))else Zcw l c k
theorem Z62(l:List Za)(c:Int):∀k,-1<=Zcw l c k/\Zcw l c k<k
 |0=>by simp[Zcw]
 |k+1=>by
  have ih:=Z62 l c k;unfold Zcw
  repeat' split
  all_goals omega
def low(l:List Za)(c:Int):Int:=Zcw l c l.length
theorem l_low(l:List Za)(c:Int)(hl:l.length<=1000):∀i,i<=l.length->Zjq l c (Zcw l c i) i=some (I (low l c),[]):=by
 refine down _ ?_ ?_
 .refine Zbi1 _ _ _ _ _ ?_;rw[if_neg (by omega)];rfl
 .intro i hi ih;have h4:=Zw (i:=i) (by omega);have hb:=Z62 l c i;refine Zbi1 _ _ _ _ _ ?_;rw[if_pos (by omega)];refine⟨by omega,l[i],by rw[Yg];exact Ya hi,?_⟩;rw[show w ((i:Int)+1)=((i+1:Nat):Int)from by rw[show w ((i:Int)+1)=(i:Int)+1 from h4];simp];unfold Zcw at ih;rw[Ya hi]at ih;by_cases e:l[i].Mask=c
  .rw[if_pos e];simp only[if_pos e]at ih;by_cases e0:Zcw l c i<0
   .rw[if_pos e0];simp only[if_pos e0]at ih;split at ih<;>exact ih
   .rw[if_neg e0];have hk:(Zcw l c i).toNat<l.length:=by omega
    refine⟨by omega,l[(Zcw l c i).toNat],Ya hk,?_⟩;rw[Ya hk]at ih;simp only[if_neg e0]at ih;by_cases e2:l[i].Cost<l[(Zcw l c i).toNat].Cost
    .rw[if_pos e2]at ih|-;exact ih
    .rw[if_neg e2]at ih|-;exact ih
  .rw[if_neg e];simp only[if_neg e]at ih;exact ih
theorem Zkl(l:List Za)(c:Int)(hl:l.length<=1000):Zik l c=some (I (low l c),[]):=Zbw3 _ _ _ (l_low l c hl 0 (Yd _))
def Zh3(cc c:Int):List Za->Nat->Int
 |[],_=>-1
 |e::l,k=>if e.Mask=cc/\e.Order=c then(k:Int)else Zh3 cc c l (k+1)
theorem l_find(l:List Za)(cc c:Int)(hl:l.length<=1000):∀i,i<=l.length->Zn1 l cc c i=some (I (Zh3 cc c (l.drop i) i),[]):=by
 refine down _ ?_ ?_
 .refine Zbi2 _ _ _ _ _ ?_;rw[if_neg (by omega)];simp[Zh3]
 .intro i hi ih;have h4:=Zw (i:=i) (by omega);refine Zbi2 _ _ _ _ _ ?_;rw[if_pos (by omega),Yi hi];refine⟨by omega,l[i],by rw[Yg];exact Ya hi,?_⟩;rw[show w ((i:Int)+1)=((i+1:Nat):Int)from by rw[show w ((i:Int)+1)=(i:Int)+1 from h4];simp];unfold Zh3;by_cases e:l[i].Mask=cc
  .rw[if_pos e];by_cases e2:l[i].Order=c
   .rw[if_pos e2,if_pos ⟨e,e2⟩]
   .rw[if_neg e2,if_neg (λh=>e2 h.2)];exact ih
  .rw[if_neg e,if_neg (λh=>e h.1)];exact ih
def find(l:List Za)(cc c:Int):Int:=Zh3 cc c l 0
theorem Zy0(l:List Za)(cc c:Int)(hl:l.length<=1000):Zln l cc c=some (I (find l cc c),[]):=Zbw6 _ _ _ _ (l_find l cc c hl 0 (Yd _))
abbrev MO:=Int×Int
def Zfp(qa:List Atom)(x:Zb)(y z:MO):Option Int:=Zc5 qa x ⟨y.1,y.2,0,0⟩ ⟨z.1,z.2,0,0⟩
theorem joinP_eq(qa:List Atom)(x:Zb)(y z:Zi):Zfp qa x (y.Mask,y.Order) (z.Mask,z.Order)=Zc5 qa x y z:=by
 unfold Zfp Zc5;rfl
def Zc8(m:Ze)(sizes:List Int)(qa:List Atom)(x:Zb)(S:List MO):Option (List MO×Int) :=
 if x.Kind=1 then(if inR x.Atom 0 (qa.length-1)=true/\x.Order=0 then some ((shlI 1 x.Atom,(match qa[x.Atom.toNat]? with|some a=>a.Vars.headD 0|none=>0))::S,Zbg (mOp m 1) (szAt sizes (shlI 1 x.Atom)) 0 (szAt sizes (shlI 1 x.Atom)))else none)
 else if x.Atom≠0 then none
 else if x.Kind=2 then(match S with
  |y::S=>if vin qa y.1 x.Order=true/\y.2≠x.Order then some ((y.1,x.Order)::S,Zbg (mOp m 2) (szAt sizes y.1) 0 (szAt sizes y.1))else none
  |[]=>none)
 else match S with
  |z::y::S=>if andI y.1 z.1=0/\shr qa y.1 z.1=true then(Zfp qa x y z).map (λo=>((orI y.1 z.1,o)::S,Zbg (mOp m x.Kind) (szAt sizes y.1) (szAt sizes z.1) (szAt sizes (orI y.1 z.1))))else none
  |_=>none
def runS(m:Ze)(sizes:List Int)(qa:List Atom):List Zb->List MO->Int->Option (List MO×Int)
 |[],S,c=>some (S,c)
 |x::xs,S,c=>match Zc8 m sizes qa x S with
  |none=>none
  |some (S',k)=>runS m sizes qa xs S' (w (c+k))
def ordAt(info:List Zi)(i:Int):Int:=match info[i.toNat]? with|some y=>y.Order|none=>0
def vw(info:List Zi)(rs:List Int):List MO:=rs.map λs=>(Zdr info s,ordAt info s)
theorem top1{info:List Zi}{s:Int}{rs:List Int}:Zca (s::rs).reverse info 1=(info[s.toNat]?).map (s,·):=by
 simp[Zca]
theorem top2{info:List Zi}{t s:Int}{rs:List Int}:Zca (t::s::rs).reverse info 2=(info[s.toNat]?).map (s,·):=by
 simp[Zca]
theorem top0{info:List Zi}:Zca [] info 1=none:=by simp[Zca]
theorem top02{info:List Zi}:Zca [] info 2=none:=by simp[Zca]
theorem top12{info:List Zi}{s:Int}:Zca [s] info 2=none:=by simp[Zca]
theorem Zb2l(m:Ze)(sizes:List Int)(qa:List Atom)(x:Zb)(info:List Zi)(rs:List Int)(hs:StOk info rs.reverse):match Zdv qa x info rs.reverse with
  |none=>Zc8 m sizes qa x (vw info rs)=none
  |some y=>Zc8 m sizes qa x (vw info rs)=some ((y.Mask,y.Order)::(vw info rs).drop (pops y),Zc2 m info sizes x y):=by
 unfold Zdv Zc8;by_cases k1:x.Kind=1
 .simp only[if_pos k1];by_cases c:inR x.Atom 0 (qa.length-1)=true/\x.Order=0
  .simp[if_pos c,pops,Zc2,k1];rfl
  .simp[if_neg c]
 .simp only[if_neg k1];by_cases ka:x.Atom≠0
  .simp[if_pos ka]
  .simp only[if_neg ka];by_cases k2:x.Kind=2
   .simp only[if_pos k2]
    cases rs with
    |nil=>simp[vw,top0]
    |cons s rs =>
     obtain⟨h0,h1⟩:=hs s (by simp);have e:info[s.toNat]?=some info[s.toNat]:=Ya h1;rw[top1,e];simp only[Option.map_some,vw,Y2,Zdr,ordAt,e];by_cases c:vin qa info[s.toNat].Mask x.Order=true/\info[s.toNat].Order≠x.Order
     .have hn:¬s<0:=by omega
      simp[if_pos c,pops,Zc2,k2,Zdr,e,h0,hn]
     .simp[if_neg c]
   .simp only[if_neg k2]
    match rs,hs with
    |[],_=>simp[vw,top02]
    |[s],_=>simp[vw,top12]
    |t::s::rs,hs =>
     obtain⟨h0,h1⟩:=hs s (by simp);obtain⟨t0,t1⟩:=hs t (by simp);have e:info[s.toNat]?=some info[s.toNat]:=Ya h1;have et:info[t.toNat]?=some info[t.toNat]:=Ya t1;rw[top1,top2,e,et];simp only[Option.map_some,vw,Y2,Zdr,ordAt,e,et];by_cases c:andI info[s.toNat].Mask info[t.toNat].Mask=0/\shr qa info[s.toNat].Mask info[t.toNat].Mask=true
     .simp only[if_pos c,joinP_eq]
      cases ho:Zc5 qa x info[s.toNat] info[t.toNat]with
      |none=>simp
      |some o =>
       have hn:¬s<0:=by omega
       have tn:¬t<0:=by omega
       simp[pops,Zc2,Zdr,e,et,h0,t0,hn,tn]
     .simp[if_neg c]
theorem vw_ext{info tail:List Zi}{rs:List Int}(hs:∀s∈rs,0<=s/\s.toNat<info.length):vw (info++tail) rs=vw info rs:=by
 unfold vw;refine Ybz λs h=>?_
 have:=(hs s h).2;simp[Zdr,ordAt,Ycm this]
theorem Zb2m{m:Ze}{sizes:List Int}{info tail:List Zi}{x:Zb}{y:Zi}(h:Zmm info.length x y):Zc2 m (info++tail) sizes x y=Zc2 m info sizes x y:=by
 unfold Zc2;rcases h.refs with⟨a,b⟩|⟨⟨a,a'⟩,b⟩
 .simp[a,b]
 .have e1:Zdr (info++tail) y.Left=Zdr info y.Left:=by simp[Zdr,Ycm a']
  rcases b with b|⟨b,b'⟩
  .simp[b,e1]
  .have e2:Zdr (info++tail) y.Right=Zdr info y.Right:=by simp[Zdr,Ycm b']
   simp[e1,e2]
theorem Zbl2(m:Ze)(sizes:List Int)(qa:List Atom):∀(xs:List Zb) (info:List Zi) (rs:List Int) (c:Int),StOk info rs.reverse->
  match Zci qa xs info.length info rs.reverse with
  |none=>runS m sizes qa xs (vw info rs) c=none
  |some (info',st')=>∃tail,info'=info++tail/\tail.length=xs.length/\runS m sizes qa xs (vw info rs) c=some (vw info' st'.reverse,sumW (Zb6 m info' sizes xs tail) c)
 |[],info,rs,c,hs=>by
  simp only[Zci,runS]
  exact⟨[],by simp,rfl,by simp[Zb6,sumW]⟩
 |x::xs,info,rs,c,hs=>by
  have hv:=Zb2l m sizes qa x info rs hs;rw[Zci,runS]
  cases hy:Zdv qa x info rs.reverse with
  |none=>rw[hy]at hv;simp only at hv;rw[hv]
  |some y =>
   rw[hy]at hv;simp only at hv;rw[hv];simp only;have ho:=Zblq hs hy;have hn:=Zqr hs y (rs.reverse.length-pops y);have er:rs.reverse.take (rs.reverse.length-pops y)++[(info.length:Int)]=((info.length:Int)::rs.drop (pops y)).reverse:=by
    rw[List.reverse_cons,List.reverse_drop,List.length_reverse]
   rw[er]at hn|-;have ih:=Zbl2 m sizes qa xs (info++[y]) ((info.length:Int)::rs.drop (pops y)) (w (c+Zc2 m info sizes x y)) hn;have ev:vw (info++[y]) ((info.length:Int)::rs.drop (pops y))=(y.Mask,y.Order)::(vw info rs).drop (pops y):=by
    have:=vw_ext (info:=info) (tail:=[y]) (rs:=rs.drop (pops y)) (λs h=>hs s (by simp;exact Y9 h));rw[show vw (info++[y]) ((info.length:Int)::rs.drop (pops y))=(Zdr (info++[y]) info.length,ordAt (info++[y]) info.length)::vw (info++[y]) (rs.drop (pops y))from rfl,this];simp[Zdr,ordAt,vw,List.map_drop]
   rw[ev]at ih;rw[show(info++[y]).length=info.length+1 by simp]at ih;split at ih
   .exact ih
   .rename_i info' st' hg;obtain⟨tail,a,b,d⟩:=ih;refine⟨y::tail,by simp[a],by simp[b],?_⟩;rw[d];have e2:Zc2 m info' sizes x y=Zc2 m info sizes x y:=by rw[a,Yz];exact Zb2m ho
    simp[Zb6,sumW,e2]
theorem run_cost{m:Ze}{n:Int}{qa:List Atom}{sizes:List Int}{steps:List Zb}{y:MO}{c:Int}(hv:Zn n qa=true)(hl:1<=steps.length/\steps.length<=14)(hs:Zb5 n qa sizes=true)(h:runS m sizes qa steps [] 0=some ([y],c)):Zcm m n qa steps sizes=c:=by
 have g:=Zbl2 m sizes qa steps [] [] 0 (λs h=>by simp at h);simp only[Ybm,List.reverse_nil]at g;have hr:inR (steps.length:Int) 1 14=true:=by simp[inR];omega
 cases hg:Zci qa steps 0 [] []with
 |none=>rw[hg]at g;simp only[vw,Yb9]at g;rw[g]at h;cases h
 |some p =>
  obtain⟨info',st'⟩:=p;rw[hg]at g;obtain⟨tail,a,b,d⟩:=g;simp only[vw,Yb9]at d;rw[d]at h;simp only[Ybv]at a;subst a
  cases h':st'.reverse with
  |nil=>rw[h']at h;simp at h
  |cons s rs =>
   rw[h']at h;simp only[Y2,Ybe,Ybj,List.cons.injEq,List.map_eq_nil_iff]at h;have hlen:st'.length=1:=by rw[<-List.length_reverse,h',h.1.2];rfl
   have hi:Zcb n qa steps=some info':=by simp[Zcb,hv,hr,hg,hlen]
   simp[Zcm,Zh2,Zfo,hi,hs,h.2]
theorem w_eq(x:Int):w x=(x+9223372036854775808) % 18446744073709551616-9223372036854775808:=by
 simp only[w,IntKind.wrap,IntKind.signed,IntKind.bits,Y6];split
 .rename_i h;have h:=of_decide_eq_true h;omega
 .rename_i h;simp at h;omega
theorem w_w(x:Int):w (w x)=w x:=by rw[w_eq,w_eq];omega
theorem Zy1(m:Ze)(sizes:List Int)(qa:List Atom):∀(xs ys:List Zb) (S:List MO) (c:Int),runS m sizes qa (xs++ys) S c=match runS m sizes qa xs S c with
  |none=>none
  |some (S',c')=>runS m sizes qa ys S' c'
 |[],ys,S,c=>by simp[runS]
 |x::xs,ys,S,c=>by
  rw[Ydb,runS,runS]
  cases Zc8 m sizes qa x S with
  |none=>rfl
  |some p=>simp only;exact Zy1 m sizes qa xs ys p.1 _
theorem Zb2n{m:Ze}{sizes:List Int}{qa:List Atom}{x:Zb}{S S' B:List MO}{c:Int}(h:Zc8 m sizes qa x S=some (S',c)):Zc8 m sizes qa x (S++B)=some (S'++B,c):=by
 unfold Zc8 at h|-;by_cases k1:x.Kind=1
 .simp only[if_pos k1]at h|-;split at h
  .rename_i hc;rw[if_pos hc];cases h;rfl
  .cases h
 .simp only[if_neg k1]at h|-;by_cases ka:x.Atom≠0
  .simp[if_pos ka]at h
  .simp only[if_neg ka]at h|-;by_cases k2:x.Kind=2
   .simp only[if_pos k2]at h|-
    match S,h with
    |[],h=>cases h
    |y::S,h =>
     simp only[Ydb]at h|-;split at h
     .rename_i hc;rw[if_pos hc];cases h;rfl
     .cases h
   .simp only[if_neg k2]at h|-
    match S,h with
    |[],h=>cases h
    |[y],h=>cases h
    |z::y::S,h =>
     simp only[Ydb]at h|-;split at h
     .rename_i hc;rw[if_pos hc]
      cases ho:Zfp qa x y z with
      |none=>rw[ho]at h;cases h
      |some o=>rw[ho]at h;cases h;rfl
     .cases h
theorem Zbl3{m:Ze}{sizes:List Int}{qa:List Atom}{B:List MO}:∀{xs:List Zb} {S S':List MO} {c c':Int},runS m sizes qa xs S c=some (S',c')->runS m sizes qa xs (S++B) c=some (S'++B,c')
 |[],S,S',c,c',h=>by simp[runS]at h|-;simp[h]
 |x::xs,S,S',c,c',h=>by
  rw[runS]at h|-
  cases hs:Zc8 m sizes qa x S with
  |none=>rw[hs]at h;cases h
  |some p=>rw[hs]at h;rw[Zb2n hs];exact Zbl3 h
theorem Zbl4{m:Ze}{sizes:List Int}{qa:List Atom}:∀{xs:List Zb} {S S':List MO} {a k:Int},runS m sizes qa xs S a=some (S',k)->∀c,w c=c->runS m sizes qa xs S c=some (S',w (c+(k-a)))
 |[],S,S',a,k,h,c,hc=>by
  simp[runS]at h|-;obtain⟨rfl,rfl⟩:=h;rw[show c+(a-a)=c by omega]
  exact⟨rfl,hc.symm⟩
 |x::xs,S,S',a,k,h,c,hc=>by
  rw[runS]at h|-
  cases hs:Zc8 m sizes qa x S with
  |none=>rw[hs]at h;cases h
  |some p =>
   obtain⟨S1,e⟩:=p;rw[hs]at h;simp only at h|-;rw[Zbl4 h (w (c+e)) (w_w _)]
   have:w (w (c+e)+(k-w (a+e)))=w (c+(k-a)):=by simp only[w_eq];omega
   rw[this]
theorem Zbl5{m:Ze}{sizes:List Int}{qa:List Atom}:∀{xs:List Zb} {S S':List MO} {a k:Int},runS m sizes qa xs S a=some (S',k)->w a=a->w k=k
 |[],S,S',a,k,h,ha=>by simp[runS]at h;rw[<-h.2];exact ha
 |x::xs,S,S',a,k,h,ha=>by
  rw[runS]at h
  cases hs:Zc8 m sizes qa x S with
  |none=>rw[hs]at h;cases h
  |some p=>rw[hs]at h;exact Zbl5 h (w_w _)
def Zbp(m:Ze)(sizes:List Int)(qa:List Atom)(xs:List Zb)(cd cc c:Int):Prop:=runS m sizes qa xs [] 0=some ([(cd,cc)],c)
theorem Zbp.can{m:Ze}{sizes:List Int}{qa:List Atom}{xs:List Zb}{a o c:Int}(h:Zbp m sizes qa xs a o c):w c=c:=Zbl5 h rfl
theorem Zbp.on{m:Ze}{sizes:List Int}{qa:List Atom}{xs:List Zb}{a o c:Int}(h:Zbp m sizes qa xs a o c)(B:List MO)(d:Int)(hd:w d=d):runS m sizes qa xs B d=some ((a,o)::B,w (d+c)):=by
 have:=Zbl3 (B:=B) (Zbl4 h d hd);rw[show c-0=c by omega]at this;simpa using this
theorem Zbl6{m:Ze}{sizes:List Int}{qa:List Atom}{xs ys:List Zb}{a o c b p d:Int}{x:Zb}{r:Int}(hx:Zbp m sizes qa xs a o c)(hy:Zbp m sizes qa ys b p d)(hk:3<=x.Kind)(cc:x.Atom=0)(hd:andI a b=0)(cd:shr qa a b=true)(ho:Zfp qa x (a,o) (b,p)=some r) :
  Zbp m sizes qa (xs++ys++[x]) (orI a b) r (w (w (c+d)+Zbg (mOp m x.Kind) (szAt sizes a) (szAt sizes b) (szAt sizes (orI a b)))):=by
 unfold Zbp at *
 rw[Zy1,Zy1,hx];simp only;rw[Zbp.on hy _ _ (Zbp.can hx)];simp only;rw[runS];have hs:Zc8 m sizes qa x [(b,p),(a,o)]=some ([(orI a b,r)],Zbg (mOp m x.Kind) (szAt sizes a) (szAt sizes b) (szAt sizes (orI a b))):=by
  unfold Zc8;rw[if_neg (by omega),if_neg (by simp[cc]),if_neg (by omega)];simp[hd,cd,ho]
 rw[hs];rfl
theorem Zb2o{m:Ze}{sizes:List Int}{qa:List Atom}{xs:List Zb}{a o c v:Int}(hx:Zbp m sizes qa xs a o c)(hv:vin qa a v=true)(ho:o≠v) :
  Zbp m sizes qa (sortS xs v) a v (w (c+Zbg m.Sort_ (szAt sizes a) 0 (szAt sizes a))):=by
 unfold Zbp at *
 rw[sortS,Zy1,hx];simp only;rw[runS];have hs:Zc8 m sizes qa ⟨2,0,v⟩ [(a,o)]=some ([(a,v)],Zbg m.Sort_ (szAt sizes a) 0 (szAt sizes a)):=by
  unfold Zc8;simp[hv,ho,mOp]
 rw[hs];rfl
theorem Zb2p{m:Ze}{sizes:List Int}{qa:List Atom}{i:Nat}(h:i<qa.length) :
  Zbp m sizes qa [⟨1,i,0⟩] (shlI 1 i) (qa[i].Vars.headD 0) (w (Zbg m.Scan (szAt sizes (shlI 1 i)) 0 (szAt sizes (shlI 1 i)))):=by
 unfold Zbp;rw[runS];have hi:inR (i:Int) 0 (qa.length-1)=true:=by simp[inR];omega
 have hs:Zc8 m sizes qa ⟨1,i,0⟩ []=some ([(shlI 1 i,qa[i].Vars.headD 0)],Zbg m.Scan (szAt sizes (shlI 1 i)) 0 (szAt sizes (shlI 1 i))):=by
  unfold Zc8;simp[hi,mOp,Ya h]
 rw[hs];simp[runS]
theorem Zbp.cost{m:Ze}{sizes:List Int}{n:Int}{qa:List Atom}{xs:List Zb}{a o c:Int}(h:Zbp m sizes qa xs a o c)(hv:Zn n qa=true)(hl:1<=xs.length/\xs.length<=14)(hs:Zb5 n qa sizes=true):Zcm m n qa xs sizes=c:=run_cost hv hl hs h
theorem hash_p{qa:List Atom}{y z:MO}:Zfp qa ⟨3,0,0⟩ y z=some (-1):=by simp[Zfp,Zc5]
theorem nest_p{qa:List Atom}{y z:MO}:Zfp qa ⟨5,0,0⟩ y z=some y.2:=by simp[Zfp,Zc5]
theorem Zbl7{qa:List Atom}{y z:MO}{v:Int}(h1:vin qa y.1 v=true)(h2:vin qa z.1 v=true)(h3:y.2=v)(h4:z.2=v):Zfp qa ⟨4,0,v⟩ y z=some v:=by simp[Zfp,Zc5,h1,h2,h3,h4]
def Zcn(b e:Za):Za:=if e.Cost<b.Cost then e else b
theorem l_bestOf(a b c:Int)(l:List Za)(hl:l.length<=1000):∀i,i<=l.length->∀best,Zo3 a b c best l l.length i=some (.agg (((l.drop i).foldl Zcn best).c.map .t),[]):=by
 refine down _ ?_ ?_
 .intro best;refine Zbkl _ _ _ _ _ _ _ _ ?_;rw[if_neg (by omega)];simp
 .intro i hi ih best;have h4:=Zw (i:=i) (by omega);refine Zbkl _ _ _ _ _ _ _ _ ?_;rw[if_pos (by omega),Yi hi,Yv];refine⟨by omega,l[i],by rw[Yg];exact Ya hi,?_⟩;rw[show w ((i:Int)+1)=((i+1:Nat):Int)from by rw[show w ((i:Int)+1)=(i:Int)+1 from h4];simp];by_cases e:l[i].Cost<best.Cost
  .rw[if_pos e,show Zcn best l[i]=l[i] by simp[Zcn,e]];exact ih _
  .rw[if_neg e,show Zcn best l[i]=best by simp[Zcn,e]];exact ih _
def Z5(l:List Za):Za:=match l with|[]=>⟨0,0,0,⟨[]⟩⟩|e::l=>(e::l).foldl Zcn e
theorem Zy2(l:List Za)(h0:l≠[])(hl:l.length<=1000):Zma l=some (.agg ((Z5 l).c.map .t),[]):=by
 cases l with
 |nil=>exact absurd rfl h0
 |cons e l =>
  refine Zbzv _ _ ⟨e,rfl,?_⟩;have:=l_bestOf 0 0 0 (e::l) hl 0 (Yd _) e;simpa[Z5]using this
def offE(e:Za)(cc a c:Int)(x:List Zb):Za:=if e.Mask=0 then⟨cc,a,c,⟨x⟩⟩else if c<e.Cost then⟨cc,a,c,⟨x⟩⟩else e
def sm(e:Za):Bool:=decide (e.Mask≠0)
theorem sm_off{e:Za}{mask a cost:Int}{x:List Zb}(h:mask≠0):sm (offE e mask a cost x)=true:=by
 unfold offE sm;split
 .simp[h]
 .split
  .simp[h]
  .simp[*]
def offK(k:Int)(e:Za)(cc a c:Int)(x:List Zb):Za:=if a+1=k then offE e cc a c x else e
theorem Zbl8(m:Ze)(hm:LeM m)(q:Zc)(hq:LeQ q)(sizes:List Int)(hs:Le sizes)(mask:Int)(h0:mask≠0)(a0 a1 a2 a3 a4:Za)(x:List Zb)(a:Int)(ha:-1<=a/\a<=3)(c:Int)(hc:Zcm m q.Zf q.Atoms x sizes=c):∃t,(t=.dead\/t=.arr 162 3 true (x.map Zb.c))/\
  Zc6 m q sizes mask a0 a1 a2 a3 a4 (sm a0) (sm a1) (sm a2) (sm a3) (sm a4) x a=some (.tup [],[boxO m q sizes mask (offK 0 a0 mask a c x) (offK 1 a1 mask a c x) (offK 2 a2 mask a c x) (offK 3 a3 mask a c x) (offK 4 a4 mask a c x) (sm (offK 0 a0 mask a c x)) (sm (offK 1 a1 mask a c x)) (sm (offK 2 a2 mask a c x)) (sm (offK 3 a3 mask a c x)) (sm (offK 4 a4 mask a c x)),t]):=by
 have hcost:=Z61 m hm q hq ⟨x⟩ sizes hs;rw[show Zcm m q.Zf q.Atoms (Plan.mk x).Steps sizes=c from hc]at hcost;have h5:a=-1\/a=0\/a=1\/a=2\/a=3:=by omega
 have key:∀e:Za,(sm e=true/\c<e.Cost/\offE e mask a c x=⟨mask,a,c,⟨x⟩⟩)\/(sm e=true/\¬c<e.Cost/\offE e mask a c x=e)\/(sm e=false/\offE e mask a c x=⟨mask,a,c,⟨x⟩⟩):=by
  intro e;by_cases e0:e.Mask=0
  .exact .inr (.inr ⟨by simp[sm,e0],by simp[offE,e0]⟩)
  .by_cases e1:c<e.Cost
   .exact .inl ⟨by simp[sm,e0],e1,by simp[offE,e0,e1]⟩
   .exact .inr (.inl ⟨by simp[sm,e0],e1,by simp[offE,e0,e1]⟩)
 have hsm:sm ⟨mask,a,c,⟨x⟩⟩=true:=by simp[sm,h0]
 have w0:w 0=0:=by decide
 have w1:w 1=1:=by decide
 have w2:w 2=2:=by decide
 have w3:w 3=3:=by decide
 have w4:w 4=4:=by decide
 rcases h5 with rfl|rfl|rfl|rfl|rfl
 .rcases key a0 with⟨k1,k2,k3⟩|⟨k1,k2,k3⟩|⟨k1,k3⟩
  .exact⟨_,.inl rfl,Zeu ⟨c,hcost,by simp[offK,k1,k2,k3,hsm,w0,w1,w2,w3,w4]⟩⟩
  .exact⟨_,.inr rfl,Zeu ⟨c,hcost,by simp[offK,k1,k2,k3,hsm,w0,w1,w2,w3,w4]⟩⟩
  .exact⟨_,.inl rfl,Zeu ⟨c,hcost,by simp[offK,k1,k3,hsm,w0,w1,w2,w3,w4]⟩⟩
 .rcases key a1 with⟨k1,k2,k3⟩|⟨k1,k2,k3⟩|⟨k1,k3⟩
  .exact⟨_,.inl rfl,Zeu ⟨c,hcost,by simp[offK,k1,k2,k3,hsm,w0,w1,w2,w3,w4]⟩⟩
  .exact⟨_,.inr rfl,Zeu ⟨c,hcost,by simp[offK,k1,k2,k3,hsm,w0,w1,w2,w3,w4]⟩⟩
  .exact⟨_,.inl rfl,Zeu ⟨c,hcost,by simp[offK,k1,k3,hsm,w0,w1,w2,w3,w4]⟩⟩
 .rcases key a2 with⟨k1,k2,k3⟩|⟨k1,k2,k3⟩|⟨k1,k3⟩
  .exact⟨_,.inl rfl,Zeu ⟨c,hcost,by simp[offK,k1,k2,k3,hsm,w0,w1,w2,w3,w4]⟩⟩
  .exact⟨_,.inr rfl,Zeu ⟨c,hcost,by simp[offK,k1,k2,k3,hsm,w0,w1,w2,w3,w4]⟩⟩
  .exact⟨_,.inl rfl,Zeu ⟨c,hcost,by simp[offK,k1,k3,hsm,w0,w1,w2,w3,w4]⟩⟩
 .rcases key a3 with⟨k1,k2,k3⟩|⟨k1,k2,k3⟩|⟨k1,k3⟩
  .exact⟨_,.inl rfl,Zeu ⟨c,hcost,by simp[offK,k1,k2,k3,hsm,w0,w1,w2,w3,w4]⟩⟩
  .exact⟨_,.inr rfl,Zeu ⟨c,hcost,by simp[offK,k1,k2,k3,hsm,w0,w1,w2,w3,w4]⟩⟩
  .exact⟨_,.inl rfl,Zeu ⟨c,hcost,by simp[offK,k1,k3,hsm,w0,w1,w2,w3,w4]⟩⟩
 .rcases key a4 with⟨k1,k2,k3⟩|⟨k1,k2,k3⟩|⟨k1,k3⟩
  .exact⟨_,.inl rfl,Zeu ⟨c,hcost,by simp[offK,k1,k2,k3,hsm,w0,w1,w2,w3,w4]⟩⟩
  .exact⟨_,.inr rfl,Zeu ⟨c,hcost,by simp[offK,k1,k2,k3,hsm,w0,w1,w2,w3,w4]⟩⟩
  .exact⟨_,.inl rfl,Zeu ⟨c,hcost,by simp[offK,k1,k3,hsm,w0,w1,w2,w3,w4]⟩⟩
def sel(y:Bool)(e:Za):List Za:=if y=true then[e]else[]
section
variable(m:Ze)(q:Zc)(sizes:List Int)(mask:Int)(a0 a1 a2 a3 a4:Za)(s0 s1 s2 s3 s4:Bool)
theorem en5(fr:Bool)(out:List Za)(y0 y1 y2 y3 y4:Bool):∃fr',Zbx m q sizes mask a0 a1 a2 a3 a4 s0 s1 s2 s3 s4 fr out y0 y1 y2 y3 y4 5=some (.own 1,[boxO m q sizes mask a0 a1 a2 a3 a4 s0 s1 s2 s3 s4,.arr 126 4 fr' (out.map Za.c)]) :=
 ⟨fr,Zg5 (by rw[if_neg (by omega)])⟩
theorem en4(fr:Bool)(out:List Za)(hl:out.length<=4)(y0 y1 y2 y3 y4:Bool):∃fr',Zbx m q sizes mask a0 a1 a2 a3 a4 s0 s1 s2 s3 s4 fr out y0 y1 y2 y3 y4 4=some (.own 1,[boxO m q sizes mask a0 a1 a2 a3 a4 s0 s1 s2 s3 s4,.arr 126 4 fr' ((out++sel y4 a4).map Za.c)]):=by
 have hw:w (4+1)=5:=by decide
 cases hy:y4 with
 |true =>
  obtain⟨fr',h⟩:=en5 m q sizes mask a0 a1 a2 a3 a4 s0 s1 s2 s3 s4 false (out++[a4]) y0 y1 y2 y3 true;refine⟨fr',Zg5 ?_⟩;rw[if_pos (by omega),if_neg (by omega),if_neg (by omega),if_neg (by omega),if_neg (by omega),if_pos rfl,if_pos rfl,hw]
  exact⟨by omega,by simpa[sel]using h⟩
 |false =>
  obtain⟨fr',h⟩:=en5 m q sizes mask a0 a1 a2 a3 a4 s0 s1 s2 s3 s4 fr out y0 y1 y2 y3 false;refine⟨fr',Zg5 ?_⟩;rw[if_pos (by omega),if_neg (by omega),if_neg (by omega),if_neg (by omega),if_neg (by omega),if_pos rfl,if_neg (by simp),hw];simpa[sel]using h
theorem en3(fr:Bool)(out:List Za)(hl:out.length<=3)(y0 y1 y2 y3 y4:Bool):∃fr',Zbx m q sizes mask a0 a1 a2 a3 a4 s0 s1 s2 s3 s4 fr out y0 y1 y2 y3 y4 3=some (.own 1,[boxO m q sizes mask a0 a1 a2 a3 a4 s0 s1 s2 s3 s4,.arr 126 4 fr' ((out++sel y3 a3++sel y4 a4).map Za.c)]):=by
 have hw:w (3+1)=4:=by decide
 cases hy:y3 with
 |true =>
  obtain⟨fr',h⟩:=en4 m q sizes mask a0 a1 a2 a3 a4 s0 s1 s2 s3 s4 false (out++[a3]) (by simp only[Yj,Yx,Ybm];omega) y0 y1 y2 true y4;refine⟨fr',Zg5 ?_⟩;rw[if_pos (by omega),if_neg (by omega),if_neg (by omega),if_neg (by omega),if_pos rfl,if_pos rfl,hw]
  exact⟨by omega,by simpa[sel]using h⟩
 |false =>
  obtain⟨fr',h⟩:=en4 m q sizes mask a0 a1 a2 a3 a4 s0 s1 s2 s3 s4 fr out (by omega) y0 y1 y2 false y4;refine⟨fr',Zg5 ?_⟩;rw[if_pos (by omega),if_neg (by omega),if_neg (by omega),if_neg (by omega),if_pos rfl,if_neg (by simp),hw];simpa[sel]using h
theorem en2(fr:Bool)(out:List Za)(hl:out.length<=2)(y0 y1 y2 y3 y4:Bool):∃fr',Zbx m q sizes mask a0 a1 a2 a3 a4 s0 s1 s2 s3 s4 fr out y0 y1 y2 y3 y4 2=some (.own 1,[boxO m q sizes mask a0 a1 a2 a3 a4 s0 s1 s2 s3 s4,.arr 126 4 fr' ((out++sel y2 a2++sel y3 a3++sel y4 a4).map Za.c)]):=by
 have hw:w (2+1)=3:=by decide
 cases hy:y2 with
 |true =>
  obtain⟨fr',h⟩:=en3 m q sizes mask a0 a1 a2 a3 a4 s0 s1 s2 s3 s4 false (out++[a2]) (by simp only[Yj,Yx,Ybm];omega) y0 y1 true y3 y4;refine⟨fr',Zg5 ?_⟩;rw[if_pos (by omega),if_neg (by omega),if_neg (by omega),if_pos rfl,if_pos rfl,hw]
  exact⟨by omega,by simpa[sel]using h⟩
 |false =>
  obtain⟨fr',h⟩:=en3 m q sizes mask a0 a1 a2 a3 a4 s0 s1 s2 s3 s4 fr out (by omega) y0 y1 false y3 y4;refine⟨fr',Zg5 ?_⟩;rw[if_pos (by omega),if_neg (by omega),if_neg (by omega),if_pos rfl,if_neg (by simp),hw];simpa[sel]using h
theorem en1(fr:Bool)(out:List Za)(hl:out.length<=1)(y0 y1 y2 y3 y4:Bool):∃fr',Zbx m q sizes mask a0 a1 a2 a3 a4 s0 s1 s2 s3 s4 fr out y0 y1 y2 y3 y4 1=some (.own 1,[boxO m q sizes mask a0 a1 a2 a3 a4 s0 s1 s2 s3 s4,.arr 126 4 fr' ((out++sel y1 a1++sel y2 a2++sel y3 a3++sel y4 a4).map Za.c)]):=by
 have hw:w (1+1)=2:=by decide
 cases hy:y1 with
 |true =>
  obtain⟨fr',h⟩:=en2 m q sizes mask a0 a1 a2 a3 a4 s0 s1 s2 s3 s4 false (out++[a1]) (by simp only[Yj,Yx,Ybm];omega) y0 true y2 y3 y4;refine⟨fr',Zg5 ?_⟩;rw[if_pos (by omega),if_neg (by omega),if_pos rfl,if_pos rfl,hw]
  exact⟨by omega,by simpa[sel]using h⟩
 |false =>
  obtain⟨fr',h⟩:=en2 m q sizes mask a0 a1 a2 a3 a4 s0 s1 s2 s3 s4 fr out (by omega) y0 false y2 y3 y4;refine⟨fr',Zg5 ?_⟩;rw[if_pos (by omega),if_neg (by omega),if_pos rfl,if_neg (by simp),hw];simpa[sel]using h
theorem en0(fr:Bool)(out:List Za)(hl:out.length<=0)(y0 y1 y2 y3 y4:Bool):∃fr',Zbx m q sizes mask a0 a1 a2 a3 a4 s0 s1 s2 s3 s4 fr out y0 y1 y2 y3 y4 0=some (.own 1,[boxO m q sizes mask a0 a1 a2 a3 a4 s0 s1 s2 s3 s4,.arr 126 4 fr' ((out++sel y0 a0++sel y1 a1++sel y2 a2++sel y3 a3++sel y4 a4).map Za.c)]):=by
 have hw:w (0+1)=1:=by decide
 cases hy:y0 with
 |true =>
  obtain⟨fr',h⟩:=en1 m q sizes mask a0 a1 a2 a3 a4 s0 s1 s2 s3 s4 false (out++[a0]) (by simp only[Yj,Yx,Ybm];omega) true y1 y2 y3 y4;refine⟨fr',Zg5 ?_⟩;rw[if_pos (by omega),if_pos rfl,if_pos rfl,hw]
  exact⟨by omega,by simpa[sel]using h⟩
 |false =>
  obtain⟨fr',h⟩:=en1 m q sizes mask a0 a1 a2 a3 a4 s0 s1 s2 s3 s4 fr out (by omega) false y1 y2 y3 y4;refine⟨fr',Zg5 ?_⟩;rw[if_pos (by omega),if_pos rfl,if_neg (by simp),hw];simpa[sel]using h
end
def there(a0 a1 a2 a3 a4:Za):List Za:=[a0,a1,a2,a3,a4].filter sm
theorem Zb2q(m:Ze)(q:Zc)(sizes:List Int)(cc:Int)(a0 a1 a2 a3 a4:Za):∃fr,Zs7 m q sizes cc a0 a1 a2 a3 a4 (sm a0) (sm a1) (sm a2) (sm a3) (sm a4)=some (.own 1,[boxO m q sizes cc a0 a1 a2 a3 a4 (sm a0) (sm a1) (sm a2) (sm a3) (sm a4),.arr 126 4 fr ((there a0 a1 a2 a3 a4).map Za.c)]):=by
 obtain⟨fr,h⟩:=en0 m q sizes cc a0 a1 a2 a3 a4 (sm a0) (sm a1) (sm a2) (sm a3) (sm a4) true [] (Ye _) (sm a0) (sm a1) (sm a2) (sm a3) (sm a4);refine⟨fr,Zbzx _ _ _ _ _ _ _ _ _ _ _ _ _ _ _ ?_⟩;have e:[]++sel (sm a0) a0++sel (sm a1) a1++sel (sm a2) a2++sel (sm a3) a3++sel (sm a4) a4=there a0 a1 a2 a3 a4:=by
  unfold there sel;simp only[Yct,List.filter_nil];cases sm a0<;>cases sm a1<;>cases sm a2<;>cases sm a3<;>cases sm a4<;>rfl
 rw[e]at h;exact h
def ofM(l:List Za)(c:Int):List Za:=l.filter λe=>decide (e.Mask=c)
theorem Zb2r(e:Za):Z5 [e]=e:=by simp[Z5,Zcn]
theorem Zb2s{l:List Za}(h:l≠[])(e:Za):Z5 (l++[e])=Zcn (Z5 l) e:=by
 cases l with
 |nil=>exact absurd rfl h
 |cons a l=>simp[Z5,List.foldl_append]
theorem Z63{l:List Za}(h:l≠[]):Z5 l∈l:=by
 have:∀(l:List Za) (b:Za),l.foldl Zcn b=b\/l.foldl Zcn b∈l:=by
  intro l
  induction l with
  |nil=>intro b;exact .inl rfl
  |cons a l ih =>
   intro b;rw[Yv];rcases ih (Zcn b a)with h|h
   .rw[h];unfold Zcn;split
    .exact .inr (by simp)
    .exact .inl rfl
   .exact .inr (List.mem_cons_of_mem _ h)
 cases l with
 |nil=>exact absurd rfl h
 |cons a l =>
  rcases this (a::l) a with e|e
  .rw[show Z5 (a::l)=a from e];simp
  .exact e
theorem Zbl9(l:List Za)(c:Int){k:Nat}(h:k<l.length):ofM (l.take (k+1)) c=ofM (l.take k) c++(if l[k].Mask=c then[l[k]]else[]):=by
 unfold ofM;rw[Z0w _ h];by_cases e:l[k].Mask=c<;>simp[e]
theorem low_at(l:List Za)(c:Int):∀k,k<=l.length->(ofM (l.take k) c=[]->Zcw l c k=-1)/\(ofM (l.take k) c≠[]->0<=Zcw l c k/\l[(Zcw l c k).toNat]?=some (Z5 (ofM (l.take k) c)))
 |0,_=>by simp[Zcw,ofM]
 |k+1,h=>by
  obtain⟨i1,i2⟩:=low_at l c k (by omega);have hk:k<l.length:=by omega
  rw[Zbl9 l c hk];unfold Zcw;rw[Ya hk];by_cases e:l[k].Mask=c
  .simp only[if_pos e];refine⟨λh=>by simp at h,λ_=>?_⟩;by_cases e0:ofM (l.take k) c=[]
   .have i:=i1 e0;rw[e0,Ybv,Zb2r]
    cases hc:l[(Zcw l c k).toNat]? with
    |none=>exact⟨by simp,by simp[Ya hk]⟩
    |some b =>
     simp only;rw[if_pos (by omega)];exact⟨by omega,by simp[Ya hk]⟩
   .obtain⟨j1,j2⟩:=i2 e0;rw[j2,Zb2s e0];simp only;rw[if_neg (by omega)];unfold Zcn;split
    .exact⟨by omega,by simp[Ya hk]⟩
    .exact⟨j1,j2⟩
  .simp only[if_neg e,Ybd];exact⟨i1,i2⟩
theorem Zy3{l:List Za}{mask:Int}(h:ofM l mask≠[]):0<=low l mask/\l[(low l mask).toNat]?=some (Z5 (ofM l mask)):=by
 have:=(low_at l mask l.length (Ye _)).2;rw[Ybn]at this;exact this h
def ofO(l:List Za)(o:Int):Option Za:=l.find? λe=>decide (e.Order=o)
theorem Zbma(l:List Za)(c o:Int):∀(xs:List Za) (k:Nat),l.drop k=xs->match ofO (ofM xs c) o with
  |none=>Zh3 c o xs k=-1
  |some e=>0<=Zh3 c o xs k/\l[(Zh3 c o xs k).toNat]?=some e
 |[],k,h=>by simp[ofM,ofO,Zh3]
 |x::xs,k,h=>by
  have hk:l[k]?=some x:=by
   have:=congrArg (·[0]?) h;simpa using this
  have hd:l.drop (k+1)=xs:=by
   have:=congrArg (List.drop 1) h;simpa[Nat.add_comm]using this
  have ih:=Zbma l c o xs (k+1) hd;unfold Zh3;by_cases e:x.Mask=c
  .have e1:ofM (x::xs) c=x::ofM xs c:=by simp[ofM,e]
   rw[e1];by_cases e2:x.Order=o
   .have:ofO (x::ofM xs c) o=some x:=by simp[ofO,e2]
    rw[this,if_pos ⟨e,e2⟩];exact⟨by omega,by simpa using hk⟩
   .have:ofO (x::ofM xs c) o=ofO (ofM xs c) o:=by simp[ofO,e2]
    rw[this,if_neg (λh=>e2 h.2)];exact ih
  .have e1:ofM (x::xs) c=ofM xs c:=by simp[ofM,e]
   rw[e1,if_neg (λh=>e h.1)];exact ih
theorem Zbmb(l:List Za)(mask o:Int):match ofO (ofM l mask) o with
  |none=>find l mask o=-1
  |some e=>0<=find l mask o/\l[(find l mask o).toNat]?=some e:=Zbma l mask o l 0 rfl
theorem mul_b{a l:Int}{A L:Nat}(h1:-(A:Int)<=a)(h2:a<=A)(h3:0<=l)(h4:l<=L):-((A:Int)*L)<=a*l/\a*l<=(A:Int)*L:=by
 have e1:a*l<=(A:Int)*l:=Int.mul_le_mul_of_nonneg_right h2 h3;have e2:-(A:Int)*l<=a*l:=Int.mul_le_mul_of_nonneg_right h1 h3;have e3:(A:Int)*l<=(A:Int)*L:=Int.mul_le_mul_of_nonneg_left h4 (by omega);rw[Int.neg_mul]at e2;omega
theorem Zt5{a:Int}(h:Zd8 a=true):-99<=a/\a<=99:=by simp[Zd8,inR]at h;omega
theorem w_id{x:Int}(h1:-9223372036854775808<=x)(h2:x<=9223372036854775807):w x=x:=Z7 h1 h2
theorem base_b{o:Zm}{l r n:Int}(hv:Zb0 o=true)(hl:0<=l/\l<=4096)(hr:0<=r/\r<=4096)(hn:0<=n/\n<=4096):-1700000000<=Zi0 o l r n/\Zi0 o l r n<=1700000000:=by
 simp only[Zb0,Yc]at hv;obtain⟨⟨⟨⟨⟨⟨v1,v2⟩,v3⟩,v4⟩,v5⟩,v6⟩,v7⟩:=hv;have b1:=Zt5 v1;have b2:=Zt5 v2;have b3:=Zt5 v3;have b4:=Zt5 v4;have b5:=Zt5 v5;have m2:=mul_b (A:=99) (L:=4096) b2.1 b2.2 hl.1 hl.2;have m3:=mul_b (A:=99) (L:=4096) b3.1 b3.2 hr.1 hr.2;have m4:=mul_b (A:=99) (L:=4096) b4.1 b4.2 hn.1 hn.2;have m5:=mul_b (A:=99) (L:=4096) b5.1 b5.2 hl.1 hl.2;have m6:=mul_b (A:=405504) (L:=4096) (a:=o.Zt*l) (l:=r) (by simpa using m5.1) (by simpa using m5.2) hr.1 hr.2;simp at m2 m3 m4 m5 m6;unfold Zi0;rw[w_id (x:=o.Zq*l) (by omega) (by omega),w_id (x:=o.Zs*r) (by omega) (by omega),w_id (x:=o.Zu*n) (by omega) (by omega),w_id (x:=o.Zt*l) (by omega) (by omega),w_id (x:=o.Zt*l*r) (by omega) (by omega)];rw[w_id (x:=o.Fixed+o.Zq*l) (by omega) (by omega),w_id (x:=o.Fixed+o.Zq*l+o.Zs*r) (by omega) (by omega),w_id (x:=o.Fixed+o.Zq*l+o.Zs*r+o.Zu*n) (by omega) (by omega),w_id (by omega) (by omega)];omega
theorem Zbmc{l r:Int}:∀{st:List Zj} {p n B:Int},Zgf p st=true->B+99*st.length<=1000000000000->-B<=n/\n<=B->-(B+99*st.length)<=st.foldl (Zgg l r) n/\st.foldl (Zgg l r) n<=B+99*st.length
 |[],p,n,B,_,_,h=>by simp;omega
 |s::st,p,n,B,hs,hB,h=>by
  simp only[Zgf,Yc]at hs;have ha:=hs.1.1.2;simp[inR]at ha;simp only[Yx]at hB|-;have e:-(B+99)<=Zgg l r n s/\Zgg l r n s<=B+99:=by
   unfold Zgg;split
   .rw[w_id (by omega) (by omega)];omega
   .omega
  have g:=Zbmc (l:=l) (r:=r) hs.2 (by omega) e;rw[Yv];omega
theorem Zgk(o:Zm)(l r n:Int):-2000000000<=Zbg o l r n/\Zbg o l r n<=2000000000:=by
 unfold Zbg;split
 .rename_i h;simp only[Yc]at h;obtain⟨⟨⟨hv,hl⟩,hr⟩,hn⟩:=h;simp[inR]at hl hr hn;have b:=base_b hv hl hr hn;simp only[Zb0,Yc,decide_eq_true_eq]at hv;have:=Zbmc (l:=l) (r:=r) (B:=1700000000) hv.2 (by have:=hv.1.2;omega) b;have:=hv.1.2;unfold Zpn;omega
 .omega
theorem cost_pos{o:Zm}(h:Zbt o){a b c:Int}(ha:0<=a/\a<=7)(hb:0<=b/\b<=7)(hc:0<=c/\c<=7):1<=Zbg o (Zbo a) (Zbo b) (Zbo c):=by
 have h3:¬tcl o [a,b,c]<1:=λhh=>h.2.2 ⟨[a,b,c],⟨a,b,c,rfl,ha,hb,hc⟩,hh⟩
 simp[Zbg,h.1,Zpo ha.1 ha.2,Zpo hb.1 hb.2,Zpo hc.1 hc.2];simp[tcl]at h3;omega
def Ze7(sizes:List Int):Prop:=∀s∈sizes,∃a,(0<=a/\a<=7)/\s=Zbo a
theorem Zbmd{sizes:List Int}(h:Ze7 sizes)(k:Int):∃a,(0<=a/\a<=7)/\szAt sizes k=Zbo a:=by
 unfold szAt
 cases e:sizes[k.toNat]? with
 |none=>exact⟨0,by omega,by decide⟩
 |some s=>exact h s (Yu e)
theorem Zbme{o:Zm}(h:Zbt o){sizes:List Int}(hs:Ze7 sizes)(a b:Int):1<=Zbg o (szAt sizes a) 0 (szAt sizes b):=by
 obtain⟨x,hx,ex⟩:=Zbmd hs a;obtain⟨y,hy,ey⟩:=Zbmd hs b;rw[ex,ey,show(0:Int)=Zbo 0 by decide];exact cost_pos h hx (by omega) hy
theorem Zb2t{l:List Int}(h:Zbc l=true):Ze7 (Zbd l):=by
 intro s hs;simp only[Zbd,Y3]at hs;obtain⟨a,ha,rfl⟩:=hs;refine⟨a,?_,rfl⟩;simp only[Zbc,Yc,Zch,Ym]at h;have:=h.1 a ha;simp[inR]at this;omega
theorem runS_b{m:Ze}{sizes:List Int}{qa:List Atom}:∀{xs:List Zb} {S S':List MO} {c k B:Int},runS m sizes qa xs S c=some (S',k)->-B<=c/\c<=B->B+2000000000*xs.length<=1000000000000->-(B+2000000000*xs.length)<=k/\k<=B+2000000000*xs.length
 |[],S,S',c,k,B,h,hc,hB=>by simp[runS]at h;simp;omega
 |x::xs,S,S',c,k,B,h,hc,hB=>by
  rw[runS]at h;simp only[Yx]at hB|-
  cases hs:Zc8 m sizes qa x S with
  |none=>rw[hs]at h;cases h
  |some p =>
   obtain⟨S1,e⟩:=p;rw[hs]at h;have he:-2000000000<=e/\e<=2000000000:=by
    unfold Zc8 at hs;split at hs
    .split at hs
     .cases hs;exact Zgk _ _ _ _
     .cases hs
    .split at hs
     .cases hs
     .split at hs
      .split at hs
       .split at hs
        .cases hs;exact Zgk _ _ _ _
        .cases hs
       .cases hs
      .split at hs
       .split at hs
        .rw[Yl]at hs;obtain⟨o,_,ho⟩:=hs;cases ho;exact Zgk _ _ _ _
        .cases hs
       .cases hs
   have:=runS_b (B:=B+2000000000) h (by rw[w_id (by omega) (by omega)];omega) (by omega);omega
theorem Zbp.bound{m:Ze}{sizes:List Int}{qa:List Atom}{xs:List Zb}{a o c:Int}(h:Zbp m sizes qa xs a o c)(hl:xs.length<=100):-200000000000<=c/\c<=200000000000:=by
 have:=runS_b (B:=0) h (by omega) (by omega);omega
end Go.Proofs.YtcfaekfjkeobhaaGreat
