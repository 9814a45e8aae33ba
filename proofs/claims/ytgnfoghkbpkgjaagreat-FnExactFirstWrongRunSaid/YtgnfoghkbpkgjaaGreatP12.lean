/-
  Parts of the proofs for this seat: PS2 PS3 SS CR.
-/
import Derived.Deep.LoopGhost
import Derived.Deep.RegionLaw
import Derived.Lib.SlBy
import Derived.Lib.SliceRun
import Derived.Lib.Walk
import Derived.Shelf.RegionOpenPlain
import Derived.Test.YtgnfoghkbpkgjaaGreatChecked
import Derived.WalkKit
import Derived.Test.YtgnfoghkbpkgjaaGreatP7
import Derived.Test.YtgnfoghkbpkgjaaGreatP11
set_option linter.unusedSimpArgs false
set_option linter.unusedVariables false
set_option maxRecDepth 100000
set_option maxHeartbeats 4000000
namespace Go.Proofs.YtgnfoghkbpkgjaaGreat
open Go.AM Go.Stb
def kx(x:Nat)(r:List Int):Int:=r[x]!
def stbR(x:Nat)(rows:List (List Int)):List (List Int):=(List.range 10).flatMap fun i:Nat=>rows.filter fun r=>decide (kx x r=(i:Int))
theorem Zpq(x:Int)(r:List Int):kx x.toNat r=celI r x:=by
 unfold kx celI;rw[Ybo,List.getElem!_eq_getElem?_getD];rfl
theorem stbR_mem{x:Nat}{rows:List (List Int)}(h:∀r∈rows,0≤kx x r∧kx x r≤9)(r:List Int):r∈stbR x rows↔r∈rows:=by
 unfold stbR;rw[Ycw];constructor
 ·rintro⟨i,_,hr⟩;exact(Ybe.1 hr).1
 ·intro hr;have:=h r hr;refine⟨(kx x r).toNat,Ybi.2 (by omega),Ybe.2 ⟨hr,?_⟩⟩;simp only[decide_eq_true_eq];omega
theorem Zbb1(x:Nat):∀(n:Nat) (rows:List (List Int)),((List.range n).flatMap fun i:Nat=>rows.filter fun r=>decide (kx x r=(i:Int))).length=rows.countP fun r=>decide (0≤kx x r∧kx x r<n)
 |0,rows=>by
  simp only[List.range_zero,List.flatMap_nil,Yc8];refine(List.countP_eq_zero.2 fun r _=>?_).symm
  simp
 |n+1,rows=>by
  rw[Yca,List.flatMap_append,Yp,Zbb1 x n rows];simp only[Ybr,List.flatMap_nil,Y5];rw[←List.countP_eq_length_filter]
  induction rows with
  |nil=>rfl
  |cons r rows ih =>
   simp only[List.countP_cons];by_cases h1:0≤kx x r∧kx x r<n
   ·rw[if_pos (by simpa using h1),if_neg (by simp;omega),if_pos (by simp;omega)];omega
   ·by_cases h2:kx x r=(n:Int)
    ·rw[if_neg (by simpa using h1),if_pos (by simpa using h2),if_pos (by simp;omega)];omega
    ·rw[if_neg (by simpa using h1),if_neg (by simpa using h2),if_neg (by simp;omega)];omega
theorem stbR_len{x:Nat}{rows:List (List Int)}(h:∀r∈rows,0≤kx x r∧kx x r≤9):(stbR x rows).length=rows.length:=by
 unfold stbR;rw[Zbb1];refine List.countP_eq_length.2 fun r hr=>?_
 have:=h r hr;simp;omega
theorem stbR_srt(x:Nat)(rows:List (List Int)):(stbR x rows).Pairwise fun a b=>kx x a≤kx x b:=by
 unfold stbR;refine List.pairwise_flatMap.2 ⟨fun i _=>?_,?_⟩
 ·rw[Yb6];intro a b ha hb hab;have h1:=Ybe.1 (Yc ha);have h2:=Ybe.1 (Yc hb);have h1:=h1.2;have h2:=h2.2;simp only[decide_eq_true_eq]at h1 h2;omega
 ·refine List.pairwise_lt_range.imp fun {i j} hij p hp q hq=>?_
  have h1:=(Ybe.1 hp).2;have h2:=(Ybe.1 hq).2;simp only[decide_eq_true_eq]at h1 h2;omega
theorem Zbqy{x:Nat}{rows:List (List Int)}(hs:rows.Pairwise fun a b=>kx x a≤kx x b)(h:∀r∈rows,0≤kx x r∧kx x r≤9):stbR x rows=rows:=by
 have:=Z0g (k:=kx x) 10 0 rows hs (fun r hr=>by have:=h r hr;omega);simp only[Int.zero_add]at this;exact this.symm
def agr(av x bv y:List Int):Bool:=(List.range av.length).all fun i=>decide (cix bv (av.getD i 0)<0) || decide (x.getD i 0=celI y (cix bv (av.getD i 0)))
def mrV(av x bv y:List Int)(v:Int):Int:=if 0≤cix av v then celI x (cix av v)else celI y (cix bv v)
def prS(vs av x bv y:List Int):Option (List Int):=if agr av x bv y=true then some (vs.map (mrV av x bv y))else none
def Zb2(vs:List Int)(a b:Za):List (List Int):=a.Rows.flatMap fun x=>b.Rows.filterMap fun y=>prS vs a.Vars x b.Vars y
def Ze9(vs:List Int)(a b:Za):List (List Int):=b.Rows.flatMap fun y=>a.Rows.filterMap fun x=>prS vs a.Vars x b.Vars y
def Zcq(a b:Za):Za:=⟨uni a.Vars b.Vars,Zb2 (uni a.Vars b.Vars) a b⟩
def hashS(a b:Za):Za:=⟨uni a.Vars b.Vars,Ze9 (uni a.Vars b.Vars) a b⟩
def sortS(s:Za)(v:Int):Za:=⟨s.Vars,stbR (cix s.Vars v).toNat s.Rows⟩
def Zet(d:Zk)(q:Zd)(i:Int):Za:=match q.Atoms[i.toNat]? with
 |some a=>⟨srtI a.Vars,(rowsA d a).map fun r=>(srtI a.Vars).map fun v=>celI r (cix a.Vars v)⟩
 |none=>⟨[],[]⟩
theorem Zbb2{α β:Type}(f:α→Option β)(l:List α):(l.filterMap f).length≤l.length:=List.length_filterMap_le _ _
theorem Zbb3(vs:List Int)(a b:Za):(Zb2 vs a b).length≤b.Rows.length*a.Rows.length:=Z0a _ _ (fun _=>Zbb2 _ _) _
theorem Zbb4(vs:List Int)(a b:Za):(Ze9 vs a b).length≤a.Rows.length*b.Rows.length:=Z0a _ _ (fun _=>Zbb2 _ _) _
theorem Zbqz{vs:List Int}{a b:Za}{r:List Int}(h:r∈Zb2 vs a b):∃x∈a.Rows,∃y∈b.Rows,r=vs.map (mrV a.Vars x b.Vars y):=by
 obtain⟨x,hx,h⟩:=Ycw.1 h;obtain⟨y,hy,h⟩:=Ydb.1 h;unfold prS at h;split at h
 ·cases h;exact⟨x,hx,y,hy,rfl⟩
 ·cases h
theorem Zbq0{vs:List Int}{a b:Za}{r:List Int}(h:r∈Ze9 vs a b):∃x∈a.Rows,∃y∈b.Rows,r=vs.map (mrV a.Vars x b.Vars y):=by
 obtain⟨y,hy,h⟩:=Ycw.1 h;obtain⟨x,hx,h⟩:=Ydb.1 h;unfold prS at h;split at h
 ·cases h;exact⟨x,hx,y,hy,rfl⟩
 ·cases h
theorem Zbq1{vs:List Int}{a b:Za}{x:Nat}(hs:a.Rows.Pairwise fun p q=>kx x p≤kx x q)(h:∀r∈a.Rows,0≤kx x r∧kx x r≤9) :
  (List.range 10).flatMap (fun i:Nat=>Zb2 vs ⟨a.Vars,a.Rows.filter fun r=>decide (kx x r=(i:Int))⟩ b)=Zb2 vs a b:=by
 have e:=Zbqy hs h;unfold Zb2
 conv=>rhs;rw[←e]
 unfold stbR;rw[List.flatMap_assoc]
def ascV:Option Int→List Int→Bool
 |_,[]=>true
 |p,x::xs=>(inR x 0 3 && nxt (fun a b=>decide (a<b)) p x) && ascV (some x) xs
def validS(s:Za):Bool:=s.Rows.all (rwB s.Vars.length) && (ascV none s.Vars && decide ((s.Rows.length:Int)≤4096))
theorem Z0i:∀(l:List Int) (p:Option Int),Asc l→(∀x∈l,inR x 0 3=true)→(∀q,p=some q→∀x∈l,q<x)→ascV p l=true
 |[],_,_,_,_=>rfl
 |x::l,p,h,hr,hp=>by
  have h':=Ybf.1 h;unfold ascV;rw[Z0i l (some x) h'.2 (fun y hy=>hr y (by simp[hy])) (fun q hq y hy=>by cases hq;exact h'.1 y hy),hr x (by simp)]
  cases p with
  |none=>rfl
  |some q=>simp[nxt,hp q rfl x (by simp)]
structure GS (q:Zd) (y:Zb) (s:Za):Prop where
 vars:s.Vars=varL y.Mask q.Atoms q.Zn.toNat
 rows:∀r∈s.Rows,rwB s.Vars.length r=true
 len:s.Rows.length≤8 ^ pcM y.Mask
 ord:0≤y.Order→has s.Vars y.Order=true∧s.Rows.Pairwise fun a b=>kx (cix s.Vars y.Order).toNat a≤kx (cix s.Vars y.Order).toNat b
theorem rw_get{n:Nat}{r:List Int}(h:rwB n r=true){i:Nat}(hi:i<n):i<r.length∧0≤kx i r∧kx i r≤9:=by
 unfold rwB at h;simp only[Ye,decide_eq_true_eq,Yn]at h;have hl:r.length=n:=by omega
 have h2:=h.1 r[i] (Yc (by omega));unfold kx;rw[getElem!_pos r i (by omega)];simp[dig,inR]at h2;omega
theorem Zs8{n:Nat}{r:List Int}(h:rwB n r=true):r.length=n:=by
 unfold rwB at h;simp only[Ye,decide_eq_true_eq]at h;omega
theorem GS.valid{q:Zd}{y:Zb}{s:Za}(h:GS q y s)(hq:Zw q.Zn q.Atoms=true):validS s=true:=by
 unfold validS;simp only[Ye,Yn,decide_eq_true_eq];refine⟨h.rows,?_,by have:=h.len;have:=Zs7 y.Mask;omega⟩;rw[h.vars];exact Z0i _ _ (Zml _ _ _) (Zmn hq _) (by simp)
theorem GS.small{q:Zd}{y:Zb}{s:Za}(h:GS q y s):s.Vars.length≤4∨4<q.Zn:=by
 by_cases e:4<q.Zn
 ·exact .inr e
 ·left;rw[h.vars];have:=Zko y.Mask q.Atoms q.Zn.toNat;omega
theorem rw_map{vs:List Int}{f:Int→Int}(h:∀v∈vs,0≤f v∧f v≤9):rwB vs.length (vs.map f)=true:=by
 unfold rwB;simp only[Ye,decide_eq_true_eq,Yn,Ybc,and_true];intro v hv;obtain⟨u,hu,rfl⟩:=Y1.1 hv;have:=h u hu;simp[dig,inR];omega
theorem val_in{vs r:List Int}(h:rwB vs.length r=true){v:Int}(hv:has vs v=true):0≤celI r (cix vs v)∧celI r (cix vs v)≤9:=by
 obtain⟨h1,h2,h3⟩:=Zbs hv;have:=rw_get h h2;rw[Zpq]at this;exact this.2
end Go.Proofs.YtgnfoghkbpkgjaaGreat
namespace Go.Proofs.YtgnfoghkbpkgjaaGreat
open Go.AM Go.Stb
structure Zfr (qa:List Atom) (x:Zg) (pre:List Zb) (y:Zb):Prop where
 scan:x.Kind=1→inR x.Atom 0 (qa.length-1)=true∧y=⟨shlI 1 x.Atom,(match qa[x.Atom.toNat]? with|some a=>a.Vars.headD 0|none=>0),-1,-1⟩
 sort:x.Kind=2→∃s u,0≤s∧pre[s.toNat]?=some u∧vin qa u.Mask x.Order=true∧y=⟨u.Mask,x.Order,s,-1⟩
 join:x.Kind≠1→x.Kind≠2→∃s u t z o,0≤s∧pre[s.toNat]?=some u∧0≤t∧pre[t.toNat]?=some z∧andI u.Mask z.Mask=0∧y=⟨orI u.Mask z.Mask,o,s,t⟩ ∧
  ((x.Kind=3∧o=-1)∨(x.Kind=5∧o=u.Order)∨(x.Kind=4∧vin qa u.Mask x.Order=true∧vin qa z.Mask x.Order=true∧u.Order=x.Order∧z.Order=x.Order∧o=x.Order))
theorem step_f{qa:List Atom}{x:Zg}{info:List Zb}{st:List Int}{y:Zb}(hs:StOk info st)(h:Zdd qa x info st=some y):Zfr qa x info y:=by
 unfold Zdd at h;split at h
 ·rename_i k1;split at h
  ·rename_i c;cases h;exact⟨fun _=>⟨c.1,rfl⟩,fun k=>by omega,fun k=>absurd k1 k⟩
  ·cases h
 ·rename_i k1;split at h
  ·cases h
  ·split at h
   ·rename_i k2;split at h
    ·rename_i s y' ht;split at h
     ·rename_i c;cases h;obtain⟨_,t2,t3,t4⟩:=Zfz hs (Yd 1) ht;exact⟨fun k=>absurd k k1,fun _=>⟨s,y',t2,t4,c.1,rfl⟩,fun _ k=>absurd k2 k⟩
     ·cases h
    ·cases h
   ·rename_i k2;split at h
    ·rename_i s y' t z ht hu;split at h
     ·rename_i c;obtain⟨_,t2,t3,t4⟩:=Zfz hs (by omega:1≤2) ht;obtain⟨_,u2,u3,u4⟩:=Zfz hs (by omega:1≤1) hu;obtain⟨o,ho,rfl⟩:=Yj.1 h;refine⟨fun k=>absurd k k1,fun k=>absurd k k2,fun _ _=>⟨s,y',t,z,o,t2,t4,u2,u4,c.1,rfl,?_⟩⟩;unfold Zd3 at ho;split at ho
      ·rename_i e;cases ho;exact .inl ⟨e.1,rfl⟩
      ·split at ho
       ·rename_i e;cases ho;exact .inr (.inl ⟨e.1,rfl⟩)
       ·split at ho
        ·rename_i e;cases ho;exact .inr (.inr ⟨e.1,e.2.1,e.2.2.1,e.2.2.2.1,e.2.2.2.2,rfl⟩)
        ·cases ho
     ·cases h
    ·cases h
theorem Zbb5{qa:List Atom}:∀{xs:List Zg} {i:Nat} {info:List Zb} {st:List Int} {info':List Zb} {st':List Int},Zcb qa xs i info st=some (info',st') →
  StOk info st→info.length=i→info'.length=i+xs.length∧info'.take i=info∧∀(j:Nat) (y:Zb) (x:Zg),info'[i+j]?=some y→xs[j]?=some x→Zfr qa x (info'.take (i+j)) y
 |[],i,info,st,info',st',h,hs,hi=>by
  simp[Zcb]at h;obtain⟨rfl,rfl⟩:=h
  refine⟨by simp[hi],by rw[←hi,Ycm],fun j y x _ hx=>by simp at hx⟩
 |x::xs,i,info,st,info',st',h,hs,hi=>by
  rw[Zcb]at h;split at h
  ·cases h
  ·rename_i y hy;have hn:=Zqs hs y (st.length-pops y);rw[hi]at hn;obtain⟨g1,g2,g3⟩:=Zbb5 h hn (by simp[hi]);have e1:info'.take i=info:=by
    have:=congrArg (List.take i) g2;rw[Yb2,Yy (by omega)]at this;rw[this,←hi,List.take_left]
   have e2:info'[i]?=some y:=by
    have:=congrArg (fun l=>l[i]?) g2;simp only[Y9]at this;rw[if_pos (by omega)]at this;rw[this,←hi];simp
   refine⟨by simp;omega,e1,?_⟩;intro j y' x' hj hx
   cases j with
   |zero =>
    simp only[Ybv,List.getElem?_cons_zero,Ybj]at hj hx⊢;rw[e2]at hj;cases hj;cases hx
    rw[e1];exact step_f hs hy
   |succ j =>
    have:=g3 j y' x' (by rw[←hj];congr 1;omega) (by simpa using hx)
    rwa [show i+1+j=i+(j+1) by omega]at this
theorem Zs9{n:Int}{qa:List Atom}{steps:List Zg}{info:List Zb}(h:Zcf n qa steps=some info):∀(j:Nat) (y:Zb) (x:Zg),info[j]?=some y→steps[j]?=some x→Zfr qa x (info.take j) y:=by
 unfold Zcf at h;split at h
 ·split at h
  ·rename_i info' st hg;split at h
   ·cases h;obtain⟨-,-,g⟩:=Zbb5 hg (fun s hs=>by cases hs) rfl;intro j y x a b;have:=g j y x (by simpa using a) b;simpa using this
   ·cases h
  ·cases h
 ·cases h
theorem Zbb6:∀(rows:List (List Int)) (p:Option (List Int)),adjL ltR p rows=true→(∀r∈rows,0<r.length)→(∀r,p=some r→0<r.length) →
  (rows.Pairwise fun a b=>kx 0 a≤kx 0 b)∧∀r,p=some r→∀x∈rows,kx 0 r≤kx 0 x
 |[],p,_,_,_=>⟨.nil,by simp⟩
 |x::rows,p,h,hl,hp=>by
  unfold adjL at h;simp only[Ye]at h;obtain⟨i1,i2⟩:=Zbb6 rows (some x) h.2 (fun r hr=>hl r (by simp[hr])) (fun r hr=>by cases hr;exact hl x (by simp));refine⟨Ybf.2 ⟨i2 x rfl,i1⟩,fun r hr y hy=>?_⟩;subst hr;have h1:=h.1;simp only[nxt,ltR,decide_eq_true_eq]at h1;have hx0:=hl x (by simp);have hr0:=hp r rfl;have hrx:kx 0 r≤kx 0 x:=by
   match r,x,hr0,hx0 with
   |a::r,b::x,_,_ =>
    simp only[cmpR]at h1;show a≤b;by_cases e:a<b
    ·omega
    ·rw[if_neg e]at h1;by_cases e2:b<a
     ·rw[if_pos e2]at h1;omega
     ·omega
  rcases Yq.1 hy with rfl|hy
  ·exact hrx
  ·have:=i2 x rfl y hy;omega
theorem Z0j{d:Zk}{q:Zd}(h:qFor d q=true){a:Atom}(ha:a∈q.Atoms):∃t,Ze7 d a.Name=some t∧t.Arity=(a.Vars.length:Int)∧rowsA d a=t.Rows∧t.Rows.length≤8∧(∀r∈t.Rows,rwB a.Vars.length r=true)∧adjL ltR none t.Rows=true:=by
 unfold qFor at h;simp only[Ye,Yn]at h;have hf:=h.2 a ha;unfold forOk at hf;split at hf
 ·cases hf
 ·rename_i t ht;have har:t.Arity=(a.Vars.length:Int):=by simpa using hf
  obtain⟨h1,h2,h3⟩:=look_mem ht;unfold Zer at h1;simp only[Ye,Yn]at h1;have h4:=h1.1.1 t h2;unfold Zc8 at h4;simp only[Ye,Yn,decide_eq_true_eq]at h4;refine⟨t,ht,har,by unfold rowsA;rw[ht],by omega,?_,h4.2.2⟩;rw[←har];exact h4.2.1
theorem scan_gs{d:Zk}{q:Zd}(h:qFor d q=true){x:Zg}{pre:List Zb}{y:Zb}(F:Zfr q.Atoms x pre y)(hk:x.Kind=1):GS q y (Zet d q x.Atom):=by
 have hq:Zw q.Zn q.Atoms=true:=by unfold qFor at h;simp only[Ye]at h;exact h.1
 obtain⟨f1,rfl⟩:=F.scan hk;have hl:=Zfh hq;simp[inR]at f1;obtain⟨i,hi⟩:∃i:Nat,x.Atom=(i:Int):=⟨x.Atom.toNat,by omega⟩;rw[hi];have hlt:i<q.Atoms.length:=by omega
 have he:q.Atoms[i]?=some q.Atoms[i]:=Yh hlt;have hm:q.Atoms[i]∈q.Atoms:=Yc hlt;generalize q.Atoms[i]=a at he hm;obtain⟨t,t1,t2,t3,t4,t5,t6⟩:=Z0j h hm;have hvl:=Zng hq a hm;have hv:=Zbb0 hq he;have hsc:Zet d q (i:Int)=⟨srtI a.Vars,t.Rows.map fun r=>(srtI a.Vars).map fun v=>celI r (cix a.Vars v)⟩:=by
  unfold Zet;rw[Yg,he];simp only[t3]
 rw[hsc,Yg,he];have hval:∀r∈t.Rows,∀v∈srtI a.Vars,0≤celI r (cix a.Vars v)∧celI r (cix a.Vars v)≤9:=fun r hr v hv2=>val_in (t5 r hr) (Zci.2 ((Zhy _ _).1 hv2))
 refine⟨hv,fun r hr=>?_,?_,fun _=>?_⟩
 ·obtain⟨r0,hr0,rfl⟩:=Y1.1 hr;exact rw_map (hval r0 hr0)
 ·have:=pc1 ⟨i,by omega⟩;simp only[]at this;simp only[Ybc,this];omega
 ·-- the first column of a table is sorted
  obtain⟨v0,vs,hvs⟩:∃v0 vs,a.Vars=v0::vs:=by
   cases hc:a.Vars with
   |nil=>rw[hc]at hvl;simp at hvl
   |cons v0 vs=>exact⟨v0,vs,rfl⟩
  have h0:has (srtI a.Vars) v0=true:=Zci.2 ((Zhy _ _).2 (by rw[hvs];simp));simp only[hvs,List.headD_cons];rw[hvs]at h0;refine⟨h0,?_⟩;have hc0:cix a.Vars v0=0:=by rw[hvs];simp[cix,Zbi]
  have hkey:∀r,kx (cix (srtI a.Vars) v0).toNat ((srtI a.Vars).map fun v=>celI r (cix a.Vars v))=kx 0 r:=by
   intro r;rw[Zpq];have:=Zbbr (vs:=srtI a.Vars) (v:=v0) (by rw[hvs];exact h0) fun v=>celI r (cix a.Vars v)
   unfold valR at this;rw[this,hc0,←Zpq];rfl
  rw[hvs]at hkey;refine List.pairwise_map.2 ?_;have:=(Zbb6 t.Rows none t6 (fun r hr=>by have:=Zs8 (t5 r hr);omega) (by simp)).1;exact this.imp (by intro p r hpr;rw[hkey,hkey];exact hpr)
theorem Zbb7{q:Zd}(hq:Zw q.Zn q.Atoms=true){u:Zb}{s:Za}(G:GS q u s){v:Int}(hv:vin q.Atoms u.Mask v=true)(l:Int):GS q ⟨u.Mask,v,l,-1⟩ (sortS s v)∧has s.Vars v=true:=by
 have hh:has s.Vars v=true:=by rw[G.vars,Zkp hq];exact hv
 obtain⟨c1,c2,c3⟩:=Zbs hh;have hr:∀r∈s.Rows,0≤kx (cix s.Vars v).toNat r∧kx (cix s.Vars v).toNat r≤9:=fun r hr=>(rw_get (G.rows r hr) c2).2
 refine⟨⟨G.vars,fun r h=>?_,?_,fun _=>⟨hh,?_⟩⟩,hh⟩
 ·exact G.rows r ((stbR_mem hr r).1 h)
 ·show(stbR _ _).length≤_;rw[stbR_len hr];exact G.len
 ·exact stbR_srt _ _
theorem mr_in{av bv x y:List Int}(hx:rwB av.length x=true)(hy:rwB bv.length y=true){v:Int}(hv:has av v=true∨has bv v=true):0≤mrV av x bv y v∧mrV av x bv y v≤9:=by
 unfold mrV;split
 ·rename_i h;exact val_in hx (Ze8.1 h)
 ·rename_i h;refine val_in hy (hv.resolve_left fun h2=>h (Ze8.2 h2))
theorem Z0k{a b:List Int}{v:Int}(h:v∈uni a b):has a v=true∨has b v=true:=by
 unfold uni at h;have:=(Ybe.1 h).2;simpa using this
theorem Zbb8{q:Zd}(hq:Zw q.Zn q.Atoms=true){u z:Zb}{a b:Za}(A:GS q u a)(B:GS q z b)(hu:0≤u.Mask∧u.Mask<16)(hz:0≤z.Mask∧z.Mask<16)(h0:andI u.Mask z.Mask=0)(l r:Int):GS q ⟨orI u.Mask z.Mask,u.Order,l,r⟩ (Zcq a b):=by
 have hvars:uni a.Vars b.Vars=varL (orI u.Mask z.Mask) q.Atoms q.Zn.toNat:=by rw[A.vars,B.vars];exact Zbbx hq hu hz
 refine⟨hvars,fun p hp=>?_,?_,fun ho=>?_⟩
 ·obtain⟨x,hx,y,hy,rfl⟩:=Zbqz hp;exact rw_map fun v hv=>mr_in (A.rows x hx) (B.rows y hy) (Z0k hv)
 ·have:=Zbb3 (uni a.Vars b.Vars) a b;show(Zb2 _ _ _).length≤8 ^ pcM (orI u.Mask z.Mask);rw[pc_or hu hz h0,Nat.pow_add,Ycr];exact Ym this (Ybs B.len A.len)
 ·obtain⟨hh,hs⟩:=A.ord ho;have hu2:has (uni a.Vars b.Vars) u.Order=true:=Zci.2 ((Zs6 (by rw[A.vars];exact Zmn hq _) (by rw[B.vars];exact Zmn hq _) _).2 (.inl (Zci.1 hh)));refine⟨hu2,?_⟩;have hkey:∀x y:List Int,kx (cix (uni a.Vars b.Vars) u.Order).toNat ((uni a.Vars b.Vars).map (mrV a.Vars x b.Vars y))=kx (cix a.Vars u.Order).toNat x:=by
   intro x y;rw[Zpq,Zpq];have:=Zbbr hu2 (mrV a.Vars x b.Vars y);unfold valR at this;rw[this];unfold mrV;rw[if_pos (Ze8.2 hh)]
  have hm:∀x,∀p∈b.Rows.filterMap (fun y=>prS (uni a.Vars b.Vars) a.Vars x b.Vars y),kx (cix (uni a.Vars b.Vars) u.Order).toNat p=kx (cix a.Vars u.Order).toNat x:=by
   intro x p hp;obtain⟨y,hy,h⟩:=Ydb.1 hp;unfold prS at h;split at h
   ·cases h;exact hkey x y
   ·cases h
  refine List.pairwise_flatMap.2 ⟨fun x _=>?_,?_⟩
  ·rw[Yb6];intro i j hi hj _;have h1:=hm x _ (Yc hi);have h2:=hm x _ (Yc hj);show kx (cix (uni a.Vars b.Vars) u.Order).toNat _≤kx (cix (uni a.Vars b.Vars) u.Order).toNat _;rw[h1,h2];exact Int.le_refl _
  ·refine hs.imp fun {x x'} hxx p hp p' hp'=>?_
   have h1:=hm x p hp;have h2:=hm x' p' hp';show kx (cix (uni a.Vars b.Vars) u.Order).toNat _≤kx (cix (uni a.Vars b.Vars) u.Order).toNat _;rw[h1,h2];exact hxx
theorem hash_gs{q:Zd}(hq:Zw q.Zn q.Atoms=true){u z:Zb}{a b:Za}(A:GS q u a)(B:GS q z b)(hu:0≤u.Mask∧u.Mask<16)(hz:0≤z.Mask∧z.Mask<16)(h0:andI u.Mask z.Mask=0)(l r:Int):GS q ⟨orI u.Mask z.Mask,-1,l,r⟩ (hashS a b):=by
 have hvars:uni a.Vars b.Vars=varL (orI u.Mask z.Mask) q.Atoms q.Zn.toNat:=by rw[A.vars,B.vars];exact Zbbx hq hu hz
 refine⟨hvars,fun p hp=>?_,?_,fun ho=>absurd ho (by show ¬(0:Int)≤-1;decide)⟩
 ·obtain⟨x,hx,y,hy,rfl⟩:=Zbq0 hp;exact rw_map fun v hv=>mr_in (A.rows x hx) (B.rows y hy) (Z0k hv)
 ·have:=Zbb4 (uni a.Vars b.Vars) a b;show(Ze9 _ _ _).length≤8 ^ pcM (orI u.Mask z.Mask);rw[pc_or hu hz h0,Nat.pow_add];exact Ym this (Ybs A.len B.len)
def stS(d:Zk)(q:Zd)(x:Zg)(y:Zb)(out:List Za):Za :=
 if x.Kind=1 then Zet d q x.Atom
 else if x.Kind=2 then sortS (out.getD y.Left.toNat ⟨[],[]⟩) x.Order
 else if x.Kind=3 then hashS (out.getD y.Left.toNat ⟨[],[]⟩) (out.getD y.Right.toNat ⟨[],[]⟩)
 else Zcq (out.getD y.Left.toNat ⟨[],[]⟩) (out.getD y.Right.toNat ⟨[],[]⟩)
def Zcr(d:Zk)(q:Zd):List Zg→List Zb→List Za→List Za
 |x::xs,y::ys,out=>Zcr d q xs ys (out++[stS d q x y out])
 |_,_,out=>out
def GSs(q:Zd)(info:List Zb)(out:List Za):Prop:=∀(j:Nat) (s:Za),out[j]?=some s→∃y,info[j]?=some y∧GS q y s
theorem Zmo{q:Zd}{info:List Zb}{out:List Za}(G:GSs q info out){i:Nat}{s:Int}{u:Zb}(hi:out.length=i)(h0:0≤s)(h:(info.take i)[s.toNat]?=some u):s.toNat<out.length∧out[s.toNat]?=some (out.getD s.toNat ⟨[],[]⟩)∧GS q u (out.getD s.toNat ⟨[],[]⟩):=by
 rw[Y9]at h;split at h
 ·rename_i hlt;have hl:s.toNat<out.length:=by omega
  have e:out[s.toNat]?=some (out.getD s.toNat ⟨[],[]⟩):=by rw[Ybo,Yh hl];rfl
  obtain⟨y,hy,g⟩:=G _ _ e;rw[h]at hy;cases hy;exact⟨hl,e,g⟩
 ·cases h
theorem st_gs{d:Zk}{q:Zd}(h:qFor d q=true){info:List Zb}{out:List Za}(G:GSs q info out)(hM:∀y∈info,0≤y.Mask∧y.Mask<16){i:Nat}(hi:out.length=i){x:Zg}{y:Zb}(F:Zfr q.Atoms x (info.take i) y):GS q y (stS d q x y out):=by
 have hq:Zw q.Zn q.Atoms=true:=by unfold qFor at h;simp only[Ye]at h;exact h.1
 have hm:∀{s:Nat} {u:Zb},(info.take i)[s]?=some u→0≤u.Mask∧u.Mask<16:=fun hs=>hM _ (Y2 (Yw hs))
 unfold stS;by_cases k1:x.Kind=1
 ·rw[if_pos k1];exact scan_gs h F k1
 ·rw[if_neg k1];by_cases k2:x.Kind=2
  ·rw[if_pos k2];obtain⟨s,u,f1,f2,f3,rfl⟩:=F.sort k2;exact(Zbb7 hq (Zmo G hi f1 f2).2.2 f3 s).1
  ·rw[if_neg k2];obtain⟨s,u,t,z,o,f1,f2,f3,f4,f5,rfl,f6⟩:=F.join k1 k2;have A:=(Zmo G hi f1 f2).2.2;have B:=(Zmo G hi f3 f4).2.2;rcases f6 with⟨k,rfl⟩|⟨k,rfl⟩|⟨k,g1,g2,g3,g4,rfl⟩
   ·rw[if_pos k];exact hash_gs hq A B (hm f2) (hm f4) f5 s t
   ·rw[if_neg (by omega)];exact Zbb8 hq A B (hm f2) (hm f4) f5 s t
   ·rw[if_neg (by omega)];rw[←g3];exact Zbb8 hq A B (hm f2) (hm f4) f5 s t
theorem Z0l{q:Zd}{info:List Zb}{out:List Za}(G:GSs q info out){i:Nat}(hi:out.length=i){y:Zb}(hy:info[i]?=some y){s:Za}(g:GS q y s):GSs q info (out++[s]):=by
 intro j s' hs;by_cases hj:j<out.length
 ·rw[Ybd hj]at hs;exact G j s' hs
 ·have:j=out.length:=by
   have:=(Yx.1 hs).1;simp at this;omega
  subst this;simp at hs;subst hs;exact⟨y,by rw[hi];exact hy,g⟩
end Go.Proofs.YtgnfoghkbpkgjaaGreat
namespace Go.Proofs.YtgnfoghkbpkgjaaGreat
open Go.AM Go.Sort Go.Stb
abbrev AR:=Array (List Int)
def okC(x:Nat)(r:List Int):Prop:=x<r.length∧0≤kx x r∧kx x r≤9
structure OkC (x:Nat) (d:AR):Prop where
 sz:d.size≤4096
 at_:∀i,i<d.size→okC x d[i]!
theorem OkC.stp{x:Nat}{d e:AR}{a b:Nat}(h:OkC x d)(S:Stp (kx x) a b d e)(hb:b≤d.size):OkC x e:=by
 have S':=S.mono (Ya a) hb;refine⟨by rw[S.size];exact h.sz,fun i hi=>?_⟩;exact S'.pres (okC x) (fun y _ hy=>h.at_ y hy) i (Ya _) (by rw[←S.size];exact hi)
theorem gA{d:AR}{i:Nat}(h:i<d.size):d.toList[(i:Int).toNat]?=some d[i]!:=by rw[Yg];exact Zes d i h
theorem set2(d:AR)(i j:Nat):(d.toList.set i d[j]!).set j d[i]! = (swp d i j).toList:=by simp[swp]
theorem set3{d:AR}{i j:Nat}(v:List Int)(h:j<d.size):∃e,(d.toList.set i v)[j]?=some e:=⟨_,Yh (by simpa using h)⟩
theorem wA{n:Int}(h1:-1000000≤n)(h2:n≤1000000):w n=n:=Zt (by omega) (by omega)
theorem Zhz{i j:Nat}(h:i+j≤1000000):w (shrI (IntKind.wrap .u64 (w ((i:Int)+(j:Int)))) 1)=(((i+j) / 2:Nat):Int):=by
 rw[wA (n:=(i:Int)+(j:Int)) (by omega) (by omega)];have e1:IntKind.wrap .u64 ((i:Int)+(j:Int))=(i:Int)+(j:Int):=by
  simp only[IntKind.wrap,IntKind.signed,IntKind.bits];simp;omega
 rw[e1];have e2:shrI ((i:Int)+(j:Int)) 1=(((i+j) / 2:Nat):Int):=by
  unfold shrI;rw[show(2:Int) ^ (min (1:Int).toNat 64)=2 from rfl,Int.fdiv_eq_ediv_of_nonneg _ (by decide)];omega
 rw[e2];exact wA (by omega) (by omega)
theorem Zpr{x:Nat}{p q:List Int}(hp:okC x p)(hq:okC x q):Zez x p q=some (I (kx x p-kx x q),[.box [I x]]):=by
 obtain⟨p1,p2,p3⟩:=hp;obtain⟨q1,q2,q3⟩:=hq;have e1:p[x]=kx x p:=(getElem!_pos p x p1).symm;have e2:q[x]=kx x q:=(getElem!_pos q x q1).symm;refine Zbm7 ⟨by omega,_,gE p1,_,gE q1,?_⟩;rw[e1,e2,wA (by omega) (by omega)]
def Rz(D:AR)(x:Nat)(v:Rs):Prop:=∃fr,v=some (.tup [],[.arr 30 1 fr (D.toList.map isc),.box [I x]])
theorem l_in(x a b i:Nat)(hi:i≤8192)(D:AR):∀(j:Nat) (d:AR) (fr:Bool),OkC x d→a≤j→j<d.size →
  (∀fr',Rz D x (Zf2 fr' (insInner (ltK (kx x)) a j d).toList x a b ((i+1:Nat):Int)))→Rz D x (Ziq fr d.toList x a b i j)
 |0,d,fr,hO,haj,hj,h=>by
  obtain⟨f,hf⟩:=h fr;refine⟨f,Zst ?_⟩;rw[if_neg (by omega),wA (by omega) (by omega)];unfold insInner at hf
  exact_mod_cast hf
 |j+1,d,fr,hO,haj,hj,h=>by
  unfold insInner at h;have hw:w (((j+1:Nat):Int)-1)=(j:Int):=by have:=hO.sz;rw[wA (by omega) (by omega)];omega
  have hw2:w ((i:Int)+1)=((i+1:Nat):Int):=by rw[wA (by omega) (by omega)];omega
  by_cases hc:a<j+1
  ·by_cases hl:kx x d[j+1]!<kx x d[j]!
   ·rw[if_pos (by simp[ltK,hl];omega)]at h;have hS:=Zs4 (k:=kx x) d j hj hl;obtain⟨f,hf⟩:=l_in x a b i hi D j (swp d (j+1) j) false (hO.stp hS (by omega)) (by omega) (by rw[swp_size];omega) h;refine⟨f,Zst ?_⟩;rw[if_pos (by omega),hw];refine⟨by omega,_,gA hj,by omega,_,gA (by omega),_,_,Zpr (hO.at_ _ hj) (hO.at_ _ (by omega)),?_⟩;rw[if_pos (by omega),Yg,Yg,set2];obtain⟨e,he⟩:=set3 (i:=j+1) d[j]! (show j<d.size by omega);exact⟨e,he,hf⟩
   ·rw[if_neg (by simp[ltK];omega)]at h;obtain⟨f,hf⟩:=h fr;refine⟨f,Zst ?_⟩;rw[if_pos (by omega),hw];refine⟨by omega,_,gA hj,by omega,_,gA (by omega),_,_,Zpr (hO.at_ _ hj) (hO.at_ _ (by omega)),?_⟩;rw[if_neg (by omega),hw2];exact hf
  ·rw[if_neg (by simp;omega)]at h;obtain⟨f,hf⟩:=h fr;refine⟨f,Zst ?_⟩;rw[if_neg (by omega),hw2];exact hf
theorem l_out(x a b:Nat):∀(n i:Nat) (d:AR) (fr:Bool),b-i=n→OkC x d→a<i→b≤d.size→i≤b+1→Rz (insOuter (ltK (kx x)) a b i d) x (Zf2 fr d.toList x a b i)
 |0,i,d,fr,hn,hO,hai,hb,hib=>by
  refine⟨fr,Z8l ?_⟩
  rw[if_neg (by omega),insOuter,if_neg (by omega)]
 |n+1,i,d,fr,hn,hO,hai,hb,hib=>by
  have hsz:=hO.sz;have hS:=Z0d (k:=kx x) a i d b (by omega) (by omega) hb
  obtain⟨f,hf⟩:=l_in x a b i (by omega) (insOuter (ltK (kx x)) a b i d) i d fr hO (by omega) (by omega) (fun fr'=>by
   rw[insOuter,if_pos (by omega)]
   exact l_out x a b n (i+1) _ fr' (by omega) (hO.stp hS hb) (by omega) (by rw[hS.size];exact hb) (by omega))
  refine⟨f,Z8l ?_⟩;rw[if_pos (by omega)];exact hf
theorem x_ins{x a b:Nat}{d:AR}(fr:Bool)(hO:OkC x d)(hab:a≤b)(hb:b≤d.size):∃e,Stp (kx x) a b d e∧Srt (kx x) a b e∧Rz e x (Zkz fr d.toList x a b):=by
 have hsz:=hO.sz;refine⟨_,ins_stp d a b hb,ins_srt d a b hab hb,?_⟩;obtain⟨f,hf⟩:=l_out x a b _ (a+1) d fr rfl hO (by omega) hb (by omega);refine⟨f,Zbm8 ?_⟩;rw[wA (by omega) (by omega)]
 exact_mod_cast hf
theorem l_swr(x a b n:Nat)(d:AR)(hs:d.size≤4096)(h1:a+n≤b)(h2:b+n≤d.size):∀i,i≤n→∀fr,Rz (swr a b n d) x (Zis fr (swr a b i d).toList x a b n i):=by
 refine down _ ?_ ?_
 ·intro fr;refine⟨fr,Z8m ?_⟩;rw[if_neg (by omega)]
 ·intro i hi ih fr;obtain⟨f,hf⟩:=ih false;refine⟨f,Z8m ?_⟩;have e1:w ((b:Int)+(i:Int))=((b+i:Nat):Int):=by rw[wA (by omega) (by omega)];omega
  have e2:w ((a:Int)+(i:Int))=((a+i:Nat):Int):=by rw[wA (by omega) (by omega)];omega
  have e3:w ((i:Int)+1)=((i+1:Nat):Int):=by rw[wA (by omega) (by omega)];omega
  rw[if_pos (by omega),e1,e2,e3];refine⟨by omega,_,gA (by rw[Zfq];omega),by omega,_,gA (by rw[Zfq];omega),?_⟩;rw[Yg,Yg,set2];obtain⟨e,he⟩:=set3 (d:=swr a b i d) (i:=a+i) (swr a b i d)[b+i]! (show b+i<_ by rw[Zfq];omega);exact⟨e,he,hf⟩
theorem x_swr{x a b n:Nat}{d:AR}(fr:Bool)(hs:d.size≤4096)(h1:a+n≤b)(h2:b+n≤d.size):Rz (swr a b n d) x (Zir fr d.toList x a b n):=by
 obtain⟨f,hf⟩:=l_swr x a b n d hs h1 h2 0 (Ya _) fr;exact⟨f,Zbm9 hf⟩
theorem l_rot(x a m b:Nat)(d:AR)(hs:d.size≤4096)(h1:a≤m)(h2:m≤b)(h3:b≤d.size):∀(n i j:Nat) (e:AR) (fr:Bool),i+j≤n→0<i→0<j→a+i≤m→m+j≤b→Rot a m b d i j e →
  ∃D,Rtd a m b d D∧Rz D x (Zg2 fr e.toList x m i j)
 |0,i,j,e,fr,hn,hi,hj,_,_,R=>by omega
 |n+1,i,j,e,fr,hn,hi,hj,him,hjb,R=>by
  have hse:e.size≤4096:=by rw[R.size];exact hs
  have hsd:e.size=d.size:=R.size;have e1:w ((m:Int)-(i:Int))=((m-i:Nat):Int):=by rw[wA (by omega) (by omega)];omega
  have e2:w ((m:Int)+(j:Int))=((m+j:Nat):Int):=by rw[wA (by omega) (by omega)];omega
  have e3:w (((m+j:Nat):Int)-(i:Int))=((m+j-i:Nat):Int):=by rw[wA (by omega) (by omega)];omega
  by_cases hij:i=j
  ·subst hij;obtain⟨f,hf⟩:=x_swr (x:=x) (a:=m-i) (b:=m) (n:=i) (d:=e) fr hse (by omega) (by omega);refine⟨swr (m-i) m i e,rtd_of h1 h2 h3 (R.eq (by omega)),f,Zzk ?_⟩;rw[if_pos rfl,e1];exact⟨_,_,_,hf,rfl⟩
  ·by_cases hlt:j<i
   ·have e4:w ((i:Int)-(j:Int))=((i-j:Nat):Int):=by rw[wA (by omega) (by omega)];omega
    obtain⟨f,hf⟩:=x_swr (x:=x) (a:=m-i) (b:=m) (n:=j) (d:=e) fr hse (by omega) (by omega);obtain⟨D,hD,g,hg⟩:=l_rot x a m b d hs h1 h2 h3 n (i-j) j _ f (by omega) (by omega) hj (by omega) hjb (R.gt hlt (by omega));refine⟨D,hD,g,Zzk ?_⟩;rw[if_neg (by omega),if_pos (by omega),e1,e4];exact⟨_,_,_,hf,hg⟩
   ·have e4:w ((j:Int)-(i:Int))=((j-i:Nat):Int):=by rw[wA (by omega) (by omega)];omega
    obtain⟨f,hf⟩:=x_swr (x:=x) (a:=m-i) (b:=m+j-i) (n:=i) (d:=e) fr hse (by omega) (by omega);obtain⟨D,hD,g,hg⟩:=l_rot x a m b d hs h1 h2 h3 n i (j-i) _ f (by omega) hi (by omega) him (by omega) (R.lt (by omega) (by omega));refine⟨D,hD,g,Zzk ?_⟩;rw[if_neg (by omega),if_neg (by omega),e1,e2,e3,e4];exact⟨_,_,_,hf,hg⟩
theorem x_rot{x a m b:Nat}{d:AR}(fr:Bool)(hs:d.size≤4096)(h1:a<m)(h2:m<b)(h3:b≤d.size):∃D,Rtd a m b d D∧Rz D x (Znw fr d.toList x a m b):=by
 obtain⟨D,hD,f,hf⟩:=l_rot x a m b d hs (by omega) (by omega) h3 _ (m-a) (b-m) d fr (Yd _) (by omega) (by omega) (by omega) (by omega) (.start d (by omega) (by omega));refine⟨D,hD,f,Zbna ?_⟩;have e1:w ((m:Int)-(a:Int))=((m-a:Nat):Int):=by rw[wA (by omega) (by omega)];omega
 have e2:w ((b:Int)-(m:Int))=((b-m:Nat):Int):=by rw[wA (by omega) (by omega)];omega
 rw[e1,e2];exact hf
def Mgd(x a b:Nat)(d:AR)(v:Rs):Prop:=∃e,Stp (kx x) a b d e∧Srt (kx x) a b e∧Rz e x v
theorem l_m1(x a b i:Nat)(d:AR)(hO:OkC x d)(hb:b≤d.size)(hs:Srt (kx x) (a+1) b d)(hai:a<i)(hib:i≤b)(h1:i=a+1∨kx x d[i-1]!<kx x d[a]!)(h2:i=b∨kx x d[a]!≤kx x d[i]!) :
  ∀(n q:Nat) (e:AR) (fr:Bool),i-1-q=n→q≤i-1→Shl a q d e→Stp (kx x) a b d e→Mgd x a b d (Zit fr e.toList x i q)
 |0,q,e,fr,hn,hq,S,T=>by
  have hsz:=hO.sz;obtain rfl:q=i-1:=by omega
  have hI:i-1+1=i:=by omega
  refine⟨e,T,S.srt hs (h1.imp (fun h=>by omega) id) (by rw[hI];exact h2) (by omega),fr,Z8n ?_⟩
  rw[wA (by omega) (by omega),if_neg (by omega)]
 |n+1,q,e,fr,hn,hq,S,T=>by
  have hsz:=hO.sz;have haq:=S.aq;have hes:e.size=d.size:=S.size;have hk:kx x d[q+1]!<kx x d[a]!:=by
   rcases h1 with h1|h1
   ·omega
   ·have:=hs.le (i:=q+1) (j:=i-1) (by omega) (by omega) (by omega);omega
  obtain⟨g,G1,G2,f,hf⟩:=l_m1 x a b i d hO hb hs hai hib h1 h2 n (q+1) (swp e (q+1) q) false (by omega) (by omega) (S.next (by omega)) (T.trans ((S.stp (by omega) hk).mono haq (by omega)));refine⟨g,G1,G2,f,Z8n ?_⟩;have e1:w ((q:Int)+1)=((q+1:Nat):Int):=by rw[wA (by omega) (by omega)];omega
  rw[wA (n:=(i:Int)-1) (by omega) (by omega),if_pos (by omega),e1];refine⟨by omega,_,gA (by omega),by omega,_,gA (by omega),?_⟩;rw[Yg,Yg,set2,swp_comm e q (q+1) (by omega) (by omega)];obtain⟨v,hv⟩:=set3 (i:=q) e[q+1]! (show q+1<e.size by omega);exact⟨v,hv,hf⟩
theorem l_m0(x a b:Nat)(d:AR)(hO:OkC x d)(hb:b≤d.size)(hs:Srt (kx x) (a+1) b d):∀(n i j:Nat) (fr:Bool),j-i≤n→a<i→i≤j→j≤b →
  (i=a+1∨kx x d[i-1]!<kx x d[a]!)→(j=b∨kx x d[a]!≤kx x d[j]!)→Mgd x a b d (Zg3 fr d.toList x a i j)
 |n,i,j,fr,hn,hai,hij,hjb,h1,h2=>by
  have hsz:=hO.sz;by_cases h:i<j
  ·have hm1:i≤(i+j) / 2:=by omega
   have hm2:(i+j) / 2<j:=by omega
   have hoc:=Zpr (hO.at_ ((i+j) / 2) (by omega)) (hO.at_ a (by omega));by_cases hl:kx x d[(i+j) / 2]!<kx x d[a]!
   ·match n,hn with
    |0,hn=>omega
    |n+1,hn =>
    obtain⟨g,G1,G2,f,hf⟩:=l_m0 x a b d hO hb hs n ((i+j) / 2+1) j fr (by omega) (by omega) (by omega) hjb (.inr hl) h2;refine⟨g,G1,G2,f,Zzl ?_⟩;rw[if_pos (by omega),Zhz (by omega)];refine⟨by omega,_,gA (by omega),by omega,_,gA (by omega),_,_,hoc,?_⟩;rw[if_pos (by omega),wA (by omega) (by omega)]
    exact_mod_cast hf
   ·match n,hn with
    |0,hn=>omega
    |n+1,hn =>
    obtain⟨g,G1,G2,f,hf⟩:=l_m0 x a b d hO hb hs n i ((i+j) / 2) fr (by omega) (by omega) (by omega) (by omega) h1 (.inr (by omega));refine⟨g,G1,G2,f,Zzl ?_⟩;rw[if_pos (by omega),Zhz (by omega)];refine⟨by omega,_,gA (by omega),by omega,_,gA (by omega),_,_,hoc,?_⟩;rw[if_neg (by omega)];exact hf
  ·obtain rfl:i=j:=by omega
   obtain⟨g,G1,G2,f,hf⟩:=l_m1 x a b i d hO hb hs hai hjb h1 h2 _ a d fr rfl (by omega) (.start a d) (.refl _ _ _);refine⟨g,G1,G2,f,Zzl ?_⟩;rw[if_neg (by omega)];exact hf
theorem l_m3(x a m i:Nat)(d:AR)(hO:OkC x d)(hb:m<d.size)(hs:Srt (kx x) a m d)(hai:a≤i)(him:i≤m)(h1:i=a∨kx x d[i-1]!≤kx x d[m]!)(h2:i=m∨kx x d[m]!<kx x d[i]!) :
  ∀(n q:Nat) (e:AR) (fr:Bool),q-i=n→i≤q→Shr q m d e→Stp (kx x) a (m+1) d e→Mgd x a (m+1) d (Ziu fr e.toList x i q)
 |0,q,e,fr,hn,hq,S,T=>by
  obtain rfl:q=i:=by omega
  refine⟨e,T,S.srt hs h1 h2 hai,fr,Z8o ?_⟩
  rw[if_neg (by omega)]
 |n+1,q,e,fr,hn,hq,S,T=>by
  have hsz:=hO.sz;have hqm:=S.qm;have hes:e.size=d.size:=S.size;obtain⟨p,rfl⟩:∃p,q=p+1:=⟨q-1,by omega⟩;have hk:kx x d[m]!<kx x d[p]!:=by
   rcases h2 with h2|h2
   ·omega
   ·have:=hs.le (i:=i) (j:=p) hai (by omega) (by omega);omega
  obtain⟨g,G1,G2,f,hf⟩:=l_m3 x a m i d hO hb hs hai him h1 h2 n p (swp e (p+1) p) false (by omega) (by omega) (S.next hb) (T.trans ((S.stp hb hk).mono (by omega) (by omega)));refine⟨g,G1,G2,f,Z8o ?_⟩;have e1:w (((p+1:Nat):Int)-1)=(p:Int):=by rw[wA (by omega) (by omega)];omega
  rw[if_pos (by omega),e1];refine⟨by omega,_,gA (by omega),by omega,_,gA (by omega),?_⟩;rw[Yg,Yg,set2];obtain⟨v,hv⟩:=set3 (i:=p+1) e[p]! (show p<e.size by omega);exact⟨v,hv,hf⟩
theorem l_m2(x a m:Nat)(d:AR)(hO:OkC x d)(hb:m<d.size)(hs:Srt (kx x) a m d):∀(n i j:Nat) (fr:Bool),j-i≤n→a≤i→i≤j→j≤m →
  (i=a∨kx x d[i-1]!≤kx x d[m]!)→(j=m∨kx x d[m]!<kx x d[j]!)→Mgd x a (m+1) d (Zg4 fr d.toList x m i j)
 |n,i,j,fr,hn,hai,hij,hjb,h1,h2=>by
  have hsz:=hO.sz;by_cases h:i<j
  ·have hm1:i≤(i+j) / 2:=by omega
   have hm2:(i+j) / 2<j:=by omega
   have hoc:=Zpr (hO.at_ m (by omega)) (hO.at_ ((i+j) / 2) (by omega));by_cases hl:kx x d[m]!<kx x d[(i+j) / 2]!
   ·match n,hn with
    |0,hn=>omega
    |n+1,hn =>
    obtain⟨g,G1,G2,f,hf⟩:=l_m2 x a m d hO hb hs n i ((i+j) / 2) fr (by omega) (by omega) (by omega) (by omega) h1 (.inr hl);refine⟨g,G1,G2,f,Zzm ?_⟩;rw[if_pos (by omega),Zhz (by omega)];refine⟨by omega,_,gA (by omega),by omega,_,gA (by omega),_,_,hoc,?_⟩;rw[if_pos (by omega)];exact hf
   ·match n,hn with
    |0,hn=>omega
    |n+1,hn =>
    obtain⟨g,G1,G2,f,hf⟩:=l_m2 x a m d hO hb hs n ((i+j) / 2+1) j fr (by omega) (by omega) (by omega) hjb (.inr (by simpa using hl)) h2;refine⟨g,G1,G2,f,Zzm ?_⟩;rw[if_pos (by omega),Zhz (by omega)];refine⟨by omega,_,gA (by omega),by omega,_,gA (by omega),_,_,hoc,?_⟩;rw[if_neg (by omega),wA (by omega) (by omega)]
    exact_mod_cast hf
  ·obtain rfl:i=j:=by omega
   obtain⟨g,G1,G2,f,hf⟩:=l_m3 x a m i d hO hb hs hai hjb h1 h2 _ m d fr rfl (by omega) (.start m d) (.refl _ _ _);refine⟨g,G1,G2,f,Zzm ?_⟩;rw[if_neg (by omega)];exact hf
def IHs(x n:Nat):Prop:=∀(a m b:Nat) (d:AR) (fr:Bool),b-a≤n→OkC x d→a<m→m<b→b≤d.size→Srt (kx x) a m d→Srt (kx x) m b d→Mgd x a b d (Zct fr d.toList x a m b)
theorem j_m4{x n a b mid s t:Nat}{d e f:AR}(IH:IHs x n)(hn:b-mid≤n)(hO:OkC x f)(hb:b≤d.size)(C:Cutd (kx x) a b mid s t d e)(h1:a≤mid)(h2:mid≤t)(h3:t≤b)(F:Stp (kx x) a mid e f)(F':Srt (kx x) a mid f)(fr:Bool) :
  Mgd x a b d (Zf4 fr f.toList x b mid t)∧∀s':Nat,Mgd x a b d (Ze0 fr f.toList x a b mid s' t false):=by
 have hfs:f.size=d.size:=F.size.trans C.stp.size;have q3:=C.q3.out F (.inr (Yd _));have q4:=C.q4.out F (.inr h2);by_cases h:mid<t∧t<b
 ·obtain⟨g,G1,G2,r,hr⟩:=IH mid t b f fr hn hO h.1 h.2 (by omega) q3 q4;obtain⟨A,B⟩:=C.join h1 (by omega) F F' G1 G2;constructor
  ·refine⟨g,A,B,r,Z8p ?_⟩;rw[if_pos (by omega),if_pos (by omega)];exact⟨_,_,_,hr,rfl⟩
  ·intro s';refine⟨g,A,B,r,Z8q ?_⟩;rw[if_pos (by omega),if_pos (by omega)];exact⟨_,_,_,hr,rfl⟩
 ·obtain⟨A,B⟩:=C.join h1 (by omega) F F' (.refl _ _ _) (Zbbp q3 q4 h h2 h3);constructor
  ·refine⟨f,A,B,fr,Z8p ?_⟩;by_cases h4:(mid:Int)<(t:Int)
   ·rw[if_pos h4,if_neg (by omega)]
   ·rw[if_neg h4]
  ·intro s';refine⟨f,A,B,fr,Z8q ?_⟩;by_cases h4:(mid:Int)<(t:Int)
   ·rw[if_pos h4,if_neg (by omega)]
   ·rw[if_neg h4]
theorem l_m4(x n a m b:Nat)(d:AR)(IH:IHs x n)(hn:b-a≤n+1)(hO:OkC x d)(ham:a+1<m)(hmb:m+1<b)(hb:b≤d.size)(hlo:Srt (kx x) a m d)(hhi:Srt (kx x) m b d) :
  ∀(k s r:Nat) (fr:Bool),r-s≤k→a≤s→s≤r→r≤m→r≤(a+b) / 2→(a+b) / 2+m≤s+b →
  ((s=a∨(a+b) / 2+m=s+b)∨kx x d[s-1]!≤kx x d[(a+b) / 2+m-s]!)→((r=(a+b) / 2∨r=m)∨kx x d[(a+b) / 2+m-r-1]!<kx x d[r]!) →
  Mgd x a b d (Zf3 fr d.toList x a m b ((a+b) / 2:Nat) ((a+b) / 2+m:Nat) s r ((a+b) / 2+m-1:Nat))
 |k,s,r,fr,hk,hs1,hsr,hr1,hr2,hs4,h1,h2=>by
  have hsz:=hO.sz;by_cases h:s<r
  ·have hm1:s≤(s+r) / 2:=by omega
   have hm2:(s+r) / 2<r:=by omega
   have e1:w ((((a+b) / 2+m-1:Nat):Int)-(((s+r) / 2:Nat):Int))=(((a+b) / 2+m-1-(s+r) / 2:Nat):Int):=by rw[wA (by omega) (by omega)];omega
   have hoc:=Zpr (hO.at_ ((a+b) / 2+m-1-(s+r) / 2) (by omega)) (hO.at_ ((s+r) / 2) (by omega));by_cases hl:kx x d[(a+b) / 2+m-1-(s+r) / 2]!<kx x d[(s+r) / 2]!
   ·match k,hk with
    |0,hk=>omega
    |k+1,hk =>
    obtain⟨g,G1,G2,f,hf⟩:=l_m4 x n a m b d IH hn hO ham hmb hb hlo hhi k s ((s+r) / 2) fr (by omega) hs1 (by omega) (by omega) (by omega) hs4 h1 (.inr (by rw[show(a+b) / 2+m-(s+r) / 2-1=(a+b) / 2+m-1-(s+r) / 2 by omega];exact hl));refine⟨g,G1,G2,f,Zpf ?_⟩;rw[if_pos (by omega),Zhz (by omega),e1];refine⟨by omega,_,gA (by omega),by omega,_,gA (by omega),_,_,hoc,?_⟩;rw[if_pos (by omega)];exact hf
   ·match k,hk with
    |0,hk=>omega
    |k+1,hk =>
    obtain⟨g,G1,G2,f,hf⟩:=l_m4 x n a m b d IH hn hO ham hmb hb hlo hhi k ((s+r) / 2+1) r fr (by omega) (by omega) (by omega) hr1 hr2 (by omega) (.inr (by
     rw[show(s+r) / 2+1-1=(s+r) / 2 by omega,show(a+b) / 2+m-((s+r) / 2+1)=(a+b) / 2+m-1-(s+r) / 2 by omega];omega)) h2
    refine⟨g,G1,G2,f,Zpf ?_⟩;rw[if_pos (by omega),Zhz (by omega),e1];refine⟨by omega,_,gA (by omega),by omega,_,gA (by omega),_,_,hoc,?_⟩;rw[if_neg (by omega),wA (by omega) (by omega)]
    exact_mod_cast hf
  ·obtain rfl:s=r:=by omega
   have e2:w ((((a+b) / 2+m:Nat):Int)-(s:Int))=(((a+b) / 2+m-s:Nat):Int):=by rw[wA (by omega) (by omega)];omega
   have K:Cut (kx x) a m b ((a+b) / 2) s d:=⟨by omega,by omega,hb,by omega,by omega,hs1,hr1,hr2,hs4,hlo,hhi,h1,h2⟩;generalize hmid:(a+b) / 2=mid at *
   have main:∀(D:AR) (fr':Bool),Rtd s m (mid+m-s) d D→Mgd x a b d (Zk0 fr' D.toList x a m b mid s ((mid+m-s:Nat):Int) false) ∧
     (a<s→s<mid→∃v4 v5 v6,Zct fr' D.toList x a s mid=some (.tup [],[.arr 30 1 v4 (v5.map isc),.box [I v6]])∧Mgd x a b d (Zf4 v4 v5 v6 b mid ((mid+m-s:Nat):Int))) ∧
     (¬(a<s∧s<mid)→Mgd x a b d (Ze0 fr' D.toList x a b mid s ((mid+m-s:Nat):Int) false)):=by
    intro D fr' R;have Cd:=K.turn R;have hOD:OkC x D:=hO.stp Cd.stp hb;have hDs:D.size=d.size:=Cd.stp.size;have k1:mid<b:=K.l2;have k2:a<mid:=K.l1;have part1:a<s→s<mid→∃v4 v5 v6,Zct fr' D.toList x a s mid=some (.tup [],[.arr 30 1 v4 (v5.map isc),.box [I v6]])∧Mgd x a b d (Zf4 v4 v5 v6 b mid ((mid+m-s:Nat):Int)):=by
     intro p1 p2;obtain⟨g,G1,G2,f,hf⟩:=IH a s mid D fr' (by omega) hOD p1 p2 (by omega) Cd.q1 Cd.q2;exact⟨_,_,_,hf,(j_m4 IH (by omega) (hOD.stp G1 (by omega)) hb Cd (by omega) (by omega) (by omega) G1 G2 f).1⟩
    have part2:¬(a<s∧s<mid)→Mgd x a b d (Ze0 fr' D.toList x a b mid s ((mid+m-s:Nat):Int) false):=by
     intro p;exact(j_m4 IH (by omega) hOD hb Cd (by omega) (by omega) (by omega) (.refl _ _ _) (Zbbp Cd.q1 Cd.q2 p hs1 hr2) fr').2 s
    refine⟨?_,part1,part2⟩;by_cases p:a<s∧s<mid
    ·obtain⟨v4,v5,v6,hX,g,G1,G2,f,hf⟩:=part1 p.1 p.2;refine⟨g,G1,G2,f,Z8r ?_⟩;rw[if_pos (by omega),if_pos (by omega)];exact⟨_,_,_,hX,hf⟩
    ·obtain⟨g,G1,G2,f,hf⟩:=part2 p;refine⟨g,G1,G2,f,Z8r ?_⟩;by_cases p1:(a:Int)<(s:Int)
     ·rw[if_pos p1,if_neg (by omega)];exact hf
     ·rw[if_neg p1];exact hf
   by_cases hc:s<m∧m<mid+m-s
   ·obtain⟨D,hD,fD,hfD⟩:=x_rot (x:=x) (d:=d) fr hsz hc.1 hc.2 (by omega);obtain⟨-,p1,p2⟩:=main D fD hD;by_cases p:a<s∧s<mid
    ·obtain⟨v4,v5,v6,hX,g,G1,G2,f,hf⟩:=p1 p.1 p.2;refine⟨g,G1,G2,f,Zpf ?_⟩;rw[if_neg (by omega),e2,if_pos (by omega),if_pos (by omega)];refine⟨_,_,_,hfD,?_⟩;rw[if_pos (by omega),if_pos (by omega)];exact⟨_,_,_,hX,hf⟩
    ·obtain⟨g,G1,G2,f,hf⟩:=p2 p;refine⟨g,G1,G2,f,Zpf ?_⟩;rw[if_neg (by omega),e2,if_pos (by omega),if_pos (by omega)];refine⟨_,_,_,hfD,?_⟩;by_cases p1:(a:Int)<(s:Int)
     ·rw[if_pos p1,if_neg (by omega)];exact hf
     ·rw[if_neg p1];exact hf
   ·obtain⟨⟨g,G1,G2,f,hf⟩,-,-⟩:=main d fr (rtd_triv d hr1 (by omega) (by omega) (by omega));refine⟨g,G1,G2,f,Zpf ?_⟩;rw[if_neg (by omega),e2];by_cases p1:(s:Int)<(m:Int)
    ·rw[if_pos p1,if_neg (by omega)];exact hf
    ·rw[if_neg p1];exact hf
theorem x_sym(x:Nat):∀n,IHs x n
 |0,a,m,b,d,fr,hn,hO,ham,hmb,hb,hlo,hhi=>by omega
 |n+1,a,m,b,d,fr,hn,hO,ham,hmb,hb,hlo,hhi=>by
  have hsz:=hO.sz;have e1:w ((m:Int)-(a:Int))=((m-a:Nat):Int):=by rw[wA (by omega) (by omega)];omega
  have e2:w ((b:Int)-(m:Int))=((b-m:Nat):Int):=by rw[wA (by omega) (by omega)];omega
  by_cases h1:m=a+1
  ·subst h1;obtain⟨g,G1,G2,f,hf⟩:=l_m0 x a b d hO hb hhi _ (a+1) b fr (Yd _) (by omega) (by omega) (Yd _) (.inl rfl) (.inl rfl);refine⟨g,G1,G2,f,Zsu ?_⟩;rw[e1,if_pos (by omega)];exact hf
  ·by_cases h2:b=m+1
   ·subst h2;obtain⟨g,G1,G2,f,hf⟩:=l_m2 x a m d hO (by omega) hlo _ a m fr (Yd _) (Yd _) (by omega) (Yd _) (.inl rfl) (.inl rfl);refine⟨g,G1,G2,f,Zsu ?_⟩;rw[e1,if_neg (by omega),e2,if_pos (by omega)];exact hf
   ·have e3:w ((((a+b) / 2:Nat):Int)+(m:Int))=(((a+b) / 2+m:Nat):Int):=by rw[wA (by omega) (by omega)];omega
    have e4:w ((((a+b) / 2+m:Nat):Int)-1)=(((a+b) / 2+m-1:Nat):Int):=by rw[wA (by omega) (by omega)];omega
    by_cases h3:(a+b) / 2<m
    ·have e5:w ((((a+b) / 2+m:Nat):Int)-(b:Int))=(((a+b) / 2+m-b:Nat):Int):=by rw[wA (by omega) (by omega)];omega
     obtain⟨g,G1,G2,f,hf⟩:=l_m4 x n a m b d (x_sym x n) hn hO (by omega) (by omega) hb hlo hhi _ ((a+b) / 2+m-b) ((a+b) / 2) fr (Yd _) (by omega) (by omega) (by omega) (Yd _) (by omega) (.inl (.inr (by omega))) (.inl (.inl rfl));refine⟨g,G1,G2,f,Zsu ?_⟩;rw[e1,if_neg (by omega),e2,if_neg (by omega),Zhz (by omega),if_pos (by omega),e3,e4,e5];exact hf
    ·obtain⟨g,G1,G2,f,hf⟩:=l_m4 x n a m b d (x_sym x n) hn hO (by omega) (by omega) hb hlo hhi _ a m fr (Yd _) (Yd _) (by omega) (Yd _) (by omega) (by omega) (.inl (.inl rfl)) (.inl (.inr rfl));refine⟨g,G1,G2,f,Zsu ?_⟩;rw[e1,if_neg (by omega),e2,if_neg (by omega),Zhz (by omega),if_neg (by omega),e3,e4];exact hf
def StdS(x:Nat)(d0:AR)(v:Rs):Prop:=∃e,Stp (kx x) 0 d0.size d0 e∧Srt (kx x) 0 d0.size e∧Rz e x v
theorem l_s1(x bs:Nat)(d0:AR)(hbs:0<bs)(hO0:OkC x d0)(hbn:bs<d0.size)(IH:∀(e:AR) (fr:Bool),OkC x e→Stp (kx x) 0 d0.size d0 e→Bks (kx x) (2*bs) d0.size e→StdS x d0 (Zf5 fr e.toList x d0.size ((2*bs:Nat):Int))) :
  ∀(n a:Nat) (e:AR) (fr:Bool),d0.size-a≤n→a≤d0.size→OkC x e→Stp (kx x) 0 d0.size d0 e→Mid (kx x) bs d0.size a e→StdS x d0 (Ziw fr e.toList x d0.size bs a ((a+2*bs:Nat):Int))
 |n,a,e,fr,hn,han,hO,T,M=>by
  have hsz:=hO0.sz;have hes:=T.size;obtain⟨t1,t2⟩:=M.two;have e1:w ((a:Int)+(bs:Int))=((a+bs:Nat):Int):=by rw[wA (by omega) (by omega)];omega
  have e2:w (2*(bs:Int))=((2*bs:Nat):Int):=by rw[wA (by omega) (by omega)];omega
  have e3:w (((a+2*bs:Nat):Int)+((2*bs:Nat):Int))=((a+2*bs+2*bs:Nat):Int):=by rw[wA (by omega) (by omega)];omega
  have e4:w ((bs:Int)*2)=((2*bs:Nat):Int):=by rw[wA (by omega) (by omega)];omega
  by_cases h:a+2*bs≤d0.size
  ·match n,hn with
   |0,hn=>omega
   |n+1,hn =>
   obtain⟨g,G1,G2,f,hf⟩:=x_sym x _ a (a+bs) (a+2*bs) e fr (Yd _) hO (by omega) (by omega) (by omega) (by rw[Yy (by omega)]at t1;exact t1) (by rw[Yy (by omega)]at t2;exact t2);obtain⟨r,R1,R2,f2,hf2⟩:=l_s1 x bs d0 hbs hO0 hbn IH n (a+2*bs) g f (by omega) h (hO.stp G1 (by omega)) (T.trans (G1.mono (Ya _) h)) (M.next G1 G2);refine⟨r,R1,R2,f2,Zzn ?_⟩;rw[if_pos (by omega),e1,e2,e3];exact⟨_,_,_,hf,hf2⟩
  ·by_cases h2:a+bs<d0.size
   ·obtain⟨g,G1,G2,f,hf⟩:=x_sym x _ a (a+bs) d0.size e fr (Yd _) hO (by omega) (by omega) (by omega) (by rw[Yy (by omega)]at t1;exact t1) (by rw[Nat.min_eq_right (by omega)]at t2;exact t2);obtain⟨r,R1,R2,f2,hf2⟩:=IH g f (hO.stp G1 (by omega)) (T.trans (G1.mono (Ya _) (Yd _))) (M.end_ (by omega) G1 G2);refine⟨r,R1,R2,f2,Zzn ?_⟩;rw[if_neg (by omega),e1,if_pos (by omega),e4];exact⟨_,_,_,hf,hf2⟩
   ·obtain⟨r,R1,R2,f2,hf2⟩:=IH e fr hO T (M.end_ (by omega) (.refl _ _ _) (by rw[Nat.min_eq_right (by omega)]at t1;exact t1));refine⟨r,R1,R2,f2,Zzn ?_⟩;rw[if_neg (by omega),e1,if_neg (by omega),e4];exact hf2
theorem l_s2(x:Nat)(d0:AR)(hO0:OkC x d0):∀(n bs:Nat) (e:AR) (fr:Bool),d0.size-bs≤n→0<bs→bs≤8192→OkC x e→Stp (kx x) 0 d0.size d0 e→Bks (kx x) bs d0.size e→StdS x d0 (Zf5 fr e.toList x d0.size bs)
 |n,bs,e,fr,hn,hbs,hb8,hO,T,B=>by
  have hsz:=hO0.sz;by_cases h:bs<d0.size
  ·match n,hn with
   |0,hn=>omega
   |n+1,hn =>
   have e2:w (2*(bs:Int))=((0+2*bs:Nat):Int):=by rw[wA (by omega) (by omega)];omega
   obtain⟨r,R1,R2,f2,hf2⟩:=l_s1 x bs d0 hbs hO0 h (fun e fr hO T B=>l_s2 x d0 hO0 n (2*bs) e fr (by omega) (by omega) (by omega) hO T B) _ 0 e fr (Yd _) (Ya _) hO T (.start B);refine⟨r,R1,R2,f2,Z8t ?_⟩;rw[if_pos (by omega),e2];exact hf2
  ·refine⟨e,T,B.whole (by omega),fr,Z8t ?_⟩;rw[if_neg (by omega)]
theorem l_s0(x:Nat)(d0:AR)(hO0:OkC x d0):∀(n a:Nat) (e:AR) (fr:Bool),d0.size-a≤n→a≤d0.size→OkC x e→Stp (kx x) 0 d0.size d0 e→Ini (kx x) a e→StdS x d0 (Ziv fr e.toList x d0.size 20 a ((a+20:Nat):Int))
 |n,a,e,fr,hn,han,hO,T,M=>by
  have hsz:=hO0.sz;have hes:=T.size;by_cases h:a+20≤d0.size
  ·match n,hn with
   |0,hn=>omega
   |n+1,hn =>
   obtain⟨g,G1,G2,f,hf⟩:=x_ins (x:=x) (a:=a) (b:=a+20) (d:=e) fr hO (by omega) (by omega);obtain⟨r,R1,R2,f2,hf2⟩:=l_s0 x d0 hO0 n (a+20) g f (by omega) h (hO.stp G1 (by omega)) (T.trans (G1.mono (Ya _) h)) (M.next G1 G2);refine⟨r,R1,R2,f2,Z8s ?_⟩;rw[if_pos (by omega),wA (by omega) (by omega)];exact⟨_,_,_,hf,by exact_mod_cast hf2⟩
  ·obtain⟨g,G1,G2,f,hf⟩:=x_ins (x:=x) (a:=a) (b:=d0.size) (d:=e) fr hO han (by omega);obtain⟨r,R1,R2,f2,hf2⟩:=l_s2 x d0 hO0 _ 20 g f (Yd _) (by omega) (by omega) (hO.stp G1 (by omega)) (T.trans (G1.mono (Ya _) (Yd _))) (M.end_ (by omega) G1 G2);refine⟨r,R1,R2,f2,Z8s ?_⟩;rw[if_neg (by omega)];exact⟨_,_,_,hf,hf2⟩
theorem x_stable{x:Nat}{rows:List (List Int)}(hl:rows.length≤4096)(hk:∀r∈rows,okC x r):∃fr,Zrl rows x=some (.tup [],[.arr 30 1 fr ((stbR x rows).map isc),.box [I x]]):=by
 have hO:OkC x rows.toArray:=⟨by simpa using hl,fun i hi=>by
  have hi':i<rows.length:=by simpa using hi
  rw[getElem!_pos rows.toArray i hi]
  exact hk _ (by simp)⟩
 obtain⟨e,S,T,f,hf⟩:=l_s0 x rows.toArray hO _ 0 rows.toArray true (Yd _) (Ya _) hO (.refl _ _ _) (.start _)
 have hc:=S.classes (n:=10) T (fun r hr=>by
  have:=hk r (by simpa using hr);unfold okC at this
  omega)
 rw[hc]at hf;refine⟨f,Zbnc ⟨_,_,_,Zbnb hf,rfl⟩⟩
end Go.Proofs.YtgnfoghkbpkgjaaGreat
namespace Go.Proofs.YtgnfoghkbpkgjaaGreat
open Go.RowKit Go.Lib
theorem Zbb9(x:Int)(w:World):Calls Tryz.prog 438 #[.int .i64 x] w fun e w'=>e=.returned (.bool false)∧w'=w:=by
 go_enter Tryz.func438,Tryz.ntmps438
 go_wp2
 go_ret
 exact⟨by simp,rfl⟩
def c3(x y:Int):Int:=if x<y then -1 else if y<x then 1 else 0
theorem cmp_walk(x y:Int)(w:World):Calls Tryz.prog 428 #[.int .i64 x,.int .i64 y] w fun e w'=>e=.returned (.int .i64 (c3 x y))∧w'=w:=by
 have h1:=Zbb9 x w;have h2:=Zbb9 y w;by_cases e1:x<y
 ·go_enter Tryz.func428,Tryz.ntmps428
  go_wp2_with (first|(refine h1.mono ?_;rintro e w' ⟨rfl,rfl⟩)|(refine h2.mono ?_;rintro e w' ⟨rfl,rfl⟩))
  go_ret
  exact⟨by simp[c3,e1],rfl⟩
 ·by_cases e2:y<x
  ·go_enter Tryz.func428,Tryz.ntmps428
   go_wp2_with (first|(refine h1.mono ?_;rintro e w' ⟨rfl,rfl⟩)|(refine h2.mono ?_;rintro e w' ⟨rfl,rfl⟩))
   go_ret
   exact⟨by simp[c3,e1,e2],rfl⟩
  ·have hc:c3 x y=0:=by unfold c3;rw[if_neg e1,if_neg e2]
   rw[hc];clear hc
   go_enter Tryz.func428,Tryz.ntmps428
   go_wp2_with (first|(refine h1.mono ?_;rintro e w' ⟨rfl,rfl⟩)|(refine h2.mono ?_;rintro e w' ⟨rfl,rfl⟩))
   go_ret
   exact⟨rfl,rfl⟩
def Zgg(w:World)(v:Value)(r:List Int):Prop:=∃a c,v=.slice a r.length c∧∀j (h:j<r.length),∃g off,a=some ⟨g,off,none⟩∧w.cell? ⟨g,off+j,none⟩=some (.int .i64 r[j])
theorem Zbq2{a b:List Int}{k:Nat}(h1:k<a.length)(h2:k<b.length):cmpR (a.drop k) (b.drop k)=if c3 a[k] b[k]=0 then cmpR (a.drop (k+1)) (b.drop (k+1))else c3 a[k] b[k]:=by
 rw[List.drop_eq_getElem_cons h1,List.drop_eq_getElem_cons h2]
 conv=>lhs;unfold cmpR
 unfold c3;by_cases e1:a[k]<b[k]
 ·simp[e1]
 ·rw[if_neg e1,if_neg e1];by_cases e2:b[k]<a[k]
  ·simp[e2]
  ·simp[e2]
theorem Zbq3(v1 v2:Value)(a b:List Int)(w:World)(h1:Zgg w v1 a)(h2:Zgg w v2 b)(hl1:a.length<2305843009213693952)(hl2:b.length<2305843009213693952) :
  Calls Tryz.prog 394 #[v1,v2] w fun e w'=>e=.returned (.int .i64 (cmpR a b))∧w'=w:=by
 obtain⟨p1,c1,rfl,r1⟩:=h1;obtain⟨p2,c2,rfl,r2⟩:=h2;have mixed:Tryz.prog.follows Departure.mixedOrders=true:=by kernel_rfl
 have hc:=fun x y=>cmp_walk x y w
 generalize hR:cmpR a b=R;have HR:Aside (cmpR (a.drop 0) (b.drop 0)=R):=hR;clear hR
 go_enter Tryz.func394,Tryz.ntmps394
 go_wp2
 go_loopg [5,6,7,8,11] a.length (fun gg _ _ _ _ s11 wr=>∃kk:Nat,kk≤a.length∧a.length-kk≤gg∧s11=.int .i64 kk∧wr=w∧Aside (kk≤b.length)∧Aside (cmpR (a.drop kk) (b.drop kk)=R))
 case atStart=>exact⟨0,Nat.zero_le _,by omega,rfl,rfl,Nat.zero_le _,HR⟩
 case round =>
  obtain⟨kk,hkk,hg,rfl,rfl,A,B⟩:=hrel;by_cases hlt:kk<a.length
  ·have hltz:(kk:Int)<(a.length:Int):=by omega
   obtain⟨g1,o1,rfl,d1⟩:=r1 kk hlt;by_cases hlb:kk<b.length
   ·have hltb:¬(b.length:Int)≤(kk:Int):=by omega
    obtain⟨g2,o2,rfl,d2⟩:=r2 kk hlb;have hs:=Zbq2 hlt hlb;have hcall:=hc a[kk] b[kk];have S:Aside (cmpR (a.drop kk) (b.drop kk)=if c3 a[kk] b[kk]=0 then cmpR (a.drop (kk+1)) (b.drop (kk+1))else c3 a[kk] b[kk]):=hs;clear hs hc r1 r2;generalize c3 a[kk] b[kk]=z at hcall S;generalize a[kk]=x at hcall d1;generalize b[kk]=y at hcall d2;by_cases hz:z=0
    ·subst hz
     go_wp2_with (refine hcall.mono ?_;rintro e w' ⟨rfl,rfl⟩)
     go_roundg (a.length-(kk+1))
     case measure=>omega
     case rel =>
      refine⟨kk+1,by omega,by omega,by go_num,rfl,(show Aside _ from by show kk+1≤b.length;omega),(show Aside _ from ?_)⟩;have:=S.out;rw[B.out]at this;show cmpR (a.drop (kk+1)) (b.drop (kk+1))=R;simpa using this.symm
    ·have hr:R=z:=by rw[←B.out,S.out,if_neg hz]
     go_wp2_with (refine hcall.mono ?_;rintro e w' ⟨rfl,rfl⟩)
     go_ret
     exact⟨by subst hr;rfl,rfl⟩
   ·have hltb:(b.length:Int)≤(kk:Int):=by omega
    have hr:R=1:=by
     rw[←B.out,List.drop_eq_getElem_cons hlt,show b.drop kk=[]from List.drop_of_length_le (by omega)];rfl
    clear hc r2
    go_wp2
    go_ret
    exact⟨by subst hr;rfl,rfl⟩
  ·have hltz:¬(kk:Int)<(a.length:Int):=by omega
   have he:kk=a.length:=by omega
   have hA:=A.out;by_cases hlb:(a.length:Int)<(b.length:Int)
   ·have hr:R=-1:=by
     rw[←B.out,he,List.drop_length,List.drop_eq_getElem_cons (l:=b) (i:=a.length) (by omega)];rfl
    clear hc r1 r2
    go_wp2
    go_ret
    exact⟨by subst hr;rfl,rfl⟩
   ·have hr:R=0:=by
     rw[←B.out,he,List.drop_length,show b.drop a.length=[]from List.drop_of_length_le (by omega)];rfl
    clear hc r1 r2
    go_wp2
    go_ret
    exact⟨by subst hr;rfl,rfl⟩
theorem Zbq4(v1 v2:Value)(a b:List Int)(w:World)(h1:Zgg w v1 a)(h2:Zgg w v2 b)(hl1:a.length<2305843009213693952)(hl2:b.length<2305843009213693952) :
  Calls Tryz.prog 331 #[v1,v2] w fun e w'=>e=.returned (.int .i64 (cmpR a b))∧w'=w:=by
 have hc:=Zbq3 v1 v2 a b w h1 h2 hl1 hl2;generalize cmpR a b=R at hc⊢;obtain⟨p1,c1,rfl,r1⟩:=h1;obtain⟨p2,c2,rfl,r2⟩:=h2;clear r1 r2
 go_enter Tryz.func331,Tryz.ntmps331
 go_wp2_with (refine hc.mono ?_;rintro e w' ⟨rfl,rfl⟩)
 go_ret
 exact⟨rfl,rfl⟩
end Go.Proofs.YtgnfoghkbpkgjaaGreat
