/-
  Parts of the proofs for this seat: V1 RA RB RC RD RE RF RG RH RI RJ RK RL LA V2 V3 V4 V5 V6 OP AD DB CM CR SO1 SO2 SO3 CE EWx.
-/
import Derived.Deep.LoopGhost
import Derived.Deep.RegionLaw
import Derived.Lib.SlBy
import Derived.Lib.SliceRun
import Derived.Lib.Walk
import Derived.Shelf.RegionOpenPlain
import Derived.Shelf.SlSortCmp.Kit1
import Derived.Test.YtnnjbejcffjgfaaGreatChecked
import Derived.WalkKit
import Derived.Test.YtnnjbejcffjgfaaGreatP3
import Derived.Test.YtnnjbejcffjgfaaGreatP6
import Derived.Test.YtnnjbejcffjgfaaGreatP7
import Derived.Test.YtnnjbejcffjgfaaGreatP13
import Derived.Test.YtnnjbejcffjgfaaGreatP14
import Derived.Test.YtnnjbejcffjgfaaGreatP15
import Derived.Test.YtnnjbejcffjgfaaGreatP16
import Derived.Test.YtnnjbejcffjgfaaGreatP17
import Derived.Test.YtnnjbejcffjgfaaGreatP18
set_option linter.unusedSectionVars false
set_option linter.unusedSimpArgs false
set_option linter.unusedVariables false
set_option maxRecDepth 100000
set_option maxHeartbeats 4000000
namespace Go.Proofs.YtnnjbejcffjgfaaGreat
open Go.AM
@[simp] theorem Zbu(a b c:Int):Z7 a b c=some (Bo (inR a b c),[]):=by
 refine Zcle _ _ _ _ ?_;by_cases h:b<=a<;>simp[inR,h]
@[simp] theorem Z8(a b c:Int):Z0 a b c=some (Bo (inR a b c),[]):=by
 refine Zcom _ _ _ _ ?_;by_cases h:b<=a<;>simp[inR,h]
theorem lIndexI(xs:List Int)(v:Int)(hx:Le xs):∀i,i<=xs.length->
  Ztp xs v xs.length i=some (I (Zb4 (λx=>decide (v=x)) (xs.drop i) i),[]):=by
 refine down _ ?_ ?_
 .refine Zbyx _ _ _ _ _ ?_;simp[Zb4]
 .intro i hi ih;refine Zbyx _ _ _ _ _ ?_;have h4:=Zd0 (i:=i) (by omega);rw[Zs6 _ hi];simp at ih;by_cases e:v=xs[i]<;>simp[hi,h4,e,ih]
@[simp] theorem Zb3x(xs:List Int)(v:Int)(hx:Le xs):Zl9 xs v=some (I (Zb4 (λx=>decide (v=x)) xs 0),[]):=by
 refine Zcl4 _ _ _ ?_;have:=lIndexI xs v hx 0 (Ya _);simpa using this
@[simp] theorem Zr1(xs:List Int)(v:Int)(hx:Le xs):Zfo xs v=some (Bo (has xs v),[]):=by
 refine Zcl5 _ _ _ ?_;unfold has;rcases tf (xs.any (λx=>decide (v=x)))with e|e
 .simp[hx,Z0j _ _ _ e,e]
 .have:=Z0k _ _ 0 e;simp[hx,this,e]
theorem lIndexB(xs:List Bool)(v:Bool)(hx:Le xs):∀i,i<=xs.length->
  Zt4 xs v xs.length i=some (I (Zb4 (λx=>v == x) (xs.drop i) i),[]):=by
 refine down _ ?_ ?_
 .refine Zby7 _ _ _ _ _ ?_;simp[Zb4]
 .intro i hi ih;refine Zby7 _ _ _ _ _ ?_;have h4:=Zd0 (i:=i) (by omega);rw[Zs6 _ hi];simp at ih;by_cases e:v=xs[i]<;>simp[hi,h4,e,ih]
@[simp] theorem Zcsk(xs:List Bool)(v:Bool)(hx:Le xs):Z09 xs v=some (Bo (xs.any (λx=>v == x)),[]):=by
 refine Zcmn _ _ _ ?_;have q:Z08 xs v=some (I (Zb4 (λx=>v == x) xs 0),[]):=by
  refine Zcmm _ _ _ ?_;have:=lIndexB xs v hx 0 (Ya _);simpa using this
 rcases tf (xs.any (λx=>v == x))with e|e
 .rw[Z0j _ _ _ e]at q;rw[e];simp[q]
 .have:=Z0k _ _ 0 e;rw[e];simp[q,this]
theorem l_l7Has(xs:List Int)(v:Int)(hx:Le xs):∀i,i<=xs.length->Zv5 xs v i=some (Bo (has (xs.drop i) v),[]):=by
 unfold has;refine down _ ?_ ?_
 .refine Zb02 _ _ _ _ ?_;simp
 .intro i hi ih;refine Zb02 _ _ _ _ ?_;have h4:=Zd0 (i:=i) (by omega);rw[drop_any _ hi];simp at ih;by_cases e:v=xs[i]
  .simp[hi,h4,<-e]
  .have e':¬xs[i]=v:=λhc=>e hc.symm
   simp[hi,h4,e,e',ih]
@[simp] theorem Znx(xs:List Int)(v:Int)(hx:Le xs):Zer xs v=some (Bo (has xs v),[]):=by
 refine Zco7 _ _ _ ?_;have:=l_l7Has xs v hx 0 (Ya _);simpa using this
theorem nm_aux(s:ByteArray)(P:Prop):(if(s.size:Int)=1 then(∃(b1:UInt8),s[0]?=some b1/\(if 97<=(b1.toNat:Int)then(some (Bo (decide ((b1.toNat:Int)<=122)),[])=some (Bo (nmOk s),([]:List Blk)))else(some (Bo false,[])=some (Bo (nmOk s),([]:List Blk)))))else(some (Bo false,[])=some (Bo (nmOk s),([]:List Blk)))):=by
 by_cases h:s.size=1
 .obtain⟨b,hb⟩:=get0 h;rw[if_pos (by omega)];refine⟨b,hb,?_⟩;have e:nmOk s=(decide (97<=(b.toNat:Int)) && decide ((b.toNat:Int)<=122)):=by
   unfold nmOk;rw[hb];simp only[h,decide_true,Ye]
  by_cases h1:(97:Int)<=(b.toNat:Int)
  .rw[if_pos h1,e,decide_eq_true h1,Ye]
  .rw[if_neg h1,e,decide_eq_false h1,Y4]
 .have h':¬(s.size:Int)=1:=by omega
  have:nmOk s=false:=by unfold nmOk;split<;>simp[h]
  simp[h',this]
@[simp] theorem x_nameOk(s:ByteArray):Zoz s=some (Bo (nmOk s),[]):=Zclg _ _ (nm_aux s True)
@[simp] theorem Zbjn(s:ByteArray):Zip s=some (Bo (nmOk s),[]):=Zcol _ _ (nm_aux s True)
def LeQ(q:Zc):Prop:=Le q.Atoms/\∀a∈q.Atoms,Le a.Vars
def blB(p:Nat->Bool)(n:Nat):List Bool:=(List.range n).map p
theorem blB_set(p:Nat->Bool)(n:Nat){v:Int}(h:inR v 0 ((n:Int)-1)=true):(blB p n).set v.toNat true=blB (addV p [v]) n:=by
 simp[inR]at h;apply Ycp
 .simp[blB]
 .intro i h1 h2;simp only[blB,Y9,Yo,List.length_range]at h1;rw[List.getElem_set];simp only[blB,List.getElem_map,List.getElem_range];by_cases e:v.toNat=i
  .have:(i:Int)=v:=by omega
   simp[e,addV,has,this]
  .have:¬(i:Int)=v:=by omega
   simp[e,addV,has,this]
theorem Zcsl(q:Zc)(n:Nat)(hn:n<=4)(hq:q.Zp=n)(a:Atom)(qa:List Atom)(l j:Int)(hv:Le a.Vars)(r:AV×List Blk):∀k,k<=a.Vars.length->∀p,
  (if Zem n (a.Vars.take k) (a.Vars.drop k)=true then Zmc q (blB (addV p (a.Vars.drop k)) n) qa l (w (j+1))=some r else some (Bo false,[])=some r)->
  Zt6 q (blB p n) a qa l j a.Vars a.Vars.length k=some r:=by
 refine down _ ?_ ?_
 .intro p h;refine Zby9 _ _ _ _ _ _ _ _ _ _ ?_;simpa[Zem,Z8p]using h
 .intro k hk ih p h;have h4:=Zd0 (i:=k) (by omega);have hw:w (q.Zp-1)=(n:Int)-1:=by rw[hq];exact Zw (by omega) (by omega)
  have hl:=Zr1 (a.Vars.take k) a.Vars[k] (by simp;omega);refine Zby9 _ _ _ _ _ _ _ _ _ _ ?_;rw[Zbo1 _ hk]at h;rcases tf (inR a.Vars[k] 0 ((n:Int)-1))with e1|e1
  .simp[e1]at h;simp[hk,h4,hw,e1,<-h]
  .rcases tf (has (a.Vars.take k) a.Vars[k])with e2|e2
   .rw[Z8q p hk]at h;simp only[e1,e2,Ye,Bool.not_false]at h;have ih:=ih _ h;have e0:=e1;simp[inR]at e0;have e5:(a.Vars[k]).toNat<(blB p n).length:=by simp[blB];omega
    have e6:=blB_set p n e1;have e7:k<=a.Vars.length:=by omega
    simp at ih;simp[hk,h4,hw,e1,e2,hl,e0,e5,e6,e7,ih]
   .simp[e1,e2]at h;have e7:k<=a.Vars.length:=by omega
    simp[hk,h4,hw,e1,e2,hl,e7,<-h]
theorem Zcsm(q:Zc)(n:Nat)(hn:n<=4)(hq:q.Zp=n)(qa:List Atom)(hl:Le qa)(hv:∀a∈qa,Le a.Vars):∀k,k<=qa.length->∀p,
  Zmc q (blB p n) qa qa.length k=some (Bo ((qa.drop k).all (Zcg n) && (List.range n).all (addA p (qa.drop k))),[]):=by
 refine down _ ?_ ?_
 .intro p;refine Zby8 _ _ _ _ _ _ ?_;have e:addA p []=p:=by funext u;simp[addA]
  have q1:=Zcsk (blB p n) false (by simp[blB];omega);have q2:(blB p n).any (λx=>false == x)=!(List.range n).all p:=bl_any p n;rw[q2]at q1;simp[q1,e]
 .intro k hk ih p;refine Zby8 _ _ _ _ _ _ ?_;have h4:=Zd0 (i:=k) (by omega);rw[Zbo0 _ hk];rcases tf (nmOk qa[k].Name)with e1|e1
  .simp[hk,e1,Zcg]
  rcases tf (inR qa[k].Vars.length 1 3)with e2|e2
  .simp[hk,e1,e2,Zcg]
  have b:=Zcsl q n hn hq qa[k] qa qa.length k (hv _ (Yb hk)) (Bo (Zcg n qa[k] && (qa.drop (k+1)).all (Zcg n) && (List.range n).all (addA p (qa.drop k))),[]) 0 (Ya _) p ?_
  .simp at b;simp[hk,e1,e2,b]
  .simp only[List.take_zero,Yq,Zcg,e1,e2,Ye];rcases tf (Zem n [] qa[k].Vars)with e3|e3
   .simp[e3]
   .have ih:=ih (addV p qa[k].Vars);simp only[e3,if_true,Ye,Zbo2 p hk];simp at ih;rw[show w ((k:Int)+1)=(k:Int)+1 from h4,ih]
@[simp] theorem Zbjo(q:Zc)(h:LeQ q):Zka q=some (Bo (Z6 q.Zp q.Atoms),[]):=by
 refine Zcms ?_;unfold Z6;rcases tf (inR q.Zp 1 4)with e1|e1
 .simp[e1]
 rcases tf (inR q.Atoms.length 1 4)with e2|e2
 .simp[e1,e2]
 have e0:=e1;simp[inR]at e0;have hn:q.Zp=(q.Zp.toNat:Int):=by omega
 have b:=Zcsm q q.Zp.toNat (by omega) hn q.Atoms h.1 h.2 0 (Ya _) (λ_=>false);have r1:q.Zp.toNat<=room:=room2 (by omega);have r2:q.Zp<=room:=by
  have:(q.Zp.toNat:Int)<=room:=by exact_mod_cast r1
  omega
 have r3:q.Zp<=140737488355328:=by omega
 have ez:blB (λ_=>false) q.Zp.toNat=List.replicate q.Zp.toNat false:=by
  apply Ycp<;>simp[blB]
 rw[ez,<-hn]at b;simp at b;simp[e1,e2,e0,r1,r2,r3,b];omega
theorem Zcsn(q:Zc)(n:Nat)(c:1<=n)(hn:n<=4)(hq:q.Zp=n)(a:Atom)(j:Int)(hv:Le a.Vars)(r:AV×List Blk):∀k,k<=a.Vars.length->∀p,
  (if Zem n (a.Vars.take k) (a.Vars.drop k)=true then Zqr q (Zbo (addV p (a.Vars.drop k))) (w (j+1))=some r else some (Bo false,[])=some r)->
  Zwj q a (Zbo p) j k=some r:=by
 refine down _ ?_ ?_
 .intro p h;refine Zb1k _ _ _ _ _ _ ?_;simpa[Zem,Z8p]using h
 .intro k hk ih p h;have h4:=Zd0 (i:=k) (by omega);have hw:w (q.Zp-1)=(n:Int)-1:=by rw[hq];exact Zw (by omega) (by omega)
  have hl:=Znx (a.Vars.take k) a.Vars[k] (by simp;omega);have e7:k<=a.Vars.length:=by omega
  refine Zb1k _ _ _ _ _ _ ?_;rw[Zbo1 _ hk]at h;rcases tf (inR a.Vars[k] 0 ((n:Int)-1))with e1|e1
  .simp[e1]at h;simp[hk,h4,hw,e1,<-h]
  .rcases tf (has (a.Vars.take k) a.Vars[k])with e2|e2
   .rw[Z8q p hk]at h;simp only[e1,e2,Ye,Bool.not_false]at h;have ih:=ih _ h;have e0:=e1;simp[inR]at e0;have e6:=Z0i p (v:=a.Vars[k]) (by simp[inR];omega);have e8:¬a.Vars[k]<0:=by omega
    simp at ih;simp[hk,h4,hw,e1,e2,hl,e0,e6,e7,e8,ih]
   .simp[e1,e2]at h;simp[hk,h4,hw,e1,e2,hl,e7,<-h]
theorem Zy{x a b:Int}:inR x a b=true↔a<=x/\x<=b:=by simp[inR]
theorem ft(b:Bool):b=true\/b=false:=by cases b<;>simp
def vR(r:Za):Bool:=inR r.Den 1 2147483647 && inR r.Num (-2147483647) 2147483647 && decide (Int.gcd r.Num r.Den=1)
def nR(r:Za):Za:=⟨-r.Num,r.Den⟩
def r0:Za:=⟨0,0⟩
def mkP(n d:Int):Option Za:=if vR ⟨n.tdiv (Int.gcd n d),d.tdiv (Int.gcd n d)⟩then some ⟨n.tdiv (Int.gcd n d),d.tdiv (Int.gcd n d)⟩else none
def mkR(n d:Int):Option Za:=if d=0 then none else if d<0 then mkP (-n) (-d)else mkP n d
def addR(a b:Za):Option Za:=if vR a && vR b then mkR (a.Num*b.Den+b.Num*a.Den) (a.Den*b.Den)else none
def subR(a b:Za):Option Za:=if vR a && vR b then mkR (a.Num*b.Den-b.Num*a.Den) (a.Den*b.Den)else none
def mulR(a b:Za):Option Za:=if vR a && vR b then mkR (a.Num*b.Num) (a.Den*b.Den)else none
def divR(a b:Za):Option Za:=if vR a && vR b then mkR (a.Num*b.Den) (a.Den*b.Num)else none
theorem Zev{r:Za}:vR r=true↔(1<=r.Den/\r.Den<=2147483647)/\(-2147483647<=r.Num/\r.Num<=2147483647)/\Int.gcd r.Num r.Den=1:=by
 unfold vR;rw[Yc,Yc,Zy,Zy,decide_eq_true_iff,and_assoc]
theorem Zym(r:Za):vR (nR r)=vR r:=by
 have h:vR (nR r)=true↔vR r=true:=by
  rw[Zev,Zev];simp only[nR,Int.neg_gcd];omega
 rcases ft (vR r)with e|e
 .rw[e];exact h.2 e
 .rw[e];rcases ft (vR (nR r))with f|f
  .rw[h.1 f]at e;cases e
  .exact f
theorem Zb3y(n d:Int):mkP (-n) d=(mkP n d).map nR:=by
 unfold mkP;have e:(⟨(-n).tdiv (Int.gcd (-n) d),d.tdiv (Int.gcd (-n) d)⟩:Za)=nR ⟨n.tdiv (Int.gcd n d),d.tdiv (Int.gcd n d)⟩:=by
  simp[nR,Int.neg_tdiv]
 rw[e,Zym];split<;>rfl
theorem mkR_neg(n d:Int):mkR (-n) d=(mkR n d).map nR:=by
 unfold mkR;split
 .rfl
 split
 .exact Zb3y _ _
 .exact Zb3y _ _
theorem Zb3z(n d:Int):mkR (-n) (-d)=mkR n d:=by
 unfold mkR;by_cases h:d=0
 .rw[if_pos h,if_pos (by omega)]
 rw[if_neg h,if_neg (by omega)];by_cases h:d<0
 .rw[if_pos h,if_neg (by omega)]
 .rw[if_neg h,if_pos (by omega),Int.neg_neg,Int.neg_neg]
theorem mulR_neg(a b:Za):mulR (nR a) b=(mulR a b).map nR:=by
 unfold mulR;rw[Zym];split
 .rw[<-mkR_neg];simp[nR,Int.neg_mul]
 .rfl
theorem Zb30(a b:Za):subR a b=addR a (nR b):=by
 unfold subR addR;rw[Zym];split
 .simp only[nR,Int.neg_mul,Int.sub_eq_add_neg]
 .rfl
theorem mk_ok{n d:Int}{r:Za}(h:mkR n d=some r):vR r=true:=by
 unfold mkR mkP at h;split at h
 .cases h
 split at h<;>(split at h;(cases h;assumption);cases h)
theorem add_ok{a b r:Za}(h:addR a b=some r):vR r=true:=by
 unfold addR at h;split at h
 .exact mk_ok h
 .cases h
theorem sub_ok{a b r:Za}(h:subR a b=some r):vR r=true:=by
 unfold subR at h;split at h
 .exact mk_ok h
 .cases h
theorem mul_ok{a b r:Za}(h:mulR a b=some r):vR r=true:=by
 unfold mulR at h;split at h
 .exact mk_ok h
 .cases h
theorem Zgk{a b r:Za}(h:divR a b=some r):vR r=true:=by
 unfold divR at h;split at h
 .exact mk_ok h
 .cases h
def plI(a b c:Za):Option Za:=if b.Num=0\/c.Num=0 then some a else(mulR b c).bind (addR a)
def leS(a b c:Za):Option Za:=if b.Num=0\/c.Num=0 then some a else(mulR b c).bind (subR a)
theorem pl_le(a b c:Za):plI a (nR b) c=leS a b c:=by
 unfold plI leS;have e:(nR b).Num=0↔b.Num=0:=by simp[nR]
 rw[mulR_neg];by_cases h:b.Num=0\/c.Num=0
 .rw[if_pos h,if_pos (by rw[e];exact h)]
 .rw[if_neg h,if_neg (by rw[e];exact h)]
  cases mulR b c with
  |none=>rfl
  |some x=>show addR a (nR x)=subR a x;rw[Zb30]
theorem Zcso{r:Za}(h:vR r=true):mkP r.Num r.Den=some r:=by
 have g:=(Zev.1 h).2.2;unfold mkP;rw[g];simp only[Ydf,Int.tdiv_one];rw[show(⟨r.Num,r.Den⟩:Za)=r from rfl,if_pos h]
theorem Z5l{r:Za}(h:vR r=true):mkR r.Num r.Den=some r:=by
 have:=(Zev.1 h).1;unfold mkR;rw[if_neg (by omega),if_neg (by omega),Zcso h]
theorem v0:vR ⟨0,1⟩=true:=by decide
theorem v1:vR ⟨1,1⟩=true:=by decide
theorem Zb31{a:Za}(h:vR a=true)(h0:a.Num≠0):∃i,divR ⟨1,1⟩ a=some i/\vR i=true/\((a.Num<0/\i=⟨-a.Den,-a.Num⟩)\/(0<a.Num/\i=⟨a.Den,a.Num⟩)):=by
 have g:=Zev.1 h;unfold divR;rw[v1,h];simp only[Bool.and_self,if_true,Int.one_mul];by_cases hn:a.Num<0
 .have hv:vR (⟨-a.Den,-a.Num⟩:Za)=true:=Zev.2 ⟨by simp only;omega,by simp only;omega,by simp only[Int.neg_gcd,Int.gcd_neg];rw[Int.gcd_comm];exact g.2.2⟩;have e:=Z5l hv;simp only at e;rw[Zb3z]at e;exact⟨_,e,hv,.inl ⟨hn,rfl⟩⟩
 .have hv:vR (⟨a.Den,a.Num⟩:Za)=true:=Zev.2 ⟨by simp only;omega,by simp only;omega,by simp only;rw[Int.gcd_comm];exact g.2.2⟩;exact⟨_,Z5l hv,hv,.inr ⟨by omega,rfl⟩⟩
theorem col_eq{c a i:Za}(hc:vR c=true)(ha:vR a=true)(h0:a.Num≠0)(hi:divR ⟨1,1⟩ a=some i):leS ⟨0,1⟩ c i=(divR c a).map nR:=by
 obtain⟨j,hj,hv,hs⟩:=Zb31 ha h0;obtain rfl:i=j:=Option.some.inj (hi.symm.trans hj);have gc:=Zev.1 hc;have ga:=Zev.1 ha;have hd:divR c a=mulR c i:=by
  unfold divR mulR;rw[hc,ha,hv];simp only[Bool.and_self,if_true];rcases hs with⟨_,rfl⟩|⟨_,rfl⟩
  .rw[<-Zb3z];simp only[Int.mul_neg]
  .rfl
 rw[hd];unfold leS;have hin:i.Num≠0:=by
  rcases hs with⟨_,rfl⟩|⟨_,rfl⟩<;>simp only<;>omega
 by_cases hcn:c.Num=0
 .rw[if_pos (.inl hcn)];have hid:=(Zev.1 hv).1;have h1:c.Den=1:=by have:=gc.2.2;rw[hcn,Int.gcd_zero_left]at this;omega
  unfold mulR;rw[hc,hv];simp only[Bool.and_self,if_true];rw[hcn,h1,Int.zero_mul,Int.one_mul];unfold mkR mkP;rw[if_neg (by omega),if_neg (by omega)];have e:(⟨(0:Int).tdiv (Int.gcd 0 i.Den),i.Den.tdiv (Int.gcd 0 i.Den)⟩:Za)=⟨0,1⟩:=by
   rw[Int.gcd_zero_left]
   have:(i.Den.natAbs:Int)=i.Den:=by omega
   rw[this,Int.zero_tdiv,Int.tdiv_self (by omega)]
  rw[e,v0];rfl
 .rw[if_neg (by simp[hcn,hin])]
  cases hm:mulR c i with
  |none=>rfl
  |some x =>
   have hx:=mul_ok hm;show subR ⟨0,1⟩ x=some (nR x);rw[Zb30];unfold addR;rw[v0,Zym,hx];simp only[Bool.and_self,if_true,Int.zero_mul,Int.zero_add,Int.mul_one,Int.one_mul];exact Z5l (by rw[Zym];exact hx)
theorem mkR_zero{d:Int}(h:1<=d):mkR 0 d=some ⟨0,1⟩:=by
 have hg:(Int.gcd 0 d:Int)=d:=by
  rw[Int.gcd_zero_left];omega
 unfold mkR;rw[if_neg (by omega),if_neg (by omega)];unfold mkP;rw[hg,Int.zero_tdiv,Int.tdiv_self (by omega),if_pos v0]
theorem Zcsp{b c:Za}(hb:vR b=true)(hc:vR c=true)(h:b.Num=0\/c.Num=0):mulR b c=some ⟨0,1⟩:=by
 unfold mulR;rw[hb,hc,if_pos (by rfl)];have e:b.Num*c.Num=0:=by rcases h with h|h<;>rw[h]<;>simp
 rw[e];have h1:=(Zev.1 hb).1.1;have h2:=(Zev.1 hc).1.1;exact mkR_zero (by have:=Int.mul_le_mul h1 h2 (by omega) (by omega);simpa using this)
theorem Zcsq{a:Za}(h:vR a=true):addR a ⟨0,1⟩=some a:=by
 unfold addR;rw[h,v0,if_pos (by rfl)];have e:a.Num*1+0*a.Den=a.Num:=by omega
 have e2:a.Den*1=a.Den:=by omega
 show mkR (a.Num*1+0*a.Den) (a.Den*1)=some a;rw[e,e2,Z5l h]
theorem pl_full{a b c:Za}(ha:vR a=true)(hb:vR b=true)(hc:vR c=true):plI a b c=(mulR b c).bind (addR a):=by
 unfold plI;split
 .rename_i h;rw[Zcsp hb hc h];exact(Zcsq ha).symm
 .rfl
def celI(k j:Nat)(x c a p:Za):Option Za:=if k=j then(divR c a).map nR else plI x (nR c) p
def celS(k j:Nat)(x c p:Za):Option Za:=leS (if k=j then⟨0,1⟩else x) c p
theorem cel_eq{k j:Nat}{x c a p:Za}(hc:vR c=true)(ha:vR a=true)(h0:a.Num≠0)(hp:k=j->divR ⟨1,1⟩ a=some p):celI k j x c a p=celS k j x c p:=by
 unfold celI celS;by_cases h:k=j
 .rw[if_pos h,if_pos h];exact(col_eq hc ha h0 (hp h)).symm
 .rw[if_neg h,if_neg h];exact pl_le x c p
theorem Zb32{l:List Int}{i:Nat}(h:i<l.length)(a:Int):a∈l.set i a:=by
 rw[List.mem_iff_getElem];exact⟨i,by rw[Y9];exact h,by simp⟩
theorem Zb33{l:List Int}{i:Nat}{a x:Int}(h:x∈l)(h':∀hi:i<l.length,x≠l[i]):x∈l.set i a:=by
 obtain⟨p,hp,rfl⟩:=List.mem_iff_getElem.1 h;rw[List.mem_iff_getElem];refine⟨p,by rw[Y9];exact hp,?_⟩;rw[List.getElem_set,if_neg];rintro rfl;exact h' hp rfl
theorem swap_mem{B F:List Int}{r c:Nat}(hr:r<B.length)(hc:c<F.length)(x:Int):x∈B.set r F[c]++F.set c B[r]↔x∈B++F:=by
 simp only[Yi];constructor
 .rintro(h|h)
  .rcases Ycd h with h|h
   .exact .inl h
   .exact .inr (h▸Yb hc)
  .rcases Ycd h with h|h
   .exact .inr h
   .exact .inl (h▸Yb hr)
 .rintro(h|h)
  .by_cases e:x=B[r]
   .rw[e];exact .inr (Zb32 hc _)
   .exact .inl (Zb33 h λ_=>e)
  .by_cases e:x=F[c]
   .rw[e];exact .inl (Zb32 hr _)
   .exact .inr (Zb33 h λ_=>e)
def allS(l:List (Option Za)):Bool:=l.all Option.isSome
def vals(l:List (Option Za)):List Za:=l.map λo=>o.getD r0
theorem Zcsr(l k:List (Option Za)):allS (l++k)=(allS l && allS k):=by simp[allS]
theorem Zcss(l k:List (Option Za)):vals (l++k)=vals l++vals k:=by simp[vals]
theorem Zbjp{l:List (Option Za)}(h:allS l=true)(hv:∀o∈l,∀r,o=some r->vR r=true):∀r∈vals l,vR r=true:=by
 intro r hr;obtain⟨o,ho,rfl⟩:=Yr.1 hr;have:=Yn.1 h o ho
 cases o with
 |none=>cases this
 |some x=>exact hv _ ho x rfl
theorem Zb34{n d:Int}{r:Za}(hd:0<d)(h:mkP n d=some r):r.Num*d=n*r.Den:=by
 unfold mkP at h;split at h
 .cases h;have hg:(Int.gcd n d:Int) ∣ n:=Int.gcd_dvd_left ..;have hg2:(Int.gcd n d:Int) ∣ d:=Int.gcd_dvd_right ..;obtain⟨x,hx⟩:=hg;obtain⟨y,hy⟩:=hg2;have hpos:(0:Int)<Int.gcd n d:=by
   have:Int.gcd n d≠0:=by intro h0;rw[Int.gcd_eq_zero_iff]at h0;omega
   omega
  generalize hG:(Int.gcd n d:Int)=G at *
  have e1:n.tdiv G=x:=by rw[hx,Int.mul_tdiv_cancel_left _ (by omega)]
  have e2:d.tdiv G=y:=by rw[hy,Int.mul_tdiv_cancel_left _ (by omega)]
  show n.tdiv G*d=n*d.tdiv G;rw[e1,e2,hx,hy];rw[Int.mul_comm G x,Int.mul_assoc]
 .cases h
theorem Z5m{n d:Int}{r:Za}(h:mkR n d=some r):r.Num*d=n*r.Den:=by
 unfold mkR at h;split at h
 .cases h
 split at h
 .have:=Zb34 (by omega) h;rw[Int.mul_neg,Int.neg_mul]at this;exact Int.neg_inj.1 this
 .exact Zb34 (by omega) h
theorem Zcj{r:Za}(h:vR r=true):0<r.Den:=by have:=(Zev.1 h).1.1;omega
theorem add_val{a b r:Za}(h:addR a b=some r):r.Num*(a.Den*b.Den)=(a.Num*b.Den+b.Num*a.Den)*r.Den:=by
 unfold addR at h;split at h
 .exact Z5m h
 .cases h
theorem Zb35{a b r:Za}(h:subR a b=some r):r.Num*(a.Den*b.Den)=(a.Num*b.Den-b.Num*a.Den)*r.Den:=by
 unfold subR at h;split at h
 .exact Z5m h
 .cases h
theorem Zbjq{a b r:Za}(h:mulR a b=some r):r.Num*(a.Den*b.Den)=(a.Num*b.Num)*r.Den:=by
 unfold mulR at h;split at h
 .exact Z5m h
 .cases h
theorem Zb36{a b r:Za}(h:divR a b=some r):r.Num*(a.Den*b.Num)=(a.Num*b.Den)*r.Den:=by
 unfold divR at h;split at h
 .exact Z5m h
 .cases h
theorem Zr2{a b r:Za}:(addR a b=some r\/subR a b=some r\/mulR a b=some r\/divR a b=some r)->vR a=true/\vR b=true:=by
 intro h;rcases h with h|h|h|h
 .unfold addR at h;split at h
  .rename_i e;simpa using e
  .cases h
 .unfold subR at h;split at h
  .rename_i e;simpa using e
  .cases h
 .unfold mulR at h;split at h
  .rename_i e;simpa using e
  .cases h
 .unfold divR at h;split at h
  .rename_i e;simpa using e
  .cases h
def leQ(a b:Za):Prop:=a.Num*b.Den<=b.Num*a.Den
theorem Zi6{x y:Int}(hy:0<y)(h:0<=x*y):0<=x:=by
 rcases Int.lt_or_le x 0 with hx|hx
 .have:=Int.mul_neg_of_neg_of_pos hx hy;omega
 .exact hx
theorem Zcst{a b c q y:Za}(ha:0<=a.Num)(hb:0<b.Num)(hq:divR a b=some q)(hc:vR c=true)(cc:leQ c q)(h:leS a b c=some y):0<=y.Num:=by
 obtain⟨va,vb⟩:=Zr2 (.inr (.inr (.inr hq)));have vq:=Zgk hq;unfold leS at h;split at h
 .cases h;exact ha
 .cases hx:mulR b c with
  |none=>rw[hx]at h;cases h
  |some x =>
   rw[hx]at h;have h:subR a x=some y:=h;have vx:=mul_ok hx;have vy:=sub_ok h;have e1:=Zb35 h;have e2:=Zbjq hx;have e3:=Zb36 hq;have pa:=Zcj va;have pb:=Zcj vb;have pc:=Zcj hc;have pq:=Zcj vq;have px:=Zcj vx;have py:=Zcj vy;unfold leQ at cc;have k1:0<=(a.Num*(b.Den*c.Den)-b.Num*c.Num*a.Den)*q.Den:=by
    have m:=Int.mul_le_mul_of_nonneg_left cc (show 0<=b.Num*a.Den from Int.mul_nonneg (by omega) (by omega))
    have:(a.Num*(b.Den*c.Den)-b.Num*c.Num*a.Den)*q.Den=b.Num*a.Den*(q.Num*c.Den)-b.Num*a.Den*(c.Num*q.Den):=by grind
    omega
   have k2:=Zi6 pq k1;have k3:0<=(a.Num*x.Den-x.Num*a.Den)*(b.Den*c.Den):=by
    have:(a.Num*x.Den-x.Num*a.Den)*(b.Den*c.Den)=(a.Num*(b.Den*c.Den)-b.Num*c.Num*a.Den)*x.Den:=by grind
    rw[this];exact Int.mul_nonneg k2 (by omega)
   have k4:=Zi6 (Int.mul_pos pb pc) k3;have k5:0<=y.Num*(a.Den*x.Den):=by rw[e1];exact Int.mul_nonneg k4 (by omega)
   exact Zi6 (Int.mul_pos pa px) k5
theorem Zcsu{a b c y:Za}(ha:0<=a.Num)(hb:b.Num<=0)(hc:0<=c.Num)(h:leS a b c=some y):0<=y.Num:=by
 unfold leS at h;split at h
 .cases h;exact ha
 .cases hx:mulR b c with
  |none=>rw[hx]at h;cases h
  |some x =>
   rw[hx]at h;have h:subR a x=some y:=h;obtain⟨va,vx⟩:=Zr2 (.inr (.inl h));obtain⟨vb,vc⟩:=Zr2 (.inr (.inr (.inl hx)));have e1:=Zb35 h;have e2:=Zbjq hx;have pa:=Zcj va;have pb:=Zcj vb;have pc:=Zcj vc;have px:=Zcj vx;have py:=Zcj (sub_ok h);have k0:0<=(-x.Num)*(b.Den*c.Den):=by
    have:(-x.Num)*(b.Den*c.Den)=(-b.Num)*c.Num*x.Den:=by grind
    rw[this];exact Int.mul_nonneg (Int.mul_nonneg (by omega) hc) (by omega)
   have k1:=Zi6 (Int.mul_pos pb pc) k0;have k2:0<=a.Num*x.Den-x.Num*a.Den:=by
    have p:=Int.mul_nonneg ha (show 0<=x.Den by omega);have q:=Int.mul_nonneg k1 (show 0<=a.Den by omega);rw[Int.neg_mul]at q;omega
   have k5:0<=y.Num*(a.Den*x.Den):=by rw[e1];exact Int.mul_nonneg k2 (by omega)
   exact Zi6 (Int.mul_pos pa px) k5
theorem Zcsv{a b q:Za}(ha:0<=a.Num)(hb:0<b.Num)(h:divR a b=some q):0<=q.Num:=by
 obtain⟨va,vb⟩:=Zr2 (.inr (.inr (.inr h)));have e:=Zb36 h;have pa:=Zcj va;have pb:=Zcj vb;have pq:=Zcj (Zgk h);refine Zi6 (Int.mul_pos pa hb) ?_;rw[e];exact Int.mul_nonneg (Int.mul_nonneg ha (by omega)) (by omega)
theorem Zcsw{a b c y:Za}(ha:0<=a.Num)(hb:0<=b.Num)(hc:0<=c.Num)(h:plI a b c=some y):0<=y.Num:=by
 unfold plI at h;split at h
 .cases h;exact ha
 .cases hx:mulR b c with
  |none=>rw[hx]at h;cases h
  |some x =>
   rw[hx]at h;have h:addR a x=some y:=h;obtain⟨va,vx⟩:=Zr2 (.inl h);obtain⟨vb,vc⟩:=Zr2 (.inr (.inr (.inl hx)));have e1:=add_val h;have e2:=Zbjq hx;have pa:=Zcj va;have px:=Zcj vx;have py:=Zcj (add_ok h);have pb:=Zcj vb;have pc:=Zcj vc;have k1:0<=x.Num:=Zi6 (Int.mul_pos pb pc) (by rw[e2];exact Int.mul_nonneg (Int.mul_nonneg hb hc) (by omega));have k5:0<=y.Num*(a.Den*x.Den):=by
    rw[e1];exact Int.mul_nonneg (by have p:=Int.mul_nonneg ha (show 0<=x.Den by omega);have q:=Int.mul_nonneg k1 (show 0<=a.Den by omega);omega) (by omega)
   exact Zi6 (Int.mul_pos pa px) k5
def putD(x:Int):List Int->List Int
 |[]=>[x]
 |y::ys=>if y<x/\∀z∈ys,z<x then x::y::ys else y::putD x ys
theorem Z5n(x:Int):∀l,(putD x l).Perm (x::l)
 |[]=>.refl _
 |y::ys=>by
  unfold putD;split
  .exact .refl _
  .exact((Z5n x ys).cons y).trans (.swap x y ys)
theorem putD_mem{x z:Int}{l:List Int}:z∈putD x l↔z=x\/z∈l:=by
 rw[(Z5n x l).mem_iff,Yx]
theorem Zb37{x:Int}:∀{l:List Int},l.Pairwise (· >= ·)->(putD x l).Pairwise (· >= ·)
 |[],_=>by simp[putD]
 |y::ys,h=>by
  rw[Ybm]at h;unfold putD;split
  .rename_i c;rw[Ybm,Ybm];refine⟨λz hz=>?_,h⟩;rcases Yx.1 hz with rfl|hz
   .exact Int.le_of_lt c.1
   .exact Int.le_of_lt (c.2 z hz)
  .rename_i c;rw[Ybm];refine⟨λz hz=>?_,Zb37 h.2⟩;rcases putD_mem.1 hz with rfl|hz
   .show z<=y;rcases Int.lt_or_le y z with h1|h1
    .exact absurd ⟨h1,λt ht=>Int.lt_of_le_of_lt (h.1 t ht) h1⟩ c
    .exact h1
   .exact h.1 z hz
def dwn(l:List Int):List Int:=l.foldl (λout x=>putD x out) []
theorem Zb38:∀(l out:List Int),out.Pairwise (· >= ·)->(l.foldl (λout x=>putD x out) out).Pairwise (· >= ·)/\(l.foldl (λout x=>putD x out) out).Perm (l++out)
 |[],out,h=>⟨h,.refl _⟩
 |x::l,out,h=>by
  obtain⟨h1,h2⟩:=Zb38 l (putD x out) (Zb37 h);refine⟨h1,h2.trans ?_⟩;exact((Z5n x out).append_left l).trans List.perm_middle
theorem uniqD:∀{a b:List Int},a.Pairwise (· >= ·)->b.Pairwise (· >= ·)->a.Perm b->a=b
 |[],b,_,_,h=>h.symm.eq_nil.symm
 |x::a,[],_,_,h=>absurd h.eq_nil (by simp)
 |x::a,y::b,ha,hb,h=>by
  have e:x=y:=by
   have h1:x∈y::b:=h.mem_iff.1 (.head _);have h2:y∈x::a:=h.mem_iff.2 (.head _);rw[Ybm]at ha hb;have q1:x<=y:=by rcases Yx.1 h1 with h1|h1;exact Int.le_of_eq h1;exact hb.1 x h1
   have q2:y<=x:=by rcases Yx.1 h2 with h2|h2;exact Int.le_of_eq h2;exact ha.1 y h2
   omega
  subst e;rw[uniqD (Ybm.1 ha).2 (Ybm.1 hb).2 (h.cons_inv)]
theorem dwn_eq(l:List Int):dwn l=(srtI l).reverse:=by
 obtain⟨h1,h2⟩:=Zb38 l [] List.Pairwise.nil;refine uniqD h1 ?_ ?_
 .rw[List.pairwise_reverse];have:=List.pairwise_mergeSort (le:=λx y:Int=>decide (x<=y)) (by intro a b c;simp;omega) (by intro a b;simp;omega) l;exact this.imp λ{a b} h=>by simpa using h
 .rw[Ybl]at h2;exact h2.trans ((Yct l _).symm.trans (List.reverse_perm _).symm)
def prow(row:List Za)(j:Nat):List (Option Za):=(List.range row.length).map λk=>if k=j then divR ⟨1,1⟩ (row.getD j r0)else divR (row.getD k r0) (row.getD j r0)
def rowI(l p:List Za)(a:Za)(j:Nat):List (Option Za):=(List.range l.length).map λk=>celI k j (l.getD k r0) (l.getD j r0) a (p.getD k r0)
def rowS(l p:List Za)(j:Nat):List (Option Za):=(List.range l.length).map λk=>celS k j (l.getD k r0) (l.getD j r0) (p.getD k r0)
theorem prow_at{row:List Za}{j:Nat}(hj:j<row.length)(ha:vR (row.getD j r0)=true)(h0:(row.getD j r0).Num≠0):divR ⟨1,1⟩ (row.getD j r0)=some ((vals (prow row j)).getD j r0):=by
 obtain⟨i,hi,_⟩:=Zb31 ha h0;rw[hi];congr 1;unfold vals prow;rw[List.map_map,Yy,Ybh,List.getElem?_range hj];show i=((if j=j then divR ⟨1,1⟩ (row.getD j r0)else divR (row.getD j r0) (row.getD j r0)):Option Za).getD r0;rw[if_pos rfl,hi];rfl
theorem row_eq{l row:List Za}{j:Nat}(hj:j<row.length)(hc:vR (l.getD j r0)=true)(ha:vR (row.getD j r0)=true)(h0:(row.getD j r0).Num≠0) :
  rowI l (vals (prow row j)) (row.getD j r0) j=rowS l (vals (prow row j)) j:=by
 unfold rowI rowS;refine Ybw λk _=>?_
 refine cel_eq hc ha h0 λe=>?_
 subst e;exact prow_at hj ha h0
def allV(l:List Za):Prop:=∀r∈l,vR r=true
theorem Zgl{l:List Za}(h:allV l){k:Nat}(hk:k<l.length):vR (l.getD k r0)=true:=by
 rw[Yy,Yj hk];exact h _ (Yb hk)
theorem leS_ok{a b c y:Za}(ha:vR a=true)(h:leS a b c=some y):vR y=true:=by
 unfold leS at h;split at h
 .cases h;exact ha
 .cases hx:mulR b c with
  |none=>rw[hx]at h;cases h
  |some x=>rw[hx]at h;exact sub_ok h
theorem plI_ok{a b c y:Za}(ha:vR a=true)(h:plI a b c=some y):vR y=true:=by
 unfold plI at h;split at h
 .cases h;exact ha
 .cases hx:mulR b c with
  |none=>rw[hx]at h;cases h
  |some x=>rw[hx]at h;exact add_ok h
theorem Zb39{l p:List Za}{j:Nat}(hl:allV l)(h:allS (rowS l p j)=true):allV (vals (rowS l p j)):=by
 refine Zbjp h λo ho r e=>?_
 unfold rowS at ho;obtain⟨k,hk,rfl⟩:=Yr.1 ho;have hk:=Ybo.1 hk;unfold celS at e;refine leS_ok ?_ e;split
 .exact v0
 .exact Zgl hl hk
theorem prow_ok{row:List Za}{j:Nat}(h:allS (prow row j)=true):allV (vals (prow row j)):=by
 refine Zbjp h λo ho r e=>?_
 unfold prow at ho;obtain⟨k,_,rfl⟩:=Yr.1 ho;split at e<;>exact Zgk e
theorem Zyn(l p:List Za)(j:Nat):(rowS l p j).length=l.length:=by simp[rowS]
theorem Zbjr(row:List Za)(j:Nat):(prow row j).length=row.length:=by simp[prow]
theorem Zdt(l:List (Option Za)):(vals l).length=l.length:=by simp[vals]
def Zew(d:Zm)(i j:Nat):List (List (Option Za)):=(List.range d.Cells.length).map λr=>if r=i then prow (d.Cells.getD i []) j else rowS (d.Cells.getD r []) (vals (prow (d.Cells.getD i []) j)) j
def limO(d:Zm)(i j:Nat):Option Za:=divR (d.Limits.getD i r0) ((d.Cells.getD i []).getD j r0)
def Zbz(d:Zm)(i j:Nat):List (Option Za):=(List.range d.Limits.length).map λr=>if r=i then limO d i j else leS (d.Limits.getD r r0) ((d.Cells.getD r []).getD j r0) ((limO d i j).getD r0)
def Zcp(d:Zm)(i j:Nat):List (Option Za):=rowS d.Costs (vals (prow (d.Cells.getD i []) j)) j
def valO(d:Zm)(i j:Nat):Option Za:=plI d.Value (d.Costs.getD j r0) ((limO d i j).getD r0)
def okO(d:Zm)(i j:Nat):Bool:=allS (prow (d.Cells.getD i []) j) && (limO d i j).isSome && (Zew d i j).all allS && allS (Zbz d i j) && allS (Zcp d i j) && (valO d i j).isSome
def Zbs(d:Zm)(i j:Nat):Zm :=
 ⟨d.Basic.set i (d.Free.getD j 0),d.Free.set j (d.Basic.getD i 0),(Zew d i j).map vals,vals (Zbz d i j),vals (Zcp d i j),(valO d i j).getD r0⟩
structure Zd5 (d:Zm):Prop where
 m:d.Basic.length<=64
 n:1<=d.Free.length/\d.Free.length<=15
 lc:d.Cells.length=d.Basic.length
 ll:d.Limits.length=d.Basic.length
 lk:d.Costs.length=d.Free.length
 vs:∀v:Nat,v<d.Basic.length+d.Free.length->(v:Int)∈d.Basic++d.Free
 rw':∀r∈d.Cells,r.length=d.Free.length/\allV r
 vl:allV d.Limits
 vk:allV d.Costs
 vv:vR d.Value=true
theorem Zcsx{d:Zm}(h:Zd5 d){i j:Nat}(hi:i<d.Basic.length)(hj:j<d.Free.length)(ok:okO d i j=true):Zd5 (Zbs d i j):=by
 unfold okO at ok;simp only[Yc]at ok;obtain⟨⟨⟨⟨⟨o1,o2⟩,o3⟩,o4⟩,o5⟩,o6⟩:=ok;have hci:i<d.Cells.length:=by rw[h.lc];exact hi
 have cell:∀r,r<d.Cells.length->(d.Cells.getD r []).length=d.Free.length/\allV (d.Cells.getD r []):=by
  intro r hr;rw[Yy,Yj hr];exact h.rw' _ (Yb hr)
 refine⟨by simpa[Zbs]using h.m,by simpa[Zbs]using h.n,by simp[Zbs,Zew,h.lc],by simp[Zbs,vals,Zbz,h.ll],by simp[Zbs,vals,Zcp,rowS,h.lk],?_,?_,?_,Zb39 h.vk o5,?_⟩
 .intro v hv;have hv:v<d.Basic.length+d.Free.length:=by simpa[Zbs]using hv
  have:=h.vs v hv;have e1:d.Free.getD j 0=d.Free[j]:=by rw[Yy,Yj hj];rfl
  have e2:d.Basic.getD i 0=d.Basic[i]:=by rw[Yy,Yj hi];rfl
  show(v:Int)∈d.Basic.set i (d.Free.getD j 0)++d.Free.set j (d.Basic.getD i 0);rw[e1,e2];exact(swap_mem hi hj _).2 this
 .intro r hr;obtain⟨l,hl,rfl⟩:=Yr.1 hr;have hok:=Yn.1 o3 l hl;unfold Zew at hl;obtain⟨k,hk,rfl⟩:=Yr.1 hl;have hk:=Ybo.1 hk;split at hok
  .rename_i e;rw[if_pos e];refine⟨?_,prow_ok o1⟩;rw[Zdt,Zbjr];show _=(d.Free.set j _).length;rw[Y9];exact(cell i hci).1
  .rename_i e;rw[if_neg e];refine⟨?_,Zb39 (cell k hk).2 hok⟩;rw[Zdt,Zyn];show _=(d.Free.set j _).length;rw[Y9];exact(cell k hk).1
 .refine Zbjp o4 λo ho r e=>?_
  unfold Zbz at ho;obtain⟨k,hk,rfl⟩:=Yr.1 ho;have hk:=Ybo.1 hk;split at e
  .exact Zgk e
  .exact leS_ok (Zgl h.vl hk) e
 .show vR ((valO d i j).getD r0)=true
  cases e:valO d i j with
  |none=>rw[e]at o6;cases o6
  |some y=>exact plI_ok h.vv e
theorem Zcsy{a b c:Za}(ha:vR a=true)(hb:vR b=true)(hc:vR c=true)(h1:leQ a b)(h2:leQ b c):leQ a c:=by
 unfold leQ at *
 have pa:=Zcj ha;have pb:=Zcj hb;have pc:=Zcj hc;have k1:=Int.mul_le_mul_of_nonneg_right h1 (show 0<=c.Den by omega);have k2:=Int.mul_le_mul_of_nonneg_right h2 (show 0<=a.Den by omega);have k3:0<=(c.Num*a.Den-a.Num*c.Den)*b.Den:=by
  have:(c.Num*a.Den-a.Num*c.Den)*b.Den=c.Num*b.Den*a.Den-a.Num*b.Den*c.Den:=by grind
  have e:b.Num*a.Den*c.Den=b.Num*c.Den*a.Den:=by grind
  omega
 have:=Zi6 pb k3;omega
theorem leQ_refl(a:Za):leQ a a:=Int.le_refl _
def cmpN(a b:Za):Int:=if vR a && vR b then(if a.Num*b.Den<b.Num*a.Den then -1 else if b.Num*a.Den<a.Num*b.Den then 1 else 0)else 0
theorem cmpN_neg{a b:Za}(h:cmpN a b<0):leQ a b:=by
 unfold cmpN at h;unfold leQ;split at h
 .split at h
  .omega
  .split at h<;>omega
 .omega
theorem Zcsz{a b:Za}(ha:vR a=true)(hb:vR b=true)(h:cmpN a b=0):leQ a b:=by
 unfold cmpN at h;unfold leQ;rw[ha,hb]at h;split at h
 .split at h
  .omega
  .split at h<;>omega
 .rename_i hh;exact absurd rfl hh
theorem cmpN_not{a b:Za}(ha:vR a=true)(hb:vR b=true)(h:¬cmpN a b<0):leQ b a:=by
 unfold cmpN at h;unfold leQ;rw[ha,hb]at h;split at h
 .split at h
  .omega
  .split at h<;>omega
 .rename_i hh;exact absurd rfl hh
def Z5o(l:List Za):Prop:=∀r∈l,0<=r.Num
theorem Zbjs{l:List Za}(h:Z5o l){k:Nat}(hk:k<l.length):0<=(l.getD k r0).Num:=by
 rw[Yy,Yj hk];exact h _ (Yb hk)
theorem Zcs0{d:Zm}(h:Zd5 d)(hl:Z5o d.Limits)(hv:0<=d.Value.Num){i j:Nat}(hi:i<d.Basic.length)(hj:j<d.Free.length)
  (hc:0<(d.Costs.getD j r0).Num) (ha:0<((d.Cells.getD i []).getD j r0).Num)
  (c:∀k,k<d.Basic.length->0<((d.Cells.getD k []).getD j r0).Num->∃q,divR (d.Limits.getD k r0) ((d.Cells.getD k []).getD j r0)=some q/\leQ ((limO d i j).getD r0) q)
  (ok:okO d i j=true):Z5o (Zbs d i j).Limits/\0<=(Zbs d i j).Value.Num:=by
 unfold okO at ok;simp only[Yc]at ok;obtain⟨⟨⟨⟨⟨o1,o2⟩,o3⟩,o4⟩,o5⟩,o6⟩:=ok;have hii:i<d.Limits.length:=by rw[h.ll];exact hi
 cases e:limO d i j with
 |none=>rw[e]at o2;cases o2
 |some lim =>
  have vlim:vR lim=true:=Zgk e;have plim:0<=lim.Num:=Zcsv (Zbjs hl hii) ha e;constructor
  .intro r hr;obtain⟨o,ho,rfl⟩:=Yr.1 hr;have hs:=Yn.1 o4 o ho;unfold Zbz at ho;obtain⟨k,hk,rfl⟩:=Yr.1 ho;have hk:=Ybo.1 hk;by_cases hki:k=i
   .rw[if_pos hki,e];exact plim
   .rw[if_neg hki]at hs|-;rw[e]at hs|-
    cases hy:leS (d.Limits.getD k r0) ((d.Cells.getD k []).getD j r0) ((some lim).getD r0)with
    |none=>rw[hy]at hs;cases hs
    |some y =>
     show 0<=y.Num;by_cases hp:0<((d.Cells.getD k []).getD j r0).Num
     .obtain⟨q,hq,hle⟩:=c k (by rw[<-h.ll];exact hk) hp;rw[e]at hle;exact Zcst (Zbjs hl hk) hp hq vlim hle hy
     .exact Zcsu (Zbjs hl hk) (by omega) plim hy
  .show 0<=((valO d i j).getD r0).Num
   cases hy:valO d i j with
   |none=>rw[hy]at o6;cases o6
   |some y =>
    unfold valO at hy;rw[e]at hy;exact Zcsw hv (by omega) plim hy
def entG(F:List Int):List Za->Nat->Int->Int
 |[],_,best=>best
 |c::cs,k,best=>entG F cs (k+1) (if 0<c.Num/\(best<0\/F.getD k 0<F.getD best.toNat 0)then(k:Int)else best)
def ent(d:Zm):Int:=entG d.Free d.Costs 0 (-1)
theorem Zb4a{F:List Int}{C:List Za}:∀(cs:List Za) (k:Nat) (cc:Int),cs=C.drop k->(cc=-1\/(0<=cc/\cc<C.length/\0<(C.getD cc.toNat r0).Num))->
  entG F cs k cc=-1\/(0<=entG F cs k cc/\entG F cs k cc<C.length/\0<(C.getD (entG F cs k cc).toNat r0).Num)
 |[],_,_,_,h=>h
 |c::cs,k,cc,e,h=>by
  have hk:k<C.length:=by
   rcases Ybi k C.length with h1|h1
   .exact h1
   .rw[Ybd h1]at e;cases e
  rw[Yd hk]at e;obtain⟨rfl,e2⟩:=List.cons.inj e;unfold entG;refine Zb4a cs (k+1) _ e2 ?_;split
  .rename_i hc;refine .inr ⟨by omega,by omega,?_⟩;rw[Yh,Yy,Yj hk];exact hc.1
  .exact h
theorem Z5p(d:Zm):ent d=-1\/(0<=ent d/\ent d<d.Costs.length/\0<(d.Costs.getD (ent d).toNat r0).Num):=Zb4a d.Costs 0 (-1) rfl (.inl rfl)
def Zbk(d:Zm)(i j:Nat):Za:=(d.Cells.getD i []).getD j r0
def lvG(d:Zm)(j:Nat):Nat->Nat->Int->Za->Int
 |0,_,best,_=>best
 |n+1,i,best,least =>
  if(Zbk d i j).Num<=0 then lvG d j n (i+1) best least
  else match divR (d.Limits.getD i r0) (Zbk d i j)with
   |none=>-1
   |some q=>if best<0\/cmpN q least<0\/(cmpN q least=0/\d.Basic.getD i 0<d.Basic.getD best.toNat 0)then lvG d j n (i+1) i q else lvG d j n (i+1) best least
def lea(d:Zm)(j:Nat):Int:=lvG d j d.Basic.length 0 (-1) r0
def onD(d:Zm)(j k:Nat):Prop:=0<(Zbk d k j).Num
def LvInv(d:Zm)(j i:Nat)(c:Int)(cc:Za):Prop :=
 (c=-1/\∀k,k<i->¬onD d j k)\/(0<=c/\c<i/\onD d j c.toNat/\divR (d.Limits.getD c.toNat r0) (Zbk d c.toNat j)=some cc/\∀k,k<i->onD d j k->∃q,divR (d.Limits.getD k r0) (Zbk d k j)=some q/\leQ cc q)
theorem Z5q(d:Zm)(j:Nat):∀(n i:Nat) (cc:Int) (c:Za),LvInv d j i cc c->lvG d j n i cc c=-1\/∃l,LvInv d j (i+n) (lvG d j n i cc c) l/\0<=lvG d j n i cc c
 |0,i,cc,c,h=>by
  rcases h with h|h
  .exact .inl h.1
  .exact .inr ⟨c,.inr h,h.1⟩
 |n+1,i,cc,c,h=>by
  unfold lvG;split
  .rename_i h0;rw[show i+(n+1)=(i+1)+n by omega];refine Z5q d j n (i+1) cc c ?_;have hno:¬onD d j i:=by unfold onD;omega
   rcases h with h|⟨h1,h2,h3,h4,h5⟩
   .refine .inl ⟨h.1,λk hk=>?_⟩;rcases Ybi k i with hl|hl
    .exact h.2 k hl
    .have:k=i:=by omega
     subst this;exact hno
   .refine .inr ⟨h1,by omega,h3,h4,λk hk hon=>?_⟩;rcases Ybi k i with hl|hl
    .exact h5 k hl hon
    .have:k=i:=by omega
     subst this;exact absurd hon hno
  .rename_i h0;have hon:onD d j i:=by unfold onD;omega
   split
   .exact .inl rfl
   .rename_i q hq;have vq:=Zgk hq;rw[show i+(n+1)=(i+1)+n by omega];split
    .rename_i hc;refine Z5q d j n (i+1) i q (.inr ⟨by omega,by omega,by rw[Yh];exact hon,by rw[Yh];exact hq,λk hk hk2=>?_⟩);rcases Ybi k i with hl|hl
     .rcases h with h|⟨h1,h2,h3,h4,h5⟩
      .exact absurd hk2 (h.2 k hl)
      .have vl:=Zgk h4;have hle:leQ q c:=by
        rcases hc with hc|hc|hc
        .omega
        .exact cmpN_neg hc
        .exact Zcsz vq vl hc.1
       obtain⟨q',hq',hle'⟩:=h5 k hl hk2;exact⟨q',hq',Zcsy vq vl (Zgk hq') hle hle'⟩
     .have:k=i:=by omega
      subst this;exact⟨q,hq,leQ_refl q⟩
    .rename_i hc;refine Z5q d j n (i+1) cc c ?_;rcases h with h|⟨h1,h2,h3,h4,h5⟩
     .exact absurd (.inl (by omega)) hc
     .have vl:=Zgk h4;refine .inr ⟨h1,by omega,h3,h4,λk hk hk2=>?_⟩;rcases Ybi k i with hl|hl
      .exact h5 k hl hk2
      .have:k=i:=by omega
       subst this;exact⟨q,hq,cmpN_not vq vl λhx=>hc (.inr (.inl hx))⟩
theorem lea_ok(d:Zm)(j:Nat):lea d j=-1\/(0<=lea d j/\lea d j<d.Basic.length/\onD d j (lea d j).toNat/\∀k,k<d.Basic.length->onD d j k->∃q,divR (d.Limits.getD k r0) (Zbk d k j)=some q/\leQ ((limO d (lea d j).toNat j).getD r0) q):=by
 rcases Z5q d j d.Basic.length 0 (-1) r0 (.inl ⟨rfl,λk hk=>absurd hk (Nat.not_lt_zero k)⟩)with h|⟨l,h,h0⟩
 .exact .inl h
 .rw[Yu]at h;rcases h with h|⟨h1,h2,h3,h4,h5⟩
  .exact .inl h.1
  .refine .inr ⟨h1,h2,h3,λk hk hon=>?_⟩;have e:limO d (lea d j).toNat j=some l:=h4;rw[e];exact h5 k hk hon
def Zfv:Nat->Zm->Option Zm
 |0,_=>none
 |f+1,d=>if ent d<0 then some d else if lea d (ent d).toNat<0 then none else if okO d (lea d (ent d).toNat).toNat (ent d).toNat then Zfv f (Zbs d (lea d (ent d).toNat).toNat (ent d).toNat)else none
structure Good (d:Zm):Prop where
 v:Zd5 d
 l:Z5o d.Limits
 x:0<=d.Value.Num
theorem Zb4b{d:Zm}(h:Good d)(h1:¬ent d<0)(h2:¬lea d (ent d).toNat<0)(ok:okO d (lea d (ent d).toNat).toNat (ent d).toNat=true):Good (Zbs d (lea d (ent d).toNat).toNat (ent d).toNat):=by
 have hk:=h.v.lk;rcases Z5p d with e|⟨e1,e2,e3⟩
 .omega
 rcases lea_ok d (ent d).toNat with l|⟨l1,l2,l3,l4⟩
 .omega
 have:=Zcs0 h.v h.l h.x (i:=(lea d (ent d).toNat).toNat) (j:=(ent d).toNat) (by omega) (by omega) e3 l3 l4 ok;exact⟨Zcsx h.v (by omega) (by omega) ok,this.1,this.2⟩
theorem Zb4c:∀(f:Nat) {d d':Zm},Good d->Zfv f d=some d'->Good d'
 |0,d,d',_,h=>by cases h
 |f+1,d,d',hd,h=>by
  unfold Zfv at h;split at h
  .cases h;exact hd
  rename_i h1;split at h
  .cases h
  rename_i h2;split at h
  .rename_i h3;exact Zb4c f (Zb4b hd h1 h2 h3) h
  .cases h
theorem pigeon:∀(k:List Int) {l:List Int},k.Nodup->(∀x∈k,x∈l)->l.length<=k.length->∀x∈l,x∈k
 |[],l,_,_,hl,x,hx=>by
  have:l=[]:=List.length_eq_zero_iff.1 (by simpa using hl)
  subst this;cases hx
 |a::k,l,hn,hs,hl,x,hx=>by
  have hn':=Yb6.1 hn;have ha:a∈l:=hs a (by simp);by_cases e:x=a
  .simp[e]
  .have hx':x∈l.erase a:=(List.mem_erase_of_ne e).2 hx
   have:=pigeon k hn'.2 (l:=l.erase a) (λy hy=>by
    have hya:y≠a:=λh=>hn'.1 (h▸hy)
    exact(List.mem_erase_of_ne hya).2 (hs y (by simp[hy]))) (by
    rw[List.length_erase_of_mem ha];simp only[Yw]at hl;omega) x hx'
   simp[this]
theorem Z5r{d:Zm}(h:Zd5 d):∀x∈d.Basic++d.Free,0<=x/\x<d.Basic.length+d.Free.length:=by
 intro x hx
 have:=pigeon ((List.range (d.Basic.length+d.Free.length)).map λn:Nat=>(n:Int)) (l:=d.Basic++d.Free) (by
  refine List.pairwise_map.2 (List.nodup_range.imp ?_)
  intro a b hab h;exact hab (by omega)) (by
  intro y hy;obtain⟨n,hn,rfl⟩:=Yr.1 hy
  exact h.vs n (Ybo.1 hn)) (by simp) x hx
 obtain⟨n,hn,rfl⟩:=Yr.1 this;have:=Ybo.1 hn;omega
def atM(k B:Int):Nat->Int->Bool
 |0,_=>true
 |n+1,p=>if B<p*k then false else atM k B n (p*k)
theorem Zb4d:∀(n:Nat) (e i:Nat),i<=e->atM 2 ((2:Int) ^ e) n ((2:Int) ^ i)=decide (i+n<=e)
 |0,e,i,h=>by simp[atM,h]
 |n+1,e,i,h=>by
  unfold atM;have hp:(2:Int) ^ i*2=(2:Int) ^ (i+1):=(Int.pow_succ 2 i).symm;rw[hp];by_cases c:i+1<=e
  .have:¬(2:Int) ^ e<(2:Int) ^ (i+1):=by
    rw[Ym]
    exact_mod_cast Nat.pow_le_pow_right (by decide:0<2) c
   rw[if_neg this,Zb4d n e (i+1) c];simp;omega
  .have hi:i=e:=by omega
   subst hi
   have:(2:Int) ^ i<(2:Int) ^ (i+1):=by
    exact_mod_cast Nat.pow_lt_pow_right (by decide:1<2) (Ybx i)
   rw[if_pos this];simp
def pfG(B:Int)(c:Nat):Nat->Int->Int
 |0,k=>k
 |f+1,k=>if atM (k+1) B c 1 then pfG B c f (k+1)else k
def Zgm(r:Za):Int:=if r.Num.tdiv r.Den*r.Den<r.Num then r.Num.tdiv r.Den+1 else r.Num.tdiv r.Den
def twoP(b:Int):Int:=if 12<=b then 4096 else 2 ^ b.toNat
def pfl(r:Za):Int:=if 40<r.Num then twoP (Zgm r)else pfG (2 ^ r.Num.toNat) r.Den.toNat 4095 1
theorem pfl_one{r:Za}(h0:0<=r.Num)(c:¬40<r.Num)(h:r.Num<r.Den):pfl r=1:=by
 unfold pfl;rw[if_neg c];have:=Zb4d r.Den.toNat r.Num.toNat 0 (Ya _);rw[Int.pow_zero]at this;unfold pfG;rw[show(1:Int)+1=2 from rfl,this,if_neg (by simp;omega)]
theorem pfG_ge(B:Int)(c:Nat):∀(f:Nat) (k:Int),k<=pfG B c f k/\pfG B c f k<=k+f
 |0,k=>⟨Int.le_refl _,by simp[pfG]⟩
 |f+1,k=>by
  unfold pfG;have:=pfG_ge B c f (k+1);split
  .omega
  .omega
theorem pfl_pos(r:Za):0<=pfl r:=by
 unfold pfl;split
 .unfold twoP;split
  .decide
  .exact Int.pow_nonneg (by decide)
 .have:=pfG_ge (2 ^ r.Num.toNat) r.Den.toNat 4095 1;omega
def Zcq(v:Int):List Int->List Int->List Int
 |[],row=>row
 |s::ss,row=>Zcq v ss (if 0<s then row.set (s-1).toNat v else row)
def Zg0(v:Int):List Int->List Int->List Int
 |[],row=>row
 |s::ss,row=>Zg0 v ss (if 0<s then row.set (s-1).toNat (row.getD (s-1).toNat 0+v)else row)
def rowE(full:Nat)(cc c:List Int):List Int:=Zcq (-1) c (Zcq 1 cc (List.replicate full 0))
def rowK(full:Nat)(cc c:List Int):List Int:=Zg0 (-1) c (Zg0 1 cc (List.replicate full 0))
theorem Zbjt(v:Int):∀(ss row:List Int),(Zcq v ss row).length=row.length
 |[],_=>rfl
 |s::ss,row=>by
  unfold Zcq;rw[Zbjt v ss];split<;>simp
def dis(ss:List Int):Prop:=(ss.filter λs=>decide (0<s)).Nodup
theorem Z5s(v:Int):∀(ss row:List Int),dis ss->(∀s∈ss,0<s->row.getD (s-1).toNat 0=0)->Zg0 v ss row=Zcq v ss row
 |[],_,_,_=>rfl
 |s::ss,row,hd,h0=>by
  unfold Zg0 Zcq;by_cases hs:0<s
  .rw[if_pos hs,if_pos hs,h0 s (by simp) hs,Int.zero_add];unfold dis at hd;rw[Yc6 (by simpa using hs),Yb6]at hd;refine Z5s v ss _ hd.2 λt ht ht0=>?_
   have hne:s≠t:=by
    rintro rfl;exact hd.1 (Ycj.2 ⟨ht,by simpa using ht0⟩)
   have:=h0 t (by simp[ht]) ht0;rw[Yy]at this|-;rw[List.getElem?_set_ne (by omega)];exact this
  .rw[if_neg hs,if_neg hs];unfold dis at hd;rw[Yc7 (by simpa using hs)]at hd;exact Z5s v ss row hd λt ht=>h0 t (by simp[ht])
theorem Zb4e(v:Int):∀(ss row:List Int) (k:Nat),(∀s∈ss,0<s->(s-1).toNat≠k)->(Zcq v ss row).getD k 0=row.getD k 0
 |[],_,_,_=>rfl
 |s::ss,row,k,h=>by
  unfold Zcq;rw[Zb4e v ss _ k λt ht=>h t (by simp[ht])];split
  .rename_i hs;rw[Yy,Yy,List.getElem?_set_ne (h s (by simp) hs)]
  .rfl
theorem row_same{full:Nat}{plus minus:List Int}(h:dis (plus++minus)):rowK full plus minus=rowE full plus minus:=by
 unfold rowK rowE;unfold dis at h;rw[Ycz,Ybf]at h;have h00:∀k,(List.replicate full (0:Int)).getD k 0=0:=by
  intro k;rw[Yy,List.getElem?_replicate];split<;>rfl
 rw[Z5s 1 plus _ h.1 λs _ _=>h00 _];refine Z5s (-1) minus _ h.2.1 λs hs h0=>?_
 rw[Zb4e,h00];intro t ht ht0 he;refine h.2.2 t (Ycj.2 ⟨ht,by simpa using ht0⟩) s (Ycj.2 ⟨hs,by simpa using h0⟩) (by omega)
def bst(c n:Int):Int:=if c<0\/n<c then n else c
theorem Zb4f{M:Int}(hM:0<=M):∀(l:List Nat) (g:Nat->Int) (b:Int),(∀i∈l,0<=g i/\g i<=M)->b<=M->(l≠[]\/0<=b)->0<=l.foldl (λbest i=>bst best (g i)) b/\l.foldl (λbest i=>bst best (g i)) b<=M
 |[],_,b,_,hb,h=>by
  rcases h with h|h
  .exact absurd rfl h
  .exact⟨h,hb⟩
 |i::l,g,b,hg,hb,h=>by
  have h1:=hg i (by simp);refine Zb4f hM l g (bst b (g i)) (λk hk=>hg k (by simp[hk])) ?_ ?_
  .unfold bst;split<;>omega
  .right;unfold bst;split<;>omega
abbrev In63(x:Int):Prop:=-9223372036854775807<=x/\x<=9223372036854775807
theorem w_in{x:Int}(h:In63 x):w x=x:=Zw (by omega) (by omega)
theorem Zb4g(a b:Int):Int.gcd b (a.tmod b)=Int.gcd a b:=by
 unfold Int.gcd;rw[Int.natAbs_tmod,Nat.gcd_comm,<-Nat.gcd_rec,Nat.gcd_comm]
theorem Zcs1:∀(n:Nat) (a b:Int),b.natAbs<=n->In63 a->In63 b->Zu7 a b=some (I (Int.gcd a b:Int),[]):=by
 intro n
 induction n with
 |zero =>
  intro a b hb ha hb2;refine Zbz8 _ _ _ ?_;obtain rfl:b=0:=by omega
  rw[if_pos rfl,w_in (x:=0-a) ⟨by omega,by omega⟩,Int.gcd_zero_right]
  split<;>(congr 3;omega)
 |succ n ih =>
  intro a b hb ha hb2;refine Zbz8 _ _ _ ?_;by_cases h0:b=0
  .subst h0;rw[if_pos rfl,w_in (x:=0-a) ⟨by omega,by omega⟩,Int.gcd_zero_right];split<;>(congr 3;omega)
  .rw[if_neg h0];have h1:(a.tmod b).natAbs<b.natAbs:=by rw[Int.natAbs_tmod];exact Nat.mod_lt _ (by omega)
   refine⟨h0,?_⟩;rw[ih b (a.tmod b) (by omega) hb2 ⟨by omega,by omega⟩,Zb4g]
theorem Zbju{a b:Int}(ha:In63 a)(hb:In63 b):Zgw a b=some (I (Int.gcd a b:Int),[]):=Zcnx _ _ _ (Zcs1 _ a b (Yk _) ha hb)
theorem Zcs2:∀(n:Nat) (a b:Int),b.natAbs<=n->0<=a->0<=b->Zxc a b=some (I (Int.gcd a b:Int),[]):=by
 intro n
 induction n with
 |zero =>
  intro a b hb ha hb2;refine Zb2o _ _ _ ?_;obtain rfl:b=0:=by omega
  rw[if_pos rfl,Int.gcd_zero_right]
  congr 3;omega
 |succ n ih =>
  intro a b hb ha hb2;refine Zb2o _ _ _ ?_;by_cases h0:b=0
  .subst h0;rw[if_pos rfl,Int.gcd_zero_right];congr 3;omega
  .rw[if_neg h0];have h1:(a.tmod b).natAbs<b.natAbs:=by rw[Int.natAbs_tmod];exact Nat.mod_lt _ (by omega)
   have h2:0<=a.tmod b:=Int.tmod_nonneg _ ha;refine⟨h0,?_⟩;rw[ih b (a.tmod b) (by omega) hb2 h2,Zb4g]
theorem Zbjv{a b:Int}(ha:0<=a)(hb:0<=b):Zkr a b=some (I (Int.gcd a b:Int),[]):=Zcqy _ _ _ (Zcs2 _ a b (Yk _) ha hb)
theorem x_abs{a:Int}(ha:In63 a):Zkq a=some (I (a.natAbs:Int),[]):=by
 refine Zcqx _ _ ?_;by_cases h:a<0
 .rw[if_pos h,w_in ⟨by omega,by omega⟩];congr 3;omega
 .rw[if_neg h];congr 3;omega
theorem Zgn(r:Za):Zcm r=some (Bo (vR r),[]):=by
 refine Zcny _ _ ⟨_,Zbu _ _ _,?_⟩;unfold vR;rcases tf (inR r.Den 1 2147483647)with e|e
 .rw[e];simp
 have e':=Zy.1 e;rw[e,if_pos rfl];refine⟨_,Zbu _ _ _,?_⟩;rcases tf (inR r.Num (-2147483647) 2147483647)with e2|e2
 .rw[e2];simp
 have e2':=Zy.1 e2;rw[e2,if_pos rfl];refine⟨_,Zbju ⟨by omega,by omega⟩ ⟨by omega,by omega⟩,?_⟩;simp only[Ye];congr 3;rw[decide_eq_decide];omega
theorem Zd6(r:Za):Zcn r=some (Bo (vR r),[]):=by
 refine Zcqz _ _ ⟨_,Z8 _ _ _,?_⟩;unfold vR;rcases tf (inR r.Den 1 2147483647)with e|e
 .rw[e];simp
 have e':=Zy.1 e;rw[e,if_pos rfl];refine⟨_,Z8 _ _ _,?_⟩;rcases tf (inR r.Num (-2147483647) 2147483647)with e2|e2
 .rw[e2];simp
 have e2':=Zy.1 e2;rw[e2,if_pos rfl];refine⟨_,x_abs ⟨by omega,by omega⟩,_,Zbjv (by omega) (by omega),?_⟩;simp only[Ye];congr 3;rw[decide_eq_decide]
 have:Int.gcd (r.Num.natAbs:Int) r.Den=Int.gcd r.Num r.Den:=by unfold Int.gcd;simp
 omega
def oR(o:Option Za):AV×List Blk:=(.tup [.agg ((o.getD r0).c.map .t),Bo o.isSome],[])
theorem Zb4h:oR none=(.tup [.agg [I 0,I 0],Bo false],[]):=rfl
theorem Zla{a b:Int}(h:In63 a):In63 (a.tdiv b):=by
 have h1:(a.tdiv b).natAbs<=a.natAbs:=by rw[Int.natAbs_tdiv];exact Nat.div_le_self _ _
 unfold In63 at *
 omega
theorem Z5t{n d:Int}(hd:d≠0):¬(Int.gcd n d:Int)=0:=by
 intro h
 have:Int.gcd n d=0:=by omega
 rw[Int.gcd_eq_zero_iff]at this;exact hd this.2
theorem Zbjw{n d:Int}(hn:In63 n)(hd:In63 d):Zmo n d=some (oR (mkR n d)):=by
 have hn':In63 (0-n):=⟨by omega,by omega⟩;have hd':In63 (0-d):=⟨by omega,by omega⟩;refine Zcn8 ?_;unfold mkR;by_cases h0:d=0
 .rw[if_pos h0,if_pos h0,Zb4h]
 rw[if_neg h0,if_neg h0,w_in hn',w_in hd']
 have fin:(if d=0-d then some ((AV.tup [.agg [I 0,I 0],Bo false],[]):AV×List Blk)=some (oR (if d<0 then mkP (-n) (-d)else mkP n d))
   else if d<0 then ∃v1,Zgw (0-n) (0-d)=some (I v1,[])/\¬v1=0/\∃v2,Zcm ⟨w ((0-n).tdiv v1),w ((0-d).tdiv v1)⟩=some (Bo v2,[])/\(if v2=true then some (AV.tup [.agg [I (w ((0-n).tdiv v1)),I (w ((0-d).tdiv v1))],Bo true],([]:List Blk))=some (oR (if d<0 then mkP (-n) (-d)else mkP n d))else some (AV.tup [.agg [I 0,I 0],Bo false],([]:List Blk))=some (oR (if d<0 then mkP (-n) (-d)else mkP n d)))
   else ∃v1,Zgw n d=some (I v1,[])/\¬v1=0/\∃v2,Zcm ⟨w (n.tdiv v1),w (d.tdiv v1)⟩=some (Bo v2,[])/\(if v2=true then some (AV.tup [.agg [I (w (n.tdiv v1)),I (w (d.tdiv v1))],Bo true],([]:List Blk))=some (oR (if d<0 then mkP (-n) (-d)else mkP n d))else some (AV.tup [.agg [I 0,I 0],Bo false],([]:List Blk))=some (oR (if d<0 then mkP (-n) (-d)else mkP n d)))):=by
  rw[if_neg (by omega)];by_cases hl:d<0
  .rw[if_pos hl,if_pos hl];refine⟨_,Zbju hn' hd',Z5t (by omega),_,Zgn _,?_⟩;rw[w_in (Zla hn'),w_in (Zla hd'),Int.zero_sub,Int.zero_sub];unfold mkP;rcases tf (vR ⟨(-n).tdiv (Int.gcd (-n) (-d)),(-d).tdiv (Int.gcd (-n) (-d))⟩)with e|e
   .rw[e];rfl
   .rw[e];rfl
  .rw[if_neg hl,if_neg hl];refine⟨_,Zbju hn hd,Z5t (by omega),_,Zgn _,?_⟩;rw[w_in (Zla hn),w_in (Zla hd)];unfold mkP;rcases tf (vR ⟨n.tdiv (Int.gcd n d),d.tdiv (Int.gcd n d)⟩)with e|e
   .rw[e];rfl
   .rw[e];rfl
 by_cases hz:n=0-n
 .rw[if_pos hz,if_pos (by omega)];exact fin
 .rw[if_neg hz];exact fin
theorem Z5u{n d:Int}(hn:In63 n)(hd:In63 d):Zkt n d=some (oR (mkR n d)):=by
 have hn':In63 (0-n):=⟨by omega,by omega⟩;have hd':In63 (0-d):=⟨by omega,by omega⟩;refine Zcra ?_;unfold mkR;by_cases h0:d=0
 .rw[if_pos h0,if_pos h0,Zb4h]
 rw[if_neg h0,if_neg h0,if_neg (by omega),if_neg (by omega),w_in hn',w_in hd'];by_cases hl:d<0
 .rw[if_pos hl,if_pos hl];have eg:Int.gcd ((0-n).natAbs:Int) (0-d)=Int.gcd (-n) (-d):=by unfold Int.gcd;simp
  refine⟨_,x_abs hn',_,Zbjv (by omega) (by omega),by rw[eg];exact Z5t (by omega),_,Zd6 _,?_⟩;rw[eg,w_in (Zla hn'),w_in (Zla hd'),Int.zero_sub,Int.zero_sub];unfold mkP;rcases tf (vR ⟨(-n).tdiv (Int.gcd (-n) (-d)),(-d).tdiv (Int.gcd (-n) (-d))⟩)with e|e
  .rw[e];rfl
  .rw[e];rfl
 .rw[if_neg hl,if_neg hl];have eg:Int.gcd (n.natAbs:Int) d=Int.gcd n d:=by unfold Int.gcd;simp
  refine⟨_,x_abs hn,_,Zbjv (by omega) (by omega),by rw[eg];exact Z5t (by omega),_,Zd6 _,?_⟩;rw[eg,w_in (Zla hn),w_in (Zla hd)];unfold mkP;rcases tf (vR ⟨n.tdiv (Int.gcd n d),d.tdiv (Int.gcd n d)⟩)with e|e
  .rw[e];rfl
  .rw[e];rfl
theorem Zck{x y:Int}(hx:-2147483647<=x/\x<=2147483647)(hy:-2147483647<=y/\y<=2147483647):-4611686014132420609<=x*y/\x*y<=4611686014132420609:=by
 have:=Yb3 (show x.natAbs<=2147483647 by omega) (show y.natAbs<=2147483647 by omega);rw[<-Int.natAbs_mul]at this;omega
theorem Zb1{r:Za}(h:vR r=true):(-2147483647<=r.Num/\r.Num<=2147483647)/\(-2147483647<=r.Den/\r.Den<=2147483647)/\1<=r.Den:=by
 have:=Zev.1 h;omega
section
variable(a b:Za)
theorem Zb4i:Zu8 a b=some (oR (divR a b)):=by
 refine Zcnz _ _ _ ⟨_,Zgn a,?_⟩;unfold divR;rcases tf (vR a)with e|e
 .rw[e];rfl
 rw[e,if_pos rfl];refine⟨_,Zgn b,?_⟩;rcases tf (vR b)with e2|e2
 .rw[e2];rfl
 rw[e2,if_pos rfl];obtain⟨a1,a2,_⟩:=Zb1 e;obtain⟨b1,b2,_⟩:=Zb1 e2;have h1:=Zck a1 b2;have h2:=Zck a2 b1;refine⟨_,_,?_,rfl⟩;rw[w_in ⟨by omega,by omega⟩,w_in ⟨by omega,by omega⟩];exact Zbjw ⟨by omega,by omega⟩ ⟨by omega,by omega⟩
theorem Z5v:Zku a b=some (oR (divR a b)):=by
 refine Zcq3 _ _ _ ⟨_,Zd6 a,?_⟩;unfold divR;rcases tf (vR a)with e|e
 .rw[e];rfl
 rw[e,if_pos rfl];refine⟨_,Zd6 b,?_⟩;rcases tf (vR b)with e2|e2
 .rw[e2];rfl
 rw[e2,if_pos rfl];obtain⟨a1,a2,_⟩:=Zb1 e;obtain⟨b1,b2,_⟩:=Zb1 e2;have h1:=Zck a1 b2;have h2:=Zck a2 b1;by_cases h0:b.Num=0
 .rw[if_pos h0,if_pos (by rfl),h0,Int.mul_zero];rfl
 rw[if_neg h0];refine⟨_,_,?_,rfl⟩;rw[w_in ⟨by omega,by omega⟩,w_in ⟨by omega,by omega⟩];exact Z5u ⟨by omega,by omega⟩ ⟨by omega,by omega⟩
theorem Zcs3:Zva a b=some (oR (mulR a b)):=by
 refine Zcn4 _ _ _ ⟨_,Zgn a,?_⟩;unfold mulR;rcases tf (vR a)with e|e
 .rw[e];rfl
 rw[e,if_pos rfl];refine⟨_,Zgn b,?_⟩;rcases tf (vR b)with e2|e2
 .rw[e2];rfl
 rw[e2,if_pos rfl];obtain⟨a1,a2,_⟩:=Zb1 e;obtain⟨b1,b2,_⟩:=Zb1 e2;have h1:=Zck a1 b1;have h2:=Zck a2 b2;refine⟨_,_,?_,rfl⟩;rw[w_in ⟨by omega,by omega⟩,w_in ⟨by omega,by omega⟩];exact Zbjw ⟨by omega,by omega⟩ ⟨by omega,by omega⟩
theorem Zb4j:Zix a b=some (oR (mulR a b)):=by
 refine Zcq6 _ _ _ ⟨_,Zd6 a,?_⟩;unfold mulR;rcases tf (vR a)with e|e
 .rw[e];rfl
 rw[e,if_pos rfl];refine⟨_,Zd6 b,?_⟩;rcases tf (vR b)with e2|e2
 .rw[e2];rfl
 rw[e2,if_pos rfl];obtain⟨a1,a2,_⟩:=Zb1 e;obtain⟨b1,b2,_⟩:=Zb1 e2;have h1:=Zck a1 b1;have h2:=Zck a2 b2;refine⟨_,_,?_,rfl⟩;rw[w_in ⟨by omega,by omega⟩,w_in ⟨by omega,by omega⟩];exact Z5u ⟨by omega,by omega⟩ ⟨by omega,by omega⟩
theorem Zcs4:Zvb a b=some (oR (addR a b)):=by
 refine Zcn5 _ _ _ ⟨_,Zgn a,?_⟩;unfold addR;rcases tf (vR a)with e|e
 .rw[e];rfl
 rw[e,if_pos rfl];refine⟨_,Zgn b,?_⟩;rcases tf (vR b)with e2|e2
 .rw[e2];rfl
 rw[e2,if_pos rfl];obtain⟨a1,a2,_⟩:=Zb1 e;obtain⟨b1,b2,_⟩:=Zb1 e2;have h1:=Zck a1 b2;have h2:=Zck b1 a2;have h3:=Zck a2 b2;refine⟨_,_,?_,rfl⟩;rw[w_in (x:=a.Num*b.Den) ⟨by omega,by omega⟩,w_in (x:=b.Num*a.Den) ⟨by omega,by omega⟩,w_in ⟨by omega,by omega⟩,w_in ⟨by omega,by omega⟩];exact Zbjw ⟨by omega,by omega⟩ ⟨by omega,by omega⟩
theorem Zcs5:Zkv a b=some (oR (addR a b)):=by
 refine Zcq9 _ _ _ ⟨_,Zd6 a,?_⟩;unfold addR;rcases tf (vR a)with e|e
 .rw[e];rfl
 rw[e,if_pos rfl];refine⟨_,Zd6 b,?_⟩;rcases tf (vR b)with e2|e2
 .rw[e2];rfl
 rw[e2,if_pos rfl];obtain⟨a1,a2,_⟩:=Zb1 e;obtain⟨b1,b2,_⟩:=Zb1 e2;have h1:=Zck a1 b2;have h2:=Zck b1 a2;have h3:=Zck a2 b2;refine⟨_,_,?_,rfl⟩;rw[w_in (x:=a.Num*b.Den) ⟨by omega,by omega⟩,w_in (x:=b.Num*a.Den) ⟨by omega,by omega⟩,w_in ⟨by omega,by omega⟩,w_in ⟨by omega,by omega⟩];exact Z5u ⟨by omega,by omega⟩ ⟨by omega,by omega⟩
theorem Zcs6:Z39 a b=some (oR (subR a b)):=by
 refine Zcq7 _ _ _ ⟨_,Zd6 a,?_⟩;unfold subR;rcases tf (vR a)with e|e
 .rw[e];rfl
 rw[e,if_pos rfl];refine⟨_,Zd6 b,?_⟩;rcases tf (vR b)with e2|e2
 .rw[e2];rfl
 rw[e2,if_pos rfl];obtain⟨a1,a2,_⟩:=Zb1 e;obtain⟨b1,b2,_⟩:=Zb1 e2;have h1:=Zck a1 b2;have h2:=Zck b1 a2;have h3:=Zck a2 b2;refine⟨_,_,?_,rfl⟩;rw[w_in (x:=a.Num*b.Den) ⟨by omega,by omega⟩,w_in (x:=b.Num*a.Den) ⟨by omega,by omega⟩,w_in ⟨by omega,by omega⟩,w_in ⟨by omega,by omega⟩];exact Z5u ⟨by omega,by omega⟩ ⟨by omega,by omega⟩
theorem Zcs7:Z16 a b=some (I (cmpN a b),[]):=by
 refine Zcn0 _ _ _ ⟨_,Zgn a,?_⟩;unfold cmpN;rcases tf (vR a)with e|e
 .rw[e];rfl
 rw[e,if_pos rfl];refine⟨_,Zgn b,?_⟩;rcases tf (vR b)with e2|e2
 .rw[e2];rfl
 rw[e2,if_pos rfl];obtain⟨a1,a2,_⟩:=Zb1 e;obtain⟨b1,b2,_⟩:=Zb1 e2;have h1:=Zck a1 b2;have h2:=Zck b1 a2;rw[w_in (x:=a.Num*b.Den) ⟨by omega,by omega⟩,w_in (x:=b.Num*a.Den) ⟨by omega,by omega⟩];simp only[Bool.and_self,if_true];split
 .rfl
 .split<;>rfl
theorem Zcs8:Z37 a b=some (I (cmpN a b),[]):=by
 refine Zcq4 _ _ _ ⟨_,Zd6 a,?_⟩;unfold cmpN;rcases tf (vR a)with e|e
 .rw[e];rfl
 rw[e,if_pos rfl];refine⟨_,Zd6 b,?_⟩;rcases tf (vR b)with e2|e2
 .rw[e2];rfl
 rw[e2,if_pos rfl];obtain⟨a1,a2,_⟩:=Zb1 e;obtain⟨b1,b2,_⟩:=Zb1 e2;have h1:=Zck a1 b2;have h2:=Zck b1 a2;rw[w_in (x:=a.Num*b.Den) ⟨by omega,by omega⟩,w_in (x:=b.Num*a.Den) ⟨by omega,by omega⟩];simp only[Bool.and_self,if_true];split
 .rfl
 .split<;>rfl
end
theorem sub_r0(a:Za):subR a r0=none:=by
 unfold subR;rw[show vR r0=false by decide,Bool.and_false];rfl
theorem add_r0(a:Za):addR a r0=none:=by
 unfold addR;rw[show vR r0=false by decide,Bool.and_false];rfl
theorem Zfw(a b c:Za):Zco a b c=some (oR (leS a b c)):=by
 refine Zcq8 _ _ _ _ ?_;unfold leS;by_cases hb:b.Num=0
 .rw[if_pos hb,if_pos (.inl hb)];rfl
 rw[if_neg hb];by_cases hc:c.Num=0
 .rw[if_pos hc,if_pos (.inr hc)];rfl
 rw[if_neg hc,if_neg (by simp[hb,hc])];refine⟨_,_,Zb4j b c,_,_,Zcs6 a _,?_⟩
 cases e:mulR b c with
 |none=>rw[show((none:Option Za).getD r0)=r0 from rfl,sub_r0];rfl
 |some x=>rfl
def rkR(x:Z4)(o:Option Za):AV×List Blk:=(.agg ((o.getD r0).c.map .t),[.box ((⟨x.bad || !o.isSome⟩:Z4).c.map .t)])
theorem Zyo(x:Z4)(a b:Za):Zin x a b=some (rkR x (divR a b)):=by
 refine Zcn2 _ _ _ _ ⟨_,_,Zb4i a b,?_⟩;unfold rkR;rcases ft x.bad with e|e
 .rw[e,if_pos rfl];rfl
 .rw[e,if_neg (by decide)];rfl
theorem Zr3(x:Z4)(a b c:Za):Zfq x a b c=some (rkR x (plI a b c)):=by
 refine Zcn7 _ _ _ _ _ ?_;unfold plI rkR;by_cases hb:b.Num=0
 .rw[if_pos hb,if_pos (.inl hb)];simp
 rw[if_neg hb];by_cases hc:c.Num=0
 .rw[if_pos hc,if_pos (.inr hc)];simp
 rw[if_neg hc,if_neg (by simp[hb,hc])];refine⟨_,_,Zcs3 b c,_,_,Zcs4 a _,?_⟩
 cases e:mulR b c with
 |none =>
  rw[show((none:Option Za).getD r0)=r0 from rfl,add_r0];rcases ft x.bad with e|e
  .rw[e,if_pos rfl];rfl
  .rw[e,if_neg (by decide)];rfl
 |some y =>
  rcases ft x.bad with e|e
  .rw[e,if_pos rfl];rfl
  .rw[e,if_neg (by decide)];rfl
theorem Zlb{r:Za}(h:In63 r.Num):Zfp r=some (.agg ((nR r).c.map .t),[]):=by
 refine Zcn3 _ _ ?_;rw[w_in (x:=0-r.Num) ⟨by omega,by omega⟩,Int.zero_sub];rfl
theorem Zlc{r:Za}(h:vR r=true):In63 r.Num:=by have:=Zb1 h;exact⟨by omega,by omega⟩
def Zyp(n:Int)(p:Nat->Bool):Bool:=decide (Zbo p=w (shlI 1 n-1))
theorem Zcs9(q:Zc)(n:Nat)(c:1<=n)(hn:n<=4)(hq:q.Zp=n)(hl:Le q.Atoms)(hv:∀a∈q.Atoms,Le a.Vars):∀k,k<=q.Atoms.length->∀p,
  Zqr q (Zbo p) k=some (Bo ((q.Atoms.drop k).all (Zcg n) && Zyp n (addA p (q.Atoms.drop k))),[]):=by
 refine down _ ?_ ?_
 .intro p;refine Zb1j _ _ _ _ ?_;have e:addA p []=p:=by funext u;simp[addA]
  have h0:¬(n:Int)<0:=by omega
  simp[e,hq,h0,Zyp]
 .intro k hk ih p;refine Zb1j _ _ _ _ ?_;have h4:=Zd0 (i:=k) (by omega);rw[Zbo0 _ hk];rcases tf (nmOk q.Atoms[k].Name)with e1|e1
  .simp[hk,e1,Zcg]
  rcases tf (inR q.Atoms[k].Vars.length 1 3)with e2|e2
  .simp[hk,e1,e2,Zcg]
  have b:=Zcsn q n c hn hq q.Atoms[k] k (hv _ (Yb hk)) (Bo (Zcg n q.Atoms[k] && (q.Atoms.drop (k+1)).all (Zcg n) && Zyp n (addA p (q.Atoms.drop k))),[]) 0 (Ya _) p ?_
  .simp at b;simp[hk,e1,e2,b]
  .simp only[List.take_zero,Yq,Zcg,e1,e2,Ye];rcases tf (Zem n [] q.Atoms[k].Vars)with e3|e3
   .simp[e3]
   .have ih:=ih (addV p q.Atoms[k].Vars);simp only[e3,if_true,Ye,Zbo2 p hk];simp at ih;rw[show w ((k:Int)+1)=(k:Int)+1 from h4,ih]
@[simp] theorem Zbjx(q:Zc)(h:LeQ q):Zm2 q=some (Bo (Z6 q.Zp q.Atoms),[]):=by
 refine Zcpm _ _ ?_;unfold Z6;rcases tf (inR q.Zp 1 4)with e1|e1
 .simp[e1]
 rcases tf (inR q.Atoms.length 1 4)with e2|e2
 .simp[e1,e2]
 have e0:=e1;simp[inR]at e0;obtain⟨k,hk⟩:∃k:Nat,q.Zp=k:=⟨q.Zp.toNat,by omega⟩;have b:=Zcs9 q k (by omega) (by omega) hk h.1 h.2 0 (Ya _) (λ_=>false);have ez:Zbo (λ_=>false)=0:=rfl;rw[ez]at b;simp only[Yq,Int.ofNat_zero]at b;have e3:(q.Atoms.all (Zcg k) && Zyp k (addA (λ_=>false) q.Atoms))=(q.Atoms.all (Zcg k) && (List.range k).all (addA (λ_=>false) q.Atoms)):=by
  rcases tf (q.Atoms.all (Zcg k))with e3|e3
  .simp[e3]
  .have hk':k=1\/k=2\/k=3\/k=4:=by omega
   have hz:=all_in e3;have hz':∀u:Nat,k<=u->addA (λ_=>false) q.Atoms u=false:=λu hu=>by simp only[addA,Y7];exact hz u (by omega)
   rw[e3,Ye,Ye,Ycn,Zyp,decide_eq_true_eq,Zbo];rcases hk' with rfl|rfl|rfl|rfl
   .simp[shlI,Zw,Z0m,hz' 1 (by omega),hz' 2 (by omega),hz' 3 (by omega),Ybs]
   .simp[shlI,Zw,Z0m,hz' 2 (by omega),hz' 3 (by omega),Ybs]
   .simp[shlI,Zw,Z0m,hz' 3 (by omega),Ybs,and_assoc]
   .simp[shlI,Zw,Z0m,Ybs,and_assoc]
 rw[e3]at b;rw[hk]at e1;simp only[Z8,Ydm,Prod.mk.injEq,AV.t.injEq,T.bool.injEq,and_true,exists_eq_left',e1,e2,if_true,b,hk,Yh];simp
@[simp] theorem Zny(q:Zc)(h:LeQ q):Ze4 q=some (I (Zbm q.Zp q.Atoms),[]):=by
 refine Zcmp _ _ ?_;have q1:=Zbjo q h;unfold Zbm;rcases tf (Z6 q.Zp q.Atoms)with e|e
 .simp[q1,e]
 .have:=(Zj7 e).2.2.1;have h0:¬((q.Atoms.length:Int)<0):=by omega
  simp[q1,e,this,h0]
@[simp] theorem Zi7(q:Zc)(h:LeQ q):Zfr q=some (I (Zbm q.Zp q.Atoms),[]):=by
 refine Zcpo _ _ ?_;have q1:=Zbjx q h;unfold Zbm;rcases tf (Z6 q.Zp q.Atoms)with e|e
 .simp[q1,e]
 .have:=(Zj7 e).2.2.1;have h0:¬((q.Atoms.length:Int)<0):=by omega
  simp[q1,e,this,h0]
theorem l_vars0(q:Zc)(m:Int)(hl:Le q.Atoms)(hv:∀a∈q.Atoms,Le a.Vars)(v:Nat)(c:v<8)(out:List Int)(ho:out.length<=8)(r:AV×List Blk):∀i,i<=q.Atoms.length->
  Zmd q (out++if hasV m (q.Atoms.drop i) i v=true then[(v:Int)]else[]) m (w ((v:Int)+1))=some r->
  Zpm q out m v q.Atoms q.Atoms.length i=some r:=by
 refine down _ ?_ ?_
 .intro h;refine Zbzf _ _ _ _ _ _ _ _ ?_;simpa[hasV]using h
 .intro i hi ih h;refine Zbzf _ _ _ _ _ _ _ _ ?_;have h4:=Zd0 (i:=i) (by omega);have c1:=Zr1 q.Atoms[i].Vars v (hv _ (Yb hi));have h0:¬(i:Int)<0:=by omega
  rw[Z8r _ hi]at h;by_cases e1:andI (shrI m i) 1=1
  .have e2:Zx m i=true:=by simp[Zx,e1]
   rcases tf (has q.Atoms[i].Vars v)with e3|e3
   .simp[e2,e3]at h;have ih:=ih (by simpa using h);simp at ih;simp[hi,h4,h0,e1,c1,e3,ih]
   .simp[e2,e3]at h;have e4:out.length+1<=68719476736:=by omega
    simp[hi,h4,h0,e1,c1,e3,e4,h]
  .have e2:Zx m i=false:=by simp[Zx,e1]
   simp[e2]at h;have ih:=ih (by simpa using h);simp at ih;simp[hi,h4,h0,e1,ih]
theorem l_vars1(q:Zc)(m:Int)(hl:Le q.Atoms)(hv:∀a∈q.Atoms,Le a.Vars)(n:Nat)(hq:q.Zp=n)(hn:n<=4):∀k,k<=n->
  Zmd q (varL m q.Atoms k) m k=some (.own 0,[.arr Zbc 1 true ((varL m q.Atoms n).map ic)]):=by
 refine down _ ?_ ?_
 .refine Zbze _ _ _ _ _ ?_;simp[hq]
 .intro k hk ih;refine Zbze _ _ _ _ _ ?_;have h4:=Zd0 (i:=k) (by omega)
  have b:=l_vars0 q m hl hv k (by omega) (varL m q.Atoms k) (by have:=Z8s m q.Atoms k;omega) _ 0 (Ya _) (by
   rw[Yq,<-Zcdc,show w ((k:Int)+1)=(k:Int)+1 from h4];simpa using ih)
  simp at b;simp[hq,hk,b]
@[simp] theorem Z5w(q:Zc)(m:Int)(h:LeQ q)(hv:Z6 q.Zp q.Atoms=true):Zhm q m=some (.own 0,[.arr Zbc 1 true ((varL m q.Atoms q.Zp.toNat).map ic)]):=by
 refine Zcm0 _ _ _ ?_;have hn:=Zl5 hv;have b:=l_vars1 q m h.1 h.2 q.Zp.toNat (by omega) (by omega) 0 (Ya _);simpa[varL]using b
theorem l_both(b xs:List Int)(hb:Le b)(hx:xs.length<=1000000):∀i,i<=xs.length->
  Zpq ((xs.take i).filter (has b)) b xs xs.length i=some (.own 0,[.arr Zbc 1 true ((xs.filter (has b)).map ic)]):=by
 refine down _ ?_ ?_
 .refine Zbzj _ _ _ _ _ _ ?_;simp
 .intro i hi ih;refine Zbzj _ _ _ _ _ _ ?_;have h4:=Zd0 (i:=i) (by omega);have c1:=Zr1 b xs[i] hb;have e4:((xs.take i).filter (has b)).length+1<=68719476736:=by
   have:=Ycs (has b) (xs.take i);simp at this;omega
  rw[Zbo4 _ hi]at ih;rcases tf (has b xs[i])with e|e
  .simp[e]at ih;simp[hi,h4,c1,e,ih]
  .simp[e]at ih;simp[hi,h4,c1,e,e4,ih]
@[simp] theorem x_both(xs b:List Int)(hb:Le b)(hx:xs.length<=1000000):Zkd xs b=some (.own 0,[.arr Zbc 1 true ((xs.filter (has b)).map ic)]):=by
 refine Zcnb _ _ _ ?_;have:=l_both b xs hb hx 0 (Ya _);simpa using this
theorem l_bits0(q:Zc)(m:Int)(hv:∀a∈q.Atoms,Le a.Vars)(c:Var4 q.Atoms)(i:Nat)(hi:i<q.Atoms.length)(hm:Zx m i=true)(r:AV×List Blk):∀k,k<=q.Atoms[i].Vars.length->∀p,
  Zm6 q m (Zbo (addV p (q.Atoms[i].Vars.drop k))) (w ((i:Int)+1))=some r->Zqw q m (Zbo p) i k=some r:=by
 have e1:andI (shrI m i) 1=1:=by simpa[Zx]using hm
 have h0:¬(i:Int)<0:=by omega
 have ha:=Yb hi;refine down _ ?_ ?_
 .intro p h;refine Zbjf _ _ _ _ _ _ ?_;rw[Yg,Z8p]at h;simp[hi,h]
 .intro k hk ih p h;refine Zbjf _ _ _ _ _ _ ?_;have h4:=Zd0 (i:=k) (by have:=hv _ ha;omega);have e6:=Z0i p (v:=q.Atoms[i].Vars[k]) (c _ ha _ (Yb hk));have e7:=c _ ha _ (Yb hk);simp[inR]at e7;have e8:¬q.Atoms[i].Vars[k]<0:=by omega
  rw[Z8q p hk]at h;have ih:=ih _ h;simp at ih;simp[hi,hk,h0,e1,h4,e6,e7,e8,ih]
theorem l_bits1(q:Zc)(m:Int)(hl:Le q.Atoms)(hv:∀a∈q.Atoms,Le a.Vars)(c:Var4 q.Atoms):∀i,i<=q.Atoms.length->∀p,
  Zm6 q m (Zbo p) i=some (I (Zbo (addM m p q.Atoms i)),[]):=by
 refine down _ ?_ ?_
 .intro p;refine Zb1r _ _ _ _ _ ?_;have e:addM m p q.Atoms q.Atoms.length=p:=by funext u;simp[addM,hasV]
  simp[e]
 .intro i hi ih p;refine Zb1r _ _ _ _ _ ?_;have h4:=Zd0 (i:=i) (by omega);have h0:¬(i:Int)<0:=by omega
  rw[Zcdb m p hi];rcases tf (Zx m i)with e|e
  .have e1:¬andI (shrI m i) 1=1:=by simpa[Zx]using e
   have ih:=ih p;simp at ih;have b:Zqw q m (Zbo p) i 0=some (I (Zbo (addM m p q.Atoms (i+1))),[]):=by
    refine Zbjf _ _ _ _ _ _ ?_;simp[hi,h0,e1,h4,ih]
   simp[hi,e,b]
  .have ih:=ih (addV p q.Atoms[i].Vars);have b:=l_bits0 q m hv c i hi e _ 0 (Ya _) p (by rw[Yq,show w ((i:Int)+1)=(i:Int)+1 from h4];simpa using ih);simp at b;simp[hi,e,b]
@[simp] theorem Z5x(q:Zc)(m:Int)(h:LeQ q)(c:Var4 q.Atoms):Ziu q m=some (I (Zbo (pV m q.Atoms)),[]):=by
 refine Zcp4 _ _ _ ?_;have b:=l_bits1 q m h.1 h.2 c 0 (Ya _) (λ_=>false);have ez:Zbo (λ_=>false)=0:=rfl;have e:addM m (λ_=>false) q.Atoms 0=pV m q.Atoms:=by funext u;simp[addM,pV]
 rw[ez,e]at b;simpa using b
@[simp] theorem Zld(c:Int):Z43 c=some (I (Zcl c),[]):=by
 refine Zcr5 _ _ ?_;cases h:inR c 0 7
 .simp[h,Zboz h]
 .rcases cls8 h with rfl|rfl|rfl|rfl|rfl|rfl|rfl|rfl<;>simp[inR,Zcl,Zw,shlI]
@[simp] theorem Zle(c:Int):Z5d c=some (I (Zcl c),[]):=by
 refine Zcsg _ _ ?_;have e:∀n i r,(if i<c then Zr0 c (if 1<w (n*4)then w (n*4)else 1) (w (i+1))=some r else some (I n,[])=some r)->Zr0 c n i=some r:=λn i r h=>Zcsf _ _ _ _ h
 cases h:inR c 0 7
 .simp[h,Zboz h]
 .refine⟨_,Z8 _ _ _,?_⟩;rw[h,if_pos rfl];rcases cls8 h with rfl|rfl|rfl|rfl|rfl|rfl|rfl|rfl
  all_goals repeat (refine e _ _ _ ?_;first|(rw[if_neg (by decide)];rfl)|rw[if_pos (by decide)])
abbrev GoodD(X:Rs)(p:Prop):Prop:=∃(xs ys:List Int) (b:Bool),X=some (.tup [.own 0,.own 1,Bo b],[.arr Zbc 1 true (xs.map ic),.arr Zbc 1 true (ys.map ic)])/\(b=true↔p)
theorem GoodD.congr{X:Rs}{p q:Prop}(h:GoodD X p)(e:p↔q):GoodD X q:=by
 obtain⟨xs,ys,b,h1,h2⟩:=h;exact⟨xs,ys,b,h1,h2.trans e⟩
abbrev GoodC(X:Rs)(p:Prop):Prop:=∃(xs:List Int),X=some (.own 0,[.arr Zbc 1 true (xs.map ic)])/\(xs≠[]↔p)
theorem GoodC.congr{X:Rs}{p q:Prop}(h:GoodC X p)(e:p↔q):GoodC X q:=by
 obtain⟨xs,h1,h2⟩:=h;exact⟨xs,h1,h2.trans e⟩
@[simp] theorem Zyq(xs:List Int)(h:xs.length<=68719476736):Zeo xs=some (.own 0,[.arr Zbc 1 true (xs.map ic)]):=Zbyo _ _ ⟨h,rfl⟩
abbrev GoodR(X:Rs)(p:Prop):Prop:=(p/\X=some (.tup [I 0,.t .nil,.t .nil],[]))\/(¬p/\∃n:Int,n≠0/\((∃xs ys:List Int,X=some (.tup [I n,L 1 (xs.map ic),.own 0],[.arr Zbc 1 true (ys.map ic)]))\/X=some (.tup [I n,.t .nil,.t .nil],[])\/∃xs:List Int,X=some (.tup [I n,L 1 (xs.map ic),.t .nil],[])))
theorem GoodR.of{X Y:Rs}{p:Prop}(h:GoodR X p)(e:∀r,X=some r->Y=some r):GoodR Y p:=by
 rcases h with⟨h,h1⟩|⟨h,n,hn,⟨xs,ys,h1⟩|h1|⟨xs,h1⟩⟩
 .exact .inl ⟨h,e _ h1⟩
 .exact .inr ⟨h,n,hn,.inl ⟨xs,ys,e _ h1⟩⟩
 .exact .inr ⟨h,n,hn,.inr (.inl (e _ h1))⟩
 .exact .inr ⟨h,n,hn,.inr (.inr ⟨xs,e _ h1⟩)⟩
theorem GoodR.congr{X:Rs}{p q:Prop}(h:GoodR X p)(e:p↔q):GoodR X q:=by
 rw[<-e];exact h
theorem wS{i n:Nat}(h:i<n)(hn:n<=1099511627776):w ((i:Int)+1)=((i+1:Nat):Int):=by
 rw[show w ((i:Int)+1)=(i:Int)+1 from Zw (by omega) (by omega)];simp
theorem gE{α:Type}{xs:List α}{i:Nat}(h:i<xs.length):xs[(i:Int).toNat]?=some xs[i]:=by rw[Yh];exact Yj h
abbrev dig(v:Int):Bool:=inR v 0 9
def rwB(n:Int)(r:List Int):Bool:=r.all dig && decide ((r.length:Int)=n)
theorem Zcta(r:List Int)(n:Int)(hl:Le r):∀i,i<=r.length->Ztc r n r r.length i=some (Bo ((r.drop i).all dig && decide ((r.length:Int)=n)),[]):=by
 refine down _ ?_ ?_
 .refine Zbyg _ _ _ _ _ _ ?_;rw[if_neg (by omega)];simp
 .intro i hi ih;refine Zbyg _ _ _ _ _ _ ?_;rw[if_pos (by omega),Yd hi,Y5,wS hi hl];refine⟨by omega,_,gE hi,_,Zbu _ _ _,?_⟩;rcases tf (inR r[i] 0 9)with e|e
  .rw[e];simp[dig,e]
  .rw[e,if_pos rfl,ih];simp[dig,e]
@[simp] theorem Zctb(r:List Int)(n:Int)(hl:Le r):Z0t r n=some (Bo (rwB n r),[]):=Zclf _ _ _ (by simpa[rwB]using Zcta r n hl 0 (Ya _))
theorem Zctc(r:List Int)(n:Int)(hl:Le r):∀i,i<=r.length->Zvm r n i=some (Bo ((r.drop i).all dig && decide ((r.length:Int)=n)),[]):=by
 refine down _ ?_ ?_
 .refine Zb0j _ _ _ _ ?_;rw[if_neg (by omega)];simp
 .intro i hi ih;refine Zb0j _ _ _ _ ?_;rw[if_pos (by omega),Yd hi,Y5,wS hi hl];refine⟨by omega,_,gE hi,_,Z8 _ _ _,?_⟩;rcases tf (inR r[i] 0 9)with e|e
  .rw[e];simp[dig,e]
  .rw[e,if_pos rfl,ih];simp[dig,e]
@[simp] theorem Zctd(r:List Int)(n:Int)(hl:Le r):Zvl r n=some (Bo (rwB n r),[]):=Zcon _ _ _ (by simpa[rwB]using Zctc r n hl 0 (Ya _))
theorem x_cmp(a b:Int):Z0v a b=some (I (if a<b then -1 else if b<a then 1 else 0),[]):=by
 refine Zclh _ _ _ ⟨_,Zbyh _ _ rfl,_,Zbyh _ _ rfl,?_⟩;rw[if_neg (by simp),if_neg (by simp)];by_cases h1:a<b
 .rw[if_pos h1,if_pos h1]
 .rw[if_neg h1,if_neg h1];by_cases h2:b<a
  .rw[if_pos h2,if_pos h2]
  .rw[if_neg h2,if_neg h2]
theorem Zcte(a b:List Int)(ha:Le a)(hb:Le b):∀i,i<=a.length->i<=b.length->Ztd a b a a.length i=some (I (cmpR (a.drop i) (b.drop i)),[]):=by
 refine down _ ?_ ?_
 .intro h;refine Zbyi _ _ _ _ _ _ ?_;rw[if_neg (by omega),Yg];by_cases h2:(a.length:Int)<(b.length:Int)
  .rw[if_pos h2,Yd (l:=b) (i:=a.length) (by omega)];rfl
  .rw[if_neg h2,show a.length=b.length by omega,Yg];rfl
 .intro i hi ih h;refine Zbyi _ _ _ _ _ _ ?_;rw[if_pos (by omega),Yd hi,wS hi ha];refine⟨by omega,_,gE hi,?_⟩;by_cases h2:(b.length:Int)<=(i:Int)
  .rw[if_pos h2,show b.drop i=[]from Yb7 (by omega)];rfl
  .have hj:i<b.length:=by omega
   rw[if_neg h2,Yd hj];refine⟨_,gE hj,_,x_cmp _ _,?_⟩;unfold cmpR;by_cases e1:a[i]<b[i]
   .rw[if_pos e1,if_pos e1];rfl
   .rw[if_neg e1,if_neg e1];by_cases e2:b[i]<a[i]
    .rw[if_pos e2,if_pos e2];rfl
    .rw[if_neg e2,if_neg e2,if_pos rfl];exact ih (by omega)
@[simp] theorem Zctf(a b:List Int)(ha:Le a)(hb:Le b):Z0w a b=some (I (cmpR a b),[]) :=
 Zclj _ _ _ ⟨_,Zcli _ _ _ (by simpa using Zcte a b ha hb 0 (Ya _) (Ya _)),rfl⟩
theorem Zb4k(a b:List Int)(i:Nat)(ha:i<=a.length)(hb:i<=b.length)(h:i=a.length\/i=b.length):Zvo a b i false=some (I (cmpR (a.drop i) (b.drop i)),[]):=by
 refine Zcoo _ _ _ _ _ ?_;by_cases h1:(a.length:Int)<(b.length:Int)
 .rw[if_pos h1,show a.drop i=[]from Yb7 (by omega),Yd (l:=b) (i:=i) (by omega)];rfl
 .rw[if_neg h1];by_cases h2:(b.length:Int)<(a.length:Int)
  .rw[if_pos h2,show b.drop i=[]from Yb7 (by omega),Yd (l:=a) (i:=i) (by omega)];rfl
  .rw[if_neg h2,show a.drop i=[]from Yb7 (by omega),show b.drop i=[]from Yb7 (by omega)];rfl
theorem Zctg(a b:List Int)(ha:Le a)(hb:Le b):∀i,i<=a.length->i<=b.length->Zvn a b i=some (I (cmpR (a.drop i) (b.drop i)),[]):=by
 refine down _ ?_ ?_
 .intro h;refine Zb0k _ _ _ _ ?_;rw[if_neg (by omega)];exact Zb4k a b _ (Yk _) h (.inl rfl)
 .intro i hi ih h;refine Zb0k _ _ _ _ ?_;rw[if_pos (by omega)];by_cases h2:(i:Int)<(b.length:Int)
  .have hj:i<b.length:=by omega
   rw[if_pos h2];refine⟨by omega,_,gE hi,_,gE hj,?_⟩;rw[wS hi ha,Yd hi,Yd hj];unfold cmpR;by_cases e1:a[i]<b[i]
   .rw[if_pos e1,if_pos e1]
   .rw[if_neg e1,if_neg e1];by_cases e2:b[i]<a[i]
    .rw[if_pos e2,if_pos e2]
    .rw[if_neg e2,if_neg e2];exact ih (by omega)
  .rw[if_neg h2];exact Zb4k a b _ (by omega) h (.inr (by omega))
@[simp] theorem Zlf(a b:List Int)(ha:Le a)(hb:Le b):Zd1 a b=some (I (cmpR a b),[]) :=
 Zcop _ _ _ (by simpa using Zctg a b ha hb 0 (Ya _) (Ya _))
def pvA{α:Type}(xs:List α):Nat->Option α
 |0=>none
 |k+1=>xs[k]?
def nxt{α:Type}(lt:α->α->Bool)(p:Option α)(x:α):Bool:=match p with
 |none=>true
 |some q=>lt q x
def adjL{α:Type}(lt:α->α->Bool):Option α->List α->Bool
 |_,[]=>true
 |p,x::xs=>nxt lt p x && adjL lt (some x) xs
theorem Z5y{α:Type}(lt:α->α->Bool){xs:List α}{i:Nat}(hi:i<xs.length):adjL lt (pvA xs i) (xs.drop i)=(nxt lt (pvA xs i) xs[i] && adjL lt (pvA xs (i+1)) (xs.drop (i+1))):=by
 rw[Yd hi,adjL,show pvA xs (i+1)=some xs[i]from Yj hi]
def ltR(a b:List Int):Bool:=decide (cmpR a b<0)
abbrev LeT(t:Ze):Prop:=Le t.Rows/\∀r∈t.Rows,Le r
theorem wP{i n:Nat}(h0:0<i)(h:i<n)(hn:n<=1099511627776):w ((i:Int)-1)=((i-1:Nat):Int):=by
 rw[show w ((i:Int)-1)=(i:Int)-1 from Zw (by omega) (by omega)];omega
theorem Zi8{α:Type}{xs:List α}{i:Nat}(h0:0<i)(h:i-1<xs.length):pvA xs i=some xs[i-1]:=by
 obtain⟨k,rfl⟩:∃k,i=k+1:=⟨i-1,by omega⟩;exact Yj h
theorem Zcth(rows:List (List Int))(hl:Le rows)(hr:∀r∈rows,Le r):∀i,i<=rows.length->0<i->Zte rows i=some (Bo (adjL ltR (pvA rows i) (rows.drop i)),[]):=by
 refine down _ ?_ ?_
 .intro h0;refine Zbi8 _ _ _ ?_;rw[if_neg (by omega)];simp[adjL]
 .intro i hi ih h0;have hp:i-1<rows.length:=by omega
  have ih':=ih (by omega);refine Zbi8 _ _ _ ?_;rw[if_pos (by omega),wP h0 hi hl,wS hi hl,Z5y _ hi,Zi8 h0 hp];refine⟨by omega,_,gE hp,by omega,_,gE hi,_,Zctf _ _ (hr _ (Yb hp)) (hr _ (Yb hi)),?_⟩;unfold nxt ltR at *
  by_cases e:0<=cmpR rows[i-1] rows[i]
  .rw[if_pos e];simp[show ¬cmpR rows[i-1] rows[i]<0 by omega]
  .rw[if_neg e,ih'];simp[show cmpR rows[i-1] rows[i]<0 by omega]
theorem Zcti(rows:List (List Int))(hl:Le rows)(hr:∀r∈rows,Le r):Z0x rows=some (Bo (adjL ltR none rows),[]):=by
 refine Zclk _ _ ?_
 cases rows with
 |nil=>refine Zbi8 _ _ _ ?_;rw[if_neg (by simp)];rfl
 |cons r rs=>exact Zcth (r::rs) hl hr 1 (by simp) (by omega)
def Z3(t:Ze):Bool:=nmOk t.Name && inR t.Arity 1 3 && decide ((t.Rows.length:Int)<=8) && (t.Rows.all (rwB t.Arity) && adjL ltR none t.Rows)
theorem Zctj(t:Ze)(h:LeT t):∀i,i<=t.Rows.length->Ztf t t.Rows t.Rows.length i=some (Bo ((t.Rows.drop i).all (rwB t.Arity) && (nmOk t.Name && inR t.Arity 1 3 && decide ((t.Rows.length:Int)<=8) && adjL ltR none t.Rows)),[]):=by
 refine down _ ?_ ?_
 .refine Zbyj _ _ _ _ _ ?_;rw[if_neg (by omega)];refine⟨_,x_nameOk _,?_⟩;rcases tf (nmOk t.Name)with e1|e1
  .rw[e1];simp
  rw[e1,if_pos rfl];refine⟨_,Zbu _ _ _,?_⟩;rcases tf (inR t.Arity 1 3)with e2|e2
  .rw[e2];simp
  rw[e2,if_pos rfl];by_cases e3:(t.Rows.length:Int)<=8
  .rw[if_pos e3];exact⟨_,Zcti t.Rows h.1 h.2,by simp[e3]⟩
  .rw[if_neg e3];simp[e3]
 .intro i hi ih;refine Zbyj _ _ _ _ _ ?_;rw[if_pos (by omega),Yd hi,Y5,wS hi h.1];refine⟨by omega,_,gE hi,_,Zctb _ _ (h.2 _ (Yb hi)),?_⟩;rcases tf (rwB t.Arity t.Rows[i])with e|e
  .rw[e];simp
  .rw[e,if_pos rfl,ih];simp
@[simp] theorem Z5z(t:Ze)(h:LeT t):Zhj t=some (Bo (Z3 t),[]):=by
 refine Zcll _ _ ?_;rw[show(0:Int)=((0:Nat):Int)from rfl,Zctj t h 0 (Ya _)];unfold Z3;simp only[Yq];congr 3;rw[Ycn];simp only[Yc]
 grind
theorem Zctk(t:Ze)(h:LeT t):∀i,i<=t.Rows.length->Zp2 t i=some (Bo ((t.Rows.drop i).all (rwB t.Arity) && adjL ltR (pvA t.Rows i) (t.Rows.drop i)),[]):=by
 refine down _ ?_ ?_
 .refine Zb0l _ _ _ ?_;rw[if_neg (by omega)];simp[adjL]
 .intro i hi ih;have hr:=h.2 _ (Yb hi);refine Zb0l _ _ _ ?_;rw[Z5y _ hi,if_pos (by omega),Yd hi,Y5,wS hi h.1];refine⟨by omega,_,gE hi,_,Zctd _ _ hr,?_⟩;rcases tf (rwB t.Arity t.Rows[i])with e|e
  .rw[e];simp
  rw[e,if_pos rfl];by_cases h0:0<i
  .have hp:i-1<t.Rows.length:=by omega
   rw[if_pos (by omega),wP h0 hi h.1,Zi8 h0 hp];refine⟨by omega,_,gE hp,_,Zlf _ _ (h.2 _ (Yb hp)) hr,?_⟩;unfold nxt ltR at *
   by_cases e:0<=cmpR t.Rows[i-1] t.Rows[i]
   .rw[if_pos e];simp[show ¬cmpR t.Rows[i-1] t.Rows[i]<0 by omega]
   .rw[if_neg e,ih];simp[show cmpR t.Rows[i-1] t.Rows[i]<0 by omega]
  .have:i=0:=by omega
   subst this;rw[if_neg (by omega),ih];simp[pvA,nxt]
@[simp] theorem Z50(t:Ze)(h:LeT t):Zhp t=some (Bo (Z3 t),[]):=by
 refine Zcoq _ _ ⟨_,Zbjn _,?_⟩;unfold Z3;rcases tf (nmOk t.Name)with e1|e1
 .rw[e1];simp
 rw[e1,if_pos rfl];refine⟨_,Z8 _ _ _,?_⟩;rcases tf (inR t.Arity 1 3)with e2|e2
 .rw[e2];simp
 rw[e2,if_pos rfl];by_cases e3:8<(t.Rows.length:Int)
 .rw[if_pos e3];simp[show ¬(t.Rows.length:Int)<=8 by omega]
 .rw[if_neg e3];have:=Zctk t h 0 (Ya _);refine Yf this ?_;simp[show(t.Rows.length:Int)<=8 by omega,pvA]
def ltN(a b:Ze):Bool:=Op.bytesLess a.Name.toList b.Name.toList
abbrev LeD(d:Zi):Prop:=Le d.Tables/\∀t∈d.Tables,LeT t
def Zb5(d:Zi):Bool:=d.Tables.all Z3 && adjL ltN none d.Tables && decide ((d.Tables.length:Int)<=6)
theorem Zctl(d:Zi)(h:LeD d):∀i,i<=d.Tables.length->Zo1 d d.Tables d.Tables.length i=some (Bo ((d.Tables.drop i).all Z3 && adjL ltN (pvA d.Tables i) (d.Tables.drop i) && decide ((d.Tables.length:Int)<=6)),[]):=by
 refine down _ ?_ ?_
 .refine Zbyk _ _ _ _ _ ?_;rw[if_neg (by omega)];simp[adjL]
 .intro i hi ih;refine Zbyk _ _ _ _ _ ?_;rw[Z5y _ hi,if_pos (by omega),Yd hi,Y5,wS hi h.1];refine⟨by omega,_,gE hi,_,Z5z _ (h.2 _ (Yb hi)),?_⟩;rcases tf (Z3 d.Tables[i])with e|e
  .rw[e];simp
  rw[e,if_pos rfl];by_cases h0:0<i
  .have hp:i-1<d.Tables.length:=by omega
   rw[if_pos (by omega),wP h0 hi h.1,Zi8 h0 hp];refine⟨by omega,_,gE hp,?_⟩;unfold nxt ltN at *
   rcases tf (Op.bytesLess d.Tables[i-1].Name.toList d.Tables[i].Name.toList)with e|e
   .rw[e];simp[e]
   .rw[e,if_pos rfl,ih];simp[e]
  .have:i=0:=by omega
   subst this;rw[if_neg (by omega),ih];simp[pvA,nxt]
@[simp] theorem Zb4l(d:Zi)(h:LeD d):Zo0 d=some (Bo (Zb5 d),[]):=by
 refine Zclm _ _ ?_;have:=Zctl d h 0 (Ya _);refine Yf this ?_;unfold Zb5;simp[pvA]
theorem Zctm(d:Zi)(h:LeD d):∀i,i<=d.Tables.length->Zp3 d i=some (Bo ((d.Tables.drop i).all Z3 && adjL ltN (pvA d.Tables i) (d.Tables.drop i) && decide ((d.Tables.length:Int)<=6)),[]):=by
 refine down _ ?_ ?_
 .refine Zb0m _ _ _ ?_;rw[if_neg (by omega)];simp[adjL]
 .intro i hi ih;refine Zb0m _ _ _ ?_;rw[Z5y _ hi,if_pos (by omega),Yd hi,Y5,wS hi h.1];refine⟨by omega,_,gE hi,_,Z50 _ (h.2 _ (Yb hi)),?_⟩;rcases tf (Z3 d.Tables[i])with e|e
  .rw[e];simp
  rw[e,if_pos rfl];by_cases h0:0<i
  .have hp:i-1<d.Tables.length:=by omega
   rw[if_pos (by omega),wP h0 hi h.1,Zi8 h0 hp];refine⟨by omega,_,gE hp,?_⟩;unfold nxt ltN at *
   rcases tf (Op.bytesLess d.Tables[i-1].Name.toList d.Tables[i].Name.toList)with e|e
   .rw[e];simp[e]
   .rw[e,if_pos rfl,ih];simp[e]
  .have:i=0:=by omega
   subst this;rw[if_neg (by omega),ih];simp[pvA,nxt]
@[simp] theorem Zb4m(d:Zi)(h:LeD d):Zmu d=some (Bo (Zb5 d),[]):=by
 refine Zcor _ _ ?_;have:=Zctm d h 0 (Ya _);refine Yf this ?_;unfold Zb5;simp[pvA]
def Zbl(d:Zi)(n:ByteArray):Option Ze:=if Zb5 d=true then d.Tables.find? (λt=>decide (t.Name=n))else none
theorem Zctn(xs:List (List Int))(hx:Le xs)(hr:∀r∈xs,r.length<=4)(hl:xs.length<=1000000):∀i,i<=xs.length->Zo6 (xs.take i) xs xs.length i=some (.own 0,[.arr 56 1 true (xs.map isc)]):=by
 refine down _ ?_ ?_
 .refine Z5j _ _ _ _ _ ?_;rw[if_neg (by omega),Yl]
 .intro i hi ih;refine Z5j _ _ _ _ _ ?_;rw[if_pos (by omega),wS hi hx];have:=hr _ (Yb hi);refine⟨by omega,_,gE hi,_,Zyq _ (by omega),by rw[Yp];omega,?_⟩;rw[Y1 hi]at ih;exact ih
theorem Zbjy(xs:List (List Int))(hr:∀r∈xs,r.length<=4)(hl:xs.length<=1000000):Zhk xs=some (.own 0,[.arr 56 1 true (xs.map isc)]) :=
 Zbyp _ _ (by simpa using Zctn xs (by omega) hr hl 0 (Ya _))
theorem Zb4n{α:Type}(p:α->Bool):∀(xs:List α) (i:Nat),match xs.find? p with
  |none=>Zb4 p xs i=-1
  |some x=>∃j,Zb4 p xs i=((i+j:Nat):Int)/\xs[j]?=some x
 |[],i=>by simp[Zb4]
 |x::xs,i=>by
  unfold Zb4;rw[List.find?_cons];rcases tf (p x)with e|e
  .rw[e,if_neg (by simp)];have:=Zb4n p xs (i+1);revert this;simp only
   cases xs.find? p with
   |none=>exact id
   |some y=>rintro⟨j,h1,h2⟩;exact⟨j+1,by rw[h1];congr 1;omega,by simpa using h2⟩
  .rw[e,if_pos rfl];exact⟨0,rfl,rfl⟩
theorem l_idxT(s:List Ze)(n:ByteArray)(hs:Le s):∀i,i<=s.length->Zto s n s.length i=some (I (Zb4 (λt=>decide (t.Name=n)) (s.drop i) i),[]):=by
 refine down _ ?_ ?_
 .refine Zbyw _ _ _ _ _ ?_;rw[if_neg (by omega)];simp[Zb4]
 .intro i hi ih;refine Zbyw _ _ _ _ _ ?_;rw[if_pos (by omega),Zs6 _ hi,wS hi hs];refine⟨by omega,_,gE hi,_,Zcl0 _ _ _ rfl,?_⟩;split
  .rfl
  .exact ih
def lookR(o:Option Ze):AV×List Blk:=match o with
 |none=>(.tup [.agg [.t (.str ⟨#[]⟩),I 0,.t .nil],Bo false],[])
 |some t=>(.tup [.agg [.t (.str t.Name),I t.Arity,.own 0],Bo true],[.arr 56 1 true (t.Rows.map isc)])
theorem Zfa{d:Zi}(hv:Zb5 d=true){t:Ze}(ht:t∈d.Tables):Z3 t=true:=by
 unfold Zb5 at hv;simp only[Yc]at hv;exact Yn.1 hv.1.1 t ht
theorem Zd7{t:Ze}(h:Z3 t=true):t.Rows.length<=8:=by
 unfold Z3 at h;simp only[Yc,decide_eq_true_eq]at h;omega
theorem Zb4o{t:Ze}(h:Z3 t=true):∀r∈t.Rows,r.length<=3:=by
 intro r hr;unfold Z3 at h;simp only[Yc]at h;have h1:=Yn.1 h.2.1 r hr;have h2:=h.1.1.2;unfold rwB at h1;simp only[inR,Yc,decide_eq_true_eq]at h1 h2;omega
theorem Zb4p{d:Zi}{n:ByteArray}{t:Ze}(h:Zbl d n=some t):Zb5 d=true/\t∈d.Tables/\t.Name=n:=by
 unfold Zbl at h;split at h
 .rename_i hv;exact⟨hv,List.mem_of_find?_eq_some h,by simpa using List.find?_some h⟩
 .cases h
theorem Zlg(d:Zi)(h:LeD d)(n:ByteArray):Zb0 d n=some (lookR (Zbl d n)):=by
 have hi:=Zcl1 _ _ _ (by simpa using l_idxT d.Tables n h.1 0 (Ya _));have hf:=Zb4n (λt:Ze=>decide (t.Name=n)) d.Tables 0;refine Zcl3 _ _ _ ⟨_,hi,?_⟩;unfold Zbl
 cases hq:d.Tables.find? (λt=>decide (t.Name=n))with
 |none =>
  rw[hq]at hf;simp only at hf;rw[hf,if_pos (by omega)]
  split<;>rfl
 |some t =>
  rw[hq]at hf;obtain⟨j,h1,h2⟩:=hf;rw[Yu]at h1;rw[h1,if_neg (by omega)];refine⟨_,Zb4l d h,?_⟩;rcases tf (Zb5 d)with e|e
  .rw[e];rfl
  .rw[e,if_pos rfl,if_pos rfl];have hm:=Ybg h2;have hT:=h.2 t hm;have h8:=Zd7 (Zfa e hm);refine⟨by omega,t,by rw[Yh];exact h2,_,_,_,Zcl2 _ _ ⟨_,Zbjy t.Rows (λr hr=>by have:=Zb4o (Zfa e hm) r hr;omega) (by omega),rfl⟩,rfl⟩
theorem Zcto(t:Ze)(h:LeT t)(h8:t.Rows.length<=8)(h3:∀r∈t.Rows,r.length<=3)(a a':ByteArray)(b b':Int):∀i,i<=t.Rows.length->Zv3 t a b a' b' (t.Rows.take i) i=some (.agg [.t (.str a'),I b',.own 0],[.arr 56 1 true (t.Rows.map isc)]):=by
 refine down _ ?_ ?_
 .refine Zb0x _ _ _ _ _ _ _ _ ?_;rw[if_neg (by omega),Yl]
 .intro i hi ih;refine Zb0x _ _ _ _ _ _ _ _ ?_;rw[if_pos (by omega),wS hi h.1];have:=h3 _ (Yb hi);rw[Y1 hi]at ih;exact⟨by omega,_,gE hi,by omega,by rw[Yp];omega,ih⟩
theorem Zctp(t:Ze)(h:LeT t)(h8:t.Rows.length<=8)(h3:∀r∈t.Rows,r.length<=3):Zv2 t=some (if t.Rows=[]then(.agg [.t (.str t.Name),I t.Arity,.t .nil],[])else(.agg [.t (.str t.Name),I t.Arity,.own 0],[.arr 56 1 true (t.Rows.map isc)])):=by
 refine Zco4 _ _ ?_;refine Zco3 _ _ _ _ _ _ _ ?_;by_cases e:t.Rows=[]
 .rw[if_neg (by rw[e];simp),if_pos e]
 .have h0:0<t.Rows.length:=Yba.2 e;have:=h3 _ (Yb h0);rw[if_pos (by omega),if_neg e];refine⟨by omega,_,gE h0,by omega,?_⟩;have:=Zcto t h h8 h3 ⟨#[]⟩ t.Name 0 t.Arity 1 (by omega);rw[Y1 h0]at this;rw[show w (0+1)=1 from by decide];simpa using this
def Zhy(o:Option Ze):AV×List Blk:=match o with
 |none=>(.tup [.agg [.t (.str ⟨#[]⟩),I 0,.t .nil],Bo false],[])
 |some t=>if t.Rows=[]then(.tup [.agg [.t (.str t.Name),I t.Arity,.t .nil],Bo true],[])else(.tup [.agg [.t (.str t.Name),I t.Arity,.own 0],Bo true],[.arr 56 1 true (t.Rows.map isc)])
theorem Zctq(d:Zi)(h:LeD d)(n:ByteArray):∀i,i<=d.Tables.length->Zv4 d ⟨#[]⟩ 0 n i=some (Zhy (if Zb5 d=true then(d.Tables.drop i).find? (λt=>decide (t.Name=n))else none)):=by
 refine down _ ?_ ?_
 .refine Zb0y _ _ _ _ _ _ ?_;rw[if_neg (by omega),Yg];split<;>rfl
 .intro i hi ih;refine Zb0y _ _ _ _ _ _ ?_;rw[if_pos (by omega),wS hi h.1];refine⟨_,Zb4m d h,?_⟩;rcases tf (Zb5 d)with e|e
  .rw[e];rfl
  rw[e,if_pos rfl]at ih|-;rw[if_pos rfl,Yd hi,List.find?_cons];have hm:=Yb hi;refine⟨by omega,_,gE hi,?_⟩;by_cases e2:d.Tables[i].Name=n
  .rw[if_pos e2];have hc:=Zctp _ (h.2 _ hm) (Zd7 (Zfa e hm)) (Zb4o (Zfa e hm));simp only[e2,decide_true,Zhy];by_cases e3:d.Tables[i].Rows=[]
   .rw[if_pos e3]at hc|-;exact .inl ⟨_,_,hc,by rw[e2]⟩
   .rw[if_neg e3]at hc|-;exact .inr ⟨_,_,_,hc,by rw[e2]⟩
  .rw[if_neg e2,ih];simp only[e2,decide_false]
theorem Znz(d:Zi)(h:LeD d)(n:ByteArray):Zch d n=some (Zhy (Zbl d n)) :=
 Zco5 _ _ _ (by simpa[Zbl]using Zctq d h n 0 (Ya _))
def forOk(d:Zi)(a:Atom):Bool:=match Zbl d a.Name with
 |none=>false
 |some t=>decide (t.Arity=(a.Vars.length:Int))
def qFor(d:Zi)(q:Zc):Bool:=Z6 q.Zp q.Atoms && q.Atoms.all (forOk d)
theorem Zctr(d:Zi)(h:LeD d)(q:Zc)(hq:LeQ q):∀i,i<=q.Atoms.length->Zt7 d q.Atoms q.Atoms.length i=some (Bo ((q.Atoms.drop i).all (forOk d)),[]):=by
 refine down _ ?_ ?_
 .refine Zbza _ _ _ _ _ ?_;rw[if_neg (by omega)];simp
 .intro i hi ih;refine Zbza _ _ _ _ _ ?_;rw[if_pos (by omega),Yd hi,Y5,wS hi hq.1];refine⟨by omega,_,gE hi,?_⟩;have hk:=Zlg d h q.Atoms[i].Name;unfold forOk at ih|-
  cases e:Zbl d q.Atoms[i].Name with
  |none =>
   rw[e]at hk
   refine .inl ⟨_,_,hk,by simp⟩
  |some t =>
   rw[e]at hk;refine .inr ⟨_,_,_,hk,?_⟩;by_cases e2:t.Arity=(q.Atoms[i].Vars.length:Int)
   .rw[if_pos e2,ih];simp[e2]
   .rw[if_neg e2];simp[e2]
@[simp] theorem Zb4q(d:Zi)(h:LeD d)(q:Zc)(hq:LeQ q):Zph d q=some (Bo (qFor d q),[]):=by
 refine Zcmo _ _ _ ⟨_,Zbjo q hq,?_⟩;unfold qFor;rcases tf (Z6 q.Zp q.Atoms)with e|e
 .rw[e];simp
 .rw[e,if_pos rfl];have:=Zctr d h q hq 0 (Ya _);refine Yf this ?_;simp
theorem Zcts(d:Zi)(h:LeD d)(q:Zc)(hq:LeQ q):∀i,i<=q.Atoms.length->Zqs d q i=some (Bo ((q.Atoms.drop i).all (forOk d)),[]):=by
 refine down _ ?_ ?_
 .refine Zb1l _ _ _ _ ?_;rw[if_neg (by omega)];simp
 .intro i hi ih;refine Zb1l _ _ _ _ ?_;rw[if_pos (by omega),Yd hi,Y5,wS hi hq.1];refine⟨by omega,_,gE hi,?_⟩;have hk:=Znz d h q.Atoms[i].Name;unfold forOk at ih|-
  cases e:Zbl d q.Atoms[i].Name with
  |none =>
   rw[e]at hk
   refine .inl ⟨_,_,_,hk,by simp⟩
  |some t =>
   rw[e]at hk;simp only[Zhy]at hk;by_cases e3:t.Rows=[]
   .rw[if_pos e3]at hk;refine .inl ⟨_,_,_,hk,?_⟩;rw[if_pos rfl];by_cases e2:t.Arity=(q.Atoms[i].Vars.length:Int)
    .rw[if_pos e2,ih];simp[e2]
    .rw[if_neg e2];simp[e2]
   .rw[if_neg e3]at hk;refine .inr ⟨_,_,_,hk,?_⟩;by_cases e2:t.Arity=(q.Atoms[i].Vars.length:Int)
    .rw[if_pos e2,ih];simp[e2]
    .rw[if_neg e2];simp[e2]
@[simp] theorem Zctt(d:Zi)(h:LeD d)(q:Zc)(hq:LeQ q):Z21 d q=some (Bo (qFor d q),[]):=by
 refine Zcpn _ _ _ ⟨_,Zbjx q hq,?_⟩;unfold qFor;rcases tf (Z6 q.Zp q.Atoms)with e|e
 .rw[e];simp
 .rw[e,if_pos rfl];have:=Zcts d h q hq 0 (Ya _);refine Yf this ?_;simp
end Go.Proofs.YtnnjbejcffjgfaaGreat
namespace Go.Proofs.YtnnjbejcffjgfaaGreat
theorem Zex:∀a b:List Int,cmpR b a=- cmpR a b
 |[],[]=>rfl
 |[],_::_=>rfl
 |_::_,[]=>rfl
 |x::a,y::b=>by
  have ih:=Zex a b;simp only[cmpR];by_cases h1:x<y
  .rw[if_neg (by omega),if_pos h1,if_pos h1];rfl
  .by_cases h2:y<x
   .rw[if_pos h2,if_neg h1,if_pos h2]
   .rw[if_neg h2,if_neg h1,if_neg h1,if_neg h2];exact ih
theorem Zfb:∀a b:List Int,cmpR a b=0->a=b
 |[],[],_=>rfl
 |[],_::_,h=>by simp[cmpR]at h
 |_::_,[],h=>by simp[cmpR]at h
 |x::a,y::b,h=>by
  simp only[cmpR]at h;by_cases h1:x<y
  .rw[if_pos h1]at h;cases h
  .rw[if_neg h1]at h;by_cases h2:y<x
   .rw[if_pos h2]at h;cases h
   .rw[if_neg h2]at h;rw[Zfb a b h,show x=y by omega]
theorem Zi9(a:List Int):cmpR a a=0:=by have:=Zex a a;omega
theorem Zn0:∀a b c:List Int,cmpR a b<=0->cmpR b c<=0->cmpR a c<=0
 |[],_,[],_,_=>by simp[cmpR]
 |[],_,_::_,_,_=>by simp[cmpR]
 |_::_,[],_,h,_=>by simp[cmpR]at h
 |_::_,_::_,[],_,h=>by simp[cmpR]at h
 |x::a,y::b,z::c,h1,h2=>by
  simp only[cmpR]at h1 h2|-;by_cases e1:x<y
  .by_cases e2:y<z
   .rw[if_pos (by omega)];decide
   .rw[if_neg e2]at h2;by_cases e3:z<y
    .rw[if_pos e3]at h2;exact absurd h2 (by decide)
    .rw[if_pos (by omega)];decide
  .rw[if_neg e1]at h1;by_cases e2:y<x
   .rw[if_pos e2]at h1;exact absurd h1 (by decide)
   .rw[if_neg e2]at h1
    have:x=y:=by omega
    subst this;by_cases e3:x<z
    .rw[if_pos e3];decide
    .rw[if_neg e3]at h2|-;by_cases e4:z<x
     .rw[if_pos e4]at h2;exact absurd h2 (by decide)
     .rw[if_neg e4]at h2|-;exact Zn0 a b c h1 h2
theorem Zctu(a b c:List Int)(h1:leR a b=true)(h2:leR b c=true):leR a c=true:=by
 unfold leR at *
 simp only[decide_eq_true_eq]at *
 exact Zn0 a b c h1 h2
theorem Zctv(a b:List Int):(leR a b || leR b a)=true:=by
 unfold leR;have:=Zex a b;simp only[Bool.or_eq_true,decide_eq_true_eq];omega
theorem leR_anti(a b:List Int)(h1:leR a b=true)(h2:leR b a=true):a=b:=by
 unfold leR at *
 simp only[decide_eq_true_eq]at *
 have:=Zex a b;exact Zfb a b (by omega)
theorem Zyr(rows:List (List Int)):(srtR rows).Perm rows:=List.mergeSort_perm _ _
theorem Zb4r(rows:List (List Int)):(srtR rows).Pairwise λa b=>leR a b=true:=List.pairwise_mergeSort Zctu Zctv rows
theorem Zctw{rows l:List (List Int)}(hp:l.Perm rows)(hs:l.Pairwise λa b=>leR a b=true):l=srtR rows :=
 List.Perm.eq_of_pairwise (λa b _ _=>leR_anti a b) hs (Zb4r rows) (hp.trans (Zyr rows).symm)
theorem Zbjz:∀(l:List (List Int)) (y:List Int),y∈cptR l↔y∈l
 |[],y=>by simp[cptR]
 |[a],y=>by simp[cptR]
 |a::b::l,y=>by
  unfold cptR;have ih:=Zbjz (b::l) y;split
  .rename_i e;subst e;rw[ih];simp
  .rw[List.mem_cons,ih];simp
theorem Zb4s:∀l:List (List Int),(cptR l).length<=l.length
 |[]=>Nat.le_refl _
 |[a]=>Nat.le_refl _
 |a::b::l=>by
  unfold cptR;have:=Zb4s (b::l);split
  .exact Nat.le_trans this (Nat.le_succ _)
  .exact Nat.succ_le_succ this
end Go.Proofs.YtnnjbejcffjgfaaGreat
namespace Go.Proofs.YtnnjbejcffjgfaaGreat
open Go.RowKit Go.Lib
theorem Zb4t(x:Int)(w:World):Calls Tryz.prog 338 #[.int .i64 x] w λe w'=>e=.returned (.bool false)/\w'=w:=by
 go_enter Tryz.func338,Tryz.ntmps338
 go_wp2
 go_ret
 exact⟨by simp,rfl⟩
def c3(x y:Int):Int:=if x<y then -1 else if y<x then 1 else 0
theorem cmp_walk(x y:Int)(w:World):Calls Tryz.prog 324 #[.int .i64 x,.int .i64 y] w λe w'=>e=.returned (.int .i64 (c3 x y))/\w'=w:=by
 have h1:=Zb4t x w;have h2:=Zb4t y w;by_cases e1:x<y
 .go_enter Tryz.func324,Tryz.ntmps324
  go_wp2_with (first|(refine h1.mono ?_;rintro e w' ⟨rfl,rfl⟩)|(refine h2.mono ?_;rintro e w' ⟨rfl,rfl⟩))
  go_ret
  exact⟨by simp[c3,e1],rfl⟩
 .by_cases e2:y<x
  .go_enter Tryz.func324,Tryz.ntmps324
   go_wp2_with (first|(refine h1.mono ?_;rintro e w' ⟨rfl,rfl⟩)|(refine h2.mono ?_;rintro e w' ⟨rfl,rfl⟩))
   go_ret
   exact⟨by simp[c3,e1,e2],rfl⟩
  .have hc:c3 x y=0:=by unfold c3;rw[if_neg e1,if_neg e2]
   rw[hc];clear hc
   go_enter Tryz.func324,Tryz.ntmps324
   go_wp2_with (first|(refine h1.mono ?_;rintro e w' ⟨rfl,rfl⟩)|(refine h2.mono ?_;rintro e w' ⟨rfl,rfl⟩))
   go_ret
   exact⟨rfl,rfl⟩
def Zja(w:World)(v:Value)(r:List Int):Prop:=∃a c,v=.slice a r.length c/\∀j (h:j<r.length),∃g off,a=some ⟨g,off,none⟩/\w.cell? ⟨g,off+j,none⟩=some (.int .i64 r[j])
theorem Zctx{a b:List Int}{k:Nat}(h1:k<a.length)(h2:k<b.length):cmpR (a.drop k) (b.drop k)=if c3 a[k] b[k]=0 then cmpR (a.drop (k+1)) (b.drop (k+1))else c3 a[k] b[k]:=by
 rw[List.drop_eq_getElem_cons h1,List.drop_eq_getElem_cons h2]
 conv=>lhs;unfold cmpR
 unfold c3;by_cases e1:a[k]<b[k]
 .simp[e1]
 .rw[if_neg e1,if_neg e1];by_cases e2:b[k]<a[k]
  .simp[e2]
  .simp[e2]
theorem Zcty(v1 v2:Value)(a b:List Int)(w:World)(h1:Zja w v1 a)(h2:Zja w v2 b)(c:a.length<2305843009213693952)(cc:b.length<2305843009213693952) :
  Calls Tryz.prog 300 #[v1,v2] w λe w'=>e=.returned (.int .i64 (cmpR a b))/\w'=w:=by
 obtain⟨p1,c1,rfl,r1⟩:=h1;obtain⟨p2,c2,rfl,r2⟩:=h2;have mixed:Tryz.prog.follows Departure.mixedOrders=true:=by kernel_rfl
 have hc:=λx y=>cmp_walk x y w
 generalize hR:cmpR a b=R;have HR:Aside (cmpR (a.drop 0) (b.drop 0)=R):=hR;clear hR
 go_enter Tryz.func300,Tryz.ntmps300
 go_wp2
 go_loopg [5,6,7,8,11] a.length (λgg _ _ _ _ s11 wr=>∃kk:Nat,kk<=a.length/\a.length-kk<=gg/\s11=.int .i64 kk/\wr=w/\Aside (kk<=b.length)/\Aside (cmpR (a.drop kk) (b.drop kk)=R))
 case atStart=>exact⟨0,Nat.zero_le _,by omega,rfl,rfl,Nat.zero_le _,HR⟩
 case round =>
  obtain⟨kk,hkk,hg,rfl,rfl,A,B⟩:=hrel;by_cases hlt:kk<a.length
  .have hltz:(kk:Int)<(a.length:Int):=by omega
   obtain⟨g1,o1,rfl,d1⟩:=r1 kk hlt;by_cases hlb:kk<b.length
   .have hltb:¬(b.length:Int)<=(kk:Int):=by omega
    obtain⟨g2,o2,rfl,d2⟩:=r2 kk hlb;have hs:=Zctx hlt hlb;have hcall:=hc a[kk] b[kk];have S:Aside (cmpR (a.drop kk) (b.drop kk)=if c3 a[kk] b[kk]=0 then cmpR (a.drop (kk+1)) (b.drop (kk+1))else c3 a[kk] b[kk]):=hs;clear hs hc r1 r2;generalize c3 a[kk] b[kk]=z at hcall S;generalize a[kk]=x at hcall d1;generalize b[kk]=y at hcall d2;by_cases hz:z=0
    .subst hz
     go_wp2_with (refine hcall.mono ?_;rintro e w' ⟨rfl,rfl⟩)
     go_roundg (a.length-(kk+1))
     case measure=>omega
     case rel =>
      refine⟨kk+1,by omega,by omega,by go_num,rfl,(show Aside _ from by show kk+1<=b.length;omega),(show Aside _ from ?_)⟩;have:=S.out;rw[B.out]at this;show cmpR (a.drop (kk+1)) (b.drop (kk+1))=R;simpa using this.symm
    .have hr:R=z:=by rw[<-B.out,S.out,if_neg hz]
     go_wp2_with (refine hcall.mono ?_;rintro e w' ⟨rfl,rfl⟩)
     go_ret
     exact⟨by subst hr;rfl,rfl⟩
   .have hltb:(b.length:Int)<=(kk:Int):=by omega
    have hr:R=1:=by
     rw[<-B.out,List.drop_eq_getElem_cons hlt,show b.drop kk=[]from List.drop_of_length_le (by omega)];rfl
    clear hc r2
    go_wp2
    go_ret
    exact⟨by subst hr;rfl,rfl⟩
  .have hltz:¬(kk:Int)<(a.length:Int):=by omega
   have he:kk=a.length:=by omega
   have hA:=A.out;by_cases hlb:(a.length:Int)<(b.length:Int)
   .have hr:R=-1:=by
     rw[<-B.out,he,List.drop_length,List.drop_eq_getElem_cons (l:=b) (i:=a.length) (by omega)];rfl
    clear hc r1 r2
    go_wp2
    go_ret
    exact⟨by subst hr;rfl,rfl⟩
   .have hr:R=0:=by
     rw[<-B.out,he,List.drop_length,show b.drop a.length=[]from List.drop_of_length_le (by omega)];rfl
    clear hc r1 r2
    go_wp2
    go_ret
    exact⟨by subst hr;rfl,rfl⟩
theorem Zctz(v1 v2:Value)(a b:List Int)(w:World)(h1:Zja w v1 a)(h2:Zja w v2 b)(c:a.length<2305843009213693952)(cc:b.length<2305843009213693952) :
  Calls Tryz.prog 276 #[v1,v2] w λe w'=>e=.returned (.int .i64 (cmpR a b))/\w'=w:=by
 have hc:=Zcty v1 v2 a b w h1 h2 c cc;generalize cmpR a b=R at hc|-;obtain⟨p1,c1,rfl,r1⟩:=h1;obtain⟨p2,c2,rfl,r2⟩:=h2;clear r1 r2
 go_enter Tryz.func276,Tryz.ntmps276
 go_wp2_with (refine hc.mono ?_;rintro e w' ⟨rfl,rfl⟩)
 go_ret
 exact⟨rfl,rfl⟩
end Go.Proofs.YtnnjbejcffjgfaaGreat
namespace Go.Proofs.YtnnjbejcffjgfaaGreat
open Go.RowKit Go.AM
theorem Zb4u{w:World}:∀{r:List Int} {vs:List Value} {fp:List Nat},TRs w (r.map ic).flatten vs fp->vs=r.map (Value.int .i64)
 |[],vs,fp,h=>by cases h;rfl
 |x::r,vs,fp,h=>by
  rw[Yv,Y8]at h;change TRs w (T.int .i64 x::(r.map ic).flatten) vs fp at h
  cases h with
  |cons h hs =>
   cases h;rw[Yv,<-Zb4u hs]
theorem Z51{w W:World}{r:List Int}{v:Value}{fp:List Nat}(h:TR w (.lst 1 (r.map ic)) v fp)(hW:∀g∈fp,W.heap[g]?=w.heap[g]?):Zja W v r:=by
 have h:=h.frame hW;generalize he:r.map ic=es at h
 cases h with
 |lst0 sz a cap =>
  have:r=[]:=List.map_eq_nil_iff.1 he
  subst this
  exact⟨a,cap,rfl,λj hj=>absurd hj (Nat.not_lt_zero _)⟩
 |@lst sz es g off cap c e fz fp hne hsz hcap hg hlen hc =>
  subst he;have hv:=Zb4u hc;refine⟨some ⟨g,off,none⟩,cap,by rw[Yo],λj hj=>⟨g,off,rfl,?_⟩⟩;have h1:((c.toList.drop off).take ((r.map ic).length*1))[j]?=some (.int .i64 r[j]):=by
   rw[hv,Ybh,Yj hj];rfl
  rw[Yca,if_pos (by rw[Yo];omega),Ydo]at h1;unfold World.cell?;rw[hg];simpa using h1
end Go.Proofs.YtnnjbejcffjgfaaGreat
namespace Go.Proofs.YtnnjbejcffjgfaaGreat
open Go.RowKit Go.AM Go.Lib Go.Sort
def Zb4v:Prop:=∀(α:Type) [Inhabited α] (enc:α->Value) (_:OneCell enc) (cf:α->α->Int) (_:SWO (ltOf cf)) (blk off cap:Nat) (d:Array α) (w:World),CmpLays1 Tryz.prog 276 #[] enc cf blk off d.size w->Holds enc w blk off d->blk<w.heap.size->d.size<4611686018427387904->
 Calls Tryz.prog 277 #[.slice (some ⟨blk,off,none⟩) d.size cap,.func (.func 276) #[] #[]] w λe w'=>e=.returned (.tuple #[])/\∃d' n os,PermIn 0 d.size d d'/\SortedIn (ltOf cf) 0 d.size d'/\w'=sortWorld enc w blk off n d' os
def Zb4w:Prop:=∀(p:Option Addr) (cap:Nat) (w:World),Calls Tryz.prog 277 #[.slice p 0 cap,.func (.func 276) #[] #[]] w λe w'=>e=.returned (.tuple #[])/\w'=w
def El(w:World)(g:Nat):Type:={p:List Int×Value×List Nat // TR w (.lst 1 (p.1.map ic)) p.2.1 p.2.2/\(∀x∈p.2.2,x≠g)/\p.1.length<=4}
instance (w:World) (g:Nat):Inhabited (El w g):=⟨⟨([],.slice none 0 0,[]),.lst0 1 none 0,by simp,by simp⟩⟩
def El.enc{w:World}{g:Nat}(x:El w g):Value:=x.1.2.1
def El.row{w:World}{g:Nat}(x:El w g):List Int:=x.1.1
def El.tri{w:World}{g:Nat}(x:El w g):List (List Int)×Value×List Nat:=([x.1.1],x.1.2.1,x.1.2.2)
def El.t3{w:World}{g:Nat}(x:El w g):List T×List Value×List Nat:=(isc x.row,[x.enc],x.1.2.2)
theorem El.list{w:World}{g:Nat}:∀l:List (List T×List Value×List Nat),(∀p∈l,∃q:El w g,q.t3=p)->∃L:List (El w g),L.map El.t3=l
 |[],_=>⟨[],rfl⟩
 |p::l,h=>by
  obtain⟨q,hq⟩:=h p (by simp);obtain⟨L,hL⟩:=El.list l λp hp=>h p (by simp[hp])
  exact⟨q::L,by simp[hq,hL]⟩
def cfE{w:World}{g:Nat}(x y:El w g):Int:=cmpR x.row y.row
theorem swoE{w:World}{g:Nat}:SWO (ltOf (cfE (w:=w) (g:=g))) where
 irrefl x:=by unfold ltOf cfE;rw[Zi9];rfl
 trans x y z h1 h2:=by
  unfold ltOf cfE at *
  simp only[decide_eq_true_eq]at *
  have h3:=Zn0 _ _ _ (Int.le_of_lt h1) (Int.le_of_lt h2);have h4:=Zex x.row z.row;have h5:=Zex y.row z.row;rcases Yc8 h3 with h|h
  .exact h
  .have:=Zfb _ _ h;rw[this]at h1;omega
 ntrans x y z h1 h2:=by
  unfold ltOf cfE at *
  simp only[decide_eq_false_iff_not]at *
  have h3:=Zex x.row y.row;have h4:=Zex y.row z.row;have h5:=Zex x.row z.row;have:=Zn0 z.row y.row x.row (by omega) (by omega);omega
theorem Z52{α:Type}[Inhabited α](enc:α->Value)(w:World)(blk off n:Nat)(d:Array α)(os:Array Obj){k:Nat}(hk:k<w.heap.size)(c:k≠blk):(sortWorld enc w blk off n d os).heap[k]?=w.heap[k]?:=by
 show((w.heap.modify blk (onCells (putCells enc off d)))++os)[k]?=_;rw[Ydl (by simpa using hk),Yc9,if_neg (Ne.symm c)]
theorem Zb4x{α:Type}[Inhabited α](enc:α->Value)(w:World)(blk off n:Nat)(d:Array α)(os:Array Obj){c:Array Value}{e:TypeId}{fz:Nat×Nat}(hg:w.heap[blk]?=some (.cells c e fz)):(sortWorld enc w blk off n d os).heap[blk]?=some (.cells (putCells enc off d c) e fz):=by
 have hk:blk<w.heap.size:=(Yby.1 hg).1;show((w.heap.modify blk (onCells (putCells enc off d)))++os)[blk]?=_;rw[Ydl (by simpa using hk),Yc9,if_pos rfl,hg];rfl
theorem cmp_lays(w:World)(g size:Nat):CmpLays1 Tryz.prog 276 #[] (El.enc (w:=w) (g:=g)) cfE g 0 size w:=by
 intro m os dk hs x y;have hx:=Z51 (W:=sortWorld El.enc w g 0 m dk os) x.2.1 λk hk=>Z52 _ _ _ _ _ _ _ (x.2.1.lt k hk) (x.2.2.1 k hk)
 have hy:=Z51 (W:=sortWorld El.enc w g 0 m dk os) y.2.1 λk hk=>Z52 _ _ _ _ _ _ _ (y.2.1.lt k hk) (y.2.2.1 k hk)
 have h4:=x.2.2.2;have h5:=y.2.2.2;refine(Zctz x.enc y.enc x.row y.row _ hx hy (by unfold El.row;omega) (by unfold El.row;omega)).mono ?_;rintro e w' ⟨rfl,rfl⟩;exact⟨rfl,0,#[],by simp[grow,World.drewN]⟩
end Go.Proofs.YtnnjbejcffjgfaaGreat
namespace Go.Proofs.YtnnjbejcffjgfaaGreat
open Go.RowKit Go.AM Go.Lib Go.Sort
theorem el_of{w:World}{g:Nat}{r:List Int}{z:List Value}{f:List Nat}(h:TRs w (isc r) z f)(hf:∀x∈f,x≠g)(hr:r.length<=4):∃q:El w g,q.t3=(isc r,z,f):=by
 unfold isc at h
 cases h with
 |@cons t v fp ts vs fq h hs =>
  cases hs;rw[Ybl]at hf|-;exact⟨⟨(r,v,fp),h,hf,hr⟩,rfl⟩
theorem Zbj0{a b:List Int}(h:isc a=isc b):a=b:=by
 unfold isc at h;simp only[Yc4,T.lst.injEq,true_and,and_true]at h;exact(Yda (f:=ic) (by intro x y hxy;simpa[ic]using hxy)).1 h
theorem Z53{α:Type}[Inhabited α](enc:α->Value)(d:Array α)(c:Array Value)(h:d.size<=c.size):(putCells enc 0 d c).toList=d.toList.map enc++c.toList.drop d.size:=by
 refine Ycp (by simp[putCells];omega) λi h1 h2=>?_
 have hi:i<c.size:=by simpa[putCells]using h1
 simp only[putCells,Array.getElem_toList,Array.getElem_mapIdx];by_cases e:i<d.size
 .rw[if_pos (by omega),List.getElem_append_left (by simpa using e)];simp[e]
 .rw[if_neg (by omega),List.getElem_append_right (by simp;omega)];simp;congr 1;omega
theorem Z54{w:World}{g:Nat}:∀L:List (El w g),((L.map El.t3).map (·.2.1)).flatten=L.map El.enc
 |[]=>rfl
 |x::L=>by
  have ih:=Z54 L;simp only[Yv,Y8]at ih|-;rw[ih];rfl
theorem Zb4y{w:World}{g:Nat}(L:List (El w g)):(L.map El.t3).map (·.1)=(L.map El.row).map isc:=by simp[El.t3]
theorem Zct0(K:Zb4v)(K0:Zb4w){fr:Bool}{rows:List (List Int)}(cd:rows.length<=4096)(cc:∀r∈rows,r.length<=4) :
  Zbr Tryz.prog 277 [.own 0,.fn 276 []] [.arr 56 1 fr (rows.map isc)] (.tup []) [.arr 56 1 fr ((srtR rows).map isc)]:=by
 refine⟨by decide +kernel,?_⟩;intro N base w ρ vs R hdom hv hz;obtain⟨l⟩:=vs;simp only at hv
 cases hv with|cons q0 hv =>
 cases hv with|cons q1 hv =>
 cases hv
 cases q0 with|own hr h1 =>
 rename_i r
 cases q1 with|fn q1 =>
 rename_i c;obtain⟨c⟩:=c;simp only at q1;cases q1;have hb:gt [Blk.arr 56 1 fr (rows.map isc)] 0=.arr 56 1 fr (rows.map isc):=by simp[gt]
 have hd0:gt [Blk.arr 56 1 fr (rows.map isc)] 0≠.dead:=by rw[hb];intro hc;cases hc
 obtain⟨r2,e1,e2⟩:=R.blk 0 hd0;rw[hr]at e1;cases e1;rw[hb]at e2;obtain⟨hex,e',xs,hel,ho,hsz,hlen1,htr,hfree,hfr,how⟩:=e2;obtain⟨hxl,ho⟩:=ho;rcases ho with⟨hrv,hn⟩|⟨g,cap,cur,hrv,hbg,hg,hcap,hcm,hcur,htake⟩
 .have hn:rows=[]:=by simpa using hn
  subst hn;rw[hrv];refine(K0 none 0 w).mono ?_;rintro e w' ⟨rfl,rfl⟩;exact⟨_,ρ,rfl,Below.refl _ _,by simpa[srtR]using R,.tup .nil,hdom,by simp,λ_ _ _=>rfl,λg hg hzz=>⟨by simpa[srtR]using hz g hzz,rfl⟩,λb r0 _ h=>⟨r0,h,rfl⟩⟩
 obtain⟨zs,hzx,hch⟩:=Ch.of htr;obtain⟨l,p1,p2,p3,p4⟩:=hch.zip;have hblk:Zbj r.v=some g:=by rw[hrv];rfl
 have hfg:∀x∈r.fp,x≠g:=λx hx e=>by
  subst e;exact(hfree x hx).2 0 r hr hd0 (.inl hblk)
 have hgs:g<w.heap.size:=(Yby.1 hg).1
 obtain⟨L,hL⟩:=El.list (w:=w) (g:=g) l (by
  intro p hp;have hm:p.1∈rows.map isc:=by rw[<-p1];exact Yr.2 ⟨p,hp,rfl⟩
  obtain⟨r0,hr0,e0⟩:=Yr.1 hm;have ht:=p4 p hp;rw[<-e0]at ht;obtain⟨q,hq⟩:=el_of (g:=g) ht (λx hx=>hfg x (by rw[<-p3];exact Yco.2 ⟨p.2.2,Yr.2 ⟨p,hp,rfl⟩,hx⟩)) (cc r0 hr0)
  exact⟨q,by rw[hq,e0]⟩)
 subst hL;have hrows:L.map El.row=rows:=by
  have:(L.map El.row).map isc=rows.map isc:=by rw[<-p1];simp[El.t3]
  exact(Yda (λa b h=>Zbj0 h)).1 this
 have hLl:L.length=rows.length:=by rw[<-hrows,Yo]
 have henc:L.map El.enc=cur.toList.take ((rows.map isc).length*1):=by
  rw[htake,<-hzx,<-p2];simp[El.t3];clear p1 p2 p3 p4 hrows hLl
  induction L with
  |nil=>rfl
  |cons x L ih=>simp[ih];rfl
 have hcell:Holds El.enc w g 0 L.toArray:=by
  intro j hj;have hj':j<L.length:=by simpa using hj
  have h2:cur[j]?=some (L[j].enc):=by
   have h3:(cur.toList.take ((rows.map isc).length*1))[j]?=some (L[j].enc):=by rw[<-henc,Ybh,Yj hj'];rfl
   rw[Yca,if_pos (by simp;omega)]at h3;simpa using h3
  refine⟨?_,?_⟩
  .unfold World.cell?;rw[hg];simp[h2,hj']
  .simp[World.frozen?,hg]
 have hcall:=K (El w g) El.enc (λx=>x.2.1.one) cfE swoE g 0 cap L.toArray w (cmp_lays w g _) hcell hgs (by simp;omega);rw[hrv,show(rows.map isc).length=L.toArray.size by simp[hLl]];refine hcall.mono ?_;rintro e w' ⟨rfl,d',n,os,hP,hS,rfl⟩;have hds:d'.size=L.length:=by have:=hP.1;simpa using this
 have hperm:d'.toList.Perm L:=by
  have:=hP.2.2;rw[show L.toArray.size=d'.size from hP.1.symm,Array.extract_size]at this;rw[hP.1,Array.extract_size]at this;simpa using this
 have hgr:w.grownBy (sortWorld El.enc w g 0 n d' os) (some g):=⟨rfl,rfl,rfl,by show w.heap.size<=((w.heap.modify g _)++os).size;simp,λk hk hne=>Z52 _ _ _ _ _ _ _ hk (by intro e;exact hne (by rw[e]))⟩;have hpl:(d'.toList.map El.t3).Perm (L.map El.t3):=hperm.map _
 obtain⟨P1,P2,P3⟩:=Zbox R hr (by intro b hb;exact hdom b (by simpa using hb)) hrv hg p1 (by rw[p2,hzx,htake]) p3 p4 hpl ⟨_,Zb4x _ _ _ _ _ _ _ hg,by
  rw[Z53 _ _ _ (by simp at hcap;omega),Z54,hds,hLl];simp⟩ hgr
 have hsd:(d'.toList.map El.row)=srtR rows:=by
  refine Zctw (by rw[<-hrows];exact hperm.map _) ?_;rw[List.pairwise_map,Yc3];intro i j hi hj hij;have h:=hS i j (Ya _) hij (by simp at hj|-;omega);rw[getElem!_pos d' j (by simpa using hj),getElem!_pos d' i (by simpa using hi)]at h;unfold ltOf cfE at h;unfold leR;simp only[decide_eq_false_iff_not,decide_eq_true_eq,Array.getElem_toList]at h|-;have:=Zex d'[i].row d'[j].row;omega
 rw[Zb4y,hsd]at P1 P2;refine⟨_,_,rfl,⟨hgr.os,hgr.tape,hgr.output,hgr.size,λk hk=>hgr.block k (Yb8 hk R.hb) (by intro e;cases e;omega)⟩,P1,.tup .nil,λb hb=>?_,by simp,P3,λk hk hzz=>P2.free k hk (hz k hzz),λb r0 hb h0=>P2.root b r0 h0⟩;simp only[updM];rw[if_neg (by simp at hb;omega)];exact hdom b (by simpa using hb)
theorem Zct1{a b:List (List Int)}(h:a.map isc=b.map isc):a=b:=(Yda (λ_ _ h=>Zbj0 h)).1 h
theorem ic_inj{a b:List Int}(h:a.map ic=b.map ic):a=b:=(Yda (f:=ic) (by intro x y hxy;simpa[ic]using hxy)).1 h
theorem Zb4z{rows:List (List Int)}(h1:rows.length<=4096)(h2:∀r∈rows,r.length<=4)(k:List (List Int)->AV×List Blk):extS (rows.map isc) k=some (k rows):=by
 have h:∃r,Zbo7 (rows.map isc) r:=⟨rows,rfl,h1,h2⟩;unfold extS;rw[dif_pos h,Zct1 h.choose_spec.1.symm]
theorem Zb40{l:List Int}(h1:l.length<=4096)(k:List Int->AV×List Blk):extI (l.map ic) k=some (k l):=by
 have h:∃r,Zbo8 (l.map ic) r:=⟨l,rfl,h1⟩;unfold extI;rw[dif_pos h,ic_inj h.choose_spec.1.symm]
theorem t277:tbl 277=none:=by kernel_rfl
theorem t278:tbl 278=none:=by kernel_rfl
theorem t251:tbl 251=none:=by kernel_rfl
theorem t252:tbl 252=none:=by kernel_rfl
theorem c_sort{fr:Bool}{rows:List (List Int)}(h1:rows.length<=4096)(h2:∀r∈rows,r.length<=4):C 277 [.own 0,.fn 276 []] [.arr 56 1 fr (rows.map isc)]=some (.tup [],[.arr 56 1 fr ((srtR rows).map isc)]) :=
 Z0c t277 (by simp only[ext,if_pos];exact Zb4z h1 h2 _)
theorem c_cpt{fr:Bool}{rows:List (List Int)}(h1:rows.length<=4096)(h2:∀r∈rows,r.length<=4):C 278 [.own 0,.fn 279 []] [.arr 56 1 fr (rows.map isc)]=some (.own 1,[.dead,.arr 56 1 fr ((cptR rows).map isc)]) :=
 Z0c t278 (by simp only[ext,if_pos];exact Zb4z h1 h2 _)
theorem c_sortI{fr:Bool}{l:List Int}(h1:l.length<=4096):C 251 [.own 0] [.arr 3 1 fr (l.map ic)]=some (.tup [],[.arr 3 1 fr ((srtI l).map ic)]) :=
 Z0c t251 (by simp only[ext,if_pos];exact Zb40 h1 _)
theorem c_cptI{fr:Bool}{l:List Int}(h1:l.length<=4096):C 252 [.own 0] [.arr 3 1 fr (l.map ic)]=some (.own 1,[.dead,.arr 3 1 fr ((cptI l).map ic)]) :=
 Z0c t252 (by unfold ext;simp only[show ¬(252:Nat)=251 by decide,if_false,if_true];exact Zb40 h1 _)
theorem gD{xs:List Int}{i:Nat}(h:i<xs.length):xs[i]?=some (xs.getD i 0):=by
 rw[Yy,Yj h];rfl
def selC(row cols:List Int):List Int:=cols.map λc=>row.getD c.toNat 0
theorem l_Sel(row cols:List Int)(h4:cols.length<=1000)(hr:Le row)(hc:∀c∈cols,0<=c/\c<row.length):∀i,i<=cols.length->Ztg (selC row (cols.take i)) row cols cols.length i=some (.tup [.own 0,Bo true],[.arr 3 1 true ((selC row cols).map ic)]):=by
 refine down _ ?_ ?_
 .refine Zbyn _ _ _ _ _ _ ?_;rw[if_neg (by omega),Yl]
 .intro i hi ih;obtain⟨h0,h1⟩:=hc _ (Yb hi);refine Zbyn _ _ _ _ _ _ ?_;rw[if_pos (by omega),wS hi (by omega)];refine⟨by omega,_,gE hi,_,Zbu _ _ _,?_⟩;rw[show w ((row.length:Int)-1)=(row.length:Int)-1 from Zw (by omega) (by omega)];rw[show inR cols[i] 0 ((row.length:Int)-1)=true by simp[inR];omega,if_pos rfl];refine⟨h0,_,gD (by omega),by simp[selC];omega,?_⟩;rw[show selC row (cols.take (i+1))=selC row (cols.take i)++[row.getD cols[i].toNat 0] by unfold selC;rw[Y1 hi,Y0];rfl]at ih;exact ih
theorem Zb41(row cols:List Int)(h4:cols.length<=1000)(hr:Le row)(hc:∀c∈cols,0<=c/\c<row.length):Zc5 row cols=some (.tup [.own 0,Bo true],[.arr 3 1 true ((selC row cols).map ic)]) :=
 Zclp _ _ _ (by simpa[selC]using l_Sel row cols h4 hr hc 0 (Ya _))
end Go.Proofs.YtnnjbejcffjgfaaGreat
