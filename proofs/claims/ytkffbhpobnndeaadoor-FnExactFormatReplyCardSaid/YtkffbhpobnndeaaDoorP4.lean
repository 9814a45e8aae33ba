/-
  Parts of the proofs for this seat: AMEv AMLive AMList AMSimp AMLaw AMLaw2 AMTy AMSx.
-/
import Derived.Carry
import Derived.Laws.Strings
import Derived.OpenShut
import Derived.ProofKit
import Derived.Test.YtkffbhpobnndeaaDoorP3
set_option linter.unusedSimpArgs false
set_option linter.unusedVariables false
namespace Go.AM
inductive Fr where
 |seq (b:MCode)
 |blk (id:Nat)
 |loop (keep:List Nat) (b:MCode)
 |fin (k:Nat) (rs:List Res)
inductive Cf where
 |code (c:MCode)
 |ops (os:List MO) (keep:List Nat)
 |drw (os:List MO) (feet:List Foot) (before:List (List Nat)) (keep:List Nat)
 |out (x:X)
abbrev Ze:=Nat→List AV→List Blk→Option (AV×List Blk)
def callB(args:List AV)(nx:Nat):Option (AV×List Blk)→Option (AV×List (Nat×Blk))
 |some (r,hr)=>if(Zcm args || frR r hr)=true then some (shift nx r,newU nx hr 0)else none
 |none=>none
def callA(C:Ze)(f:Nat)(args:List AV)(nx:Nat):Option (List AV)→Option (AV×List (Nat×Blk))
 |some as=>callB args nx (C f as [])
 |none=>none
def xcallB(nx:Nat):Option (AV×List Blk)→Option (AV×List (Nat×Blk))
 |some (r,hr)=>if frR r hr=true then some (shift nx r,newU nx (hr.map xB) 0)else none
 |none=>none
def Zdr(C:Ze)(f nx:Nat):Option (List AV)→Option (AV×List (Nat×Blk))
 |some as=>xcallB nx (C f as [])
 |none=>none
def packW(v:AV)(u:List (Nat×Blk)):Option (List (Nat×Blk))→Option (AV×List (Nat×Blk))
 |some u2=>some (v,u++u2)
 |none=>none
def packV(h:List Blk)(x:AV):Option (AV×List (Nat×Blk))→Option (AV×List (Nat×Blk))
 |some (v,u)=>packW v u (Zb5 h u x)
 |none=>none
def mcallB(ids:List Nat)(nx:Nat):Option (AV×List Blk)→Option (AV×List (Nat×Blk))
 |some (r,h1)=>some (ren (bk ids nx) r,Zs ids nx h1 0)
 |none=>none
def Zbf(C:Ze)(f:Nat)(vs:List AV)(h:List Blk)(nx:Nat)(ids:List Nat):Option (AV×List (Nat×Blk)) :=
 if Zbi h ids (Zc vs)=true then mcallB ids nx (C f (subA ids vs) (subH h ids))else none
open Classical in
noncomputable def pcallB(ids:List Nat)(h0:List Blk)(nx:Nat):Option (AV×List Blk)→Option (AV×List (Nat×Blk))
 |some (r,h1)=>if h1.take ids.length=h0 then some (ren (bk ids nx) r,Zs ids nx (h1.drop ids.length) ids.length)else none
 |none=>none
noncomputable def Zds(C:Ze)(f:Nat)(vs:List AV)(h:List Blk)(nx:Nat)(ids:List Nat):Option (AV×List (Nat×Blk)) :=
 if Zbi h ids (Zc vs)=true then pcallB ids (subH h ids) nx (C f (subA ids vs) (subH h ids))else none
def Zdt(C:Ze)(args:List AV)(h:List Blk)(nx:Nat):AV→Option (AV×List (Nat×Blk))
 |.fn g caps=>Zbf C g (args++caps) h nx (Zf h (args++caps))
 |_=>none
noncomputable def runV(C:Ze)(k:MOp)(s:S):Option (AV×List (Nat×Blk)):=match k with
 |.call f args=>callA C f (args.map (ev s.env)) s.h.length (frzs s.h (args.map (ev s.env)))
 |.xcall f args=>Zdr C f s.h.length (frzs s.h (args.map (ev s.env)))
 |.icall f args=>Zbf C f (args.map (ev s.env)) s.h s.h.length (Zf s.h (args.map (ev s.env)))
 |.scall f args p=>packV s.h (ev s.env p) (Zbf C f (args.map (ev s.env)) s.h s.h.length (Zf s.h (args.map (ev s.env))))
 |.pcall f args=>Zds C f (args.map (ev s.env)) s.h s.h.length (Zf s.h (args.map (ev s.env)))
 |.dcall f args=>Zdt C (args.map (ev s.env)) s.h s.h.length (ev s.env f)
 |k=>Za s.h s.h.length s.env k
def runD(o:MO)(s:S):Option (AV×List (Nat×Blk))→Option S
 |some (v,u)=>some { s with env:=put o.dst v s.env,h:=upd s.h u }
 |none=>none
noncomputable def runE(C:Ze)(o:MO)(s:S):Option S:=runD o s (runV C o.op s)
def skipE(o:MO)(s:S):S:={ s with env:=put o.dst (.tup []) s.env }
noncomputable def Zen(C:Ze)(o:MO)(s:S)(want:Bool):AV→Option S
 |.t (.bool b)=>if b=want then runE C o s else some (skipE o s)
 |.tup []=>some (skipE o s)
 |_=>none
noncomputable def opE(C:Ze)(o:MO)(s:S):Option S:=match o.guard with
 |none=>runE C o s
 |some (g,want)=>Zen C o s want (lk g s.env)
def runFD(o:MO)(s:S):Option (AV×List (Nat×Blk))→Option (Foot×S)
 |some (v,u)=>some (Z0 o s (u.map Prod.fst),{ s with env:=put o.dst v s.env,h:=upd s.h u })
 |none=>none
noncomputable def runF(C:Ze)(o:MO)(s:S):Option (Foot×S):=runFD o s (runV C o.op s)
noncomputable def Zeo(C:Ze)(o:MO)(s:S)(want:Bool):AV→Option (Foot×S)
 |.t (.bool b)=>if b=want then runF C o s else some (Z0 o s [],skipE o s)
 |.tup []=>some (Z0 o s [],skipE o s)
 |_=>none
noncomputable def opF(C:Ze)(o:MO)(s:S):Option (Foot×S):=match o.guard with
 |none=>runF C o s
 |some (g,want)=>Zeo C o s want (lk g s.env)
def finE(k:Nat)(rs:List Res)(s:S):Option (AV×List Blk):=match resAV rs s with
 |some v=>Ze7 rs k v s
 |none=>none
abbrev Step:=Sum (List Fr×Cf×S) (Option (AV×List Blk))
def stepO(ks:List Fr)(os:List MO)(keep:List Nat):Option S→Step
 |some s=>.inl (ks,.ops os keep,s)
 |none=>.inr none
def stepD(ks:List Fr)(os:List MO)(feet:List Foot)(before:List (List Nat))(keep:List Nat):Option (Foot×S)→Step
 |some (f,s)=>.inl (ks,.drw os (feet++[f]) before keep,s)
 |none=>.inr none
def stepC(ks:List Fr)(x y:MCode)(s:S):AV→Step
 |.t (.bool b)=>if b=true then .inl (ks,.code x,s)else .inl (ks,.code y,s)
 |_=>.inr none
noncomputable def step(C:Ze):List Fr→Cf→S→Step
 |ks,.code .skip,s=>.inl (ks,.out .n,s)
 |ks,.code (.reg ops keep),s=>.inl (ks,.ops ops keep,s)
 |ks,.code (.drw ops b keep),s=>.inl (ks,.drw ops [] b keep,s)
 |ks,.code (.seq a b),s=>.inl (.seq b::ks,.code a,s)
 |ks,.code (.cond c x y),s=>stepC ks x y s (ev s.env c)
 |ks,.code (.block id b),s=>.inl (.blk id::ks,.code b,s)
 |ks,.code (.loop keep b),s=>.inl (.loop keep b::ks,.code b,Zbm keep s)
 |ks,.code (.exit id),s=>.inl (ks,.out (.x id),s)
 |ks,.code .ret,s=>.inl (ks,.out .r,s)
 |ks,.ops [] keep,s=>.inl (ks,.out .n,{ s with env:=rst keep s.env })
 |ks,.ops (o::os) keep,s=>stepO ks os keep (opE C o s)
 |ks,.drw [] feet before keep,s=>if Zcp before feet=true then .inl (ks,.out .n,{ s with env:=rst keep s.env })else .inr none
 |ks,.drw (o::os) feet before keep,s=>stepD ks os feet before keep (opF C o s)
 |[],.out _,_=>.inr none
 |.fin _ _::_,.out (.x _),_=>.inr none
 |.fin k rs::_,.out .n,s=>.inr (finE k rs s)
 |.fin k rs::_,.out .r,s=>.inr (finE k rs s)
 |.seq b::ks,.out .n,s=>.inl (ks,.code b,s)
 |.seq _::ks,.out x,s=>.inl (ks,.out x,s)
 |.blk id::ks,.out (.x i),s=>if i=id then .inl (ks,.out .n,s)else .inl (ks,.out (.x i),s)
 |.blk _::ks,.out x,s=>.inl (ks,.out x,s)
 |.loop keep b::ks,.out .n,s=>.inl (ks,.code (.loop keep b),s)
 |.loop _ _::ks,.out x,s=>.inl (ks,.out x,s)
noncomputable def runN(C:Ze):Nat→List Fr→Cf→S→Option (AV×List Blk)
 |0,_,_,_=>none
 |n+1,ks,cf,s=>match step C ks cf s with
  |.inl (ks',cf',s')=>runN C n ks' cf' s'
  |.inr r=>r
theorem Zep{C:Ze}:∀(n:Nat) {m:Nat} {ks:List Fr} {cf:Cf} {s:S} {r:AV×List Blk},runN C n ks cf s=some r→n≤m→runN C m ks cf s=some r
 |0,_,_,_,_,_,h,_=>by cases h
 |n+1,0,_,_,_,_,_,hm=>by omega
 |n+1,m+1,ks,cf,s,r,h,hm=>by
  simp only[runN]at h⊢;split at h
  ·rename_i h1;exact Zep n h (by omega)
  ·rename_i h1;exact h
theorem runN_det{C:Ze}{n m:Nat}{ks:List Fr}{cf:Cf}{s:S}{r r':AV×List Blk}(h:runN C n ks cf s=some r)(h':runN C m ks cf s=some r'):r=r':=by
 rcases Nat.le_total n m with hl|hl
 ·have:=Zep n h hl;rw[h']at this;cases this;rfl
 ·have:=Zep m h' hl;rw[h]at this;cases this;rfl
open Classical in
noncomputable def limP(p:AV×List Blk→Prop):Option (AV×List Blk):=if h:∃r,p r then some h.choose else none
noncomputable def lim(p:Nat→Option (AV×List Blk)):Option (AV×List Blk):=limP fun r=>∃n,p n=some r
theorem Zdu{p:Nat→Option (AV×List Blk)}{r:AV×List Blk}(h:lim p=some r):∃n,p n=some r:=by
 unfold lim limP at h;split at h
 ·rename_i hx;cases h;exact hx.choose_spec
 ·cases h
theorem lim_eq{p:Nat→Option (AV×List Blk)}(det:∀n m r r',p n=some r→p m=some r'→r=r'){n:Nat}{r:AV×List Blk}(h:p n=some r):lim p=some r:=by
 have hx:∃r,∃n,p n=some r:=⟨r,n,h⟩;unfold lim limP;rw[dif_pos hx];obtain⟨m,hm⟩:=hx.choose_spec;rw[det _ _ _ _ hm h]
theorem Zox{p q:Nat→Option (AV×List Blk)}(h:∀r,(∃n,p n=some r)↔∃n,q n=some r):lim p=lim q:=by
 have:(fun r=>∃n,p n=some r)=fun r=>∃n,q n=some r:=funext fun r=>propext (h r)
 unfold lim;rw[this]
noncomputable def Lim(C:Ze)(ks:List Fr)(cf:Cf)(s:S):Option (AV×List Blk):=lim fun n=>runN C n ks cf s
theorem Zki{C:Ze}{ks:List Fr}{cf:Cf}{s:S}{r:AV×List Blk}(h:Lim C ks cf s=some r):∃n,runN C n ks cf s=some r:=Zdu h
theorem Zw{C:Ze}{ks ks':List Fr}{cf cf':Cf}{s s':S}(h:step C ks cf s=.inl (ks',cf',s')):Lim C ks cf s=Lim C ks' cf' s':=by
 refine Zox fun r=>⟨?_,?_⟩
 ·rintro⟨n,hn⟩
  cases n with
  |zero=>cases hn
  |succ n=>simp only[runN,h]at hn;exact⟨n,hn⟩
 ·rintro⟨n,hn⟩;exact⟨n+1,by simp only[runN,h];exact hn⟩
theorem Zdv{C:Ze}{ks:List Fr}{cf:Cf}{s:S}{r:Option (AV×List Blk)}(h:step C ks cf s=.inr r):Lim C ks cf s=r:=by
 cases r with
 |some r=>exact lim_eq (fun n m r r' h h'=>runN_det h h') (n:=1) (by simp only[runN,h])
 |none =>
  cases hl:Lim C ks cf s with
  |none=>rfl
  |some r =>
   obtain⟨n,hn⟩:=Zki hl
   cases n with
   |zero=>cases hn
   |succ n=>simp only[runN,h]at hn;cases hn
noncomputable def Ev(C:Ze)(ks:List Fr)(c:MCode)(s:S):Option (AV×List Blk):=Lim C ks (.code c) s
noncomputable def EvX(C:Ze)(ks:List Fr)(x:X)(s:S):Option (AV×List Blk):=Lim C ks (.out x) s
noncomputable def EvO(C:Ze)(ks:List Fr)(os:List MO)(keep:List Nat)(s:S):Option (AV×List Blk):=Lim C ks (.ops os keep) s
noncomputable def EvD(C:Ze)(ks:List Fr)(os:List MO)(feet:List Foot)(before:List (List Nat))(keep:List Nat)(s:S):Option (AV×List Blk):=Lim C ks (.drw os feet before keep) s
noncomputable def EvL(C:Ze)(ks:List Fr)(keep:List Nat)(b:MCode)(s:S):Option (AV×List Blk):=Ev C (.loop keep b::ks) b s
noncomputable def EvS(C:Ze)(ks:List Fr)(os:List MO)(keep:List Nat):Option S→Option (AV×List Blk)
 |some s=>EvO C ks os keep s
 |none=>none
noncomputable def EvF(C:Ze)(ks:List Fr)(os:List MO)(feet:List Foot)(before:List (List Nat))(keep:List Nat):Option (Foot×S)→Option (AV×List Blk)
 |some (f,s)=>EvD C ks os (feet++[f]) before keep s
 |none=>none
noncomputable def EvC(C:Ze)(ks:List Fr)(x y:MCode)(s:S):AV→Option (AV×List Blk)
 |.t (.bool b)=>if b=true then Ev C ks x s else Ev C ks y s
 |_=>none
section
variable{C:Ze}{ks:List Fr}{s:S}{a b x y:MCode}{os:List MO}{o:MO}{keep:List Nat}{id i:Nat}{feet:List Foot}{before:List (List Nat)}
theorem Ev_skip:Ev C ks .skip s=EvX C ks .n s:=Zw rfl
theorem Ev_reg:Ev C ks (.reg os keep) s=EvO C ks os keep s:=Zw rfl
theorem Ev_drw:Ev C ks (.drw os before keep) s=EvD C ks os [] before keep s:=Zw rfl
theorem Ev_seq:Ev C ks (.seq a b) s=Ev C (.seq b::ks) a s:=Zw rfl
theorem Ev_cond{c:Opd}:Ev C ks (.cond c x y) s=EvC C ks x y s (ev s.env c):=by
 unfold EvC;split
 ·rename_i b hb;cases b
  ·exact Zw (by simp[step,hb,stepC])
  ·exact Zw (by simp[step,hb,stepC])
 ·rename_i hb;refine Zdv ?_;simp only[step];unfold stepC;split
  ·rename_i b hb2;exact absurd hb2 (hb b)
  ·rfl
theorem Ev_block:Ev C ks (.block id b) s=Ev C (.blk id::ks) b s:=Zw rfl
theorem Ev_loop:Ev C ks (.loop keep b) s=Ev C (.loop keep b::ks) b (Zbm keep s):=Zw rfl
theorem Zu{B c:MCode}(hB:B=c):EvL C ks keep B s=Ev C (.loop keep B::ks) c s:=by subst hB;rfl
theorem Zkj:Ev C ks (.loop keep b) s=EvL C ks keep b (Zbm keep s):=Ev_loop
theorem EvD_nil':EvD C ks [] feet before keep s=if Zcp before feet=true then EvX C ks .n { s with env:=rst keep s.env } else none:=by
 split
 ·rename_i h;exact Zw (by simp[step,h])
 ·rename_i h;exact Zdv (by simp[step,h])
theorem Ev_exit:Ev C ks (.exit id) s=EvX C ks (.x id) s:=Zw rfl
theorem Ev_ret:Ev C ks .ret s=EvX C ks .r s:=Zw rfl
theorem EvO_nil:EvO C ks [] keep s=EvX C ks .n { s with env:=rst keep s.env }:=Zw rfl
theorem EvO_cons:EvO C ks (o::os) keep s=EvS C ks os keep (opE C o s):=by
 cases h:opE C o s with
 |some s'=>exact Zw (by simp[step,h,stepO])
 |none =>
  show Lim C ks (.ops (o::os) keep) s=none;exact Zdv (by simp[step,h,stepO])
theorem EvS_some:EvS C ks os keep (some s)=EvO C ks os keep s:=rfl
theorem EvD_cons:EvD C ks (o::os) feet before keep s=EvF C ks os feet before keep (opF C o s):=by
 cases h:opF C o s with
 |some p=>obtain⟨f,s'⟩:=p;exact Zw (by simp[step,h,stepD])
 |none =>
  show Lim C ks (.drw (o::os) feet before keep) s=none;exact Zdv (by simp[step,h,stepD])
theorem EvF_some{f:Foot}:EvF C ks os feet before keep (some (f,s))=EvD C ks os (feet++[f]) before keep s:=rfl
theorem EvC_bool{v:Bool}:EvC C ks x y s (.t (.bool v))=if v=true then Ev C ks x s else Ev C ks y s:=rfl
theorem Zoy{k:Nat}{rs:List Res}:EvX C (.fin k rs::ks) .n s=finE k rs s:=Zdv rfl
theorem Zoz{k:Nat}{rs:List Res}:EvX C (.fin k rs::ks) .r s=finE k rs s:=Zdv rfl
theorem Zo0:EvX C (.seq b::ks) .n s=Ev C ks b s:=Zw rfl
theorem Zo1:EvX C (.seq b::ks) (.x i) s=EvX C ks (.x i) s:=Zw rfl
theorem Zo2:EvX C (.seq b::ks) .r s=EvX C ks .r s:=Zw rfl
theorem Zo3:EvX C (.blk id::ks) .n s=EvX C ks .n s:=Zw rfl
theorem Zo4:EvX C (.blk id::ks) (.x i) s=if i=id then EvX C ks .n s else EvX C ks (.x i) s:=by
 split
 ·rename_i h;exact Zw (by simp[step,h])
 ·rename_i h;exact Zw (by simp[step,h])
theorem Zo5:EvX C (.blk id::ks) .r s=EvX C ks .r s:=Zw rfl
theorem Zo6:EvX C (.loop keep b::ks) .n s=Ev C ks (.loop keep b) s:=Zw rfl
theorem Zo7:EvX C (.loop keep b::ks) .n s=EvL C ks keep b (Zbm keep s):=by rw[Zo6,Zkj]
theorem Zo8:EvX C (.loop keep b::ks) (.x i) s=EvX C ks (.x i) s:=Zw rfl
theorem Zo9:EvX C (.loop keep b::ks) .r s=EvX C ks .r s:=Zw rfl
end
noncomputable def Zx(X:Ze)(tbl:Nat→Option MFun):Nat→Ze
 |0=>fun _ _ _=>none
 |n+1=>fun f as h0=>match tbl f with
  |some m=>if as.length=m.np then runN (Zx X tbl n) n [.fin h0.length m.res] (.code m.body) ⟨Zb7 as 0,[Zby h0 0],h0⟩else none
  |none=>X f as h0
def LeE(C C':Ze):Prop:=∀f as h0 r,C f as h0=some r→C' f as h0=some r
theorem Zfw{h:List Blk}{x:AV}{q:Option (AV×List (Nat×Blk))}{v:AV}{u:List (Nat×Blk)}(hp:packV h x q=some (v,u)):∃u1 u2,q=some (v,u1)∧Zb5 h u1 x=some u2∧u=u1++u2:=by
 cases q with
 |none=>cases hp
 |some p =>
  obtain⟨v1,u1⟩:=p;simp only[packV]at hp
  cases hx:Zb5 h u1 x with
  |none=>rw[hx]at hp;cases hp
  |some u2=>rw[hx]at hp;cases hp;exact⟨u1,u2,rfl,hx,rfl⟩
theorem Zkk{C C':Ze}(h:LeE C C'){k:MOp}{s:S}{p:AV×List (Nat×Blk)}(hr:runV C k s=some p):runV C' k s=some p:=by
 have m:∀f vs ids,Zbf C f vs s.h s.h.length ids=some p→Zbf C' f vs s.h s.h.length ids=some p:=by
  intro f vs ids hr;unfold Zbf at hr⊢;split at hr
  ·rename_i hc;rw[if_pos hc]
   cases hx:C f (subA ids vs) (subH s.h ids)with
   |none=>rw[hx]at hr;cases hr
   |some q=>rw[h _ _ _ _ hx];rw[hx]at hr;exact hr
  ·cases hr
 cases k<;>first|exact hr|skip
 ·rename_i f args;simp only[runV]at hr⊢
  cases hf:frzs s.h (args.map (ev s.env))with
  |none=>rw[hf]at hr;cases hr
  |some as =>
   rw[hf]at hr;simp only[callA]at hr⊢
   cases hx:C f as []with
   |none=>rw[hx]at hr;cases hr
   |some q=>rw[h _ _ _ _ hx];rw[hx]at hr;exact hr
 ·rename_i f args;simp only[runV]at hr⊢
  cases hf:frzs s.h (args.map (ev s.env))with
  |none=>rw[hf]at hr;cases hr
  |some as =>
   rw[hf]at hr;simp only[Zdr]at hr⊢
   cases hx:C f as []with
   |none=>rw[hx]at hr;cases hr
   |some q=>rw[h _ _ _ _ hx];rw[hx]at hr;exact hr
 ·exact m _ _ _ hr
 ·rename_i f args p';simp only[runV]at hr⊢;obtain⟨v,u⟩:=p;obtain⟨u1,u2,q1,q2,rfl⟩:=Zfw hr;have m':∀p f vs ids,Zbf C f vs s.h s.h.length ids=some p→Zbf C' f vs s.h s.h.length ids=some p:=by
   intro p f vs ids hr;unfold Zbf at hr⊢;split at hr
   ·rename_i hc;rw[if_pos hc]
    cases hx:C f (subA ids vs) (subH s.h ids)with
    |none=>rw[hx]at hr;cases hr
    |some q=>rw[h _ _ _ _ hx];rw[hx]at hr;exact hr
   ·cases hr
  rw[m' _ _ _ _ q1];simp[packV,q2,packW]
 ·rename_i f args;simp only[runV,Zds]at hr⊢;split at hr
  ·rename_i hc;rw[if_pos hc]
   cases hx:C f (subA (Zf s.h (args.map (ev s.env))) (args.map (ev s.env))) (subH s.h (Zf s.h (args.map (ev s.env))))with
   |none=>rw[hx]at hr;cases hr
   |some q=>rw[h _ _ _ _ hx];rw[hx]at hr;exact hr
  ·cases hr
 ·rename_i x args;simp only[runV]at hr⊢;unfold Zdt at hr⊢;split at hr
  ·exact m _ _ _ hr
  ·cases hr
theorem Zkl{C C':Ze}(h:LeE C C'){o:MO}{s s':S}(hr:runE C o s=some s'):runE C' o s=some s':=by
 unfold runE at hr⊢
 cases hx:runV C o.op s with
 |none=>rw[hx]at hr;cases hr
 |some p=>rw[Zkk h hx];rw[hx]at hr;exact hr
theorem Zkm{C C':Ze}(h:LeE C C'){o:MO}{s:S}{s':Foot×S}(hr:runF C o s=some s'):runF C' o s=some s':=by
 unfold runF at hr⊢
 cases hx:runV C o.op s with
 |none=>rw[hx]at hr;cases hr
 |some p=>rw[Zkk h hx];rw[hx]at hr;exact hr
theorem opE_mono{C C':Ze}(h:LeE C C'){o:MO}{s s':S}(hr:opE C o s=some s'):opE C' o s=some s':=by
 unfold opE at hr⊢
 cases hg:o.guard with
 |none=>simp only[hg]at hr⊢;exact Zkl h hr
 |some p =>
  obtain⟨g,want⟩:=p;simp only[hg]at hr⊢;unfold Zen at hr⊢;split at hr
  ·split at hr
   ·rename_i hb;simp only[hb,if_true];exact Zkl h hr
   ·rename_i hb;simp only[hb,if_false];exact hr
  ·exact hr
  ·cases hr
theorem opF_mono{C C':Ze}(h:LeE C C'){o:MO}{s:S}{s':Foot×S}(hr:opF C o s=some s'):opF C' o s=some s':=by
 unfold opF at hr⊢
 cases hg:o.guard with
 |none=>simp only[hg]at hr⊢;exact Zkm h hr
 |some p =>
  obtain⟨g,want⟩:=p;simp only[hg]at hr⊢;unfold Zeo at hr⊢;split at hr
  ·split at hr
   ·rename_i hb;simp only[hb,if_true];exact Zkm h hr
   ·rename_i hb;simp only[hb,if_false];exact hr
  ·exact hr
  ·cases hr
theorem Zhk{C C':Ze}(h:LeE C C'){ks:List Fr}{cf:Cf}{s:S}:(∀c,step C ks cf s=.inl c→step C' ks cf s=.inl c)∧∀r,step C ks cf s=.inr (some r)→step C' ks cf s=.inr (some r):=by
 have key:(∃o os keep,cf=.ops (o::os) keep)∨(∃o os feet before keep,cf=.drw (o::os) feet before keep)∨step C ks cf s=step C' ks cf s:=by
  cases cf with
  |code c=>cases c<;>exact .inr (.inr rfl)
  |ops os keep =>
   cases os with
   |nil=>exact .inr (.inr rfl)
   |cons o os=>exact .inl ⟨o,os,keep,rfl⟩
  |drw os feet before keep =>
   cases os with
   |nil=>exact .inr (.inr rfl)
   |cons o os=>exact .inr (.inl ⟨o,os,feet,before,keep,rfl⟩)
  |out x =>
   refine .inr (.inr ?_)
   cases ks with
   |nil=>rfl
   |cons k ks=>cases k<;>cases x<;>rfl
 rcases key with⟨o,os,keep,rfl⟩|⟨o,os,feet,before,keep,rfl⟩|he
 ·simp only[step]
  cases hx:opE C o s with
  |none=>simp[stepO]
  |some s'=>rw[opE_mono h hx];exact⟨fun _ h=>h,fun _ h=>h⟩
 ·simp only[step]
  cases hx:opF C o s with
  |none=>simp[stepD]
  |some s'=>rw[opF_mono h hx];exact⟨fun _ h=>h,fun _ h=>h⟩
 ·rw[he];exact⟨fun _ h=>h,fun _ h=>h⟩
theorem Zfx{C C':Ze}(h:LeE C C'):∀(n:Nat) {ks:List Fr} {cf:Cf} {s:S} {r:AV×List Blk},runN C n ks cf s=some r→runN C' n ks cf s=some r
 |0,_,_,_,_,hr=>by cases hr
 |n+1,ks,cf,s,r,hr=>by
  simp only[runN]at hr⊢;split at hr
  ·rename_i h1;rw[(Zhk h).1 _ h1];exact Zfx h n hr
  ·rename_i h1;subst hr;rw[(Zhk h).2 _ h1]
theorem Zkn{X:Ze}{tbl:Nat→Option MFun}:∀n,LeE (Zx X tbl n) (Zx X tbl (n+1))
 |0=>fun _ _ _ _ h=>by cases h
 |n+1=>fun f as h0 r h=>by
  simp only[Zx]at h;rw[Zx]
  cases hm:tbl f with
  |none=>simp only[hm]at h⊢;exact h
  |some m =>
   simp only[hm]at h⊢;split at h
   ·rename_i hl;rw[if_pos hl];exact Zep _ (Zfx (Zkn n) n h) (Nat.le_succ n)
   ·cases h
theorem Zeq{X:Ze}{tbl:Nat→Option MFun}{n m:Nat}(h:n≤m):LeE (Zx X tbl n) (Zx X tbl m):=by
 induction h with
 |refl=>exact fun _ _ _ _ h=>h
 |step _ ih=>exact fun f as h0 r h=>Zkn _ f as h0 r (ih f as h0 r h)
theorem Zpa{X:Ze}{tbl:Nat→Option MFun}{f:Nat}{as:List AV}{h0:List Blk}(n m:Nat)(r r':AV×List Blk)(h:Zx X tbl n f as h0=some r)(h':Zx X tbl m f as h0=some r'):r=r':=by
 have h1:=Zeq (Nat.le_max_left n m) f as h0 r h;have h2:=Zeq (Nat.le_max_right n m) f as h0 r' h';rw[h1]at h2;cases h2;rfl
noncomputable def Zy(X:Ze)(tbl:Nat→Option MFun):Ze:=fun f as h0=>lim fun n=>Zx X tbl n f as h0
theorem Zko{X:Ze}{tbl:Nat→Option MFun}(n:Nat):LeE (Zx X tbl n) (Zy X tbl):=fun _ _ _ _ h=>lim_eq (fun n m r r' h h'=>Zpa n m r r' h h') h
theorem Zkp{X:Ze}{tbl:Nat→Option MFun}{f:Nat}{as:List AV}{h0:List Blk}(ht:tbl f=none){r:AV×List Blk}(h:X f as h0=some r):Zy X tbl f as h0=some r:=Zko 1 f as h0 r (by simp only[Zx,ht];exact h)
theorem Zkq{X:Ze}{tbl:Nat→Option MFun}{k:MOp}{s:S}{p:AV×List (Nat×Blk)}(hr:runV (Zy X tbl) k s=some p):∃n,runV (Zx X tbl n) k s=some p:=by
 have m:∀p f vs ids,Zbf (Zy X tbl) f vs s.h s.h.length ids=some p→∃n,Zbf (Zx X tbl n) f vs s.h s.h.length ids=some p:=by
  intro p f vs ids hr;unfold Zbf at hr⊢;split at hr
  ·rename_i hc
   cases hx:Zy X tbl f (subA ids vs) (subH s.h ids)with
   |none=>rw[hx]at hr;cases hr
   |some q =>
    obtain⟨n,hn⟩:=Zdu hx;exact⟨n,by rw[if_pos hc,hn];rw[hx]at hr;exact hr⟩
  ·cases hr
 cases k<;>first|exact⟨0,hr⟩|skip
 ·rename_i f args;simp only[runV]at hr⊢
  cases hf:frzs s.h (args.map (ev s.env))with
  |none=>rw[hf]at hr;cases hr
  |some as =>
   rw[hf]at hr;simp only[callA]at hr⊢
   cases hx:Zy X tbl f as []with
   |none=>rw[hx]at hr;cases hr
   |some q =>
    obtain⟨n,hn⟩:=Zdu hx;exact⟨n,by rw[hn];rw[hx]at hr;exact hr⟩
 ·rename_i f args;simp only[runV]at hr⊢
  cases hf:frzs s.h (args.map (ev s.env))with
  |none=>rw[hf]at hr;cases hr
  |some as =>
   rw[hf]at hr;simp only[Zdr]at hr⊢
   cases hx:Zy X tbl f as []with
   |none=>rw[hx]at hr;cases hr
   |some q =>
    obtain⟨n,hn⟩:=Zdu hx;exact⟨n,by rw[hn];rw[hx]at hr;exact hr⟩
 ·exact m _ _ _ _ hr
 ·rename_i f args p';simp only[runV]at hr⊢;obtain⟨v,u⟩:=p;obtain⟨u1,u2,q1,q2,rfl⟩:=Zfw hr;obtain⟨n,hn⟩:=m _ _ _ _ q1;exact⟨n,by rw[hn];simp[packV,q2,packW]⟩
 ·rename_i f args;simp only[runV,Zds]at hr⊢;split at hr
  ·rename_i hc
   cases hx:Zy X tbl f (subA (Zf s.h (args.map (ev s.env))) (args.map (ev s.env))) (subH s.h (Zf s.h (args.map (ev s.env))))with
   |none=>rw[hx]at hr;cases hr
   |some q =>
    obtain⟨n,hn⟩:=Zdu hx;exact⟨n,by rw[if_pos hc,hn];rw[hx]at hr;exact hr⟩
  ·cases hr
 ·rename_i x args;simp only[runV]at hr⊢;unfold Zdt at hr⊢;split at hr
  ·exact m _ _ _ _ hr
  ·cases hr
theorem Zkr{X:Ze}{tbl:Nat→Option MFun}{o:MO}{s s':S}(hr:runE (Zy X tbl) o s=some s'):∃n,runE (Zx X tbl n) o s=some s':=by
 unfold runE at hr⊢
 cases hx:runV (Zy X tbl) o.op s with
 |none=>rw[hx]at hr;cases hr
 |some p =>
  obtain⟨n,hn⟩:=Zkq hx;exact⟨n,by rw[hn];rw[hx]at hr;exact hr⟩
theorem Zks{X:Ze}{tbl:Nat→Option MFun}{o:MO}{s:S}{s':Foot×S}(hr:runF (Zy X tbl) o s=some s'):∃n,runF (Zx X tbl n) o s=some s':=by
 unfold runF at hr⊢
 cases hx:runV (Zy X tbl) o.op s with
 |none=>rw[hx]at hr;cases hr
 |some p =>
  obtain⟨n,hn⟩:=Zkq hx;exact⟨n,by rw[hn];rw[hx]at hr;exact hr⟩
theorem opE_fin{X:Ze}{tbl:Nat→Option MFun}{o:MO}{s s':S}(hr:opE (Zy X tbl) o s=some s'):∃n,opE (Zx X tbl n) o s=some s':=by
 unfold opE at hr⊢
 cases hg:o.guard with
 |none=>simp only[hg]at hr⊢;exact Zkr hr
 |some p =>
  obtain⟨g,want⟩:=p;simp only[hg]at hr⊢;unfold Zen at hr⊢;split at hr
  ·split at hr
   ·rename_i hb;simp only[hb,if_true];exact Zkr hr
   ·rename_i hb;simp only[hb,if_false];exact⟨0,hr⟩
  ·exact⟨0,hr⟩
  ·cases hr
theorem opF_fin{X:Ze}{tbl:Nat→Option MFun}{o:MO}{s:S}{s':Foot×S}(hr:opF (Zy X tbl) o s=some s'):∃n,opF (Zx X tbl n) o s=some s':=by
 unfold opF at hr⊢
 cases hg:o.guard with
 |none=>simp only[hg]at hr⊢;exact Zks hr
 |some p =>
  obtain⟨g,want⟩:=p;simp only[hg]at hr⊢;unfold Zeo at hr⊢;split at hr
  ·split at hr
   ·rename_i hb;simp only[hb,if_true];exact Zks hr
   ·rename_i hb;simp only[hb,if_false];exact⟨0,hr⟩
  ·exact⟨0,hr⟩
  ·cases hr
theorem Zkt{X:Ze}{tbl:Nat→Option MFun}{ks:List Fr}{cf:Cf}{s:S}{c:Step}(hc:c≠.inr none)(h:step (Zy X tbl) ks cf s=c):∃n,step (Zx X tbl n) ks cf s=c:=by
 have key:(∃o os keep,cf=.ops (o::os) keep)∨(∃o os feet before keep,cf=.drw (o::os) feet before keep)∨step (Zx X tbl 0) ks cf s=step (Zy X tbl) ks cf s:=by
  cases cf with
  |code c=>cases c<;>exact .inr (.inr rfl)
  |ops os keep =>
   cases os with
   |nil=>exact .inr (.inr rfl)
   |cons o os=>exact .inl ⟨o,os,keep,rfl⟩
  |drw os feet before keep =>
   cases os with
   |nil=>exact .inr (.inr rfl)
   |cons o os=>exact .inr (.inl ⟨o,os,feet,before,keep,rfl⟩)
  |out x =>
   refine .inr (.inr ?_)
   cases ks with
   |nil=>rfl
   |cons k ks=>cases k<;>cases x<;>rfl
 rcases key with⟨o,os,keep,rfl⟩|⟨o,os,feet,before,keep,rfl⟩|he
 ·simp only[step]at h⊢
  cases hx:opE (Zy X tbl) o s with
  |none=>rw[hx]at h;exact absurd h.symm hc
  |some s' =>
   obtain⟨n,hn⟩:=opE_fin hx;exact⟨n,by rw[hn,←hx];exact h⟩
 ·simp only[step]at h⊢
  cases hx:opF (Zy X tbl) o s with
  |none=>rw[hx]at h;exact absurd h.symm hc
  |some s' =>
   obtain⟨n,hn⟩:=opF_fin hx;exact⟨n,by rw[hn,←hx];exact h⟩
 ·exact⟨0,by rw[he];exact h⟩
theorem Zku{X:Ze}{tbl:Nat→Option MFun}:∀(n:Nat) {ks:List Fr} {cf:Cf} {s:S} {r:AV×List Blk},runN (Zy X tbl) n ks cf s=some r→∃k,runN (Zx X tbl k) n ks cf s=some r
 |0,_,_,_,_,h=>by cases h
 |n+1,ks,cf,s,r,h=>by
  simp only[runN]at h;split at h
  ·rename_i ks' cf' s' h1;obtain⟨k,hk⟩:=Zkt (by intro hc;cases hc) h1;obtain⟨k2,hk2⟩:=Zku n h;refine⟨max k k2,?_⟩;simp only[runN];rw[(Zhk (Zeq (Nat.le_max_left k k2))).1 _ hk];exact Zfx (Zeq (Nat.le_max_right k k2)) n hk2
  ·rename_i h1;subst h;obtain⟨k,hk⟩:=Zkt (by intro hc;cases hc) h1;exact⟨k,by simp only[runN,hk]⟩
theorem callC_of{X:Ze}{tbl:Nat→Option MFun}{f:Nat}{as:List AV}{h0:List Blk}{m:MFun}(ht:tbl f=some m)(hl:as.length=m.np){r:AV×List Blk}(h:Ev (Zy X tbl) [.fin h0.length m.res] m.body ⟨Zb7 as 0,[Zby h0 0],h0⟩=some r):Zy X tbl f as h0=some r:=by
 obtain⟨n,hn⟩:=Zki h;obtain⟨k,hk⟩:=Zku n hn;refine Zko (max n k+1) f as h0 r ?_;simp only[Zx,ht,hl,if_true];exact Zep n (Zfx (Zeq (Nat.le_max_right n k)) n hk) (Nat.le_max_left n k)
theorem Zhl{p:Nat→Prop}(h:∃n,p n):∃n,p n∧∀m,p m→n≤m:=by
 obtain⟨n,hn⟩:=h
 induction n using Nat.strongRecOn with
 |ind n ih =>
  by_cases hx:∃m,m<n∧p m
  ·obtain⟨m,h1,h2⟩:=hx;exact ih m h1 h2
  ·refine⟨n,hn,fun m hm=>?_⟩;by_cases hl:m<n
   ·exact absurd ⟨m,hl,hm⟩ hx
   ·omega
section
variable{Γ:Ctr}{C:Ze}
def Qf(C:Ze)(r:AV×List Blk)(m:Nat)(ks:List Fr):X→S→Prop:=fun x s=>∃k,k<m∧runN C k ks (.out x) s=some r
theorem Zkv{o:MO}{s:S}{K K':S→Prop}(hK:∀s,K s→K' s)(h:runW Γ o s K):runW Γ o s K':=by
 unfold runW at h⊢;split at h
 ·obtain⟨as,h1,r,hr,h2,h3,h4⟩:=h;exact⟨as,h1,r,hr,h2,h3,hK _ h4⟩
 ·obtain⟨as,h1,r,hr,h2,h3,h4⟩:=h;exact⟨as,h1,r,hr,h2,h3,hK _ h4⟩
 ·obtain⟨h1,r,h2,h3,h4⟩:=h;exact⟨h1,r,h2,h3,hK _ h4⟩
 ·obtain⟨h1,r,h2,h3,u2,h4,h5⟩:=h;exact⟨h1,r,h2,h3,u2,h4,hK _ h5⟩
 ·obtain⟨h1,r,h2,h3,h4⟩:=h;exact⟨h1,r,h2,h3,hK _ h4⟩
 ·split at h
  ·obtain⟨h1,r,h2,h3,h4⟩:=h;exact⟨h1,r,h2,h3,hK _ h4⟩
  ·exact h.elim
 ·split at h
  ·exact hK _ h
  ·exact h.elim
theorem opW_mono{o:MO}{s:S}{K K':S→Prop}(hK:∀s,K s→K' s)(h:opW Γ o s K):opW Γ o s K':=by
 unfold opW at h⊢;split at h
 ·exact Zkv hK h
 ·split at h
  ·split at h
   ·rename_i hb;simp only[hb,if_true];exact Zkv hK h
   ·rename_i hb;simp only[hb,if_false];exact hK _ h
  ·exact hK _ h
  ·exact h.elim
theorem Zfy:∀(os:List MO) {s:S} {K K':S→Prop},(∀s,K s→K' s)→regW Γ os s K→regW Γ os s K'
 |[],_,_,_,hK,h=>hK _ h
 |_::os,_,_,_,hK,h=>opW_mono (fun _ h'=>Zfy os hK h') h
theorem Zkw{o:MO}{s:S}{K K':Foot→S→Prop}(hK:∀f s,K f s→K' f s)(h:Zbe Γ o s K):Zbe Γ o s K':=by
 unfold Zbe at h⊢;split at h
 ·obtain⟨as,h1,r,hr,h2,h3,h4⟩:=h;exact⟨as,h1,r,hr,h2,h3,hK _ _ h4⟩
 ·obtain⟨as,h1,r,hr,h2,h3,h4⟩:=h;exact⟨as,h1,r,hr,h2,h3,hK _ _ h4⟩
 ·obtain⟨h1,r,h2,h3,u2,h4,h5⟩:=h;exact⟨h1,r,h2,h3,u2,h4,hK _ _ h5⟩
 ·obtain⟨h1,r,h2,h3,h4⟩:=h;exact⟨h1,r,h2,h3,hK _ _ h4⟩
 ·obtain⟨h1,r,h2,h3,h4⟩:=h;exact⟨h1,r,h2,h3,hK _ _ h4⟩
 ·split at h
  ·obtain⟨h1,r,h2,h3,h4⟩:=h;exact⟨h1,r,h2,h3,hK _ _ h4⟩
  ·exact h.elim
 ·split at h
  ·exact hK _ _ h
  ·exact h.elim
theorem Zpb{o:MO}{s:S}{K K':Foot→S→Prop}(hK:∀f s,K f s→K' f s)(h:drwG Γ o s K):drwG Γ o s K':=by
 unfold drwG at h⊢;split at h
 ·exact Zkw hK h
 ·split at h
  ·split at h
   ·rename_i hb;simp only[hb,if_true];exact Zkw hK h
   ·rename_i hb;simp only[hb,if_false];exact hK _ _ h
  ·exact hK _ _ h
  ·exact h.elim
theorem Zfz:∀(os:List MO) {s:S} {feet:List Foot} {K K':List Foot→S→Prop},(∀f s,K f s→K' f s)→drwW Γ os s feet K→drwW Γ os s feet K'
 |[],_,_,_,_,hK,h=>hK _ _ h
 |_::os,_,_,_,_,hK,h=>Zpb (fun _ _ h'=>Zfz os hK h') h
theorem Zbo:∀(c:MCode) {s:S} {Q Q':X→S→Prop},(∀x s,Q x s→Q' x s)→Wc Γ c Q s→Wc Γ c Q' s
 |.skip,_,_,_,hQ,h=>hQ _ _ h
 |.reg os _,_,_,_,hQ,h=>Zfy os (fun _ h'=>hQ _ _ h') h
 |.drw os _ _,_,_,_,hQ,h=>Zfz os (fun _ _ h'=>⟨h'.1,hQ _ _ h'.2⟩) h
 |.seq a b,_,_,_,hQ,h=>Zbo a (fun x s' h'=>by cases x with|n=>exact Zbo b hQ h'|x i=>exact hQ _ _ h'|r=>exact hQ _ _ h') h
 |.cond c x y,s,_,_,hQ,h=>by
  unfold Wc at h⊢;split at h
  ·split at h
   ·rename_i hb;simp only[hb,if_true];exact Zbo x hQ h
   ·rename_i hb;simp only[hb];exact Zbo y hQ h
  ·exact h.elim
 |.block id b,_,_,_,hQ,h=>Zbo b (fun x s' h'=>by
   cases x with
   |n=>exact hQ _ _ h'
   |x i=>simp only at h'⊢;split at h'<;>rename_i hi<;>simp only[hi,if_true,if_false]<;>exact hQ _ _ h'
   |r=>exact hQ _ _ h') h
 |.loop keep b,_,_,_,hQ,h=>by
  obtain⟨I,μ,h0,hr⟩:=h;refine⟨I,μ,h0,fun s hs=>Zbo b (fun x s' h'=>?_) (hr s hs)⟩
  cases x with
  |n=>exact h'
  |x i=>exact hQ _ _ h'
  |r=>exact hQ _ _ h'
 |.exit _,_,_,_,hQ,h=>hQ _ _ h
 |.ret,_,_,_,hQ,h=>hQ _ _ h
theorem Zkx(hC:∀f as h0 r hr,C f as h0=some (r,hr)→Γ f as h0 r hr){f:Nat}{args:List AV}{h:List Blk}{nx:Nat}{v:AV}{u:List (Nat×Blk)}(hr:callA C f args nx (frzs h args)=some (v,u)) :
  ∃as,frzs h args=some as∧∃r hr,Γ f as [] r hr∧(Zcm args || frR r hr)=true∧v=shift nx r∧u=newU nx hr 0:=by
 cases hf:frzs h args with
 |none=>rw[hf]at hr;cases hr
 |some as =>
  rw[hf]at hr;simp only[callA]at hr
  cases hc:C f as []with
  |none=>rw[hc]at hr;cases hr
  |some p =>
   obtain⟨r,hr'⟩:=p;rw[hc]at hr;simp only[callB]at hr;split at hr
   ·rename_i hcond;cases hr;exact⟨as,rfl,r,hr',hC _ _ _ _ _ hc,hcond,rfl,rfl⟩
   ·cases hr
theorem Zdw(hC:∀f as h0 r hr,C f as h0=some (r,hr)→Γ f as h0 r hr){f:Nat}{vs:List AV}{h:List Blk}{nx:Nat}{v:AV}{u:List (Nat×Blk)}(hr:Zbf C f vs h nx (Zf h vs)=some (v,u)){K:AV→List (Nat×Blk)→Prop}(hK:K v u):Zz Γ f vs h nx K:=by
 unfold Zbf at hr;split at hr
 ·rename_i hc
  cases hx:C f (subA (Zf h vs) vs) (subH h (Zf h vs))with
  |none=>rw[hx]at hr;cases hr
  |some p =>
   obtain⟨r,h1⟩:=p;rw[hx]at hr;cases hr;exact⟨hc,r,h1,hC _ _ _ _ _ hx,hK⟩
 ·cases hr
theorem Zky(hC:∀f as h0 r hr,C f as h0=some (r,hr)→Γ f as h0 r hr){f:Nat}{vs:List AV}{h:List Blk}{nx:Nat}{v:AV}{u:List (Nat×Blk)}(hr:Zds C f vs h nx (Zf h vs)=some (v,u)){K:AV→List (Nat×Blk)→Prop}(hK:K v u):Zb6 Γ f vs h nx K:=by
 unfold Zds at hr;split at hr
 ·rename_i hc
  cases hx:C f (subA (Zf h vs) vs) (subH h (Zf h vs))with
  |none=>rw[hx]at hr;cases hr
  |some p =>
   obtain⟨r,h1⟩:=p;rw[hx]at hr;simp only[pcallB]at hr;split at hr
   ·rename_i ht;cases hr;refine⟨hc,r,h1.drop (Zf h vs).length,?_,hK⟩;have:=hC _ _ _ _ _ hx;have e:subH h (Zf h vs)++h1.drop (Zf h vs).length=h1:=by
     rw[←ht];exact Ybj _ _
    rw[e];exact this
   ·cases hr
 ·cases hr
theorem Zkz(hC:∀f as h0 r hr,C f as h0=some (r,hr)→Γ f as h0 r hr){f:Nat}{args:List AV}{h:List Blk}{nx:Nat}{v:AV}{u:List (Nat×Blk)}(hr:Zdr C f nx (frzs h args)=some (v,u)) :
  ∃as,frzs h args=some as∧∃r hr,Γ f as [] r hr∧frR r hr=true∧v=shift nx r∧u=newU nx (hr.map xB) 0:=by
 cases hf:frzs h args with
 |none=>rw[hf]at hr;cases hr
 |some as =>
  rw[hf]at hr;simp only[Zdr]at hr
  cases hc:C f as []with
  |none=>rw[hc]at hr;cases hr
  |some p =>
   obtain⟨r,hr'⟩:=p;rw[hc]at hr;simp only[xcallB]at hr;split at hr
   ·rename_i hcond;cases hr;exact⟨as,rfl,r,hr',hC _ _ _ _ _ hc,hcond,rfl,rfl⟩
   ·cases hr
theorem Zk0(hC:∀f as h0 r hr,C f as h0=some (r,hr)→Γ f as h0 r hr){o:MO}{s s':S}(h:runE C o s=some s'){K:S→Prop}(hK:K s'):runW Γ o s K:=by
 unfold runE at h
 cases hv:runV C o.op s with
 |none=>rw[hv]at h;cases h
 |some p =>
  obtain⟨v,u⟩:=p;rw[hv]at h;cases h;unfold runW;cases ho:o.op<;>simp only[ho,runV]at hv⊢<;>try (rw[hv];exact hK)
  ·obtain⟨as,h1,r,hr,h2,h3,rfl,rfl⟩:=Zkx hC hv;exact⟨as,h1,r,hr,h2,h3,hK⟩
  ·obtain⟨as,h1,r,hr,h2,h3,rfl,rfl⟩:=Zkz hC hv;exact⟨as,h1,r,hr,h2,h3,hK⟩
  ·exact Zdw hC hv hK
  ·obtain⟨u1,u2,q1,q2,rfl⟩:=Zfw hv;exact Zdw hC q1 ⟨u2,q2,hK⟩
  ·exact Zky hC hv hK
  ·unfold Zdt at hv;split at hv
   ·rename_i g caps hg;rw[hg];exact Zdw hC hv hK
   ·cases hv
theorem opE_opW(hC:∀f as h0 r hr,C f as h0=some (r,hr)→Γ f as h0 r hr){o:MO}{s s':S}(h:opE C o s=some s'){K:S→Prop}(hK:K s'):opW Γ o s K:=by
 unfold opE at h;unfold opW
 cases hg:o.guard with
 |none=>simp only[hg]at h⊢;exact Zk0 hC h hK
 |some p =>
  obtain⟨g,want⟩:=p;simp only[hg]at h⊢;unfold Zen at h;split at h
  ·rename_i b hb;rw[hb];simp only;split at h
   ·rename_i hb;rw[if_pos hb];exact Zk0 hC h hK
   ·rename_i hb;rw[if_neg hb];cases h;exact hK
  ·rename_i hb;rw[hb];cases h;exact hK
  ·cases h
theorem Zk1(hC:∀f as h0 r hr,C f as h0=some (r,hr)→Γ f as h0 r hr){o:MO}{s s':S}{f:Foot}(h:runF C o s=some (f,s')){K:Foot→S→Prop}(hK:K f s'):Zbe Γ o s K:=by
 unfold runF at h
 cases hv:runV C o.op s with
 |none=>rw[hv]at h;cases h
 |some p =>
  obtain⟨v,u⟩:=p;rw[hv]at h;cases h;unfold Zbe;cases ho:o.op<;>simp only[ho,runV]at hv⊢<;>try (rw[hv];exact hK)
  ·obtain⟨as,h1,r,hr,h2,h3,rfl,rfl⟩:=Zkx hC hv;exact⟨as,h1,r,hr,h2,h3,hK⟩
  ·obtain⟨as,h1,r,hr,h2,h3,rfl,rfl⟩:=Zkz hC hv;exact⟨as,h1,r,hr,h2,h3,hK⟩
  ·exact Zdw hC hv hK
  ·obtain⟨u1,u2,q1,q2,rfl⟩:=Zfw hv;exact Zdw hC q1 ⟨u2,q2,hK⟩
  ·exact Zky hC hv hK
  ·unfold Zdt at hv;split at hv
   ·rename_i g caps hg;rw[hg];exact Zdw hC hv hK
   ·cases hv
theorem opF_drwG(hC:∀f as h0 r hr,C f as h0=some (r,hr)→Γ f as h0 r hr){o:MO}{s s':S}{f:Foot}(h:opF C o s=some (f,s')){K:Foot→S→Prop}(hK:K f s'):drwG Γ o s K:=by
 unfold opF at h;unfold drwG
 cases hg:o.guard with
 |none=>simp only[hg]at h⊢;exact Zk1 hC h hK
 |some p =>
  obtain⟨g,want⟩:=p;simp only[hg]at h⊢;unfold Zeo at h;split at h
  ·rename_i b hb;rw[hb];simp only;split at h
   ·rename_i hb;rw[if_pos hb];exact Zk1 hC h hK
   ·rename_i hb;rw[if_neg hb];cases h;exact hK
  ·rename_i hb;rw[hb];cases h;exact hK
  ·cases h
theorem Zk2(hC:∀f as h0 r hr,C f as h0=some (r,hr)→Γ f as h0 r hr){r:AV×List Blk}{keep:List Nat}{ks:List Fr}:∀(os:List MO) (m:Nat) (s:S),runN C m ks (.ops os keep) s=some r →
  regW Γ os s fun s'=>Qf C r m ks .n { s' with env:=rst keep s'.env }
 |_,0,_,h=>by cases h
 |[],m+1,s,h=>⟨m,Ybc m,h⟩
 |o::os,m+1,s,h=>by
  simp only[runN,step]at h
  cases ho:opE C o s with
  |none=>simp only[ho,stepO]at h;cases h
  |some s' =>
   simp only[ho,stepO]at h;exact opE_opW hC ho (Zfy os (fun s ⟨k,h1,h2⟩=>⟨k,by omega,h2⟩) (Zk2 hC os m s' h))
theorem Zk3(hC:∀f as h0 r hr,C f as h0=some (r,hr)→Γ f as h0 r hr){r:AV×List Blk}{before:List (List Nat)}{keep:List Nat}{ks:List Fr}:∀(os:List MO) (feet:List Foot) (m:Nat) (s:S),runN C m ks (.drw os feet before keep) s=some r →
  drwW Γ os s feet fun feet s'=>Zcp before feet=true∧Qf C r m ks .n { s' with env:=rst keep s'.env }
 |_,_,0,_,h=>by cases h
 |[],feet,m+1,s,h=>by
  simp only[runN,step]at h;split at h
  ·rename_i h1;split at h1
   ·rename_i ho;cases h1;exact⟨ho,m,Ybc m,h⟩
   ·cases h1
  ·rename_i h1;split at h1
   ·cases h1
   ·cases h1;cases h
 |o::os,feet,m+1,s,h=>by
  simp only[runN,step]at h
  cases ho:opF C o s with
  |none=>simp only[ho,stepD]at h;cases h
  |some p =>
   obtain⟨f,s'⟩:=p;simp only[ho,stepD]at h;exact opF_drwG hC ho (Zfz os (fun _ s ⟨h0,k,h1,h2⟩=>⟨h0,k,by omega,h2⟩) (Zk3 hC os _ m s' h))
theorem Zdx{m:Nat}{ks:List Fr}{cf:Cf}{s:S}{r:AV×List Blk}(h:runN C m ks cf s=some r):∃k,m=k+1:=by
 cases m with
 |zero=>cases h
 |succ k=>exact⟨k,rfl⟩
open Classical in
theorem runN_W(hC:∀f as h0 r hr,C f as h0=some (r,hr)→Γ f as h0 r hr){r:AV×List Blk}(m:Nat):∀(c:MCode) (ks:List Fr) (s:S),runN C m ks (.code c) s=some r→Wc Γ c (Qf C r m ks) s:=by
 induction m using Nat.strongRecOn with
 |ind m ih =>
  intro c ks s h;obtain⟨m,rfl⟩:=Zdx h
  cases c with
  |skip=>exact⟨m,Ybc m,h⟩
  |reg os keep=>exact Zfy os (fun s ⟨k,h1,h2⟩=>⟨k,by omega,h2⟩) (Zk2 hC os m s h)
  |drw os before keep=>exact Zfz os (fun _ s ⟨h0,k,h1,h2⟩=>⟨h0,k,by omega,h2⟩) (Zk3 hC os [] m s h)
  |seq a b =>
   refine Zbo a (fun x s' hq=>?_) (ih m (Ybc m) a (.seq b::ks) s h);obtain⟨k,hk,h2⟩:=hq;obtain⟨k,rfl⟩:=Zdx h2
   cases x with
   |n=>exact Zbo b (fun x s ⟨j,h3,h4⟩=>⟨j,by omega,h4⟩) (ih k (by omega) b ks s' h2)
   |x i=>exact⟨k,by omega,h2⟩
   |r=>exact⟨k,by omega,h2⟩
  |cond c x y =>
   simp only[runN,step]at h;unfold Wc;unfold stepC at h
   cases hv:ev s.env c with
   |t v =>
    simp only[hv]at h
    cases v with
    |bool b =>
     simp only at h⊢;cases b
     ·exact Zbo y (fun x s ⟨j,h3,h4⟩=>⟨j,by omega,h4⟩) (ih m (Ybc m) y ks s h)
     ·exact Zbo x (fun x s ⟨j,h3,h4⟩=>⟨j,by omega,h4⟩) (ih m (Ybc m) x ks s h)
    |_=>cases h
   |_=>simp only[hv]at h;cases h
  |block id b =>
   refine Zbo b (fun x s' hq=>?_) (ih m (Ybc m) b (.blk id::ks) s h);obtain⟨k,hk,h2⟩:=hq;obtain⟨k,rfl⟩:=Zdx h2
   cases x with
   |n=>exact⟨k,by omega,h2⟩
   |x i =>
    simp only[runN,step]at h2;simp only;by_cases hi:i=id
    ·simp only[hi,if_true]at h2⊢;exact⟨k,by omega,h2⟩
    ·simp only[hi,if_false]at h2⊢
     exact⟨k,by omega,h2⟩
   |r=>exact⟨k,by omega,h2⟩
  |loop keep b =>
   let p:S→Nat→Prop:=fun t k=>k≤m∧runN C k (.loop keep b::ks) (.code b) t=some r
   let μ:S→Nat:=fun t=>if hx:∃k,p t k then(Zhl hx).choose else 0
   have hμ:∀t,(∃k,p t k)→p t (μ t)∧∀k,p t k→μ t≤k:=by
    intro t hx;have e:μ t=(Zhl hx).choose:=dif_pos hx;rw[e];exact(Zhl hx).choose_spec
   refine⟨fun t=>∃k,p t k,μ,⟨m,Ye m,h⟩,?_⟩;intro t ht;obtain⟨⟨h1,h2⟩,h3⟩:=hμ t ht;refine Zbo b (fun x s' hq=>?_) (ih (μ t) (by omega) b _ t h2);obtain⟨k,hk,h4⟩:=hq;obtain⟨k,rfl⟩:=Zdx h4
   cases x with
   |n =>
    have h5:runN C k ks (.code (.loop keep b)) s'=some r:=h4;obtain⟨k,rfl⟩:=Zdx h5;have h6:p (Zbm keep s') k:=⟨by omega,h5⟩
    exact⟨⟨k,h6⟩,by have:=(hμ _ ⟨k,h6⟩).2 k h6;omega⟩
   |x i=>exact⟨k,by omega,h4⟩
   |r=>exact⟨k,by omega,h4⟩
  |exit id=>exact⟨m,Ybc m,h⟩
  |ret=>exact⟨m,Ybc m,h⟩
end
theorem Zk4{P:Program}{X:Ze}{tbl:Nat→Option MFun}(hT:TblOK P tbl)(hX:∀f as h0 r hr,X f as h0=some (r,hr)→Zt P f as h0 r hr):∀(n f:Nat) (as:List AV) (h0:List Blk) (r:AV) (hr:List Blk),Zx X tbl n f as h0=some (r,hr)→Zt P f as h0 r hr
 |0,_,_,_,_,_,h=>by cases h
 |n+1,f,as,h0,r,hr,h=>by
  simp only[Zx]at h
  cases hm:tbl f with
  |none=>simp only[hm]at h;exact hX f as h0 r hr h
  |some m =>
   simp only[hm]at h;split at h
   ·rename_i hl;obtain⟨fn,ks,inl,h1,h2,h3⟩:=hT f m hm;have hW:=runN_W (Γ:=Zt P) (Zk4 hT hX n) n m.body _ _ h;refine sound_of h1 h3 h2 ⟨hl,?_⟩;refine Zbo m.body (fun x s hq=>?_) hW;obtain⟨k,hk,h4⟩:=hq;obtain⟨k,rfl⟩:=Zdx h4;have fin:finE h0.length m.res s=some (r,hr)→∀x,(∀i,x≠.x i)→bodyQ m.res (fun v s=>Ze7 m.res h0.length v s=some (r,hr)) x s:=by
     intro hf x hx;unfold finE at hf
     cases x with
     |x i=>exact absurd rfl (hx i)
     |n =>
      simp only[bodyQ];split at hf
      ·rename_i v hv;rw[hv];exact hf
      ·cases hf
     |r =>
      simp only[bodyQ];split at hf
      ·rename_i v hv;rw[hv];exact hf
      ·cases hf
    cases x with
    |n=>exact fin h4 _ (fun i hc=>by cases hc)
    |r=>exact fin h4 _ (fun i hc=>by cases hc)
    |x i=>simp only[runN,step]at h4;cases h4
   ·cases h
theorem Zpc{P:Program}{X:Ze}{tbl:Nat→Option MFun}(hT:TblOK P tbl)(hX:∀f as h0 r hr,X f as h0=some (r,hr)→Zt P f as h0 r hr){f:Nat}{as:List AV}{h0:List Blk}{r:AV}{hr:List Blk}(h:Zy X tbl f as h0=some (r,hr)):Zt P f as h0 r hr:=by
 obtain⟨n,hn⟩:=Zdu h;exact Zk4 hT hX n f as h0 r hr hn
def ins(x:Nat):List Nat→List Nat
 |[]=>[x]
 |y::ys=>if x<y then x::y::ys else if x=y then y::ys else y::ins x ys
def union(a b:List Nat):List Nat:=b.foldl (fun acc x=>ins x acc) a
def opdSl:Operand→List Nat
 |.tmp t=>[t]
 |_=>[]
def opUses(o:Op):List Nat:=o.operands.toList.flatMap opdSl
def regIn(ops:List Oper)(out:List Nat):List Nat :=
 ops.reverse.foldl (fun live o=>union (match o.dst with|some d=>live.filter (· != d)|none=>live) (opUses o.op)) out
def guardSl(ops:Array Oper):List Nat:=ops.toList.flatMap fun o=>match o.guard with
 |some (j,_)=>(match ops[j]? with|some p=>p.dst.toList|none=>[])
 |none=>[]
def fixL(f:List Nat→List Nat×List (List Nat)):Nat→List Nat→List Nat×List (List Nat)
 |0,L=>(L,L::(f L).2)
 |n+1,L=>match f L with
  |(l,k)=>if l.all (L.contains ·)then(L,L::k)else fixL f n (union L l)
def live(ret:List Nat)(exits:List (Nat×List Nat)):Code→List Nat→List Nat×List (List Nat)
 |.region _ ops _,out =>
  let defs:=ops.toList.flatMap fun o=>o.dst.toList
  (union (regIn ops.toList out) ((guardSl ops).filter (fun g=>!defs.contains g)),[out])
 |.seq a b,out=>match live ret exits b out with
  |(lb,kb)=>match live ret exits a lb with
   |(la,ka)=>(la,ka++kb)
 |.cond c a b,out=>match live ret exits a out,live ret exits b out with
  |(la,ka),(lb,kb)=>(union (union la lb) (opdSl c),ka++kb)
 |.block id b,out=>live ret ((id,out)::exits) b out
 |.loop b,_=>fixL (live ret exits b) 12 []
 |.exit id,_=>((exits.lookup id).getD [],[])
 |.ret,_=>(ret,[])
 |_,out=>(out,[])
def Zhm(fn:Func):List (List Nat):=match fn.body with
 |some c =>
  let rs:=fn.results.toList.foldl (fun acc r=>ins (match r with|.tmp t=>t|.cell a _=>a) acc) []
  (live rs [] c rs).2
 |none=>[]
def inlOf(inl:List Nat)(f:Nat):List Nat:=(if inl.contains (f+6000000)then[9999997]else[])++(if inl.contains (f+5000000)then[9999998]else[])++(if inl.contains (f+4000000)then 9999999::inl else inl)
def tblOf(P:Program)(inl:List Nat)(f:Nat):Option MFun:=match P.funcs[f]? with
 |some fn=>if Zbz P f=true then compF P (inlOf inl f) (Zhm fn) fn else none
 |none=>none
theorem tblOK(P:Program)(inl:List Nat):TblOK P (tblOf P inl):=by
 intro f m h;unfold tblOf at h;split at h
 ·rename_i fn hf;split at h
  ·rename_i hc;exact⟨fn,Zhm fn,inlOf inl f,hf,h,hc⟩
  ·cases h
 ·cases h
theorem Zj{P:Program}{inl:List Nat}{f:Nat}{fn:Func}{m:MFun}(hf:P.funcs[f]?=some fn)(hc:Zbz P f=true)(h:compF P (inlOf inl f) (Zhm fn) fn=some m):tblOf P inl f=some m:=by
 unfold tblOf;rw[hf];simp only;rw[if_pos hc];exact h
def fill{α:Type}(f:α→List T)(z:List T)(xs:List α)(i:Nat):List (List T):=(xs.take i).map f++List.replicate (xs.length-i) z
section
variable{α:Type}{f:α→List T}{z:List T}{xs:List α}{i:Nat}
theorem Zk5:fill f z xs 0=List.replicate xs.length z:=by simp[fill]
theorem Zk6:fill f z xs xs.length=xs.map f:=by simp[fill]
theorem Zk7(h:i≤xs.length):(fill f z xs i).length=xs.length:=by
 simp[fill];omega
theorem fill_get(h:i<xs.length):(fill f z xs i)[i]?=some z:=by
 unfold fill;have e:i-(List.map f (List.take i xs)).length=0:=by simp;omega
 rw[List.getElem?_append_right (by simp;omega),e,List.getElem?_replicate,if_pos (by omega)]
@[simp] theorem fill_at(h:i<(fill f z xs i).length):(fill f z xs i)[i]=z:=by
 have h1:i<xs.length:=by
  unfold fill at h;simp at h;omega
 have h2:=fill_get (f:=f) (z:=z) h1;rw[Ybn h]at h2;exact Option.some.inj h2
theorem Zk8(h:i<xs.length):(fill f z xs i).set i (f xs[i])=fill f z xs (i+1):=by
 unfold fill;have e:xs.length-i=(xs.length-(i+1))+1:=by omega
 rw[e,Yb1,List.set_append_right _ _ (by simp;omega)];have e2:i-(List.map f (List.take i xs)).length=0:=by simp;omega
 rw[e2,List.set_cons_zero,List.take_add_one,Ybn h];simp only[Option.toList,Ybp,Yj,Ybb,Yu,List.singleton_append]
end
theorem Zce{n:Int}(h1:-9223372036854775808≤n)(h2:n≤9223372036854775807):IntKind.wrap .i64 n=n:=by
 simp only[IntKind.wrap,IntKind.signed,IntKind.bits,Bool.true_and];split
 ·rename_i h;have h:=of_decide_eq_true h;omega
 ·rename_i h;simp at h;omega
attribute [simp] Ev_skip Ev_reg Ev_drw Ev_seq Ev_cond Ev_block Ev_exit Ev_ret EvO_nil EvO_cons EvS_some EvD_nil' EvD_cons EvF_some EvC_bool Zoy Zoz Zo0 Zo1 Zo2 Zo3 Zo4 Zo5
 Zo7 Zkj Zo8 Zo9
attribute [simp] Zdr xcallB packV packW Zb5 xB scal1 Zcl opE runE runV runD Zen skipE callA callB mcallB Zbf pcallB Zds Zdt opF runF runFD Zeo finE Zf subH subA bk Zs Zby Zo frefs resAV Zbj Zcn Za ev lk put upd stB cellsOf Z5 setT toT toTs kill Zbc unT tEq eqAs Z1 Z6 natOf parts elems Zb2 Zb3 Zbh
 Zbl bnd frzT Zb4 frz1 Zcc frz frzs ren rens renB refs Zc Zv rst scrub Zc5 Zk idx Zbx renE Zbi Zbm shift newU Zbp Zbd frB frR Zcm Ze6 Ze7 ownR Zbr own1 Zbn Zb7 Zn flat Z0 Zco Zd Ze5
@[simp] theorem wk_nil(xs:List T):wk [] xs=xs:=by unfold wk;rfl
@[simp] theorem wk_nil'(cs:List T):wk cs []=[]:=by cases cs<;>(unfold wk;rfl)
@[simp] theorem wk_cons(c x:T)(cs xs:List T):wk (c::cs) (x::xs)=wk1 c x::wk cs xs:=by conv=>lhs;unfold wk
@[simp] theorem wk1_int(k:IntKind)(n:Int)(c:T):wk1 c (.int k n)=.int k n:=by cases c<;>rfl
@[simp] theorem wk1_bool(b:Bool)(c:T):wk1 c (.bool b)=.bool b:=by cases c<;>rfl
@[simp] theorem wk1_str(b:ByteArray)(c:T):wk1 c (.str b)=.str b:=by cases c<;>rfl
@[simp] theorem wk1_lst(s:Nat)(es:List (List T))(c:T):wk1 c (.lst s es)=.lst s es:=by cases c<;>rfl
@[simp] theorem wk1_nil(s:Nat)(es:List (List T)):wk1 (.lst s es) .nil=.lst s []:=rfl
@[simp] theorem wkA_nil(xs:List T):wkA [] xs=xs.map .t:=by cases xs<;>rfl
@[simp] theorem wkA_t(c x:T)(cs:List AV)(xs:List T):wkA (.t c::cs) (x::xs)=.t (wk1 c x)::wkA cs xs:=by conv=>lhs;unfold wkA
@[simp] theorem wkA_own(b:Nat)(x:T)(cs:List AV)(xs:List T):wkA (.own b::cs) (x::xs)=.t x::wkA cs xs:=by conv=>lhs;unfold wkA
@[simp] theorem wkA_nil'(cs:List AV):wkA cs []=[]:=by cases cs with|nil=>rfl|cons c cs=>cases c<;>rfl
def orI(a b:Int):Int:=IntKind.wrap .i64 ((BitVec.ofInt 64 a ||| BitVec.ofInt 64 b).toNat)
def andI(a b:Int):Int:=IntKind.wrap .i64 ((BitVec.ofInt 64 a &&& BitVec.ofInt 64 b).toNat)
def xorI(a b:Int):Int:=IntKind.wrap .i64 ((BitVec.ofInt 64 a ^^^ BitVec.ofInt 64 b).toNat)
def andNotI(a b:Int):Int:=IntKind.wrap .i64 ((BitVec.ofInt 64 a &&& ~~~ BitVec.ofInt 64 b).toNat)
def shlI(a b:Int):Int:=IntKind.wrap .i64 (a*2 ^ (min b.toNat 64))
def shrI(a b:Int):Int:=a.fdiv (2 ^ (min b.toNat 64))
@[simp] theorem bin_or(a b:Int):binT .or (.int .i64 a) (.int .i64 b)=some (.int .i64 (orI a b)):=by unfold binT;exact if_pos rfl
@[simp] theorem bin_and(a b:Int):binT .and (.int .i64 a) (.int .i64 b)=some (.int .i64 (andI a b)):=by unfold binT;exact if_pos rfl
@[simp] theorem bin_xor(a b:Int):binT .xor (.int .i64 a) (.int .i64 b)=some (.int .i64 (xorI a b)):=by unfold binT;exact if_pos rfl
@[simp] theorem bin_andNot(a b:Int):binT .andNot (.int .i64 a) (.int .i64 b)=some (.int .i64 (andNotI a b)):=by unfold binT;exact if_pos rfl
@[simp] theorem bin_shl(a b:Int)(k:IntKind):binT .shl (.int .i64 a) (.int k b)=if b<0 then none else some (.int .i64 (shlI a b)):=by simp[binT,shlI,IntKind.bits]
@[simp] theorem bin_shr(a b:Int)(k:IntKind):binT .shr (.int .i64 a) (.int k b)=if b<0 then none else some (.int .i64 (shrI a b)):=by simp[binT,shrI,IntKind.bits]
@[simp] theorem bin_add(k:IntKind)(a b:Int):binT .add (.int k a) (.int k b)=some (.int k (k.wrap (a+b))):=by simp[binT]
@[simp] theorem bin_sub(k:IntKind)(a b:Int):binT .sub (.int k a) (.int k b)=some (.int k (k.wrap (a-b))):=by simp[binT]
@[simp] theorem bin_mul(k:IntKind)(a b:Int):binT .mul (.int k a) (.int k b)=some (.int k (k.wrap (a*b))):=by simp[binT]
@[simp] theorem bin_quo(k:IntKind)(a b:Int):binT .quo (.int k a) (.int k b)=if b=0 then none else some (.int k (k.wrap (a.tdiv b))):=by simp[binT]
@[simp] theorem bin_rem(k:IntKind)(a b:Int):binT .rem (.int k a) (.int k b)=if b=0 then none else some (.int k (a.tmod b)):=by simp[binT]
@[simp] theorem bin_eql(k:IntKind)(a b:Int):binT .eql (.int k a) (.int k b)=some (.bool (a == b)):=by simp[binT]
@[simp] theorem bin_neq(k:IntKind)(a b:Int):binT .neq (.int k a) (.int k b)=some (.bool (a != b)):=by simp[binT]
@[simp] theorem bin_lss(k:IntKind)(a b:Int):binT .lss (.int k a) (.int k b)=some (.bool (a<b)):=by simp[binT]
@[simp] theorem bin_leq(k:IntKind)(a b:Int):binT .leq (.int k a) (.int k b)=some (.bool (a≤b)):=by simp[binT]
@[simp] theorem bin_gtr(k:IntKind)(a b:Int):binT .gtr (.int k a) (.int k b)=some (.bool (a > b)):=by simp[binT]
@[simp] theorem bin_geq(k:IntKind)(a b:Int):binT .geq (.int k a) (.int k b)=some (.bool (a ≥ b)):=by simp[binT]
@[simp] theorem bin_sadd(a b:ByteArray):binT .add (.str a) (.str b)=if a.size+b.size≤9223372036854775807 then some (.str (a++b))else none:=rfl
@[simp] theorem bin_seql(a b:ByteArray):binT .eql (.str a) (.str b)=some (.bool (a.toList == b.toList)):=rfl
@[simp] theorem bin_sneq(a b:ByteArray):binT .neq (.str a) (.str b)=some (.bool (!(a.toList == b.toList))):=rfl
@[simp] theorem bin_slss(a b:ByteArray):binT .lss (.str a) (.str b)=some (.bool (Op.bytesLess a.toList b.toList)):=rfl
@[simp] theorem bin_sleq(a b:ByteArray):binT .leq (.str a) (.str b)=some (.bool (Op.bytesLess a.toList b.toList || a.toList == b.toList)):=rfl
@[simp] theorem bin_sgtr(a b:ByteArray):binT .gtr (.str a) (.str b)=some (.bool (!(Op.bytesLess a.toList b.toList || a.toList == b.toList))):=rfl
@[simp] theorem bin_sgeq(a b:ByteArray):binT .geq (.str a) (.str b)=some (.bool (!Op.bytesLess a.toList b.toList)):=rfl
@[simp] theorem gt_zero(x:Blk)(h:List Blk):gt (x::h) 0=x:=rfl
@[simp] theorem gt_succ(x:Blk)(h:List Blk)(n:Nat):gt (x::h) (n+1)=gt h n:=rfl
@[simp] theorem str_inj(a b:ByteArray):a.toList=b.toList↔a=b:=by
 rw[ByteArray.toList_eq,ByteArray.toList_eq];exact⟨fun h=>ByteArray.ext (Ybo.1 h),fun h=>by rw[h]⟩
@[simp] theorem int_beq(a b:Int):(a == b)=decide (a=b):=by
 by_cases h:a=b<;>simp[h]
@[simp] theorem int_bne(a b:Int):(a != b)=!decide (a=b):=by
 by_cases h:a=b<;>simp[h]
@[simp] theorem str_beq(a b:ByteArray):(a.toList == b.toList)=decide (a=b):=by
 by_cases h:a=b
 ·simp[h]
 ·have:¬a.toList=b.toList:=fun hc=>h ((str_inj a b).1 hc)
  simp[h,this]
@[simp] theorem rn0(h:List Blk)(e:Env):(List.range 0).map (Zo h e)=[]:=rfl
@[simp] theorem rn1(h:List Blk)(e:Env):(List.range 1).map (Zo h e)=[Zo h e 0]:=rfl
@[simp] theorem rn2(h:List Blk)(e:Env):(List.range 2).map (Zo h e)=[Zo h e 0,Zo h e 1]:=rfl
@[simp] theorem rn3(h:List Blk)(e:Env):(List.range 3).map (Zo h e)=[Zo h e 0,Zo h e 1,Zo h e 2]:=rfl
@[simp] theorem rn4(h:List Blk)(e:Env):(List.range 4).map (Zo h e)=[Zo h e 0,Zo h e 1,Zo h e 2,Zo h e 3]:=rfl
@[simp] theorem rn5(h:List Blk)(e:Env):(List.range 5).map (Zo h e)=[Zo h e 0,Zo h e 1,Zo h e 2,Zo h e 3,Zo h e 4]:=rfl
theorem down{Q:Nat→Prop}(n:Nat)(h0:Q n)(hs:∀i,i<n→Q (i+1)→Q i):∀i,i≤n→Q i:=by
 intro i hi;obtain⟨k,rfl⟩:∃k,n=i+k:=⟨n-i,by omega⟩
 induction k generalizing i with
 |zero=>exact h0
 |succ k ih=>exact hs i (by omega) (ih (i+1) (by rw[show i+1+k=i+(k+1) by omega];exact h0) (by intro j hj;exact hs j (by omega)) (by omega))
abbrev I(n:Int):AV:=.t (.int .i64 n)
abbrev Bo(b:Bool):AV:=.t (.bool b)
abbrev L(sz:Nat)(es:List (List T)):AV:=.t (.lst sz es)
open Go.RowKit (Below)
open Go.ChangeShapes Go.WideShapes Go.ChangeAt Go.RowKit
inductive CSh where
 |int (k:IntKind)
 |bool
 |str
 |slice (cs:List CSh)
def Zf0(rec:TypeId→Option (List CSh))(P:Program):List Field→Nat→Option (List CSh)
 |[],_=>some []
 |f::fs,o=>if f.offset=o then(match rec f.type with
  |some cs=>if cs.length=P.cellsOf f.type then(match Zf0 rec P fs (o+cs.length)with
   |some ds=>some (cs++ds)
   |none=>none)else none
  |none=>none)else none
def Zbg(P:Program):Nat→TypeId→Option (List CSh)
 |0,_=>none
 |n+1,t=>match P.underlying t with
  |some .bool=>some [.bool]
  |some (.int k)=>some [.int k]
  |some .string=>some [.str]
  |some (.slice e)=>match Zbg P n e with
   |some cs=>if cs.length=P.cellsOf e∧0<cs.length then some [.slice cs]else none
   |none=>none
  |some (.struct fs)=>match Zf0 (Zbg P n) P fs.toList 0 with
   |some cs=>if cs.length=P.cellsOf t then some cs else none
   |none=>none
  |_=>none
mutual
inductive HasSh:CSh→T→Prop
 |int {k:IntKind} {n:Int} (h:(Lit.int k n).wf=true):HasSh (.int k) (.int k n)
 |bool (b:Bool):HasSh .bool (.bool b)
 |str {s:ByteArray} (h:s.size≤maxLen):HasSh .str (.str s)
 |slice {cs:List CSh} {es:List (List T)} (hl:es.length≤maxLen) (h:HasAll cs es):HasSh (.slice cs) (.lst cs.length es)
inductive HasShs:List CSh→List T→Prop
 |nil:HasShs [] []
 |cons {c:CSh} {t:T} {cs:List CSh} {ts:List T} (h:HasSh c t) (hs:HasShs cs ts):HasShs (c::cs) (t::ts)
inductive HasAll:List CSh→List (List T)→Prop
 |nil (cs:List CSh):HasAll cs []
 |cons {cs:List CSh} {e:List T} {es:List (List T)} (h:HasShs cs e) (hs:HasAll cs es):HasAll cs (e::es)
end
theorem HasShs.append{cs ds:List CSh}{ts us:List T}(h:HasShs cs ts)(h':HasShs ds us):HasShs (cs++ds) (ts++us):=by
 induction cs generalizing ts with
 |nil=>cases h;exact h'
 |cons c cs ih=>cases h with|cons h hs=>exact .cons h (ih hs)
theorem HasShs.len{cs:List CSh}{ts:List T}(h:HasShs cs ts):ts.length=cs.length:=by
 induction cs generalizing ts with
 |nil=>cases h;rfl
 |cons c cs ih=>cases h with|cons h hs=>simp[ih hs]
theorem HasAll.snoc{cs:List CSh}{es:List (List T)}{e:List T}(h:HasAll cs es)(h':HasShs cs e):HasAll cs (es++[e]):=by
 induction es with
 |nil=>exact .cons h' (.nil _)
 |cons x es ih=>cases h with|cons h hs=>exact .cons h (ih hs)
section
variable{H:Type}{enc:TypeId×Value→H}{P:Program}{w:World}{sp:Nat→Bool}{held:Bool}
theorem Zk9{α:Type}{f:Nat→Option α}{n:Nat}{xs:List α}(h:(List.range n).mapM f=some xs):xs.length=n∧∀i,i<n→∃x,xs[i]?=some x∧f i=some x:=by
 have key:∀(l:List Nat) (xs:List α),l.mapM f=some xs→xs.length=l.length∧∀(i:Nat) (a:Nat),l[i]?=some a→∃x,xs[i]?=some x∧f a=some x:=by
  intro l
  induction l with
  |nil=>intro xs h;simp at h;subst h;exact⟨rfl,by simp⟩
  |cons a l ih =>
   intro xs h;simp only[List.mapM_cons,Option.bind_eq_bind,Ycd,Option.pure_def,Option.some.injEq]at h;obtain⟨x,hx,ys,hys,rfl⟩:=h;obtain⟨h1,h2⟩:=ih ys hys;refine⟨by simp[h1],?_⟩;intro i b hb
   cases i with
   |zero=>simp at hb;subst hb;exact⟨x,rfl,hx⟩
   |succ i=>simpa using h2 i b (by simpa using hb)
 obtain⟨h1,h2⟩:=key _ xs h;refine⟨by simpa using h1,fun i hi=>h2 i i (by simp[hi])⟩
theorem Zla{a:Addr}{n:Nat}{cs:List Value}(h:w.cells? 0 a n=some cs)(hn:0<n):∃g off c e fz,a=⟨g,off,none⟩∧w.heap[g]?=some (.cells c e fz)∧(c.toList.drop off).take n=cs∧cs.length=n:=by
 unfold World.cells? at h;simp only[Yf,if_true]at h;obtain⟨h1,h2⟩:=Zk9 h;obtain⟨x,_,h4⟩:=h2 0 hn;have ha0:a.add 0=a:=by simp[Addr.add]
 rw[ha0]at h4;have h5:=h4;unfold World.cell? at h5;split at h5
 ·rename_i c e fz hb;split at h5
  ·cases h5
  ·rename_i hs;obtain⟨g,off,spot⟩:=a;have:spot=none:=by simpa using hs
   subst this;refine⟨g,off,c,e,fz,rfl,hb,?_,h1⟩;apply List.ext_getElem?;intro i;rw[Ybs];by_cases hi:i<n
   ·rw[if_pos hi];obtain⟨y,h6,h7⟩:=h2 i hi;rw[Zbt,cell_of_row w g (off+i) c e fz hb]at h7;rw[h6,←h7];simp
   ·rw[if_neg hi];symm;exact Ybg (by omega)
 ·cases h5
theorem Zpd:∀(fuel:Nat) (t:TypeId) (cs:List Value) (d:DataW H) (ps:List MemPlace),DataW.trod enc P w 0 sp held fuel t cs=some (d,ps)→∀(n:Nat) (sh:List CSh),Zbg P n t=some sh→∃ts fp,TRs w ts cs fp∧HasShs sh ts:=by
 intro fuel
 induction fuel with
 |zero=>intro t cs d ps h;simp[DataW.trod]at h
 |succ fuel ih =>
  intro t cs d ps h n sh hsh
  cases n with
  |zero=>simp[Zbg]at hsh
  |succ n =>
   cases hu:P.underlying t with
   |none=>simp[Zbg,hu]at hsh
   |some dd =>
    cases dd<;>try (simp[Zbg,hu]at hsh;done)
    case bool =>
     simp[Zbg,hu]at hsh;subst hsh;simp only[DataW.trod,hu]at h;split at h<;>try (simp_all;done)
     rename_i b _;exact⟨[.bool b],[],.cons (.bool b) .nil,.cons (.bool b) .nil⟩
    case int k =>
     simp[Zbg,hu]at hsh;subst hsh;simp only[DataW.trod,hu]at h;split at h<;>try (simp_all;done)
     rename_i k1 k2 m heq;cases heq;split at h
     ·rename_i hc;obtain⟨rfl,hwf⟩:=hc;exact⟨[.int _ m],[],.cons (.int _ m) .nil,.cons (.int hwf) .nil⟩
     ·cases h
    case string =>
     simp[Zbg,hu]at hsh;subst hsh;simp only[DataW.trod,hu]at h;split at h<;>try (simp_all;done)
     rename_i s heq;split at h
     ·rename_i hc;exact⟨[.str s],[],.cons (.str s) .nil,.cons (.str hc) .nil⟩
     ·cases h
    case slice e =>
     simp only[Zbg,hu]at hsh;split at hsh
     ·rename_i ecs hecs;split at hsh
      ·rename_i hcond;cases hsh;simp only[DataW.trod,hu]at h;split at h<;>try (simp_all;done)
       ·exact⟨[.lst ecs.length []],[],.cons (.lst0 _ _ _) .nil,.cons (.slice (by simp) (.nil _)) .nil⟩
       ·rename_i e' a len cap heq;cases heq;split at h
        ·rename_i hb;simp only[Ycd]at h;obtain⟨elems,hel,_⟩:=h;obtain⟨hlen,hget⟩:=Zk9 hel
         -- every element reads
         by_cases hl0:len=0
         ·subst hl0;exact⟨[.lst ecs.length []],[],.cons (.lst0 _ _ _) .nil,.cons (.slice (by simp) (.nil _)) .nil⟩
         ·have hsz:0<P.cellsOf e:=by omega
          have helem:∀i,i<len→∃vs ts fp,w.cells? 0 (a.add (i*P.cellsOf e)) (P.cellsOf e)=some vs∧TRs w ts vs fp∧HasShs ecs ts:=by
           intro i hi;obtain⟨x,_,h2⟩:=hget i hi;simp only[Ycd]at h2;obtain⟨vs,h3,h4⟩:=h2;obtain⟨ts,fp,h5,h6⟩:=ih e vs x.1 x.2 h4 n ecs hecs;exact⟨vs,ts,fp,h3,h5,h6⟩
          obtain⟨vs0,ts0,fp0,h3,_,_⟩:=helem 0 (by omega);rw[Nat.zero_mul]at h3;have ha0:a.add 0=a:=by simp[Addr.add]
          rw[ha0]at h3;obtain⟨g,off,c,te,fz,rfl,hg,_,_⟩:=Zla h3 hsz;have build:∀m,m≤len→∃es fp,es.length=m∧HasAll ecs es∧(∀x∈es,x.length=P.cellsOf e)∧TRs w es.flatten ((c.toList.drop off).take (m*P.cellsOf e)) fp:=by
           intro m
           induction m with
           |zero=>intro _;exact⟨[],[],rfl,.nil _,by simp,by simpa using TRs.nil⟩
           |succ m ihm =>
            intro hm;obtain⟨es,fp,h5,h6,h7,h8⟩:=ihm (by omega);obtain⟨vs,ts,fq,h9,h10,h11⟩:=helem m (by omega);rw[Zbt]at h9;obtain⟨g',off',c',te',fz',he,hg',hseg,hvl⟩:=Zla h9 hsz;cases he;rw[hg]at hg';cases hg';refine⟨es++[ts],fp++fq,by simp[h5],?_,?_,?_⟩
            ·exact h6.snoc h11
            ·intro x hx;rcases Ya.1 hx with hx|hx
             ·exact h7 x hx
             ·simp at hx;subst hx;rw[h11.len];exact hcond.1
            ·rw[Yba];simp only[Y8,List.flatten_nil,Ybv];have e1:(c.toList.drop off).take ((m+1)*P.cellsOf e)=(c.toList.drop off).take (m*P.cellsOf e)++vs:=by
              rw[Yv,Y0,List.take_add,Y5];rw[hseg]
             rw[e1];exact h8.append h10
          obtain⟨es,fp,h5,h6,h7,h8⟩:=build len (Ye _);subst h5;refine⟨[.lst ecs.length es],(g::fp)++[],.cons ?_ .nil,.cons (.slice (by omega) h6) .nil⟩;rw[hcond.1];exact .lst (by intro hc;subst hc;simp at hl0) hsz hb.2.1 hg h7 h8
        ·cases h
      ·cases hsh
     ·cases hsh
    case struct fs =>
     simp only[Zbg,hu]at hsh;split at hsh
     ·rename_i scs hscs;split at hsh
      ·rename_i hcl;cases hsh;simp only[DataW.trod,hu]at h;split at h
       ·rename_i hlen;simp only[Yc]at h;obtain⟨xs,hxs,_⟩:=h;have key:∀(l:List Field) (o:Nat) (scs:List CSh) (xs:List (DataW H×List MemPlace)),Zf0 (Zbg P n) P l o=some scs→o+scs.length≤cs.length →
          l.mapM (fun f=>DataW.trod enc P w 0 sp held fuel f.type ((cs.drop f.offset).take (P.cellsOf f.type)))=some xs→∃ts fp,TRs w ts ((cs.drop o).take scs.length) fp∧HasShs scs ts:=by
         intro l
         induction l with
         |nil =>
          intro o scs xs h1 _ _;cases h1
          exact⟨[],[],by simpa using TRs.nil,.nil⟩
         |cons f l ihl =>
          intro o scs xs h1 h2 h3;simp only[Zf0]at h1;split at h1
          ·rename_i ho;split at h1
           ·rename_i c1 hc1;split at h1
            ·rename_i hl1;split at h1
             ·rename_i c2 hc2;cases h1;simp only[List.mapM_cons,Option.bind_eq_bind,Ycd,Option.pure_def,Option.some.injEq]at h3;obtain⟨x,hx,ys,hys,rfl⟩:=h3;rw[Yi]at h2;obtain⟨t1,f1,q1,q2⟩:=ih f.type _ x.1 x.2 hx n c1 hc1;obtain⟨t2,f2,q3,q4⟩:=ihl (o+c1.length) c2 ys hc2 (by omega) hys;refine⟨t1++t2,f1++f2,?_,q2.append q4⟩;rw[ho,←hl1]at q1;have e1:(cs.drop o).take (c1++c2).length=(cs.drop o).take c1.length++(cs.drop (o+c1.length)).take c2.length:=by
               rw[Yi,List.take_add,Y5]
              rw[e1];exact q1.append q3
             ·cases h1
            ·cases h1
           ·cases h1
          ·cases h1
        obtain⟨ts,fp,h1,h2⟩:=key fs.toList 0 sh xs hscs (by omega) hxs;refine⟨ts,fp,?_,h2⟩;have:(cs.drop 0).take sh.length=cs:=by rw[Ybd];exact Yb6 (by omega)
        rw[this]at h1;exact h1
       ·cases h
      ·cases hsh
     ·cases hsh
end
open Go.RowKit (Below)
open Go.ChangeShapes Go.WideShapes Go.ChangeAt Go.RowKit
def ParOK:Bool×List CSh→AV→Prop
 |(true,shs),a=>∃xs,a=.agg (xs.map .t)∧HasShs shs xs
 |(false,shs),a=>∃x,a=.t x∧HasShs shs [x]
def ParsOK:List (Bool×List CSh)→List AV→Prop
 |[],as=>as=[]
 |p::ps,as=>∃a as',as=a::as'∧ParOK p a∧ParsOK ps as'
def parSh(P:Program)(t:TypeId):Option (Bool×List CSh):=match Zbg P 16 t with
 |some cs=>match P.underlying t with
  |some (.struct _)=>some (true,cs)
  |some (.array _ _)=>none
  |some _=>some (false,cs)
  |none=>none
 |none=>none
def Zf1(P:Program):List TypeId→Option (List (Bool×List CSh))
 |[]=>some []
 |t::ts=>match parSh P t with
  |some p=>match Zf1 P ts with
   |some ps=>some (p::ps)
   |none=>none
  |none=>none
def parsOK(P:Program)(ts:List TypeId):Bool:=ts.all fun t=>P.readableRec t && decide (t<P.types.size)
section
variable{H:Type}{enc:TypeId×Value→H}{P:Program}{w:World}{sp:Nat→Bool}{held:Bool}
theorem TRs.rvs{ts:List T}{vs:List Value}{fp:List Nat}(h:TRs w ts vs fp):RVs Z3 w (fun _=>True) (ts.map .t) vs:=by
 induction ts generalizing vs fp with
 |nil=>cases h;exact .nil
 |cons t ts ih=>cases h with|cons h hs=>exact .cons (.t h fun _ _=>trivial) (ih hs)
theorem par_arg{t:TypeId}{v:Value}{d:DataW H}{ps:List MemPlace}{base:Nat}(h:DataW.Trod enc P w 0 sp held t v d ps)(hok:Value.okWide P w .any base t v){p:Bool×List CSh}(hp:parSh P t=some p) :
  ∃a,RV Z3 w (fun _=>True) a v∧ParOK p a:=by
 obtain⟨fuel,h⟩:=h;unfold parSh at hp;split at hp
 ·rename_i cs hcs;obtain⟨ts,fp,h1,h2⟩:=Zpd fuel t _ d ps h 16 cs hcs;split at hp
  ·rename_i fs hu;cases hp;obtain⟨c,rfl,_⟩:=okWide_struct hu hok;refine⟨.agg (ts.map .t),.agg h1.rvs h1.one,ts,rfl,h2⟩
  ·cases hp
  ·rename_i dd hns hna hu;cases hp;have hone:cs.length=1:=by
    unfold Zbg at hcs;rw[hu]at hcs;cases dd<;>simp at hcs
    ·subst hcs;rfl
    ·subst hcs;rfl
    ·subst hcs;rfl
    ·split at hcs
     ·split at hcs
      ·cases hcs;rfl
      ·cases hcs
     ·cases hcs
    ·exact absurd rfl (hns _)
   match ts,h2,h1 with
   |[],h2,h1=>have:=h2.len;simp at this;omega
   |[x],h2,h1 =>
    have hv:v.cells.toList=[v]:=by
     unfold Zbg at hcs;rw[hu]at hcs;cases dd<;>simp at hcs
     ·obtain⟨_,rfl⟩:=okWide_bool hu hok;rfl
     ·obtain⟨_,rfl⟩:=okWide_int hu hok;rfl
     ·obtain⟨_,rfl⟩:=okWide_string hu hok;rfl
     ·obtain⟨_,_,_,rfl⟩:=okWide_slice hu hok;rfl
     ·exact absurd rfl (hns _)
    rw[hv]at h1
    cases h1 with|cons h hs =>
    exact⟨.t x,.t h fun _ _=>trivial,x,rfl,h2⟩
   |_::_::_,h2,h1=>have:=h2.len;simp at this;omega
  ·cases hp
 ·cases hp
theorem Zlb{base:Nat}:∀(ts:List TypeId) (vs:List Value) (ds:List (DataW H)) (ps:List MemPlace),DataW.TrodAll enc P w 0 sp held ts vs ds ps →
  (∀(j:Nat) t v,ts[j]?=some t→vs[j]?=some v→Value.okWide P w .any base t v)→∀l,Zf1 P ts=some l→∃as,RVs Z3 w (fun _=>True) as vs∧ParsOK l as
 |[],[],[],_,_,_,l,hl=>by cases hl;exact⟨[],.nil,rfl⟩
 |t::ts,v::vs,d::ds,_,⟨p,q,h1,h2,_⟩,hok,l,hl=>by
  unfold Zf1 at hl;split at hl
  ·rename_i p1 hp1;split at hl
   ·rename_i ps1 hps1;cases hl;obtain⟨a,ha,hpa⟩:=par_arg h1 (hok 0 t v rfl rfl) hp1;obtain⟨as,has,hpas⟩:=Zlb ts vs ds q h2 (fun j t v h h'=>hok (j+1) t v (by simpa using h) (by simpa using h')) ps1 hps1;exact⟨a::as,.cons ha has,a,as,rfl,hpa,hpas⟩
   ·cases hl
  ·cases hl
theorem Zlc(hl:laidOutB P=true){W W':World}(hb:Below W.heap.size W W'):∀(ts:List TypeId) (vs:List Value) (ds:List (DataW H)) (ps:List MemPlace),parsOK P ts=true→DataW.TrodAll enc P W 0 (fun _=>true) true ts vs ds ps →
  (∀x∈ps,x.block<W.heap.size)→DataW.TrodAll enc P W' 0 (fun b=>decide (b<W.heap.size)) true ts vs ds ps
 |[],[],[],_,_,h,_=>h
 |t::ts,v::vs,d::ds,_,hr,⟨p,q,h1,h2,e⟩,hlt=>by
  subst e;simp only[parsOK,Yw,Yd,decide_eq_true_eq]at hr;exact⟨p,q,Below.trod hl hr.1.1 hr.1.2 h1 hb (fun x hx=>hlt x (Ybq _ hx)),Zlc hl hb ts vs ds q hr.2 h2 (fun x hx=>hlt x (Ybr _ hx)),rfl⟩
theorem Zld:∀(ts:List TypeId) (vs:List Value) (ds:List (DataW H)) (ps:List MemPlace),DataW.TrodAll enc P w 0 sp held ts vs ds ps→ds.length=ts.length
 |[],[],[],_,_=>rfl
 |_::ts,_::vs,_::ds,_,⟨_,q,_,h2,_⟩=>by simp[Zld ts vs ds q h2]
theorem Zng(hl:laidOutB P=true){f:Nat}{fn:Func}{s:ChangeSpec}{tb:TypeId}{l:List (Bool×List CSh)}(hrd:parsOK P fn.params.toList=true)(hsh:Zf1 P fn.params.toList=some l)
  (hres:fn.resultTypes=#[tb]) (htb:P.underlying tb=some .bool) (hvars:s.vars=[])
  (hfn:∀(H:Type) (ds:List (DataW H)),ds.length=fn.params.toList.length→(s.fn H ds).results=[.lit (.bool true)]∧(s.fn H ds).args=ds∧(s.fn H ds).vars=[])
  (hS:∀as,ParsOK l as→∃hr,Zt P f as [] (.t (.bool true)) hr)
  (W:World) (hT:TabW W.heap.size W) (base:Nat) (args:Array Value) (ds gs:List (DataW H)) (before:List MemPlace)
  (hval:∀(j:Nat) t v,fn.params[j]?=some t→args[j]?=some v→Value.okWide P W .any base t v)
  (hW:DataW.Whole enc P fn.params.toList s.vars false W args.toList ds gs before) :
  Calls P f args W fun e W'=>∃v,e=.returned v∧s.post enc P fn false true false false W args v W':=by
 have hW':=hW;obtain⟨p,q,hA,hV,rfl,hfz,hnd⟩:=hW;have hV0:=hV;rw[hvars]at hV;obtain⟨rfl,rfl⟩:gs=[]∧q=[]:=by
  cases gs with
  |nil=>exact⟨rfl,hV⟩
  |cons _ _=>exact hV.elim
 obtain⟨as,hRV,hP⟩:=Zlb fn.params.toList args.toList ds p hA (fun j t v h h'=>hval j t v (by simpa using h) (by simpa using h')) l hsh;obtain⟨hr,hC⟩:=hS as hP;refine(hC.data W hT (fun _=>True) args hRV).mono fun e W' ⟨v,ρ,he,hB,_,hv,_⟩=>?_
 subst he;obtain⟨h1,h2,h3⟩:=hfn H (ds++[]) (by rw[Ybv];exact Zld _ _ _ _ hA)
 cases hv with|t h _ =>
 cases h;have hlt:=hW'.lt;refine⟨_,rfl,ds,[],p++[],[],p,[],hW',?_,?_,?_,hB.frame _,(by intro h;cases h)⟩
 ·rw[h1,hres];exact trodAll_cons_mk (p:=[]) (p':=[]) (shut_bool htb _) trodAll_mk0
 ·rw[h2,Ybv];exact Zlc hl hB _ _ _ _ hrd hA (fun x hx=>hlt x (by simpa using hx))
 ·rw[h3,hvars];rfl
end
def ic(n:Int):List T:=[.int .i64 n]
def isc(xs:List Int):List T:=[.lst 1 (xs.map ic)]
def sc(s:ByteArray):List T:=[.str s]
@[simp] theorem ic_def(n:Int):ic n=[.int .i64 n]:=rfl
@[simp] theorem isc_def(xs:List Int):isc xs=[.lst 1 (xs.map ic)]:=rfl
@[simp] theorem sc_def(s:ByteArray):sc s=[.str s]:=rfl
abbrev tI(xs:List Int):T:=.lst 1 (xs.map ic)
abbrev tII(xs:List (List Int)):T:=.lst 1 (xs.map isc)
abbrev SmA{α:Type}(xs:List α):Prop:=xs.length≤4294967296
abbrev SmL{α:Type}(p:α→Prop)(xs:List α):Prop:=xs.length≤4294967296∧∀x∈xs,p x
abbrev OkI(n:Int):Prop:=-9223372036854775808≤n∧n≤9223372036854775807
abbrev OkL{α:Type}(p:α→Prop)(xs:List α):Prop:=xs.length≤maxLen∧∀x∈xs,p x
theorem Zle{α:Type}{xs ys:List α}{i:Nat}(h:i<xs.length)(h':i<ys.length):xs.drop i=ys.drop i↔xs[i]=ys[i]∧xs.drop (i+1)=ys.drop (i+1):=by
 rw[Yk h,Yk h',List.cons.injEq]
abbrev Le{α:Type}(xs:List α):Prop:=xs.length≤1099511627776
theorem tf(b:Bool):b=false∨b=true:=by cases b<;>simp
def sz1(n:Nat)(left:Int):Int:=if IntKind.wrap .i64 (left-n)<0 then -1 else IntKind.wrap .i64 (left-n)
abbrev szI(y:List Int)(l:Int):Int:=sz1 y.length l
def Zbv(l:Int)(f:Int→Int):Int:=if l<0 then -1 else f l
def Zcf{α:Type}(f:α→Int→Int):List α→Int→Int
 |[],l=>l
 |x::xs,l=>if f x l<0 then -1 else Zcf f xs (f x l)
def szL{α:Type}(f:α→Int→Int)(xs:List α)(left:Int):Int:=Zbv (sz1 xs.length left) (Zcf f xs)
theorem sz1_ok{n:Nat}{left:Int}(hn:n≤maxLen)(h0:0≤left)(h1:left≤1048576)(h:0≤sz1 n left):sz1 n left≤left∧n≤1048576:=by
 unfold maxLen at hn;have hw:IntKind.wrap .i64 (left-n)=left-n:=Zce (by omega) (by omega);unfold sz1 at h⊢;rw[hw]at h⊢;split at h
 ·omega
 ·rename_i hx;rw[if_neg hx];omega
theorem Zhn{n:Nat}{left:Int}(hn:n≤maxLen)(h0:0≤left)(h1:left≤1048576)(h:0≤sz1 n left):sz1 n left≤left∧n≤4294967296:=by
 have:=sz1_ok hn h0 h1 h;exact⟨this.1,by omega⟩
theorem andSz_ok{l left:Int}{f:Int→Int}{p q:Prop}(h:0≤Zbv l f)(hl:0≤l→l≤left∧p)(hf:0≤l→0≤f l→f l≤l∧q):Zbv l f≤left∧p∧q:=by
 unfold Zbv at h⊢;split at h
 ·omega
 ·rename_i hx;rw[if_neg hx];have h1:=hl (by omega);have h2:=hf (by omega) h;exact⟨by omega,h1.2,h2.2⟩
theorem Zlf{α:Type}{f:α→Int→Int}{p:α→Prop}{M:Int}:∀(xs:List α) (left:Int),(∀x∈xs,∀l,0≤l→l≤M→0≤f x l→f x l≤l∧p x)→0≤left→left≤M→0≤Zcf f xs left→Zcf f xs left≤left∧∀x∈xs,p x
 |[],left,_,_,_,h=>⟨Int.le_refl _,fun x hx=>by cases hx⟩
 |x::xs,left,hf,h0,h1,h=>by
  unfold Zcf at h⊢;split at h
  ·omega
  ·rename_i hx;rw[if_neg hx];obtain⟨h2,h3⟩:=hf x (by simp) left h0 h1 (by omega);obtain⟨h4,h5⟩:=Zlf xs (f x left) (fun y hy=>hf y (by simp[hy])) (by omega) (by omega) h;refine⟨by omega,?_⟩;intro y hy
   cases hy with
   |head=>exact h3
   |tail _ hy=>exact h5 y hy
theorem szL_ok{α:Type}{f:α→Int→Int}{p:α→Prop}{xs:List α}{left:Int}(hn:xs.length≤maxLen)(hf:∀x∈xs,∀l,0≤l→l≤1048576→0≤f x l→f x l≤l∧p x)(h0:0≤left)(h1:left≤1048576)(h:0≤szL f xs left) :
  szL f xs left≤left∧SmL p xs:=by
 refine andSz_ok h (fun hl=>Zhn hn h0 h1 hl) (fun hl hfl=>?_);have:=sz1_ok hn h0 h1 hl;exact Zlf xs _ hf hl (by omega) hfl
theorem Zf2{t:T}(h:HasSh (.int .i64) t):∃n,t=.int .i64 n∧OkI n:=by
 cases h with
 |int h=>exact⟨_,rfl,by simp[Lit.wf,IntKind.min,IntKind.max,IntKind.signed,IntKind.bits]at h;exact h⟩
theorem Zlg{α:Type}{c:α→List T}{p:α→Prop}{cs:List CSh}(hd:∀ts,HasShs cs ts→∃a,ts=c a∧p a):∀{es:List (List T)},HasAll cs es→∃xs:List α,es=xs.map c∧∀x∈xs,p x
 |[],_=>⟨[],rfl,fun x hx=>by cases hx⟩
 |e::es,h=>by
  cases h with
  |cons h hs =>
   obtain⟨a,rfl,ha⟩:=hd e h;obtain⟨xs,rfl,hx⟩:=Zlg hd hs;exact⟨a::xs,rfl,fun x hm=>by cases hm with|head=>exact ha|tail _ hm=>exact hx x hm⟩
theorem Zlh{α:Type}{c:α→List T}{p:α→Prop}{cs:List CSh}{t:T}(hd:∀ts,HasShs cs ts→∃a,ts=c a∧p a)(h:HasSh (.slice cs) t):∃xs:List α,t=.lst cs.length (xs.map c)∧OkL p xs:=by
 cases h with
 |slice hl h =>
  obtain⟨xs,rfl,hx⟩:=Zlg hd h;exact⟨xs,rfl,by simpa using hl,hx⟩
theorem Zcg{c:CSh}{cs:List CSh}{ts:List T}(h:HasShs (c::cs) ts):∃t us,ts=t::us∧HasSh c t∧HasShs cs us:=by
 cases h with
 |cons h hs=>exact⟨_,_,rfl,h,hs⟩
theorem Zf3{ts:List T}(h:HasShs [] ts):ts=[]:=by cases h;rfl
theorem dec_ic(ts:List T)(h:HasShs [.int .i64] ts):∃n,ts=ic n∧OkI n:=by
 obtain⟨t,us,rfl,h1,h2⟩:=Zcg h;cases Zf3 h2;obtain⟨n,rfl,hn⟩:=Zf2 h1;exact⟨n,rfl,hn⟩
theorem dec_tI{t:T}(h:HasSh (.slice [.int .i64]) t):∃xs,t=tI xs∧OkL OkI xs:=Zlh dec_ic h
theorem dec_isc(ts:List T)(h:HasShs [.slice [.int .i64]] ts):∃n,ts=isc n∧OkL OkI n:=by
 obtain⟨t,us,rfl,h1,h2⟩:=Zcg h;cases Zf3 h2;obtain⟨n,rfl,hn⟩:=dec_tI h1;exact⟨n,rfl,hn⟩
theorem Zli{t:T}(h:HasSh (.slice [.slice [.int .i64]]) t):∃xs,t=tII xs∧OkL (OkL OkI) xs:=Zlh dec_isc h
abbrev Rs:=Option (AV×List Blk)
abbrev w(n:Int):Int:=IntKind.wrap .i64 n
def kc(k:IntKind)(n:Int):List T:=[.int k n]
def bc(b:Bool):List T:=[.bool b]
def lc{α:Type}(sz:Nat)(c:α→List T)(xs:List α):List T:=[.lst sz (xs.map c)]
@[simp] theorem kc_def(k:IntKind)(n:Int):kc k n=[.int k n]:=rfl
@[simp] theorem bc_def(b:Bool):bc b=[.bool b]:=rfl
@[simp] theorem lc_def{α:Type}(sz:Nat)(c:α→List T)(xs:List α):lc sz c xs=[.lst sz (xs.map c)]:=rfl
@[simp] theorem bytesT_kc(xs:List Int):Zcl (xs.map (kc .u8))=some xs:=by
 induction xs with
 |nil=>rfl
 |cons x xs ih=>simp[Zcl,ih]
@[simp] theorem gt_nil(n:Nat):gt [] n=.dead:=by simp[gt]
theorem Ev_eq{C:Ze}{ks:List Fr}{s:S}{B c:MCode}(hB:B=c):Ev C ks B s=Ev C ks c s:=by rw[hB]
@[simp] theorem strB_size(l:List Int):(strB l).size=l.length:=by simp[strB,ByteArray.size]
theorem itb{b:Bool}{A B:Prop}:(if b=true then A else B)=((b=true∧A)∨(b=false∧B)):=by cases b<;>simp
theorem itf{c:Prop}[Decidable c]{A B:Prop}:(if c then A else B)=(((c=True)∧A)∨((c=False)∧B)):=by by_cases h:c<;>simp[h]
theorem kA{n:Nat}:(0<(n:Int))=(0<n):=propext Int.natCast_pos
theorem kB{a b:Nat}:((a:Int)<(b:Int))=(a<b):=propext Int.ofNat_lt
theorem kC{a b:Nat}:((a:Int)≤(b:Int))=(a≤b):=propext Int.ofNat_le
theorem kD{a b:Nat}:((a:Int)=(b:Int))=(a=b):=propext Int.natCast_inj
theorem kE{n:Nat}:((n:Int)=0)=(n=0):=propext Int.natCast_eq_zero
theorem kF{α:Type}{l:List α}:(l.length=0)=(l=[]):=propext List.length_eq_zero_iff
theorem gS{α:Type}{l:List α}{i:Nat}{a:α}:l[i]?=some a↔∃h:i<l.length,l[i]=a:=Yn
theorem kk:(∀n:Nat,(0<(n:Int))=(0<n))∧(∀a b:Nat,((a:Int)<(b:Int))=(a<b))∧(∀a b:Nat,((a:Int)≤(b:Int))=(a≤b))∧(∀a b:Nat,((a:Int)=(b:Int))=(a=b))∧(∀n:Nat,((n:Int)=0)=(n=0))∧∀(α:Type) (l:List α),(l.length=0)=(l=[]) :=
 ⟨fun _=>kA,fun _ _=>kB,fun _ _=>kC,fun _ _=>kD,fun _=>kE,fun _ _=>kF⟩
theorem mpl{α β:Type}(f:α→β):([].map f=[])∧(∀a l,(a::l).map f=f a::l.map f)∧(∀(l:List α) n,(l.take n).map f=(l.map f).take n)∧(∀(l:List α) n,(l.drop n).map f=(l.map f).drop n)∧(∀l k:List α,(l++k).map f=l.map f++k.map f)∧(∀(l:List α) n a,(l.set n a).map f=(l.map f).set n (f a))∧(∀n a,(List.replicate n a).map f=List.replicate n (f a)) :=
 ⟨rfl,fun _ _=>rfl,fun _ _=>List.map_take,fun _ _=>List.map_drop,fun _ _=>Ybp,fun _ _ _=>List.map_set,fun _ _=>List.map_replicate⟩
theorem dfs:(∀n,ic n=[.int .i64 n])∧(∀l,isc l=[.lst 1 (l.map ic)])∧(∀s,sc s=[.str s])∧(∀b,bc b=[.bool b])∧(∀k n,kc k n=[.int k n])∧(∀(α:Type) (sz:Nat) (c:α→List T) (xs:List α),lc sz c xs=[.lst sz (xs.map c)]) :=
 ⟨fun _=>rfl,fun _=>rfl,fun _=>rfl,fun _=>rfl,fun _ _=>rfl,fun _ _ _ _=>rfl⟩
def MO.o(d:Nat)(k:MOp):MO:=⟨some d,none,k⟩
def MO.m(d x:Nat):MO:=⟨some d,none,.mov (.s x)⟩
def MO.g(d g:Nat)(k:MOp):MO:=⟨some d,some (g,true),k⟩
def MO.h(d g:Nat)(k:MOp):MO:=⟨some d,some (g,false),k⟩
def MO.n(k:MOp):MO:=⟨none,none,k⟩
def Opd.k(n:Int):Opd:=.c (.t (.int .i64 n))
@[simp] theorem MO.g_def(d g:Nat)(k:MOp):MO.g d g k=⟨some d,some (g,true),k⟩:=rfl
@[simp] theorem MO.h_def(d g:Nat)(k:MOp):MO.h d g k=⟨some d,some (g,false),k⟩:=rfl
@[simp] theorem MO.n_def(k:MOp):MO.n k=⟨none,none,k⟩:=rfl
@[simp] theorem Opd.k_def(n:Int):Opd.k n=.c (.t (.int .i64 n)):=rfl
@[simp] theorem MO.o_def(d:Nat)(k:MOp):MO.o d k=⟨some d,none,k⟩:=rfl
@[simp] theorem MO.m_def(d x:Nat):MO.m d x=⟨some d,none,.mov (.s x)⟩:=rfl
def T.z:T:=.int .i64 0
def AV.z:AV:=.t (.int .i64 0)
def Opd.q(b:Bool):Opd:=.c (.t (.bool b))
def MOp.l(s:Nat):MOp:=.load none (.s s)
def MOp.ln(n s:Nat):MOp:=.load (some n) (.s s)
def MOp.fa(k s:Nat):MOp:=.faddr k (.s s)
def MOp.ia(k s t:Nat):MOp:=.iaddr k (.s s) (.s t)
def MOp.b(p:BinOp)(s t:Nat):MOp:=.bin p (.s s) (.s t)
def MOp.bk(p:BinOp)(s:Nat)(n:Int):MOp:=.bin p (.s s) (.k n)
def MOp.ll(s:Nat):MOp:=.len false (.s s)
def MOp.cl(f:Nat)(xs:List Nat):MOp:=.call f (xs.map .s)
def MOp.xl(f:Nat)(xs:List Nat):MOp:=.xcall f (xs.map .s)
def MOp.st(k s t:Nat):MOp:=.store k (.s s) (.s t)
def MOp.bx(s:Nat):MOp:=.box (.s s)
def MOp.mk(n:Int):MOp:=.mov (.k n)
@[simp] theorem T.z_def:T.z=.int .i64 0:=rfl
@[simp] theorem AV.z_def:AV.z=.t (.int .i64 0):=rfl
@[simp] theorem Opd.q_def(b:Bool):Opd.q b=.c (.t (.bool b)):=rfl
@[simp] theorem MOp.l_def(s:Nat):MOp.l s=.load none (.s s):=rfl
@[simp] theorem MOp.ln_def(n s:Nat):MOp.ln n s=.load (some n) (.s s):=rfl
@[simp] theorem MOp.fa_def(k s:Nat):MOp.fa k s=.faddr k (.s s):=rfl
@[simp] theorem MOp.ia_def(k s t:Nat):MOp.ia k s t=.iaddr k (.s s) (.s t):=rfl
@[simp] theorem MOp.b_def(p:BinOp)(s t:Nat):MOp.b p s t=.bin p (.s s) (.s t):=rfl
@[simp] theorem MOp.bk_def(p:BinOp)(s:Nat)(n:Int):MOp.bk p s n=.bin p (.s s) (.c (.t (.int .i64 n))):=rfl
@[simp] theorem MOp.ll_def(s:Nat):MOp.ll s=.len false (.s s):=rfl
@[simp] theorem MOp.cl_def(f:Nat)(xs:List Nat):MOp.cl f xs=.call f (xs.map .s):=rfl
@[simp] theorem MOp.xl_def(f:Nat)(xs:List Nat):MOp.xl f xs=.xcall f (xs.map .s):=rfl
@[simp] theorem MOp.st_def(k s t:Nat):MOp.st k s t=.store k (.s s) (.s t):=rfl
@[simp] theorem MOp.bx_def(s:Nat):MOp.bx s=.box (.s s):=rfl
@[simp] theorem MOp.mk_def(n:Int):MOp.mk n=.mov (.c (.t (.int .i64 n))):=rfl
def MO.l(d s:Nat):MO:=.o d (.l s)
def MO.ln(d n s:Nat):MO:=.o d (.ln n s)
def MO.fa(d k s:Nat):MO:=.o d (.fa k s)
def MO.ia(d k s t:Nat):MO:=.o d (.ia k s t)
def MO.b(d:Nat)(p:BinOp)(s t:Nat):MO:=.o d (.b p s t)
def MO.bk(d:Nat)(p:BinOp)(s:Nat)(n:Int):MO:=.o d (.bk p s n)
def MO.ll(d s:Nat):MO:=.o d (.ll s)
def MO.cl(d f:Nat)(xs:List Nat):MO:=.o d (.cl f xs)
def MO.xl(d f:Nat)(xs:List Nat):MO:=.o d (.xl f xs)
def MO.bx(d s:Nat):MO:=.o d (.bx s)
def MO.mk'(d:Nat)(n:Int):MO:=.o d (.mk n)
def MO.st(k s t:Nat):MO:=.n (.st k s t)
@[simp] theorem MO.l_def(d s:Nat):MO.l d s=.o d (.l s):=rfl
@[simp] theorem MO.ln_def(d n s:Nat):MO.ln d n s=.o d (.ln n s):=rfl
@[simp] theorem MO.fa_def(d k s:Nat):MO.fa d k s=.o d (.fa k s):=rfl
@[simp] theorem MO.ia_def(d k s t:Nat):MO.ia d k s t=.o d (.ia k s t):=rfl
@[simp] theorem MO.b_def(d:Nat)(p:BinOp)(s t:Nat):MO.b d p s t=.o d (.b p s t):=rfl
@[simp] theorem MO.bk_def(d:Nat)(p:BinOp)(s:Nat)(n:Int):MO.bk d p s n=.o d (.bk p s n):=rfl
@[simp] theorem MO.ll_def(d s:Nat):MO.ll d s=.o d (.ll s):=rfl
@[simp] theorem MO.cl_def(d f:Nat)(xs:List Nat):MO.cl d f xs=.o d (.cl f xs):=rfl
@[simp] theorem MO.xl_def(d f:Nat)(xs:List Nat):MO.xl d f xs=.o d (.xl f xs):=rfl
@[simp] theorem MO.bx_def(d s:Nat):MO.bx d s=.o d (.bx s):=rfl
@[simp] theorem MO.mk'_def(d:Nat)(n:Int):MO.mk' d n=.o d (.mk n):=rfl
@[simp] theorem MO.st_def(k s t:Nat):MO.st k s t=.n (.st k s t):=rfl
def MCode.r(a:List MO)(k:List Nat)(c:MCode):MCode:=.seq (.reg a k) c
def MCode.we(a:List MO)(k:List Nat)(s x:Nat)(c:MCode):MCode:=.seq (.r a k (.cond (.s s) .skip (.exit x))) c
def MCode.wc(a:List MO)(k:List Nat)(s:Nat)(b c:MCode):MCode:=.seq (.r a k (.cond (.s s) b .skip)) c
@[simp] theorem MCode.r_def(a:List MO)(k:List Nat)(c:MCode):MCode.r a k c=.seq (.reg a k) c:=rfl
@[simp] theorem MCode.we_def(a:List MO)(k:List Nat)(s x:Nat)(c:MCode):MCode.we a k s x c=.seq (.r a k (.cond (.s s) .skip (.exit x))) c:=rfl
@[simp] theorem MCode.wc_def(a:List MO)(k:List Nat)(s:Nat)(b c:MCode):MCode.wc a k s b c=.seq (.r a k (.cond (.s s) b .skip)) c:=rfl
@[simp] theorem roomA'{n b:Nat}(h:n≤68719476736)(hb:b≤2048):n*b≤room:=Ym (Nat.mul_le_mul h hb) (by decide)
@[simp] theorem roomB'{n:Nat}(h:n≤68719476736):n≤room:=Ym h (by decide)
theorem Zf4{α:Type}{c:α→List T}(h:∀x,(c x).all Zn=true)(xs:List α):(xs.map c).all (fun x=>x.all Zn)=true:=by
 rw[Yh];intro x hx;obtain⟨a,_,rfl⟩:=Ybm.1 hx;exact h a
@[simp] theorem flat_ic(xs:List Int):(xs.map ic).all (fun x=>x.all Zn)=true:=Zf4 (fun _=>rfl) xs
@[simp] theorem flat_sc(xs:List ByteArray):(xs.map sc).all (fun x=>x.all Zn)=true:=Zf4 (fun _=>rfl) xs
@[simp] theorem flat_bc(xs:List Bool):(xs.map bc).all (fun x=>x.all Zn)=true:=Zf4 (fun _=>rfl) xs
@[simp] theorem flat_kc(k:IntKind)(xs:List Int):(xs.map (kc k)).all (fun x=>x.all Zn)=true:=Zf4 (fun _=>rfl) xs
theorem Zf5{α:Type}{c:α→List T}(h:∀x,(c x).all Zn=true)(xs:List α):xs.all ((fun x=>x.all Zn) ∘ c)=true:=by
 rw[Yh];exact fun x _=>h x
@[simp] theorem flat_ic'(xs:List Int):xs.all ((fun x=>x.all Zn) ∘ ic)=true:=Zf5 (fun _=>rfl) xs
@[simp] theorem flat_sc'(xs:List ByteArray):xs.all ((fun x=>x.all Zn) ∘ sc)=true:=Zf5 (fun _=>rfl) xs
@[simp] theorem flat_bc'(xs:List Bool):xs.all ((fun x=>x.all Zn) ∘ bc)=true:=Zf5 (fun _=>rfl) xs
@[simp] theorem flat_kc'(k:IntKind)(xs:List Int):xs.all ((fun x=>x.all Zn) ∘ kc k)=true:=Zf5 (fun _=>rfl) xs
@[simp] theorem all_take{α:Type}{p:α→Bool}{l:List α}{n:Nat}(h:l.all p=true):(l.take n).all p=true:=by
 rw[Yh]at h⊢;exact fun x hx=>h x (Yp hx)
@[simp] theorem all_drop{α:Type}{p:α→Bool}{l:List α}{n:Nat}(h:l.all p=true):(l.drop n).all p=true:=by
 rw[Yh]at h⊢;exact fun x hx=>h x (Yz hx)
@[simp] theorem all_set{α:Type}{p:α→Bool}{l:List α}{n:Nat}{a:α}(h:l.all p=true)(ha:p a=true):(l.set n a).all p=true:=by
 rw[Yh]at h⊢;intro x hx;rcases Ybt hx with hx|rfl
 ·exact h x hx
 ·exact ha
theorem Zch{α:Type}{c:α→List T}(h:∀a b,c a=c b→a=b):∀{xs ys:List α},xs.map c=ys.map c↔xs=ys
 |[],[]=>by simp
 |[],_::_=>by simp
 |_::_,[]=>by simp
 |x::xs,y::ys=>by
  simp only[Yj,List.cons.injEq,Zch h (xs:=xs) (ys:=ys)];exact⟨fun⟨a,b⟩=>⟨h _ _ a,b⟩,fun⟨a,b⟩=>⟨by rw[a],b⟩⟩
@[simp] theorem map_ic(xs ys:List Int):xs.map ic=ys.map ic↔xs=ys:=Zch (by intro a b h;simpa using h)
@[simp] theorem map_sc(xs ys:List ByteArray):xs.map sc=ys.map sc↔xs=ys:=Zch (by intro a b h;simpa using h)
@[simp] theorem map_bc(xs ys:List Bool):xs.map bc=ys.map bc↔xs=ys:=Zch (by intro a b h;simpa using h)
@[simp] theorem map_kc(k:IntKind)(xs ys:List Int):xs.map (kc k)=ys.map (kc k)↔xs=ys:=Zch (by intro a b h;simpa using h)
@[simp] theorem map_isc(xs ys:List (List Int)):xs.map isc=ys.map isc↔xs=ys:=Zch (by intro a b h;simpa using h)
@[simp] theorem map_lcic(xs ys:List (List Int)):xs.map (lc 1 ic)=ys.map (lc 1 ic)↔xs=ys:=Zch (by intro a b h;simpa using h)
end Go.AM
