/-
  Parts of the proofs for this seat: PA PB OF OE TC CB IN IS SJ SK SM SC SD SE SF SG SH IE IA IC IF.
-/
import Derived.Test.YtbapkgocloaaeaaGreatP14
set_option linter.unusedSimpArgs false
set_option linter.unusedVariables false
set_option maxRecDepth 100000
set_option maxHeartbeats 4000000
/- part: PA -/
namespace Go.Proofs.YtbapkgocloaaeaaGreat
open Go.AM
abbrev MO:=Int×Int
def Zdb (qa:List Atom) (x:Zc) (y z:MO):Option Int:=Zbz qa x ⟨y.1,y.2,0,0⟩ ⟨z.1,z.2,0,0⟩
theorem joinP_eq (qa:List Atom) (x:Zc) (y z:Zh):Zdb qa x (y.Mask,y.Order) (z.Mask,z.Order)=Zbz qa x y z:=by
 unfold Zdb Zbz;rfl
def Zb4 (m:Zd) (sizes:List Int) (qa:List Atom) (x:Zc) (S:List MO):Option (List MO×Int) :=
 if x.Kind=1 then (if inR x.Atom 0 (qa.length - 1)=true∧x.Order=0 then some ((shlI 1 x.Atom,(match qa[x.Atom.toNat]? with | some a=>a.Vars.headD 0 | none=>0))::S,Z9 (mOp m 1) (szAt sizes (shlI 1 x.Atom)) 0 (szAt sizes (shlI 1 x.Atom))) else none)
 else if x.Atom≠0 then none
 else if x.Kind=2 then (match S with
  | y::S=>if vin qa y.1 x.Order=true∧y.2≠x.Order then some ((y.1,x.Order)::S,Z9 (mOp m 2) (szAt sizes y.1) 0 (szAt sizes y.1)) else none
  | []=>none)
 else match S with
  | z::y::S=>if andI y.1 z.1=0∧shr qa y.1 z.1=true then (Zdb qa x y z).map (fun o=>((orI y.1 z.1,o)::S,Z9 (mOp m x.Kind) (szAt sizes y.1) (szAt sizes z.1) (szAt sizes (orI y.1 z.1)))) else none
  | _=>none
def runS (m:Zd) (sizes:List Int) (qa:List Atom):List Zc→List MO→Int→Option (List MO×Int)
 | [],S,c=>some (S,c)
 | x::xs,S,c=>match Zb4 m sizes qa x S with
  | none=>none
  | some (S',k)=>runS m sizes qa xs S' (w (c+k))
def ordAt (info:List Zh) (i:Int):Int:=match info[i.toNat]? with | some y=>y.Order | none=>0
def vw (info:List Zh) (rs:List Int):List MO:=rs.map fun s=>(Zb8 info s,ordAt info s)
theorem top1 {info:List Zh} {s:Int} {rs:List Int}:Zbh (s::rs).reverse info 1=(info[s.toNat]?).map (s,·):=by
 simp [Zbh]
theorem top2 {info:List Zh} {t s:Int} {rs:List Int}:Zbh (t::s::rs).reverse info 2=(info[s.toNat]?).map (s,·):=by
 simp [Zbh]
theorem top0 {info:List Zh}:Zbh [] info 1=none:=by simp [Zbh]
theorem top02 {info:List Zh}:Zbh [] info 2=none:=by simp [Zbh]
theorem top12 {info:List Zh} {s:Int}:Zbh [s] info 2=none:=by simp [Zbh]
theorem Zbk3 (m:Zd) (sizes:List Int) (qa:List Atom) (x:Zc) (info:List Zh) (rs:List Int) (hs:StOk info rs.reverse):match Zca qa x info rs.reverse with
  | none=>Zb4 m sizes qa x (vw info rs)=none
  | some y=>Zb4 m sizes qa x (vw info rs)=some ((y.Mask,y.Order)::(vw info rs).drop (pops y),Zcc m info sizes x y):=by
 unfold Zca Zb4
 by_cases k1:x.Kind=1
 ·simp only [if_pos k1]
  by_cases c:inR x.Atom 0 (qa.length - 1)=true∧x.Order=0
  ·simp [if_pos c,pops,Zcc,k1]
   rfl
  ·simp [if_neg c]
 ·simp only [if_neg k1]
  by_cases ka:x.Atom≠0
  ·simp [if_pos ka]
  ·simp only [if_neg ka]
   by_cases k2:x.Kind=2
   ·simp only [if_pos k2]
    cases rs with
    | nil=>simp [vw,top0]
    | cons s rs =>
     obtain ⟨h0,h1⟩:=hs s (by simp)
     have e:info[s.toNat]?=some info[s.toNat]:=List.getElem?_eq_getElem h1
     rw [top1,e]
     simp only [Option.map_some,vw,List.map_cons,Zb8,ordAt,e]
     by_cases c:vin qa info[s.toNat].Mask x.Order=true∧info[s.toNat].Order≠x.Order
     ·have hn:¬ s<0:=by omega
      simp [if_pos c,pops,Zcc,k2,Zb8,e,h0,hn]
     ·simp [if_neg c]
   ·simp only [if_neg k2]
    match rs,hs with
    | [],_=>simp [vw,top02]
    | [s],_=>simp [vw,top12]
    | t::s::rs,hs =>
     obtain ⟨h0,h1⟩:=hs s (by simp)
     obtain ⟨t0,t1⟩:=hs t (by simp)
     have e:info[s.toNat]?=some info[s.toNat]:=List.getElem?_eq_getElem h1
     have et:info[t.toNat]?=some info[t.toNat]:=List.getElem?_eq_getElem t1
     rw [top1,top2,e,et]
     simp only [Option.map_some,vw,List.map_cons,Zb8,ordAt,e,et]
     by_cases c:andI info[s.toNat].Mask info[t.toNat].Mask=0∧shr qa info[s.toNat].Mask info[t.toNat].Mask=true
     ·simp only [if_pos c,joinP_eq]
      cases ho:Zbz qa x info[s.toNat] info[t.toNat] with
      | none=>simp
      | some o =>
       have hn:¬ s<0:=by omega
       have tn:¬ t<0:=by omega
       simp [pops,Zcc,Zb8,e,et,h0,t0,hn,tn]
     ·simp [if_neg c]
theorem vw_ext {info tail:List Zh} {rs:List Int} (hs:∀ s∈rs,0≤s∧s.toNat<info.length):vw (info++tail) rs=vw info rs:=by
 unfold vw
 refine List.map_congr_left fun s h=>?_
 have:=(hs s h).2
 simp [Zb8,ordAt,List.getElem?_append_left this]
theorem Zbk4 {m:Zd} {sizes:List Int} {info tail:List Zh} {x:Zc} {y:Zh} (h:Zja info.length x y):Zcc m (info++tail) sizes x y=Zcc m info sizes x y:=by
 unfold Zcc
 rcases h.refs with ⟨a,b⟩ | ⟨⟨a,a'⟩,b⟩
 ·simp [a,b]
 ·have e1:Zb8 (info++tail) y.Left=Zb8 info y.Left:=by simp [Zb8,List.getElem?_append_left a']
  rcases b with b | ⟨b,b'⟩
  ·simp [b,e1]
  ·have e2:Zb8 (info++tail) y.Right=Zb8 info y.Right:=by simp [Zb8,List.getElem?_append_left b']
   simp [e1,e2]
theorem Z6e (m:Zd) (sizes:List Int) (qa:List Atom):∀ (xs:List Zc) (info:List Zh) (rs:List Int) (c:Int),StOk info rs.reverse →
  match Zbj qa xs info.length info rs.reverse with
  | none=>runS m sizes qa xs (vw info rs) c=none
  | some (info',st')=>∃ tail,info'=info++tail∧tail.length=xs.length∧runS m sizes qa xs (vw info rs) c=some (vw info' st'.reverse,sumW (Zc1 m info' sizes xs tail) c)
 | [],info,rs,c,hs=>by
  simp only [Zbj,runS]
  exact ⟨[],by simp,rfl,by simp [Zc1,sumW]⟩
 | x::xs,info,rs,c,hs=>by
  have hv:=Zbk3 m sizes qa x info rs hs
  rw [Zbj,runS]
  cases hy:Zca qa x info rs.reverse with
  | none=>rw [hy] at hv;simp only at hv;rw [hv]
  | some y =>
   rw [hy] at hv
   simp only at hv
   rw [hv]
   simp only
   have ho:=Z5x hs hy
   have hn:=Zky hs y (rs.reverse.length - pops y)
   have er:rs.reverse.take (rs.reverse.length - pops y)++[(info.length:Int)]=((info.length:Int)::rs.drop (pops y)).reverse:=by
    rw [List.reverse_cons,List.reverse_drop,List.length_reverse]
   rw [er] at hn ⊢
   have ih:=Z6e m sizes qa xs (info++[y]) ((info.length:Int)::rs.drop (pops y)) (w (c+Zcc m info sizes x y)) hn
   have ev:vw (info++[y]) ((info.length:Int)::rs.drop (pops y))=(y.Mask,y.Order)::(vw info rs).drop (pops y):=by
    have:=vw_ext (info:=info) (tail:=[y]) (rs:=rs.drop (pops y)) (fun s h=>hs s (by simp;exact List.mem_of_mem_drop h))
    rw [show vw (info++[y]) ((info.length:Int)::rs.drop (pops y))=(Zb8 (info++[y]) info.length,ordAt (info++[y]) info.length)::vw (info++[y]) (rs.drop (pops y)) from rfl,this]
    simp [Zb8,ordAt,vw,List.map_drop]
   rw [ev] at ih
   rw [show (info++[y]).length=info.length+1 by simp] at ih
   split at ih
   ·exact ih
   ·rename_i info' st' hg
    obtain ⟨tail,a,b,d⟩:=ih
    refine ⟨y::tail,by simp [a],by simp [b],?_⟩
    rw [d]
    have e2:Zcc m info' sizes x y=Zcc m info sizes x y:=by rw [a,List.append_assoc];exact Zbk4 ho
    simp [Zc1,sumW,e2]
theorem run_cost {m:Zd} {n:Int} {qa:List Atom} {sizes:List Int} {steps:List Zc} {y:MO} {c:Int} (hv:Zn n qa=true) (hl:1≤steps.length∧steps.length≤14) (hs:Zbs n qa sizes=true) (h:runS m sizes qa steps [] 0=some ([y],c)):Zct m n qa steps sizes=c:=by
 have g:=Z6e m sizes qa steps [] [] 0 (fun s h=>by simp at h)
 simp only [List.length_nil,List.reverse_nil] at g
 have hr:inR (steps.length:Int) 1 14=true:=by simp [inR];omega
 cases hg:Zbj qa steps 0 [] [] with
 | none=>rw [hg] at g;simp only [vw,List.map_nil] at g;rw [g] at h;cases h
 | some p =>
  obtain ⟨info',st'⟩:=p
  rw [hg] at g
  obtain ⟨tail,a,b,d⟩:=g
  simp only [vw,List.map_nil] at d
  rw [d] at h
  simp only [List.nil_append] at a
  subst a
  cases h':st'.reverse with
  | nil=>rw [h'] at h;simp at h
  | cons s rs =>
   rw [h'] at h
   simp only [List.map_cons,Option.some.injEq,Prod.mk.injEq,List.cons.injEq,List.map_eq_nil_iff] at h
   have hlen:st'.length=1:=by rw [← List.length_reverse,h',h.1.2];rfl
   have hi:Zbk n qa steps=some info':=by simp [Zbk,hv,hr,hg,hlen]
   simp [Zct,Zfw,Zdp,hi,hs,h.2]
end Go.Proofs.YtbapkgocloaaeaaGreat
/- part: PB -/
namespace Go.Proofs.YtbapkgocloaaeaaGreat
open Go.AM
theorem w_eq (x:Int):w x=(x+9223372036854775808) % 18446744073709551616 - 9223372036854775808:=by
 simp only [w,IntKind.wrap,IntKind.signed,IntKind.bits,Bool.true_and]
 split
 ·rename_i h;have h:=of_decide_eq_true h;omega
 ·rename_i h;simp at h;omega
theorem w_w (x:Int):w (w x)=w x:=by rw [w_eq,w_eq];omega
theorem Zqc (m:Zd) (sizes:List Int) (qa:List Atom):∀ (xs ys:List Zc) (S:List MO) (c:Int),runS m sizes qa (xs++ys) S c=match runS m sizes qa xs S c with
  | none=>none
  | some (S',c')=>runS m sizes qa ys S' c'
 | [],ys,S,c=>by simp [runS]
 | x::xs,ys,S,c=>by
  rw [List.cons_append,runS,runS]
  cases Zb4 m sizes qa x S with
  | none=>rfl
  | some p=>simp only;exact Zqc m sizes qa xs ys p.1 _
theorem Zbk5 {m:Zd} {sizes:List Int} {qa:List Atom} {x:Zc} {S S' B:List MO} {c:Int} (h:Zb4 m sizes qa x S=some (S',c)):Zb4 m sizes qa x (S++B)=some (S'++B,c):=by
 unfold Zb4 at h ⊢
 by_cases k1:x.Kind=1
 ·simp only [if_pos k1] at h ⊢
  split at h
  ·rename_i hc;rw [if_pos hc];cases h;rfl
  ·cases h
 ·simp only [if_neg k1] at h ⊢
  by_cases ka:x.Atom≠0
  ·simp [if_pos ka] at h
  ·simp only [if_neg ka] at h ⊢
   by_cases k2:x.Kind=2
   ·simp only [if_pos k2] at h ⊢
    match S,h with
    | [],h=>cases h
    | y::S,h =>
     simp only [List.cons_append] at h ⊢
     split at h
     ·rename_i hc;rw [if_pos hc];cases h;rfl
     ·cases h
   ·simp only [if_neg k2] at h ⊢
    match S,h with
    | [],h=>cases h
    | [y],h=>cases h
    | z::y::S,h =>
     simp only [List.cons_append] at h ⊢
     split at h
     ·rename_i hc
      rw [if_pos hc]
      cases ho:Zdb qa x y z with
      | none=>rw [ho] at h;cases h
      | some o=>rw [ho] at h;cases h;rfl
     ·cases h
theorem Z6f {m:Zd} {sizes:List Int} {qa:List Atom} {B:List MO}:∀ {xs:List Zc} {S S':List MO} {c c':Int},runS m sizes qa xs S c=some (S',c')→runS m sizes qa xs (S++B) c=some (S'++B,c')
 | [],S,S',c,c',h=>by simp [runS] at h ⊢;simp [h]
 | x::xs,S,S',c,c',h=>by
  rw [runS] at h ⊢
  cases hs:Zb4 m sizes qa x S with
  | none=>rw [hs] at h;cases h
  | some p=>rw [hs] at h;rw [Zbk5 hs];exact Z6f h
theorem Z6g {m:Zd} {sizes:List Int} {qa:List Atom}:∀ {xs:List Zc} {S S':List MO} {a k:Int},runS m sizes qa xs S a=some (S',k)→∀ c,w c=c→runS m sizes qa xs S c=some (S',w (c+(k - a)))
 | [],S,S',a,k,h,c,hc=>by
  simp [runS] at h ⊢
  obtain ⟨rfl,rfl⟩:=h
  rw [show c+(a - a)=c by omega]
  exact ⟨rfl,hc.symm⟩
 | x::xs,S,S',a,k,h,c,hc=>by
  rw [runS] at h ⊢
  cases hs:Zb4 m sizes qa x S with
  | none=>rw [hs] at h;cases h
  | some p =>
   obtain ⟨S1,e⟩:=p
   rw [hs] at h
   simp only at h ⊢
   rw [Z6g h (w (c+e)) (w_w _)]
   have:w (w (c+e)+(k - w (a+e)))=w (c+(k - a)):=by simp only [w_eq];omega
   rw [this]
theorem Z6h {m:Zd} {sizes:List Int} {qa:List Atom}:∀ {xs:List Zc} {S S':List MO} {a k:Int},runS m sizes qa xs S a=some (S',k)→w a=a→w k=k
 | [],S,S',a,k,h,ha=>by simp [runS] at h;rw [← h.2];exact ha
 | x::xs,S,S',a,k,h,ha=>by
  rw [runS] at h
  cases hs:Zb4 m sizes qa x S with
  | none=>rw [hs] at h;cases h
  | some p=>rw [hs] at h;exact Z6h h (w_w _)
def Z6 (m:Zd) (sizes:List Int) (qa:List Atom) (xs:List Zc) (mask order c:Int):Prop:=runS m sizes qa xs [] 0=some ([(mask,order)],c)
theorem Z6.can {m:Zd} {sizes:List Int} {qa:List Atom} {xs:List Zc} {a o c:Int} (h:Z6 m sizes qa xs a o c):w c=c:=Z6h h rfl
theorem Z6.on {m:Zd} {sizes:List Int} {qa:List Atom} {xs:List Zc} {a o c:Int} (h:Z6 m sizes qa xs a o c) (B:List MO) (d:Int) (hd:w d=d):runS m sizes qa xs B d=some ((a,o)::B,w (d+c)):=by
 have:=Z6f (B:=B) (Z6g h d hd)
 rw [show c - 0=c by omega] at this
 simpa using this
theorem Z6i {m:Zd} {sizes:List Int} {qa:List Atom} {xs ys:List Zc} {a o c b p d:Int} {x:Zc} {r:Int} (hx:Z6 m sizes qa xs a o c) (hy:Z6 m sizes qa ys b p d) (hk:3≤x.Kind) (hat:x.Atom=0) (hd:andI a b=0) (hsh:shr qa a b=true) (ho:Zdb qa x (a,o) (b,p)=some r) :
  Z6 m sizes qa (xs++ys++[x]) (orI a b) r (w (w (c+d)+Z9 (mOp m x.Kind) (szAt sizes a) (szAt sizes b) (szAt sizes (orI a b)))):=by
 unfold Z6 at *
 rw [Zqc,Zqc,hx]
 simp only
 rw [Z6.on hy _ _ (Z6.can hx)]
 simp only
 rw [runS]
 have hs:Zb4 m sizes qa x [(b,p),(a,o)]=some ([(orI a b,r)],Z9 (mOp m x.Kind) (szAt sizes a) (szAt sizes b) (szAt sizes (orI a b))):=by
  unfold Zb4
  rw [if_neg (by omega),if_neg (by simp [hat]),if_neg (by omega)]
  simp [hd,hsh,ho]
 rw [hs]
 rfl
theorem Zbk6 {m:Zd} {sizes:List Int} {qa:List Atom} {xs:List Zc} {a o c v:Int} (hx:Z6 m sizes qa xs a o c) (hv:vin qa a v=true) (ho:o≠v) :
  Z6 m sizes qa (sortS xs v) a v (w (c+Z9 m.Sort_ (szAt sizes a) 0 (szAt sizes a))):=by
 unfold Z6 at *
 rw [sortS,Zqc,hx]
 simp only
 rw [runS]
 have hs:Zb4 m sizes qa ⟨2,0,v⟩ [(a,o)]=some ([(a,v)],Z9 m.Sort_ (szAt sizes a) 0 (szAt sizes a)):=by
  unfold Zb4
  simp [hv,ho,mOp]
 rw [hs]
 rfl
theorem Zbk7 {m:Zd} {sizes:List Int} {qa:List Atom} {i:Nat} (h:i<qa.length) :
  Z6 m sizes qa [⟨1,i,0⟩] (shlI 1 i) (qa[i].Vars.headD 0) (w (Z9 m.Scan (szAt sizes (shlI 1 i)) 0 (szAt sizes (shlI 1 i)))):=by
 unfold Z6
 rw [runS]
 have hi:inR (i:Int) 0 (qa.length - 1)=true:=by simp [inR];omega
 have hs:Zb4 m sizes qa ⟨1,i,0⟩ []=some ([(shlI 1 i,qa[i].Vars.headD 0)],Z9 m.Scan (szAt sizes (shlI 1 i)) 0 (szAt sizes (shlI 1 i))):=by
  unfold Zb4
  simp [hi,mOp,List.getElem?_eq_getElem h]
 rw [hs]
 simp [runS]
theorem Z6.cost {m:Zd} {sizes:List Int} {n:Int} {qa:List Atom} {xs:List Zc} {a o c:Int} (h:Z6 m sizes qa xs a o c) (hv:Zn n qa=true) (hl:1≤xs.length∧xs.length≤14) (hs:Zbs n qa sizes=true):Zct m n qa xs sizes=c:=run_cost hv hl hs h
theorem hash_p {qa:List Atom} {y z:MO}:Zdb qa ⟨3,0,0⟩ y z=some (-1):=by simp [Zdb,Zbz]
theorem nest_p {qa:List Atom} {y z:MO}:Zdb qa ⟨5,0,0⟩ y z=some y.2:=by simp [Zdb,Zbz]
theorem Z6j {qa:List Atom} {y z:MO} {v:Int} (h1:vin qa y.1 v=true) (h2:vin qa z.1 v=true) (h3:y.2=v) (h4:z.2=v):Zdb qa ⟨4,0,v⟩ y z=some v:=by simp [Zdb,Zbz,h1,h2,h3,h4]
end Go.Proofs.YtbapkgocloaaeaaGreat
/- part: OF -/
namespace Go.Proofs.YtbapkgocloaaeaaGreat
open Go.AM
def Zb9 (b e:Za):Za:=if e.Cost<b.Cost then e else b
theorem l_bestOf (a b c:Int) (l:List Za) (hl:l.length≤1000):∀ i,i≤l.length→∀ best,Zgf a b c best l l.length i=some (.agg (((l.drop i).foldl Zb9 best).c.map .t),[]):=by
 refine down _ ?_ ?_
 ·intro best
  refine Z3n _ _ _ _ _ _ _ _ ?_
  rw [if_neg (by omega)];simp
 ·intro i hi ih best
  have h4:=inc64 (i:=i) (by omega)
  refine Z3n _ _ _ _ _ _ _ _ ?_
  rw [if_pos (by omega),List.drop_eq_getElem_cons hi,List.foldl_cons]
  refine ⟨by omega,l[i],by rw [Int.toNat_natCast];exact List.getElem?_eq_getElem hi,?_⟩
  rw [show w ((i:Int)+1)=((i+1:Nat):Int) from by rw [show w ((i:Int)+1)=(i:Int)+1 from h4];simp]
  by_cases e:l[i].Cost<best.Cost
  ·rw [if_pos e,show Zb9 best l[i]=l[i] by simp [Zb9,e]];exact ih _
  ·rw [if_neg e,show Zb9 best l[i]=best by simp [Zb9,e]];exact ih _
def Zz (l:List Za):Za:=match l with | []=>⟨0,0,0,⟨[]⟩⟩ | e::l=>(e::l).foldl Zb9 e
theorem Zqd (l:List Za) (h0:l≠[]) (hl:l.length≤1000):Zge l=some (.agg ((Zz l).c.map .t),[]):=by
 cases l with
 | nil=>exact absurd rfl h0
 | cons e l =>
  refine Zbgg _ _ ⟨e,rfl,?_⟩
  have:=l_bestOf 0 0 0 (e::l) hl 0 (Nat.zero_le _) e
  simpa [Zz] using this
def offE (e:Za) (mask a cost:Int) (x:List Zc):Za:=if e.Mask=0 then ⟨mask,a,cost,⟨x⟩⟩ else if cost<e.Cost then ⟨mask,a,cost,⟨x⟩⟩ else e
def sm (e:Za):Bool:=decide (e.Mask≠0)
theorem sm_off {e:Za} {mask a cost:Int} {x:List Zc} (h:mask≠0):sm (offE e mask a cost x)=true:=by
 unfold offE sm
 split
 ·simp [h]
 ·split
  ·simp [h]
  ·simp [*]
def offK (k:Int) (e:Za) (mask a cost:Int) (x:List Zc):Za:=if a+1=k then offE e mask a cost x else e
theorem Z6k (m:Zd) (hm:LeM m) (q:Zb) (hq:LeQ q) (sizes:List Int) (hs:Le sizes) (mask:Int) (h0:mask≠0) (a0 a1 a2 a3 a4:Za) (x:List Zc) (a:Int) (ha:-1≤a∧a≤3) (c:Int) (hc:Zct m q.Ze q.Atoms x sizes=c):∃ t,(t=.dead∨t=.arr 142 3 true (x.map Zc.c)) ∧
  Zbr m q sizes mask a0 a1 a2 a3 a4 (sm a0) (sm a1) (sm a2) (sm a3) (sm a4) x a=some (.tup [],[boxO m q sizes mask (offK 0 a0 mask a c x) (offK 1 a1 mask a c x) (offK 2 a2 mask a c x) (offK 3 a3 mask a c x) (offK 4 a4 mask a c x) (sm (offK 0 a0 mask a c x)) (sm (offK 1 a1 mask a c x)) (sm (offK 2 a2 mask a c x)) (sm (offK 3 a3 mask a c x)) (sm (offK 4 a4 mask a c x)),t]):=by
 have hcost:=Zvp m hm q hq ⟨x⟩ sizes hs
 rw [show Zct m q.Ze q.Atoms (Plan.mk x).Steps sizes=c from hc] at hcost
 have h5:a=-1∨a=0∨a=1∨a=2∨a=3:=by omega
 have key:∀ e:Za,(sm e=true∧c<e.Cost∧offE e mask a c x=⟨mask,a,c,⟨x⟩⟩)∨(sm e=true∧¬ c<e.Cost∧offE e mask a c x=e)∨(sm e=false∧offE e mask a c x=⟨mask,a,c,⟨x⟩⟩):=by
  intro e
  by_cases e0:e.Mask=0
  ·exact .inr (.inr ⟨by simp [sm,e0],by simp [offE,e0]⟩)
  ·by_cases e1:c<e.Cost
   ·exact .inl ⟨by simp [sm,e0],e1,by simp [offE,e0,e1]⟩
   ·exact .inr (.inl ⟨by simp [sm,e0],e1,by simp [offE,e0,e1]⟩)
 have hsm:sm ⟨mask,a,c,⟨x⟩⟩=true:=by simp [sm,h0]
 have w0:w 0=0:=by decide
 have w1:w 1=1:=by decide
 have w2:w 2=2:=by decide
 have w3:w 3=3:=by decide
 have w4:w 4=4:=by decide
 rcases h5 with rfl | rfl | rfl | rfl | rfl
 ·rcases key a0 with ⟨k1,k2,k3⟩ | ⟨k1,k2,k3⟩ | ⟨k1,k3⟩
  ·exact ⟨_,.inl rfl,Zcr _ _ _ _ _ _ _ _ _ _ _ _ _ _ _ _ _ ⟨c,hcost,by simp [offK,k1,k2,k3,hsm,w0,w1,w2,w3,w4]⟩⟩
  ·exact ⟨_,.inr rfl,Zcr _ _ _ _ _ _ _ _ _ _ _ _ _ _ _ _ _ ⟨c,hcost,by simp [offK,k1,k2,k3,hsm,w0,w1,w2,w3,w4]⟩⟩
  ·exact ⟨_,.inl rfl,Zcr _ _ _ _ _ _ _ _ _ _ _ _ _ _ _ _ _ ⟨c,hcost,by simp [offK,k1,k3,hsm,w0,w1,w2,w3,w4]⟩⟩
 ·rcases key a1 with ⟨k1,k2,k3⟩ | ⟨k1,k2,k3⟩ | ⟨k1,k3⟩
  ·exact ⟨_,.inl rfl,Zcr _ _ _ _ _ _ _ _ _ _ _ _ _ _ _ _ _ ⟨c,hcost,by simp [offK,k1,k2,k3,hsm,w0,w1,w2,w3,w4]⟩⟩
  ·exact ⟨_,.inr rfl,Zcr _ _ _ _ _ _ _ _ _ _ _ _ _ _ _ _ _ ⟨c,hcost,by simp [offK,k1,k2,k3,hsm,w0,w1,w2,w3,w4]⟩⟩
  ·exact ⟨_,.inl rfl,Zcr _ _ _ _ _ _ _ _ _ _ _ _ _ _ _ _ _ ⟨c,hcost,by simp [offK,k1,k3,hsm,w0,w1,w2,w3,w4]⟩⟩
 ·rcases key a2 with ⟨k1,k2,k3⟩ | ⟨k1,k2,k3⟩ | ⟨k1,k3⟩
  ·exact ⟨_,.inl rfl,Zcr _ _ _ _ _ _ _ _ _ _ _ _ _ _ _ _ _ ⟨c,hcost,by simp [offK,k1,k2,k3,hsm,w0,w1,w2,w3,w4]⟩⟩
  ·exact ⟨_,.inr rfl,Zcr _ _ _ _ _ _ _ _ _ _ _ _ _ _ _ _ _ ⟨c,hcost,by simp [offK,k1,k2,k3,hsm,w0,w1,w2,w3,w4]⟩⟩
  ·exact ⟨_,.inl rfl,Zcr _ _ _ _ _ _ _ _ _ _ _ _ _ _ _ _ _ ⟨c,hcost,by simp [offK,k1,k3,hsm,w0,w1,w2,w3,w4]⟩⟩
 ·rcases key a3 with ⟨k1,k2,k3⟩ | ⟨k1,k2,k3⟩ | ⟨k1,k3⟩
  ·exact ⟨_,.inl rfl,Zcr _ _ _ _ _ _ _ _ _ _ _ _ _ _ _ _ _ ⟨c,hcost,by simp [offK,k1,k2,k3,hsm,w0,w1,w2,w3,w4]⟩⟩
  ·exact ⟨_,.inr rfl,Zcr _ _ _ _ _ _ _ _ _ _ _ _ _ _ _ _ _ ⟨c,hcost,by simp [offK,k1,k2,k3,hsm,w0,w1,w2,w3,w4]⟩⟩
  ·exact ⟨_,.inl rfl,Zcr _ _ _ _ _ _ _ _ _ _ _ _ _ _ _ _ _ ⟨c,hcost,by simp [offK,k1,k3,hsm,w0,w1,w2,w3,w4]⟩⟩
 ·rcases key a4 with ⟨k1,k2,k3⟩ | ⟨k1,k2,k3⟩ | ⟨k1,k3⟩
  ·exact ⟨_,.inl rfl,Zcr _ _ _ _ _ _ _ _ _ _ _ _ _ _ _ _ _ ⟨c,hcost,by simp [offK,k1,k2,k3,hsm,w0,w1,w2,w3,w4]⟩⟩
  ·exact ⟨_,.inr rfl,Zcr _ _ _ _ _ _ _ _ _ _ _ _ _ _ _ _ _ ⟨c,hcost,by simp [offK,k1,k2,k3,hsm,w0,w1,w2,w3,w4]⟩⟩
  ·exact ⟨_,.inl rfl,Zcr _ _ _ _ _ _ _ _ _ _ _ _ _ _ _ _ _ ⟨c,hcost,by simp [offK,k1,k3,hsm,w0,w1,w2,w3,w4]⟩⟩
end Go.Proofs.YtbapkgocloaaeaaGreat
/- part: OE -/
namespace Go.Proofs.YtbapkgocloaaeaaGreat
open Go.AM
def sel (y:Bool) (e:Za):List Za:=if y=true then [e] else []
section
variable (m:Zd) (q:Zb) (sizes:List Int) (mask:Int) (a0 a1 a2 a3 a4:Za) (s0 s1 s2 s3 s4:Bool)
theorem en5 (fr:Bool) (out:List Za) (y0 y1 y2 y3 y4:Bool):∃ fr',Zbb m q sizes mask a0 a1 a2 a3 a4 s0 s1 s2 s3 s4 fr out y0 y1 y2 y3 y4 5=some (.own 1,[boxO m q sizes mask a0 a1 a2 a3 a4 s0 s1 s2 s3 s4,.arr 174 4 fr' (out.map Za.c)]) :=
 ⟨fr,Zd7 _ _ _ _ _ _ _ _ _ _ _ _ _ _ _ _ _ _ _ _ _ _ _ (by rw [if_neg (by omega)])⟩
theorem en4 (fr:Bool) (out:List Za) (hl:out.length≤4) (y0 y1 y2 y3 y4:Bool):∃ fr',Zbb m q sizes mask a0 a1 a2 a3 a4 s0 s1 s2 s3 s4 fr out y0 y1 y2 y3 y4 4=some (.own 1,[boxO m q sizes mask a0 a1 a2 a3 a4 s0 s1 s2 s3 s4,.arr 174 4 fr' ((out++sel y4 a4).map Za.c)]):=by
 have hw:w (4+1)=5:=by decide
 cases hy:y4 with
 | true =>
  obtain ⟨fr',h⟩:=en5 m q sizes mask a0 a1 a2 a3 a4 s0 s1 s2 s3 s4 false (out++[a4]) y0 y1 y2 y3 true
  refine ⟨fr',Zd7 _ _ _ _ _ _ _ _ _ _ _ _ _ _ _ _ _ _ _ _ _ _ _ ?_⟩
  rw [if_pos (by omega),if_neg (by omega),if_neg (by omega),if_neg (by omega),if_neg (by omega),if_pos rfl,if_pos rfl,hw]
  exact ⟨by omega,by simpa [sel] using h⟩
 | false =>
  obtain ⟨fr',h⟩:=en5 m q sizes mask a0 a1 a2 a3 a4 s0 s1 s2 s3 s4 fr out y0 y1 y2 y3 false
  refine ⟨fr',Zd7 _ _ _ _ _ _ _ _ _ _ _ _ _ _ _ _ _ _ _ _ _ _ _ ?_⟩
  rw [if_pos (by omega),if_neg (by omega),if_neg (by omega),if_neg (by omega),if_neg (by omega),if_pos rfl,if_neg (by simp),hw]
  simpa [sel] using h
theorem en3 (fr:Bool) (out:List Za) (hl:out.length≤3) (y0 y1 y2 y3 y4:Bool):∃ fr',Zbb m q sizes mask a0 a1 a2 a3 a4 s0 s1 s2 s3 s4 fr out y0 y1 y2 y3 y4 3=some (.own 1,[boxO m q sizes mask a0 a1 a2 a3 a4 s0 s1 s2 s3 s4,.arr 174 4 fr' ((out++sel y3 a3++sel y4 a4).map Za.c)]):=by
 have hw:w (3+1)=4:=by decide
 cases hy:y3 with
 | true =>
  obtain ⟨fr',h⟩:=en4 m q sizes mask a0 a1 a2 a3 a4 s0 s1 s2 s3 s4 false (out++[a3]) (by simp only [List.length_append,List.length_cons,List.length_nil];omega) y0 y1 y2 true y4
  refine ⟨fr',Zd7 _ _ _ _ _ _ _ _ _ _ _ _ _ _ _ _ _ _ _ _ _ _ _ ?_⟩
  rw [if_pos (by omega),if_neg (by omega),if_neg (by omega),if_neg (by omega),if_pos rfl,if_pos rfl,hw]
  exact ⟨by omega,by simpa [sel] using h⟩
 | false =>
  obtain ⟨fr',h⟩:=en4 m q sizes mask a0 a1 a2 a3 a4 s0 s1 s2 s3 s4 fr out (by omega) y0 y1 y2 false y4
  refine ⟨fr',Zd7 _ _ _ _ _ _ _ _ _ _ _ _ _ _ _ _ _ _ _ _ _ _ _ ?_⟩
  rw [if_pos (by omega),if_neg (by omega),if_neg (by omega),if_neg (by omega),if_pos rfl,if_neg (by simp),hw]
  simpa [sel] using h
theorem en2 (fr:Bool) (out:List Za) (hl:out.length≤2) (y0 y1 y2 y3 y4:Bool):∃ fr',Zbb m q sizes mask a0 a1 a2 a3 a4 s0 s1 s2 s3 s4 fr out y0 y1 y2 y3 y4 2=some (.own 1,[boxO m q sizes mask a0 a1 a2 a3 a4 s0 s1 s2 s3 s4,.arr 174 4 fr' ((out++sel y2 a2++sel y3 a3++sel y4 a4).map Za.c)]):=by
 have hw:w (2+1)=3:=by decide
 cases hy:y2 with
 | true =>
  obtain ⟨fr',h⟩:=en3 m q sizes mask a0 a1 a2 a3 a4 s0 s1 s2 s3 s4 false (out++[a2]) (by simp only [List.length_append,List.length_cons,List.length_nil];omega) y0 y1 true y3 y4
  refine ⟨fr',Zd7 _ _ _ _ _ _ _ _ _ _ _ _ _ _ _ _ _ _ _ _ _ _ _ ?_⟩
  rw [if_pos (by omega),if_neg (by omega),if_neg (by omega),if_pos rfl,if_pos rfl,hw]
  exact ⟨by omega,by simpa [sel] using h⟩
 | false =>
  obtain ⟨fr',h⟩:=en3 m q sizes mask a0 a1 a2 a3 a4 s0 s1 s2 s3 s4 fr out (by omega) y0 y1 false y3 y4
  refine ⟨fr',Zd7 _ _ _ _ _ _ _ _ _ _ _ _ _ _ _ _ _ _ _ _ _ _ _ ?_⟩
  rw [if_pos (by omega),if_neg (by omega),if_neg (by omega),if_pos rfl,if_neg (by simp),hw]
  simpa [sel] using h
theorem en1 (fr:Bool) (out:List Za) (hl:out.length≤1) (y0 y1 y2 y3 y4:Bool):∃ fr',Zbb m q sizes mask a0 a1 a2 a3 a4 s0 s1 s2 s3 s4 fr out y0 y1 y2 y3 y4 1=some (.own 1,[boxO m q sizes mask a0 a1 a2 a3 a4 s0 s1 s2 s3 s4,.arr 174 4 fr' ((out++sel y1 a1++sel y2 a2++sel y3 a3++sel y4 a4).map Za.c)]):=by
 have hw:w (1+1)=2:=by decide
 cases hy:y1 with
 | true =>
  obtain ⟨fr',h⟩:=en2 m q sizes mask a0 a1 a2 a3 a4 s0 s1 s2 s3 s4 false (out++[a1]) (by simp only [List.length_append,List.length_cons,List.length_nil];omega) y0 true y2 y3 y4
  refine ⟨fr',Zd7 _ _ _ _ _ _ _ _ _ _ _ _ _ _ _ _ _ _ _ _ _ _ _ ?_⟩
  rw [if_pos (by omega),if_neg (by omega),if_pos rfl,if_pos rfl,hw]
  exact ⟨by omega,by simpa [sel] using h⟩
 | false =>
  obtain ⟨fr',h⟩:=en2 m q sizes mask a0 a1 a2 a3 a4 s0 s1 s2 s3 s4 fr out (by omega) y0 false y2 y3 y4
  refine ⟨fr',Zd7 _ _ _ _ _ _ _ _ _ _ _ _ _ _ _ _ _ _ _ _ _ _ _ ?_⟩
  rw [if_pos (by omega),if_neg (by omega),if_pos rfl,if_neg (by simp),hw]
  simpa [sel] using h
theorem en0 (fr:Bool) (out:List Za) (hl:out.length≤0) (y0 y1 y2 y3 y4:Bool):∃ fr',Zbb m q sizes mask a0 a1 a2 a3 a4 s0 s1 s2 s3 s4 fr out y0 y1 y2 y3 y4 0=some (.own 1,[boxO m q sizes mask a0 a1 a2 a3 a4 s0 s1 s2 s3 s4,.arr 174 4 fr' ((out++sel y0 a0++sel y1 a1++sel y2 a2++sel y3 a3++sel y4 a4).map Za.c)]):=by
 have hw:w (0+1)=1:=by decide
 cases hy:y0 with
 | true =>
  obtain ⟨fr',h⟩:=en1 m q sizes mask a0 a1 a2 a3 a4 s0 s1 s2 s3 s4 false (out++[a0]) (by simp only [List.length_append,List.length_cons,List.length_nil];omega) true y1 y2 y3 y4
  refine ⟨fr',Zd7 _ _ _ _ _ _ _ _ _ _ _ _ _ _ _ _ _ _ _ _ _ _ _ ?_⟩
  rw [if_pos (by omega),if_pos rfl,if_pos rfl,hw]
  exact ⟨by omega,by simpa [sel] using h⟩
 | false =>
  obtain ⟨fr',h⟩:=en1 m q sizes mask a0 a1 a2 a3 a4 s0 s1 s2 s3 s4 fr out (by omega) false y1 y2 y3 y4
  refine ⟨fr',Zd7 _ _ _ _ _ _ _ _ _ _ _ _ _ _ _ _ _ _ _ _ _ _ _ ?_⟩
  rw [if_pos (by omega),if_pos rfl,if_neg (by simp),hw]
  simpa [sel] using h
end
def there (a0 a1 a2 a3 a4:Za):List Za:=[a0,a1,a2,a3,a4].filter sm
theorem Zbk8 (m:Zd) (q:Zb) (sizes:List Int) (mask:Int) (a0 a1 a2 a3 a4:Za):∃ fr,Zln m q sizes mask a0 a1 a2 a3 a4 (sm a0) (sm a1) (sm a2) (sm a3) (sm a4)=some (.own 1,[boxO m q sizes mask a0 a1 a2 a3 a4 (sm a0) (sm a1) (sm a2) (sm a3) (sm a4),.arr 174 4 fr ((there a0 a1 a2 a3 a4).map Za.c)]):=by
 obtain ⟨fr,h⟩:=en0 m q sizes mask a0 a1 a2 a3 a4 (sm a0) (sm a1) (sm a2) (sm a3) (sm a4) true [] (Nat.le_refl _) (sm a0) (sm a1) (sm a2) (sm a3) (sm a4)
 refine ⟨fr,Zbgi _ _ _ _ _ _ _ _ _ _ _ _ _ _ _ ?_⟩
 have e:[]++sel (sm a0) a0++sel (sm a1) a1++sel (sm a2) a2++sel (sm a3) a3++sel (sm a4) a4=there a0 a1 a2 a3 a4:=by
  unfold there sel
  simp only [List.filter_cons,List.filter_nil]
  cases sm a0 <;> cases sm a1 <;> cases sm a2 <;> cases sm a3 <;> cases sm a4 <;> rfl
 rw [e] at h
 exact h
end Go.Proofs.YtbapkgocloaaeaaGreat
/- part: TC -/
namespace Go.Proofs.YtbapkgocloaaeaaGreat
open Go.AM
def ofM (l:List Za) (mask:Int):List Za:=l.filter fun e=>decide (e.Mask=mask)
theorem Zbk9 (e:Za):Zz [e]=e:=by simp [Zz,Zb9]
theorem Zbla {l:List Za} (h:l≠[]) (e:Za):Zz (l++[e])=Zb9 (Zz l) e:=by
 cases l with
 | nil=>exact absurd rfl h
 | cons a l=>simp [Zz,List.foldl_append]
theorem Zvs {l:List Za} (h:l≠[]):Zz l∈l:=by
 have:∀ (l:List Za) (b:Za),l.foldl Zb9 b=b∨l.foldl Zb9 b∈l:=by
  intro l
  induction l with
  | nil=>intro b;exact .inl rfl
  | cons a l ih =>
   intro b
   rw [List.foldl_cons]
   rcases ih (Zb9 b a) with h | h
   ·rw [h]
    unfold Zb9
    split
    ·exact .inr (by simp)
    ·exact .inl rfl
   ·exact .inr (List.mem_cons_of_mem _ h)
 cases l with
 | nil=>exact absurd rfl h
 | cons a l =>
  rcases this (a::l) a with e | e
  ·rw [show Zz (a::l)=a from e];simp
  ·exact e
theorem Z6l (l:List Za) (mask:Int) {k:Nat} (h:k<l.length):ofM (l.take (k+1)) mask=ofM (l.take k) mask++(if l[k].Mask=mask then [l[k]] else []):=by
 unfold ofM
 rw [Zq8 _ h]
 by_cases e:l[k].Mask=mask <;> simp [e]
theorem low_at (l:List Za) (mask:Int):∀ k,k≤l.length→(ofM (l.take k) mask=[]→Zbu l mask k=-1)∧(ofM (l.take k) mask≠[]→0≤Zbu l mask k∧l[(Zbu l mask k).toNat]?=some (Zz (ofM (l.take k) mask)))
 | 0,_=>by simp [Zbu,ofM]
 | k+1,h=>by
  obtain ⟨i1,i2⟩:=low_at l mask k (by omega)
  have hk:k<l.length:=by omega
  rw [Z6l l mask hk]
  unfold Zbu
  rw [List.getElem?_eq_getElem hk]
  by_cases e:l[k].Mask=mask
  ·simp only [if_pos e]
   refine ⟨fun h=>by simp at h,fun _=>?_⟩
   by_cases e0:ofM (l.take k) mask=[]
   ·have i:=i1 e0
    rw [e0,List.nil_append,Zbk9]
    cases hc:l[(Zbu l mask k).toNat]? with
    | none=>exact ⟨by simp,by simp [List.getElem?_eq_getElem hk]⟩
    | some b =>
     simp only
     rw [if_pos (by omega)]
     exact ⟨by omega,by simp [List.getElem?_eq_getElem hk]⟩
   ·obtain ⟨j1,j2⟩:=i2 e0
    rw [j2,Zbla e0]
    simp only
    rw [if_neg (by omega)]
    unfold Zb9
    split
    ·exact ⟨by omega,by simp [List.getElem?_eq_getElem hk]⟩
    ·exact ⟨j1,j2⟩
  ·simp only [if_neg e,List.append_nil]
   exact ⟨i1,i2⟩
theorem Zqe {l:List Za} {mask:Int} (h:ofM l mask≠[]):0≤low l mask∧l[(low l mask).toNat]?=some (Zz (ofM l mask)):=by
 have:=(low_at l mask l.length (Nat.le_refl _)).2
 rw [List.take_length] at this
 exact this h
def ofO (l:List Za) (o:Int):Option Za:=l.find? fun e=>decide (e.Order=o)
theorem Z6m (l:List Za) (mask o:Int):∀ (xs:List Za) (k:Nat),l.drop k=xs→match ofO (ofM xs mask) o with
  | none=>Zet mask o xs k=-1
  | some e=>0≤Zet mask o xs k∧l[(Zet mask o xs k).toNat]?=some e
 | [],k,h=>by simp [ofM,ofO,Zet]
 | x::xs,k,h=>by
  have hk:l[k]?=some x:=by
   have:=congrArg (·[0]?) h
   simpa using this
  have hd:l.drop (k+1)=xs:=by
   have:=congrArg (List.drop 1) h
   simpa [Nat.add_comm] using this
  have ih:=Z6m l mask o xs (k+1) hd
  unfold Zet
  by_cases e:x.Mask=mask
  ·have e1:ofM (x::xs) mask=x::ofM xs mask:=by simp [ofM,e]
   rw [e1]
   by_cases e2:x.Order=o
   ·have:ofO (x::ofM xs mask) o=some x:=by simp [ofO,e2]
    rw [this,if_pos ⟨e,e2⟩]
    exact ⟨by omega,by simpa using hk⟩
   ·have:ofO (x::ofM xs mask) o=ofO (ofM xs mask) o:=by simp [ofO,e2]
    rw [this,if_neg (fun h=>e2 h.2)]
    exact ih
  ·have e1:ofM (x::xs) mask=ofM xs mask:=by simp [ofM,e]
   rw [e1,if_neg (fun h=>e h.1)]
   exact ih
theorem Z6n (l:List Za) (mask o:Int):match ofO (ofM l mask) o with
  | none=>find l mask o=-1
  | some e=>0≤find l mask o∧l[(find l mask o).toNat]?=some e:=Z6m l mask o l 0 rfl
end Go.Proofs.YtbapkgocloaaeaaGreat
/- part: CB -/
namespace Go.Proofs.YtbapkgocloaaeaaGreat
open Go.AM
theorem mul_b {a l:Int} {A L:Nat} (h1:-(A:Int)≤a) (h2:a≤A) (h3:0≤l) (h4:l≤L):-((A:Int)*L)≤a*l∧a*l≤(A:Int)*L:=by
 have e1:a*l≤(A:Int)*l:=Int.mul_le_mul_of_nonneg_right h2 h3
 have e2:-(A:Int)*l≤a*l:=Int.mul_le_mul_of_nonneg_right h1 h3
 have e3:(A:Int)*l≤(A:Int)*L:=Int.mul_le_mul_of_nonneg_left h4 (by omega)
 rw [Int.neg_mul] at e2
 omega
theorem Znw {a:Int} (h:Zci a=true):-99≤a∧a≤99:=by simp [Zci,inR] at h;omega
theorem w_id {x:Int} (h1:-9223372036854775808≤x) (h2:x≤9223372036854775807):w x=x:=wrap64 h1 h2
theorem base_b {o:Zi} {l r n:Int} (hv:Zbc o=true) (hl:0≤l∧l≤4096) (hr:0≤r∧r≤4096) (hn:0≤n∧n≤4096):-1700000000≤Zfu o l r n∧Zfu o l r n≤1700000000:=by
 simp only [Zbc,Bool.and_eq_true] at hv
 obtain ⟨⟨⟨⟨⟨⟨v1,v2⟩,v3⟩,v4⟩,v5⟩,v6⟩,v7⟩:=hv
 have b1:=Znw v1
 have b2:=Znw v2
 have b3:=Znw v3
 have b4:=Znw v4
 have b5:=Znw v5
 have m2:=mul_b (A:=99) (L:=4096) b2.1 b2.2 hl.1 hl.2
 have m3:=mul_b (A:=99) (L:=4096) b3.1 b3.2 hr.1 hr.2
 have m4:=mul_b (A:=99) (L:=4096) b4.1 b4.2 hn.1 hn.2
 have m5:=mul_b (A:=99) (L:=4096) b5.1 b5.2 hl.1 hl.2
 have m6:=mul_b (A:=405504) (L:=4096) (a:=o.Zl*l) (l:=r) (by simpa using m5.1) (by simpa using m5.2) hr.1 hr.2
 simp at m2 m3 m4 m5 m6
 unfold Zfu
 rw [w_id (x:=o.Zj*l) (by omega) (by omega),w_id (x:=o.Zk*r) (by omega) (by omega),w_id (x:=o.Zm*n) (by omega) (by omega),w_id (x:=o.Zl*l) (by omega) (by omega),w_id (x:=o.Zl*l*r) (by omega) (by omega)]
 rw [w_id (x:=o.Fixed+o.Zj*l) (by omega) (by omega),w_id (x:=o.Fixed+o.Zj*l+o.Zk*r) (by omega) (by omega),w_id (x:=o.Fixed+o.Zj*l+o.Zk*r+o.Zm*n) (by omega) (by omega),w_id (by omega) (by omega)]
 omega
theorem Z6o {l r:Int}:∀ {st:List Zg} {p n B:Int},Zdk p st=true→B+99*st.length≤1000000000000→-B≤n∧n≤B→-(B+99*st.length)≤st.foldl (Zdl l r) n∧st.foldl (Zdl l r) n≤B+99*st.length
 | [],p,n,B,_,_,h=>by simp;omega
 | s::st,p,n,B,hs,hB,h=>by
  simp only [Zdk,Bool.and_eq_true] at hs
  have ha:=hs.1.1.2
  simp [inR] at ha
  simp only [List.length_cons] at hB ⊢
  have e:-(B+99)≤Zdl l r n s∧Zdl l r n s≤B+99:=by
   unfold Zdl
   split
   ·rw [w_id (by omega) (by omega)];omega
   ·omega
  have g:=Z6o (l:=l) (r:=r) hs.2 (by omega) e
  rw [List.foldl_cons]
  omega
theorem Zkn (o:Zi) (l r n:Int):-2000000000≤Z9 o l r n∧Z9 o l r n≤2000000000:=by
 unfold Z9
 split
 ·rename_i h
  simp only [Bool.and_eq_true] at h
  obtain ⟨⟨⟨hv,hl⟩,hr⟩,hn⟩:=h
  simp [inR] at hl hr hn
  have b:=base_b hv hl hr hn
  simp only [Zbc,Bool.and_eq_true,decide_eq_true_eq] at hv
  have:=Z6o (l:=l) (r:=r) (B:=1700000000) hv.2 (by have:=hv.1.2;omega) b
  have:=hv.1.2
  unfold Zke
  omega
 ·omega
theorem cost_pos {o:Zi} (h:Zbd o) {a b c:Int} (ha:0≤a∧a≤7) (hb:0≤b∧b≤7) (hc:0≤c∧c≤7):1≤Z9 o (Zbo a) (Zbo b) (Zbo c):=by
 have h3:¬ tcl o [a,b,c]<1:=fun hh=>h.2.2 ⟨[a,b,c],⟨a,b,c,rfl,ha,hb,hc⟩,hh⟩
 simp [Z9,h.1,Zkf ha.1 ha.2,Zkf hb.1 hb.2,Zkf hc.1 hc.2]
 simp [tcl] at h3
 omega
def Zc3 (sizes:List Int):Prop:=∀ s∈sizes,∃ a,(0≤a∧a≤7)∧s=Zbo a
theorem Z6p {sizes:List Int} (h:Zc3 sizes) (k:Int):∃ a,(0≤a∧a≤7)∧szAt sizes k=Zbo a:=by
 unfold szAt
 cases e:sizes[k.toNat]? with
 | none=>exact ⟨0,by omega,by decide⟩
 | some s=>exact h s (List.mem_of_getElem? e)
theorem Z6q {o:Zi} (h:Zbd o) {sizes:List Int} (hs:Zc3 sizes) (a b:Int):1≤Z9 o (szAt sizes a) 0 (szAt sizes b):=by
 obtain ⟨x,hx,ex⟩:=Z6p hs a
 obtain ⟨y,hy,ey⟩:=Z6p hs b
 rw [ex,ey,show (0:Int)=Zbo 0 by decide]
 exact cost_pos h hx (by omega) hy
theorem Zblb {l:List Int} (h:Zba l=true):Zc3 (Zbn l):=by
 intro s hs
 simp only [Zbn,List.mem_map] at hs
 obtain ⟨a,ha,rfl⟩:=hs
 refine ⟨a,?_,rfl⟩
 simp only [Zba,Bool.and_eq_true,Zbp,List.all_eq_true] at h
 have:=h.1 a ha
 simp [inR] at this
 omega
theorem runS_b {m:Zd} {sizes:List Int} {qa:List Atom}:∀ {xs:List Zc} {S S':List MO} {c k B:Int},runS m sizes qa xs S c=some (S',k)→-B≤c∧c≤B→B+2000000000*xs.length≤1000000000000→-(B+2000000000*xs.length)≤k∧k≤B+2000000000*xs.length
 | [],S,S',c,k,B,h,hc,hB=>by simp [runS] at h;simp;omega
 | x::xs,S,S',c,k,B,h,hc,hB=>by
  rw [runS] at h
  simp only [List.length_cons] at hB ⊢
  cases hs:Zb4 m sizes qa x S with
  | none=>rw [hs] at h;cases h
  | some p =>
   obtain ⟨S1,e⟩:=p
   rw [hs] at h
   have he:-2000000000≤e∧e≤2000000000:=by
    unfold Zb4 at hs
    split at hs
    ·split at hs
     ·cases hs;exact Zkn _ _ _ _
     ·cases hs
    ·split at hs
     ·cases hs
     ·split at hs
      ·split at hs
       ·split at hs
        ·cases hs;exact Zkn _ _ _ _
        ·cases hs
       ·cases hs
      ·split at hs
       ·split at hs
        ·rw [Option.map_eq_some_iff] at hs
         obtain ⟨o,_,ho⟩:=hs
         cases ho
         exact Zkn _ _ _ _
        ·cases hs
       ·cases hs
   have:=runS_b (B:=B+2000000000) h (by rw [w_id (by omega) (by omega)];omega) (by omega)
   omega
theorem Z6.bound {m:Zd} {sizes:List Int} {qa:List Atom} {xs:List Zc} {a o c:Int} (h:Z6 m sizes qa xs a o c) (hl:xs.length≤100):-200000000000≤c∧c≤200000000000:=by
 have:=runS_b (B:=0) h (by omega) (by omega)
 omega
end Go.Proofs.YtbapkgocloaaeaaGreat
/- part: IN -/
namespace Go.Proofs.YtbapkgocloaaeaaGreat
open Go.AM
structure Held (m:Zd) (sizes:List Int) (qa:List Atom) (M:Int) (E:List Za):Prop where
 ne:E≠[]
 up:E.Pairwise fun a b=>a.Order<b.Order
 mask:∀ e∈E,e.Mask=M
 ord:∀ e∈E,-1≤e.Order∧e.Order≤3
 makes:∀ e∈E,Z6 m sizes qa e.Plan.Steps M e.Order e.Cost
 len:∀ e∈E,1≤e.Plan.Steps.length∧e.Plan.Steps.length+3≤4*popc M
theorem up_len:∀ {E:List Za} {lo:Int},E.Pairwise (fun a b=>a.Order<b.Order)→(∀ e∈E,lo≤e.Order∧e.Order≤3)→lo≤4→(E.length:Int)≤4 - lo
 | [],lo,_,_,h=>by simp;omega
 | e::E,lo,hp,ho,h=>by
  rw [List.pairwise_cons] at hp
  have he:=ho e (by simp)
  have:=up_len (lo:=e.Order+1) hp.2 (fun x hx=>⟨by have:=hp.1 x hx;omega,(ho x (by simp [hx])).2⟩) (by omega)
  simp only [List.length_cons]
  omega
theorem Held.le {m:Zd} {sizes:List Int} {qa:List Atom} {M:Int} {E:List Za} (h:Held m sizes qa M E):E.length≤5:=by
 have:=up_len (lo:=-1) h.up h.ord (by omega)
 omega
theorem Zqf:∀ {E:List Za} {e:Za},E.Pairwise (fun a b=>a.Order<b.Order)→e∈E→ofO E e.Order=some e
 | a::E,e,hp,he=>by
  rw [List.pairwise_cons] at hp
  rcases List.mem_cons.1 he with rfl | he
  ·simp [ofO]
  ·have:¬ a.Order=e.Order:=by have:=hp.1 e he;omega
   have ih:=Zqf hp.2 he
   unfold ofO at ih ⊢
   rw [List.find?_cons]
   simp [this,ih]
theorem Z6r {c v:Int}:∀ {E:List Za},E.Pairwise (fun a b=>a.Order<b.Order)→E.find? (fun e=>decide (e.Order=v) && decide (e.Cost≤c))=match ofO E v with
  | some e=>if e.Cost≤c then some e else none
  | none=>none
 | [],_=>by simp [ofO]
 | a::E,hp=>by
  rw [List.pairwise_cons] at hp
  have ih:=Z6r (c:=c) (v:=v) hp.2
  unfold ofO at ih ⊢
  rw [List.find?_cons,List.find?_cons]
  by_cases e:a.Order=v
  ·by_cases e2:a.Cost≤c
   ·simp [e,e2]
   ·have hn:E.find? (fun e=>decide (e.Order=v) && decide (e.Cost≤c))=none:=by
     rw [List.find?_eq_none]
     intro x hx
     have:=hp.1 x hx
     simp
     omega
    simp [e,e2]
    intro x hx hxv
    have:=hp.1 x hx
    omega
  ·simp only [e,decide_false,Bool.false_and]
   exact ih
def srt (m:Zd) (sizes:List Int) (M:Int) (E:List Za) (v:Int):Za:=⟨M,v,w ((Zz E).Cost+Z9 m.Sort_ (szAt sizes M) 0 (szAt sizes M)),⟨sortS (Zz E).Plan.Steps v⟩⟩
def inp (m:Zd) (sizes:List Int) (M:Int) (E:List Za) (v:Int):Za:=match ofO E v with
 | some e=>if e.Cost≤(srt m sizes M E v).Cost then e else srt m sizes M E v
 | none=>srt m sizes M E v
def resI (x:List Zc):Option Za→AV×List Blk
 | some e=>(.agg (e.Plan.c.map .t),[])
 | none=>(.agg [.own 0],[.arr 142 3 true (x.map Zc.c)])
theorem Zblc (m:Zd) (hm:LeM m) (q:Zb) (hq:LeQ q) (sizes:List Int) (hs:Le sizes) (x:List Zc) (c:Int) (hc:Zct m q.Ze q.Atoms x sizes=c) (v:Int) (E:List Za) (hl:E.length≤5):∀ i,i≤E.length→Zgg m q x sizes v E E.length i=some (resI x ((E.drop i).find? (fun e=>decide (e.Order=v) && decide (e.Cost≤c)))):=by
 have hcost:=Zvp m hm q hq ⟨x⟩ sizes hs
 rw [show Zct m q.Ze q.Atoms (Plan.mk x).Steps sizes=c from hc] at hcost
 refine down _ ?_ ?_
 ·simp only [List.drop_length,List.find?_nil]
  refine Zpu _ _ _ _ _ _ _ _ _ ?_
  rw [if_neg (by omega)];rfl
 ·intro i hi ih
  have h4:=inc64 (i:=i) (by omega)
  rw [List.drop_eq_getElem_cons hi,List.find?_cons]
  have hw:w ((i:Int)+1)=((i+1:Nat):Int):=by rw [show w ((i:Int)+1)=(i:Int)+1 from h4];simp
  by_cases e:E[i].Order=v
  ·by_cases e2:E[i].Cost≤c
   ·simp only [e,e2,decide_true,Bool.and_self]
    refine Zpu _ _ _ _ _ _ _ _ _ ?_
    rw [if_pos (by omega)]
    refine ⟨by omega,E[i],by rw [Int.toNat_natCast];exact List.getElem?_eq_getElem hi,?_⟩
    rw [if_pos e]
    exact ⟨c,hcost,by rw [if_pos e2];rfl⟩
   ·simp only [e,e2,decide_true,decide_false,Bool.and_false]
    refine Zpu _ _ _ _ _ _ _ _ _ ?_
    rw [if_pos (by omega)]
    refine ⟨by omega,E[i],by rw [Int.toNat_natCast];exact List.getElem?_eq_getElem hi,?_⟩
    rw [if_pos e]
    exact ⟨c,hcost,by rw [if_neg e2,hw];exact ih⟩
  ·simp only [e,decide_false,Bool.false_and]
   refine Zpu _ _ _ _ _ _ _ _ _ ?_
   rw [if_pos (by omega)]
   refine ⟨by omega,E[i],by rw [Int.toNat_natCast];exact List.getElem?_eq_getElem hi,?_⟩
   rw [if_neg e,hw]
   exact ih
theorem Held.best {m:Zd} {sizes:List Int} {qa:List Atom} {M:Int} {E:List Za} (h:Held m sizes qa M E):Zz E∈E:=Zvs h.ne
theorem Zcu {M:Int} (h:M16 M):popc M≤4:=by
 obtain ⟨a,rfl⟩:=m16 h
 exact (f_pop a).2.2.2
theorem Held.srt_makes {m:Zd} {sizes:List Int} {qa:List Atom} {M:Int} {E:List Za} (h:Held m sizes qa M E) {v:Int} (hv:vin qa M v=true) (hb:(Zz E).Order≠v):Z6 m sizes qa (srt m sizes M E v).Plan.Steps M v (srt m sizes M E v).Cost:=Zbk6 (h.makes _ h.best) hv hb
theorem Zvt (m:Zd) (hm:LeM m) (hg:Zbd m.Sort_) (q:Zb) (hq:LeQ q) (hv:Zn q.Ze q.Atoms=true) (sizes:List Int) (hs:Le sizes) (hcl:Zc3 sizes) (hsv:Zbs q.Ze q.Atoms sizes=true) {M:Int} (hM:M16 M) {E:List Za} (h:Held m sizes q.Atoms M E) {v:Int} (hvn:vin q.Atoms M v=true) :
  Zdi m q sizes E v=some (.agg ((inp m sizes M E v).Plan.c.map .t),[])∨Zdi m q sizes E v=some (.agg [.own 0],[.arr 142 3 true ((inp m sizes M E v).Plan.Steps.map Zc.c)]):=by
 have h4:=Zcu hM
 have hlen:=h.len _ h.best
 by_cases e:(Zz E).Order=v
 ·left
  have ho:=Zqf h.up h.best
  rw [e] at ho
  have hb:=(h.makes _ h.best).bound (by omega)
  have hp:=Z6q hg hcl M M
  have hu:=Zkn m.Sort_ (szAt sizes M) 0 (szAt sizes M)
  have:inp m sizes M E v=Zz E:=by
   unfold inp
   rw [ho]
   simp only
   rw [if_pos]
   unfold srt
   simp only
   rw [w_id (by omega) (by omega)]
   omega
  rw [this]
  exact Z3p _ _ _ _ _ _ ⟨_,Zqd E h.ne (by have:=h.le;omega),by rw [if_pos e]⟩
 ·have hc:=Z6.cost (h.srt_makes hvn e) hv (by simp only [srt,sortS,List.length_append,List.length_cons,List.length_nil];omega) hsv
  have hloop:=Zblc m hm q hq sizes hs _ _ hc v E h.le 0 (Nat.zero_le _)
  rw [List.drop_zero,Z6r h.up] at hloop
  have hx:Zdi m q sizes E v=some (resI (srt m sizes M E v).Plan.Steps (match ofO E v with
   | some e=>if e.Cost≤(srt m sizes M E v).Cost then some e else none
   | none=>none)):=Z3p _ _ _ _ _ _ ⟨_,Zqd E h.ne (by have:=h.le;omega),by
    rw [if_neg e]
    exact ⟨_,Zbk2 _ _ (by omega),hloop⟩⟩
  rw [hx]
  unfold inp
  cases ofO E v with
  | none=>exact .inr rfl
  | some y =>
   simp only
   split
   ·exact .inl rfl
   ·exact .inr rfl
end Go.Proofs.YtbapkgocloaaeaaGreat
/- part: IS -/
namespace Go.Proofs.YtbapkgocloaaeaaGreat
open Go.AM
theorem Zvu (m:Zd) (hm:LeM m) (sizes:List Int) (fr:Bool) (l:List Za) (hl:l.length≤1000) {M:Int} (h0:0≤M) (hM:sizes[M.toNat]?=some (szAt sizes M)) (hne:ofM l M≠[]) (hlen:(Zz (ofM l M)).Plan.Steps.length≤1000) (v:Int) :
  Zd4 sizes fr l m M v=some (.agg ((inp m sizes M (ofM l M) v).c.map .t),[.arr 3 1 true (sizes.map ic),.arr 174 4 fr (l.map Za.c)]) ∨
  Zd4 sizes fr l m M v=some (.agg [I (inp m sizes M (ofM l M) v).Mask,I (inp m sizes M (ofM l M) v).Order,I (inp m sizes M (ofM l M) v).Cost,.own 2],[.arr 3 1 true (sizes.map ic),.arr 174 4 fr (l.map Za.c),.arr 142 3 true ((inp m sizes M (ofM l M) v).Plan.Steps.map Zc.c)]):=by
 obtain ⟨k1,k2⟩:=Zqe hne
 have hf:=Z6n l M v
 unfold inp
 cases ho:ofO (ofM l M) v with
 | none =>
  rw [ho] at hf
  simp only at hf
  refine .inr (Zva _ _ _ _ _ _ _ ⟨_,x_low l M hl,k1,_,k2,h0,_,hM,_,Zd9 _ hm.2.1 _ _ _,_,Zqb l M v hl,?_⟩)
  rw [hf,if_neg (by omega)]
  exact ⟨_,Z6c _ _ hlen,rfl⟩
 | some e =>
  rw [ho] at hf
  simp only at hf
  simp only
  by_cases hc:e.Cost≤(srt m sizes M (ofM l M) v).Cost
  ·rw [if_pos hc]
   refine .inl (Zva _ _ _ _ _ _ _ ⟨_,x_low l M hl,k1,_,k2,h0,_,hM,_,Zd9 _ hm.2.1 _ _ _,_,Zqb l M v hl,?_⟩)
   rw [if_pos hf.1]
   exact ⟨_,hf.2,by rw [if_pos (show e.Cost≤w ((Zz (ofM l M)).Cost+Z9 m.Sort_ (szAt sizes M) 0 (szAt sizes M)) from hc)]⟩
  ·rw [if_neg hc]
   refine .inr (Zva _ _ _ _ _ _ _ ⟨_,x_low l M hl,k1,_,k2,h0,_,hM,_,Zd9 _ hm.2.1 _ _ _,_,Zqb l M v hl,?_⟩)
   rw [if_pos hf.1]
   exact ⟨_,hf.2,by rw [if_neg (show ¬ e.Cost≤w ((Zz (ofM l M)).Cost+Z9 m.Sort_ (szAt sizes M) 0 (szAt sizes M)) from hc)];exact ⟨_,Z6c _ _ hlen,rfl⟩⟩
def jc (m:Zd) (sizes:List Int) (a b:Za) (k:Int):Int:=w (w (a.Cost+b.Cost)+Z9 (mOp m k) (szAt sizes a.Mask) (szAt sizes b.Mask) (szAt sizes (orI a.Mask b.Mask)))
theorem Znx {l:List Za} {i:Nat} {e:Za} (h:l[i]?=some e):l.set i e=l:=by
 obtain ⟨h1,rfl⟩:=List.getElem?_eq_some_iff.1 h
 exact List.set_getElem_self h1
theorem Zvv (m:Zd) (hm:LeM m) (sizes:List Int) (mine:List Za) (a b:Za) (k v o:Int) (ho:-1≤o∧o≤3) {e:Za} (he:mine[(o+1).toNat]?=some e) (ha:0≤a.Mask∧sizes[a.Mask.toNat]?=some (szAt sizes a.Mask)) (hb:0≤b.Mask∧sizes[b.Mask.toNat]?=some (szAt sizes b.Mask)) (hab:0≤orI a.Mask b.Mask∧sizes[(orI a.Mask b.Mask).toNat]?=some (szAt sizes (orI a.Mask b.Mask))) (la:a.Plan.Steps.length≤1000) (lb:b.Plan.Steps.length≤1000) :
  Zfn sizes mine m a b k v o=some (.tup [],[.arr 3 1 true (sizes.map ic),.arr 174 4 true ((mine.set (o+1).toNat (offE e (orI a.Mask b.Mask) o (jc m sizes a b k) (Zbt a.Plan.Steps b.Plan.Steps k v))).map Za.c)]):=by
 have hw:w (o+1)=o+1:=w_id (by omega) (by omega)
 refine Zbhy _ _ _ _ _ _ _ _ _ ⟨mOp m k,Zkk m k,ha.1,_,ha.2,hb.1,_,hb.2,hab.1,_,hab.2,_,Zd9 _ (hm.op k) _ _ _,by omega,e,by rw [hw];exact he,?_⟩
 rw [hw]
 by_cases e0:e.Mask=0
 ·rw [if_pos e0]
  refine ⟨_,Zhc a.Plan b.Plan _ _ la lb,?_⟩
  simp [offE,e0,jc]
 ·rw [if_neg e0]
  by_cases e1:jc m sizes a b k<e.Cost
  ·have e2:=e1
   unfold jc at e2
   rw [if_pos e2]
   refine ⟨_,Zhc a.Plan b.Plan _ _ la lb,?_⟩
   unfold offE
   rw [if_neg e0,if_pos e1]
   rfl
  ·have e2:=e1
   unfold jc at e2
   rw [if_neg e2]
   unfold offE
   rw [if_neg e0,if_neg e1,Znx he]
theorem Zbld (m:Zd) (hm:LeM m) (sizes:List Int) (mine:List Za) (a b:Za) (k v o:Int) (ho:-1≤o∧o≤3) {e:Za} (he:mine[(o+1).toNat]?=some e) (ha:0≤a.Mask∧sizes[a.Mask.toNat]?=some (szAt sizes a.Mask)) (hb:0≤b.Mask∧sizes[b.Mask.toNat]?=some (szAt sizes b.Mask)) (hab:0≤orI a.Mask b.Mask∧sizes[(orI a.Mask b.Mask).toNat]?=some (szAt sizes (orI a.Mask b.Mask))) (la:a.Plan.Steps.length≤1000) (lb:b.Plan.Steps.length≤1000) :
  Zmi sizes mine b.Plan.Steps m a b.Mask b.Order b.Cost k v o=some (.tup [],[.arr 3 1 true (sizes.map ic),.arr 174 4 true ((mine.set (o+1).toNat (offE e (orI a.Mask b.Mask) o (jc m sizes a b k) (Zbt a.Plan.Steps b.Plan.Steps k v))).map Za.c),.arr 142 3 true (b.Plan.Steps.map Zc.c)]):=by
 have hw:w (o+1)=o+1:=w_id (by omega) (by omega)
 refine Zbh1 _ _ _ _ _ _ _ _ _ _ _ _ ⟨mOp m k,Zkk m k,ha.1,_,ha.2,hb.1,_,hb.2,hab.1,_,hab.2,_,Zd9 _ (hm.op k) _ _ _,by omega,e,by rw [hw];exact he,?_⟩
 rw [hw]
 by_cases e0:e.Mask=0
 ·rw [if_pos e0]
  refine ⟨_,Zhc a.Plan ⟨b.Plan.Steps⟩ _ _ la lb,?_⟩
  simp [offE,e0,jc]
 ·rw [if_neg e0]
  by_cases e1:jc m sizes a b k<e.Cost
  ·have e2:=e1
   unfold jc at e2
   rw [if_pos e2]
   refine ⟨_,Zhc a.Plan ⟨b.Plan.Steps⟩ _ _ la lb,?_⟩
   unfold offE
   rw [if_neg e0,if_pos e1]
   rfl
  ·have e2:=e1
   unfold jc at e2
   rw [if_neg e2]
   unfold offE
   rw [if_neg e0,if_neg e1,Znx he]
theorem Zble (m:Zd) (hm:LeM m) (sizes:List Int) (mine:List Za) (a b:Za) (k v o:Int) (ho:-1≤o∧o≤3) {e:Za} (he:mine[(o+1).toNat]?=some e) (ha:0≤a.Mask∧sizes[a.Mask.toNat]?=some (szAt sizes a.Mask)) (hb:0≤b.Mask∧sizes[b.Mask.toNat]?=some (szAt sizes b.Mask)) (hab:0≤orI a.Mask b.Mask∧sizes[(orI a.Mask b.Mask).toNat]?=some (szAt sizes (orI a.Mask b.Mask))) (la:a.Plan.Steps.length≤1000) (lb:b.Plan.Steps.length≤1000) :
  Zmj sizes mine a.Plan.Steps m a.Mask a.Order a.Cost b k v o=some (.tup [],[.arr 3 1 true (sizes.map ic),.arr 174 4 true ((mine.set (o+1).toNat (offE e (orI a.Mask b.Mask) o (jc m sizes a b k) (Zbt a.Plan.Steps b.Plan.Steps k v))).map Za.c),.arr 142 3 true (a.Plan.Steps.map Zc.c)]):=by
 have hw:w (o+1)=o+1:=w_id (by omega) (by omega)
 refine Zbh2 _ _ _ _ _ _ _ _ _ _ _ _ ⟨mOp m k,Zkk m k,ha.1,_,ha.2,hb.1,_,hb.2,hab.1,_,hab.2,_,Zd9 _ (hm.op k) _ _ _,by omega,e,by rw [hw];exact he,?_⟩
 rw [hw]
 by_cases e0:e.Mask=0
 ·rw [if_pos e0]
  refine ⟨_,Zhc ⟨a.Plan.Steps⟩ b.Plan _ _ la lb,?_⟩
  simp [offE,e0,jc]
 ·rw [if_neg e0]
  by_cases e1:jc m sizes a b k<e.Cost
  ·have e2:=e1
   unfold jc at e2
   rw [if_pos e2]
   refine ⟨_,Zhc ⟨a.Plan.Steps⟩ b.Plan _ _ la lb,?_⟩
   unfold offE
   rw [if_neg e0,if_pos e1]
   rfl
  ·have e2:=e1
   unfold jc at e2
   rw [if_neg e2]
   unfold offE
   rw [if_neg e0,if_neg e1,Znx he]
theorem Zblf (m:Zd) (hm:LeM m) (sizes:List Int) (mine:List Za) (a b:Za) (k v o:Int) (ho:-1≤o∧o≤3) {e:Za} (he:mine[(o+1).toNat]?=some e) (ha:0≤a.Mask∧sizes[a.Mask.toNat]?=some (szAt sizes a.Mask)) (hb:0≤b.Mask∧sizes[b.Mask.toNat]?=some (szAt sizes b.Mask)) (hab:0≤orI a.Mask b.Mask∧sizes[(orI a.Mask b.Mask).toNat]?=some (szAt sizes (orI a.Mask b.Mask))) (la:a.Plan.Steps.length≤1000) (lb:b.Plan.Steps.length≤1000) :
  Zmk sizes mine a.Plan.Steps b.Plan.Steps m a.Mask a.Order a.Cost b.Mask b.Order b.Cost k v o=some (.tup [],[.arr 3 1 true (sizes.map ic),.arr 174 4 true ((mine.set (o+1).toNat (offE e (orI a.Mask b.Mask) o (jc m sizes a b k) (Zbt a.Plan.Steps b.Plan.Steps k v))).map Za.c),.arr 142 3 true (a.Plan.Steps.map Zc.c),.arr 142 3 true (b.Plan.Steps.map Zc.c)]):=by
 have hw:w (o+1)=o+1:=w_id (by omega) (by omega)
 refine Zbh3 _ _ _ _ _ _ _ _ _ _ _ _ _ _ _ ⟨mOp m k,Zkk m k,ha.1,_,ha.2,hb.1,_,hb.2,hab.1,_,hab.2,_,Zd9 _ (hm.op k) _ _ _,by omega,e,by rw [hw];exact he,?_⟩
 rw [hw]
 by_cases e0:e.Mask=0
 ·rw [if_pos e0]
  refine ⟨_,Zhc ⟨a.Plan.Steps⟩ ⟨b.Plan.Steps⟩ _ _ la lb,?_⟩
  simp [offE,e0,jc]
 ·rw [if_neg e0]
  by_cases e1:jc m sizes a b k<e.Cost
  ·have e2:=e1
   unfold jc at e2
   rw [if_pos e2]
   refine ⟨_,Zhc ⟨a.Plan.Steps⟩ ⟨b.Plan.Steps⟩ _ _ la lb,?_⟩
   unfold offE
   rw [if_neg e0,if_pos e1]
   rfl
  ·have e2:=e1
   unfold jc at e2
   rw [if_neg e2]
   unfold offE
   rw [if_neg e0,if_neg e1,Znx he]
end Go.Proofs.YtbapkgocloaaeaaGreat
/- part: SJ -/
namespace Go.Proofs.YtbapkgocloaaeaaGreat
open Go.AM
def Zee {α:Type} (f:α→Za→α) (E:List Za):Nat→Int→α→α
 | 0,_,x=>x
 | n+1,o,x=>Zee f E n (o+1) (match ofO E o with | some e=>f x e | none=>x)
theorem Z6s {α:Type} (f:α→Za→α) {E F:List Za}:∀ (n:Nat) (o:Int) (x:α),(∀ p,o≤p→ofO E p=ofO F p)→Zee f E n o x=Zee f F n o x
 | 0,_,_,_=>rfl
 | n+1,o,x,h=>by
  rw [Zee,Zee,h o (Int.le_refl o)]
  exact Z6s f n (o+1) _ (fun p hp=>h p (by omega))
theorem Z6t {α:Type} (f:α→Za→α):∀ (n:Nat) (o:Int) (x:α),Zee f [] n o x=x
 | 0,_,_=>rfl
 | n+1,o,x=>by rw [Zee];exact Z6t f n (o+1) x
theorem Zvw {α:Type} (f:α→Za→α):∀ (n:Nat) (E:List Za) (o:Int) (x:α),E.Pairwise (fun a b=>a.Order<b.Order)→(∀ e∈E,o≤e.Order∧e.Order<o+n)→Zee f E n o x=E.foldl f x
 | 0,[],_,_,_,_=>rfl
 | 0,e::E,o,x,_,h=>by have:=h e (by simp);omega
 | n+1,[],o,x,_,_=>Z6t f (n+1) o x
 | n+1,e::E,o,x,hp,h=>by
  have hc:=List.pairwise_cons.1 hp
  have he:=h e (by simp)
  rw [Zee]
  by_cases eo:e.Order=o
  ·have h1:ofO (e::E) o=some e:=by simp [ofO,eo]
   rw [h1,List.foldl_cons]
   simp only
   rw [Z6s f (F:=E) n (o+1) (f x e) (fun p hpo=>by unfold ofO;rw [List.find?_cons];simp [show ¬ e.Order=p by omega])]
   exact Zvw f n E (o+1) (f x e) hc.2 (fun y hy=>by have:=hc.1 y hy;have:=h y (by simp [hy]);omega)
  ·have h1:ofO (e::E) o=none:=by
    unfold ofO
    rw [List.find?_eq_none]
    intro y hy
    have:e.Order≤y.Order:=by
     rcases List.mem_cons.1 hy with rfl | hy
     ·exact Int.le_refl _
     ·have:=hc.1 y hy;omega
    simp
    omega
   rw [h1]
   simp only
   exact Zvw f n (e::E) (o+1) x hp (fun y hy=>by
    have:=h y hy
    have:e.Order≤y.Order:=by
     rcases List.mem_cons.1 hy with rfl | hy
     ·exact Int.le_refl _
     ·have:=hc.1 y hy;omega
    omega)
def zE:Za:=⟨0,0,0,⟨[]⟩⟩
def offJ (m:Zd) (sizes:List Int) (a b:Za) (k v o:Int) (mine:List Za):List Za :=
 mine.set (o+1).toNat (offE ((mine[(o+1).toNat]?).getD zE) (orI a.Mask b.Mask) o (jc m sizes a b k) (Zbt a.Plan.Steps b.Plan.Steps k v))
def Zef (m:Zd) (sizes:List Int) (b:Za) (mine:List Za) (e:Za):List Za:=offJ m sizes e b 5 0 e.Order mine
def Zeu (m:Zd) (sizes:List Int) (A B:Int) (E F:List Za) (mine:List Za) (v:Int):List Za:=offJ m sizes (inp m sizes A E v) (inp m sizes B F v) 4 v v mine
def Zjb (m:Zd) (sizes:List Int) (A B:Int) (sh:List Int) (E F:List Za) (mine:List Za):List Za :=
 sh.foldl (Zeu m sizes A B E F) (E.foldl (Zef m sizes (Zz F)) (offJ m sizes (Zz E) (Zz F) 3 0 (-1) mine))
theorem Zdr {m:Zd} {sizes:List Int} {a b:Za} {k v o:Int} {mine:List Za}:(offJ m sizes a b k v o mine).length=mine.length:=by simp [offJ]
theorem Zqg {m:Zd} {sizes:List Int} {b:Za}:∀ {E mine:List Za},(E.foldl (Zef m sizes b) mine).length=mine.length
 | [],_=>rfl
 | e::E,mine=>by rw [List.foldl_cons,Zqg];exact Zdr
theorem Z6u {m:Zd} {sizes:List Int} {A B:Int} {E F:List Za}:∀ {sh:List Int} {mine:List Za},(sh.foldl (Zeu m sizes A B E F) mine).length=mine.length
 | [],_=>rfl
 | e::sh,mine=>by rw [List.foldl_cons,Z6u];exact Zdr
theorem Z6v {m:Zd} {sizes:List Int} {A B:Int} {sh:List Int} {E F mine:List Za}:(Zjb m sizes A B sh E F mine).length=mine.length:=by
 unfold Zjb;rw [Z6u,Zqg,Zdr]
end Go.Proofs.YtbapkgocloaaeaaGreat
/- part: SK -/
namespace Go.Proofs.YtbapkgocloaaeaaGreat
open Go.AM
structure GoodE (m:Zd) (sizes:List Int) (qa:List Atom) (M:Int) (o:Int) (e:Za):Prop where
 mask:e.Mask=M
 ord:e.Order=o
 makes:Z6 m sizes qa e.Plan.Steps M o e.Cost
 len:1≤e.Plan.Steps.length∧e.Plan.Steps.length+3≤4*popc M
def Zcl (m:Zd) (sizes:List Int) (qa:List Atom) (M:Int) (mine:List Za):Prop :=
 mine.length=5∧∀ (k:Nat) (e:Za),mine[k]?=some e→e.Mask≠0→GoodE m sizes qa M ((k:Int) - 1) e
theorem Z6w (m:Zd) (sizes:List Int) (qa:List Atom) (M:Int):Zcl m sizes qa M (List.replicate 5 zE):=by
 refine ⟨by simp,fun k e h h0=>?_⟩
 rw [List.getElem?_replicate] at h
 split at h
 ·cases h;exact absurd rfl h0
 ·cases h
theorem Zblg {m:Zd} {sizes:List Int} {qa:List Atom} {M:Int} {mine:List Za} (h:Zcl m sizes qa M mine) {a b:Za} {k v o:Int} (ho:-1≤o∧o≤3) (hM:orI a.Mask b.Mask=M)
  (hmk:Z6 m sizes qa (Zbt a.Plan.Steps b.Plan.Steps k v) M o (jc m sizes a b k)) (hl:(Zbt a.Plan.Steps b.Plan.Steps k v).length+3≤4*popc M):Zcl m sizes qa M (offJ m sizes a b k v o mine):=by
 refine ⟨by rw [Zdr];exact h.1,fun j e hj h0=>?_⟩
 have h5:=h.1
 unfold offJ at hj
 have hlt:(o+1).toNat<mine.length:=by omega
 rw [List.getElem?_set] at hj
 by_cases ej:(o+1).toNat=j
 ·rw [if_pos ej,if_pos hlt] at hj
  cases hj
  have eo:(j:Int) - 1=o:=by omega
  rw [eo]
  rw [List.getElem?_eq_getElem hlt] at h0 ⊢
  simp only [Option.getD_some] at h0 ⊢
  have hold:=h.2 (o+1).toNat mine[(o+1).toNat] (List.getElem?_eq_getElem hlt)
  have eo2:(((o+1).toNat:Nat):Int) - 1=o:=by omega
  rw [eo2] at hold
  have hnew:GoodE m sizes qa M o ⟨orI a.Mask b.Mask,o,jc m sizes a b k,⟨Zbt a.Plan.Steps b.Plan.Steps k v⟩⟩:=⟨hM,rfl,hmk,by simp [Zbt];omega,hl⟩
  unfold offE
  split
  ·exact hnew
  ·rename_i hm0
   split
   ·exact hnew
   ·exact hold hm0
 ·rw [if_neg ej] at hj
  exact h.2 j e hj h0
theorem Zblh {m:Zd} {sizes:List Int} {qa:List Atom} {M:Int} {mine:List Za} (h:Zcl m sizes qa M mine) (hne:mine.filter sm≠[]):Held m sizes qa M (mine.filter sm):=by
 have hg:∀ e∈mine.filter sm,∃ o,(-1≤o∧o≤3)∧GoodE m sizes qa M o e:=by
  intro e he
  rw [List.mem_filter] at he
  obtain ⟨k,hk⟩:=List.mem_iff_getElem?.1 he.1
  have hlt:=(List.getElem?_eq_some_iff.1 hk).1
  have h5:=h.1
  have:e.Mask≠0:=by simpa [sm] using he.2
  exact ⟨(k:Int) - 1,by omega,h.2 k e hk this⟩
 refine ⟨hne,?_,?_,?_,?_,?_⟩
 ·rw [List.pairwise_filter,List.pairwise_iff_getElem]
  intro i j hi hj hij s1 s2
  have g1:=h.2 i _ (List.getElem?_eq_getElem hi) (by simpa [sm] using s1)
  have g2:=h.2 j _ (List.getElem?_eq_getElem hj) (by simpa [sm] using s2)
  rw [g1.ord,g2.ord]
  omega
 ·intro e he;obtain ⟨o,_,g⟩:=hg e he;exact g.mask
 ·intro e he;obtain ⟨o,ho,g⟩:=hg e he;rw [g.ord];exact ho
 ·intro e he;obtain ⟨o,_,g⟩:=hg e he;rw [g.ord];exact g.makes
 ·intro e he;obtain ⟨o,_,g⟩:=hg e he;exact g.len
end Go.Proofs.YtbapkgocloaaeaaGreat
/- part: SM -/
namespace Go.Proofs.YtbapkgocloaaeaaGreat
open Go.AM
theorem Zhd {m:Zd} {sizes:List Int} {qa:List Atom} {M:Int} {E:List Za} (h:Held m sizes qa M E) (hg:Zbd m.Sort_) (hcl:Zc3 sizes) (hM:M16 M) {v:Int} (hv:vin qa M v=true) :
  (inp m sizes M E v).Mask=M∧(inp m sizes M E v).Order=v∧Z6 m sizes qa (inp m sizes M E v).Plan.Steps M v (inp m sizes M E v).Cost∧1≤(inp m sizes M E v).Plan.Steps.length∧(inp m sizes M E v).Plan.Steps.length+2≤4*popc M:=by
 have h4:=Zcu hM
 have hlen:=h.len _ h.best
 have hb:=(h.makes _ h.best).bound (by omega)
 have hp:=Z6q hg hcl M M
 have hu:=Zkn m.Sort_ (szAt sizes M) 0 (szAt sizes M)
 have hsrt:(Zz E).Order≠v→(srt m sizes M E v).Mask=M∧(srt m sizes M E v).Order=v∧Z6 m sizes qa (srt m sizes M E v).Plan.Steps M v (srt m sizes M E v).Cost∧1≤(srt m sizes M E v).Plan.Steps.length∧(srt m sizes M E v).Plan.Steps.length+2≤4*popc M:=by
  intro hne
  refine ⟨rfl,rfl,h.srt_makes hv hne,?_,?_⟩ <;> simp only [srt,sortS,List.length_append,List.length_cons,List.length_nil] <;> omega
 unfold inp
 cases ho:ofO E v with
 | none =>
  refine hsrt (fun he=>?_)
  have:=Zqf h.up h.best
  rw [he,ho] at this
  cases this
 | some e =>
  have hmem:e∈E:=List.mem_of_find?_eq_some ho
  have hov:e.Order=v:=by have:=List.find?_some ho;simpa using this
  simp only
  by_cases hc:e.Cost≤(srt m sizes M E v).Cost
  ·rw [if_pos hc]
   have hm:=h.makes e hmem
   rw [hov] at hm
   have:=h.len e hmem
   exact ⟨h.mask e hmem,hov,hm,by omega,by omega⟩
  ·rw [if_neg hc]
   refine hsrt (fun he=>hc ?_)
   have hx:=Zqf h.up h.best
   rw [he,ho] at hx
   cases hx
   unfold srt
   simp only
   rw [w_id (by omega) (by omega)]
   omega
structure Pair (qa:List Atom) (A B M:Int):Prop where
 a16:M16 A
 b16:M16 B
 or:orI A B=M
 dis:andI A B=0
 shr:shr qa A B=true
 pop:popc A+popc B=popc M
theorem Zvx {m:Zd} {sizes:List Int} {qa:List Atom} {A B M:Int} (hp:Pair qa A B M) {mine:List Za} (h:Zcl m sizes qa M mine) {a b:Za} {k v o oa ob:Int} (ho:-1≤o∧o≤3) (hk:3≤k) (ha:a.Mask=A) (hb:b.Mask=B) (ma:Z6 m sizes qa a.Plan.Steps A oa a.Cost) (mb:Z6 m sizes qa b.Plan.Steps B ob b.Cost) (hj:Zdb qa ⟨k,0,v⟩ (A,oa) (B,ob)=some o) (hl:a.Plan.Steps.length+2≤4*popc A∧b.Plan.Steps.length+2≤4*popc B):Zcl m sizes qa M (offJ m sizes a b k v o mine):=by
 have hpop:=hp.pop
 refine Zblg h ho (by rw [ha,hb];exact hp.or) ?_ (by simp only [Zbt,List.length_append,List.length_cons,List.length_nil];omega)
 have:=Z6i (x:=⟨k,0,v⟩) ma mb hk rfl hp.dis hp.shr hj
 rw [hp.or] at this
 unfold jc
 rw [ha,hb,hp.or]
 exact this
theorem Z6x {m:Zd} {sizes:List Int} {qa:List Atom} {A B M:Int} (hp:Pair qa A B M) {b:Za} {ob:Int} (hb:b.Mask=B) (mb:Z6 m sizes qa b.Plan.Steps B ob b.Cost) (lb:b.Plan.Steps.length+2≤4*popc B):∀ {E mine:List Za},(∀ e∈E,e.Mask=A∧(-1≤e.Order∧e.Order≤3)∧Z6 m sizes qa e.Plan.Steps A e.Order e.Cost∧e.Plan.Steps.length+2≤4*popc A)→Zcl m sizes qa M mine→Zcl m sizes qa M (E.foldl (Zef m sizes b) mine)
 | [],_,_,h=>h
 | e::E,mine,he,h=>by
  obtain ⟨e1,e2,e3,e4⟩:=he e (by simp)
  rw [List.foldl_cons]
  exact Z6x hp hb mb lb (fun x hx=>he x (by simp [hx])) (Zvx hp h e2 (by omega) e1 hb e3 mb nest_p ⟨e4,lb⟩)
theorem Z6y {m:Zd} {sizes:List Int} {qa:List Atom} {A B M:Int} (hp:Pair qa A B M) (hg:Zbd m.Sort_) (hcl:Zc3 sizes) {E F:List Za} (hE:Held m sizes qa A E) (hF:Held m sizes qa B F):∀ {sh:List Int} {mine:List Za},(∀ v∈sh,(-1≤v∧v≤3)∧vin qa A v=true∧vin qa B v=true)→Zcl m sizes qa M mine→Zcl m sizes qa M (sh.foldl (Zeu m sizes A B E F) mine)
 | [],_,_,h=>h
 | v::sh,mine,hv,h=>by
  obtain ⟨v1,v2,v3⟩:=hv v (by simp)
  obtain ⟨a1,a2,a3,a4,a5⟩:=Zhd hE hg hcl hp.a16 v2
  obtain ⟨b1,b2,b3,b4,b5⟩:=Zhd hF hg hcl hp.b16 v3
  rw [List.foldl_cons]
  exact Z6y hp hg hcl hE hF (fun x hx=>hv x (by simp [hx])) (Zvx hp h v1 (by omega) a1 b1 a3 b3 (Z6j v2 v3 rfl rfl) ⟨a5,b5⟩)
theorem Zbli {m:Zd} {sizes:List Int} {qa:List Atom} {A B M:Int} (hp:Pair qa A B M) (hg:Zbd m.Sort_) (hcl:Zc3 sizes) {E F:List Za} (hE:Held m sizes qa A E) (hF:Held m sizes qa B F) {sh:List Int} {mine:List Za} (hv:∀ v∈sh,(-1≤v∧v≤3)∧vin qa A v=true∧vin qa B v=true) (h:Zcl m sizes qa M mine):Zcl m sizes qa M (Zjb m sizes A B sh E F mine):=by
 have lE:=hE.len _ hE.best
 have lF:=hF.len _ hF.best
 have mE:=hE.makes _ hE.best
 have mF:=hF.makes _ hF.best
 unfold Zjb
 refine Z6y hp hg hcl hE hF hv (Z6x hp (hF.mask _ hF.best) mF (by omega) (fun e he=>⟨hE.mask e he,hE.ord e he,hE.makes e he,by have:=hE.len e he;omega⟩) ?_)
 exact Zvx hp h (by omega) (by omega) (hE.mask _ hE.best) (hF.mask _ hF.best) mE mF hash_p ⟨by omega,by omega⟩
end Go.Proofs.YtbapkgocloaaeaaGreat
/- part: SC -/
namespace Go.Proofs.YtbapkgocloaaeaaGreat
open Go.AM
def pos (e:Za):Bool:=decide (0<e.Mask)
theorem Zblj (mine:List Za) (h5:mine.length=5) (sizes:List Int) (fr1:Bool) (l:List Za):∀ i:Nat,i≤5→∀ (fr:Bool) (out:List Za),out.length≤i→∃ fr',Zfo mine fr out sizes fr1 l i=some (.own 2,[.arr 3 1 true (sizes.map ic),.arr 174 4 fr1 (l.map Za.c),.arr 174 4 fr' ((out++(mine.drop i).filter pos).map Za.c)]):=by
 refine down _ ?_ ?_
 ·intro fr out ho
  refine ⟨fr,Zvb _ _ _ _ _ _ _ _ ?_⟩
  rw [if_neg (by omega),List.drop_of_length_le (by omega)]
  simp
 ·intro i hi ih fr out ho
  have h4:=inc64 (i:=i) (by omega)
  have hlt:i<mine.length:=by omega
  have hw:w ((i:Int)+1)=((i+1:Nat):Int):=by rw [show w ((i:Int)+1)=(i:Int)+1 from h4];simp
  rw [List.drop_eq_getElem_cons hlt,List.filter_cons]
  by_cases e:0<mine[i].Mask
  ·obtain ⟨fr',h⟩:=ih false (out++[mine[i]]) (by simp;omega)
   refine ⟨fr',Zvb _ _ _ _ _ _ _ _ ?_⟩
   rw [if_pos (by omega)]
   refine ⟨by omega,mine[i],by rw [Int.toNat_natCast];exact List.getElem?_eq_getElem hlt,?_⟩
   rw [if_pos e,hw]
   refine ⟨by omega,?_⟩
   simpa [pos,e] using h
  ·obtain ⟨fr',h⟩:=ih fr out (by omega)
   refine ⟨fr',Zvb _ _ _ _ _ _ _ _ ?_⟩
   rw [if_pos (by omega)]
   refine ⟨by omega,mine[i],by rw [Int.toNat_natCast];exact List.getElem?_eq_getElem hlt,?_⟩
   rw [if_neg e,hw]
   simpa [pos,e] using h
theorem Zblk {m:Zd} {sizes:List Int} {qa:List Atom} {M:Int} {mine:List Za} (h:Zcl m sizes qa M mine) (hM:0<M):mine.filter pos=mine.filter sm:=by
 refine List.filter_congr fun e he=>?_
 obtain ⟨k,hk⟩:=List.mem_iff_getElem?.1 he
 by_cases h0:e.Mask=0
 ·simp [pos,sm,h0]
 ·have:=(h.2 k e hk h0).mask
  simp [pos,sm,h0];omega
end Go.Proofs.YtbapkgocloaaeaaGreat
/- part: SD -/
namespace Go.Proofs.YtbapkgocloaaeaaGreat
open Go.AM
def SzOk (sizes:List Int) (M:Int):Prop:=0≤M∧sizes[M.toNat]?=some (szAt sizes M)
theorem Zvy {m:Zd} {sizes:List Int} {a b:Za} {k v o:Int} {mine:List Za} {e:Za} (he:mine[(o+1).toNat]?=some e):mine.set (o+1).toNat (offE e (orI a.Mask b.Mask) o (jc m sizes a b k) (Zbt a.Plan.Steps b.Plan.Steps k v))=offJ m sizes a b k v o mine:=by
 simp [offJ,he]
theorem l_merges (m:Zd) (hm:LeM m) (hg:Zbd m.Sort_) (sizes:List Int) (hcl:Zc3 sizes) (qa:List Atom) (fr:Bool) (l:List Za) (hl:l.length≤1000) {A B M:Int} (hp:Pair qa A B M) (hE:Held m sizes qa A (ofM l A)) (hF:Held m sizes qa B (ofM l B)) (zA:SzOk sizes A) (zB:SzOk sizes B) (zM:SzOk sizes M) (x:Zv) (k:Nat) (sh:List Int) (hsh:x.shared[k]?=some sh) (hl4:sh.length≤1000) (hv:∀ v∈sh,(-1≤v∧v≤3)∧vin qa A v=true∧vin qa B v=true) (r:AV×List Blk):∀ i,i≤sh.length→∀ mine:List Za,mine.length=5→Zg3 sizes fr l m x ((sh.drop i).foldl (Zeu m sizes A B (ofM l A) (ofM l B)) mine) (w ((k:Int)+1))=some r→Zd5 sizes fr l m x mine k A B i=some r:=by
 have pA:=Zcu hp.a16
 have pB:=Zcu hp.b16
 refine down _ ?_ ?_
 ·intro mine h5 h
  refine Z4r _ _ _ _ _ _ _ _ _ _ _ ⟨by omega,sh,by rw [Int.toNat_natCast];exact hsh,?_⟩
  rw [if_neg (by omega)]
  simpa using h
 ·intro i hi ih mine h5 h
  have h4:=inc64 (i:=i) (by omega)
  have hw:w ((i:Int)+1)=((i+1:Nat):Int):=by rw [show w ((i:Int)+1)=(i:Int)+1 from h4];simp
  rw [List.drop_eq_getElem_cons hi,List.foldl_cons] at h
  have ih:=ih _ (by rw [show (Zeu m sizes A B (ofM l A) (ofM l B) mine sh[i]).length=mine.length from Zdr];exact h5) h
  obtain ⟨v1,v2,v3⟩:=hv sh[i] (List.getElem_mem hi)
  obtain ⟨a1,a2,a3,a4,a5⟩:=Zhd hE hg hcl hp.a16 v2
  obtain ⟨b1,b2,b3,b4,b5⟩:=Zhd hF hg hcl hp.b16 v3
  have hlt:(sh[i]+1).toNat<mine.length:=by omega
  have he:mine[(sh[i]+1).toNat]?=some mine[(sh[i]+1).toNat]:=List.getElem?_eq_getElem hlt
  have ea:0≤(inp m sizes A (ofM l A) sh[i]).Mask∧sizes[(inp m sizes A (ofM l A) sh[i]).Mask.toNat]?=some (szAt sizes (inp m sizes A (ofM l A) sh[i]).Mask):=by rw [a1];exact zA
  have eb:0≤(inp m sizes B (ofM l B) sh[i]).Mask∧sizes[(inp m sizes B (ofM l B) sh[i]).Mask.toNat]?=some (szAt sizes (inp m sizes B (ofM l B) sh[i]).Mask):=by rw [b1];exact zB
  have eab:0≤orI (inp m sizes A (ofM l A) sh[i]).Mask (inp m sizes B (ofM l B) sh[i]).Mask∧sizes[(orI (inp m sizes A (ofM l A) sh[i]).Mask (inp m sizes B (ofM l B) sh[i]).Mask).toNat]?=some (szAt sizes (orI (inp m sizes A (ofM l A) sh[i]).Mask (inp m sizes B (ofM l B) sh[i]).Mask)):=by rw [a1,b1,hp.or];exact zM
  have la:(inp m sizes A (ofM l A) sh[i]).Plan.Steps.length≤1000:=by omega
  have lb:(inp m sizes B (ofM l B) sh[i]).Plan.Steps.length≤1000:=by omega
  have o0:=Zvv m hm sizes mine _ _ 4 sh[i] sh[i] v1 he ea eb eab la lb
  have o1:=Zbld m hm sizes mine _ _ 4 sh[i] sh[i] v1 he ea eb eab la lb
  have o2:=Zble m hm sizes mine _ _ 4 sh[i] sh[i] v1 he ea eb eab la lb
  have o3:=Zblf m hm sizes mine _ _ 4 sh[i] sh[i] v1 he ea eb eab la lb
  rw [Zvy he] at o0 o1 o2 o3
  refine Z4r _ _ _ _ _ _ _ _ _ _ _ ⟨by omega,sh,by rw [Int.toNat_natCast];exact hsh,?_⟩
  rw [if_pos (by omega)]
  refine ⟨by omega,sh[i],by rw [Int.toNat_natCast];exact List.getElem?_eq_getElem hi,?_⟩
  rw [hw]
  have bA:=hE.len _ hE.best
  have bB:=hF.len _ hF.best
  rcases Zvu m hm sizes fr l hl zA.1 zA.2 hE.ne (by omega) sh[i] with ha | ha
  ·refine .inl ⟨_,ha,?_⟩
   rcases Zvu m hm sizes fr l hl zB.1 zB.2 hF.ne (by omega) sh[i] with hb | hb
   ·exact .inl ⟨_,hb,_,_,o0,ih⟩
   ·exact .inr ⟨_,_,_,_,hb,_,_,_,o1,ih⟩
  ·refine .inr ⟨_,_,_,_,ha,?_⟩
   rcases Zvu m hm sizes fr l hl zB.1 zB.2 hF.ne (by omega) sh[i] with hb | hb
   ·exact .inl ⟨_,hb,_,_,_,o2,ih⟩
   ·exact .inr ⟨_,_,_,_,hb,_,_,_,_,o3,ih⟩
end Go.Proofs.YtbapkgocloaaeaaGreat
/- part: SE -/
namespace Go.Proofs.YtbapkgocloaaeaaGreat
open Go.AM
theorem Zvz (m:Zd) (hm:LeM m) (sizes:List Int) (qa:List Atom) (fr:Bool) (l:List Za) (hl:l.length≤1000) {A B M:Int} (hp:Pair qa A B M) (hE:Held m sizes qa A (ofM l A)) (b:Za) (hb:b.Mask=B) (lb:b.Plan.Steps.length≤1000) (zA:SzOk sizes A) (zB:SzOk sizes B) (zM:SzOk sizes M) (x:Zv) (k:Int) (r:AV×List Blk):∀ n:Nat,n≤5→∀ mine:List Za,mine.length=5→Zd5 sizes fr l m x (Zee (Zef m sizes b) (ofM l A) n (4 - n) mine) k A B 0=some r→Zg4 sizes fr l m x mine b k A B (4 - n)=some r
 | 0,_,mine,h5,h=>by
  refine Z4q _ _ _ _ _ _ _ _ _ _ _ _ ?_
  rw [if_neg (by omega)]
  exact h
 | n+1,hn,mine,h5,h=>by
  have pA:=Zcu hp.a16
  have hw:w ((4:Int) - ((n+1:Nat):Int)+1)=4 - (n:Int):=by rw [w_id (by omega) (by omega)];omega
  rw [Zee,show (4:Int) - ((n+1:Nat):Int)+1=4 - (n:Int) by omega] at h
  have hf:=Z6n l A (4 - ((n+1:Nat):Int))
  refine Z4q _ _ _ _ _ _ _ _ _ _ _ _ ?_
  rw [if_pos (by omega),hw]
  refine ⟨_,Zqb l A _ hl,?_⟩
  cases ho:ofO (ofM l A) (4 - ((n+1:Nat):Int)) with
  | none =>
   rw [ho] at hf h
   simp only at hf h
   rw [hf,if_neg (by omega)]
   exact Zvz m hm sizes qa fr l hl hp hE b hb lb zA zB zM x k r n (by omega) mine h5 h
  | some e =>
   rw [ho] at hf h
   simp only at hf h
   have hmem:e∈ofM l A:=List.mem_of_find?_eq_some ho
   have hov:e.Order=4 - ((n+1:Nat):Int):=by have:=List.find?_some ho;simpa using this
   have le:=hE.len e hmem
   have me:=hE.mask e hmem
   have hlt:((4 - ((n+1:Nat):Int))+1).toNat<mine.length:=by omega
   have he:=List.getElem?_eq_getElem hlt
   have o0:=Zvv m hm sizes mine e b 5 0 (4 - ((n+1:Nat):Int)) (by omega) he (by rw [me];exact zA) (by rw [hb];exact zB) (by rw [me,hb,hp.or];exact zM) (by omega) lb
   rw [Zvy he] at o0
   rw [if_pos hf.1]
   refine ⟨e,hf.2,_,_,o0,?_⟩
   rw [show Zef m sizes b mine e=offJ m sizes e b 5 0 (4 - ((n+1:Nat):Int)) mine by rw [Zef,hov]] at h
   exact Zvz m hm sizes qa fr l hl hp hE b hb lb zA zB zM x k r n (by omega) _ (by rw [Zdr];exact h5) h
end Go.Proofs.YtbapkgocloaaeaaGreat
/- part: SF -/
namespace Go.Proofs.YtbapkgocloaaeaaGreat
open Go.AM
def oneJ (m:Zd) (sizes:List Int) (M:Int) (l:List Za) (mine:List Za) (p:Int×List Int):List Za:=Zjb m sizes p.1 (M - p.1) p.2 (ofM l p.1) (ofM l (M - p.1)) mine
structure Zjc (m:Zd) (sizes:List Int) (qa:List Atom) (l:List Za) (M A:Int) (sh:List Int):Prop where
 pair:Pair qa A (M - A) M
 left:Held m sizes qa A (ofM l A)
 right:Held m sizes qa (M - A) (ofM l (M - A))
 zA:SzOk sizes A
 zB:SzOk sizes (M - A)
 len:sh.length≤1000
 vars:∀ v∈sh,(-1≤v∧v≤3)∧vin qa A v=true∧vin qa (M - A) v=true
theorem l_splits (m:Zd) (hm:LeM m) (hg:Zbd m.Sort_) (sizes:List Int) (hcl:Zc3 sizes) (qa:List Atom) (fr:Bool) (l:List Za) (hl:l.length≤1000) (x:Zv) (zM:SzOk sizes x.mask) (h16:M16 x.mask) (hlen:x.Zt.length=x.shared.length) (hx:x.Zt.length≤100) (ok:∀ p∈x.Zt.zip x.shared,Zjc m sizes qa l x.mask p.1 p.2) (r:AV×List Blk):∀ i,i≤x.Zt.length→∀ mine:List Za,mine.length=5→Zfo (((x.Zt.zip x.shared).drop i).foldl (oneJ m sizes x.mask l) mine) true [] sizes fr l 0=some r→Zg3 sizes fr l m x mine i=some r:=by
 have hz:(x.Zt.zip x.shared).length=x.Zt.length:=by simp [hlen]
 refine down _ ?_ ?_
 ·intro mine h5 h
  refine Z4p _ _ _ _ _ _ _ _ ?_
  rw [if_neg (by omega)]
  rw [List.drop_of_length_le (by omega)] at h
  exact h
 ·intro i hi ih mine h5 h
  have h4:=inc64 (i:=i) (by omega)
  have hw:w ((i:Int)+1)=((i+1:Nat):Int):=by rw [show w ((i:Int)+1)=(i:Int)+1 from h4];simp
  have hiz:i<(x.Zt.zip x.shared).length:=by omega
  have his:i<x.shared.length:=by omega
  rw [List.drop_eq_getElem_cons hiz,List.foldl_cons,List.getElem_zip] at h
  have o:=ok _ (List.getElem_mem hiz)
  rw [List.getElem_zip] at o
  have ih:=ih _ (by rw [show (oneJ m sizes x.mask l mine (x.Zt[i],x.shared[i])).length=mine.length from Z6v];exact h5) h
  have hB:w (x.mask - x.Zt[i])=x.mask - x.Zt[i]:=by
   have:=o.pair.b16
   have:=o.pair.a16
   exact w_id (by omega) (by omega)
  obtain ⟨k1,k2⟩:=Zqe o.left.ne
  obtain ⟨j1,j2⟩:=Zqe o.right.ne
  have eM:=o.left.mask _ o.left.best
  have fM:=o.right.mask _ o.right.best
  have pA:=Zcu o.pair.a16
  have pB:=Zcu o.pair.b16
  have la:=o.left.len _ o.left.best
  have lb:=o.right.len _ o.right.best
  have hlt:((-1:Int)+1).toNat<mine.length:=by simp;omega
  have he:=List.getElem?_eq_getElem hlt
  have o0:=Zvv m hm sizes mine _ _ 3 0 (-1) (by omega) he (by rw [eM];exact o.zA) (by rw [fM];exact o.zB) (by rw [eM,fM,o.pair.or];exact zM) (by omega) (by omega)
  rw [Zvy he] at o0
  refine Z4p _ _ _ _ _ _ _ _ ?_
  rw [if_pos (by omega)]
  refine ⟨by omega,x.Zt[i],by rw [Int.toNat_natCast];exact List.getElem?_eq_getElem hi,?_⟩
  rw [hB]
  refine ⟨_,x_low l _ hl,k1,_,k2,_,x_low l _ hl,j1,_,j2,_,_,o0,?_⟩
  refine Zvz m hm sizes qa fr l hl o.pair o.left _ fM (by omega) o.zA o.zB zM x i r 5 (Nat.le_refl _) _ (by rw [Zdr];exact h5) ?_
  rw [Zvw _ 5 _ _ _ o.left.up (fun e he=>by have:=o.left.ord e he;omega)]
  refine l_merges m hm hg sizes hcl qa fr l hl o.pair o.left o.right o.zA o.zB zM x i _ (List.getElem?_eq_getElem his) o.len o.vars r 0 (Nat.zero_le _) _ (by rw [Zqg,Zdr];exact h5) ?_
  rw [hw,List.drop_zero]
  exact ih
end Go.Proofs.YtbapkgocloaaeaaGreat
/- part: SG -/
namespace Go.Proofs.YtbapkgocloaaeaaGreat
open Go.AM
theorem Zv0 {m:Zd} {sizes:List Int} {qa:List Atom} {l:List Za} {M:Int} (hg:Zbd m.Sort_) (hcl:Zc3 sizes):∀ {ps:List (Int×List Int)} {mine:List Za},(∀ p∈ps,Zjc m sizes qa l M p.1 p.2)→Zcl m sizes qa M mine→Zcl m sizes qa M (ps.foldl (oneJ m sizes M l) mine)
 | [],_,_,h=>h
 | p::ps,mine,hp,h=>by
  have o:=hp p (by simp)
  rw [List.foldl_cons]
  exact Zv0 hg hcl (fun y hy=>hp y (by simp [hy])) (Zbli o.pair hg hcl o.left o.right o.vars h)
def Zko (m:Zd) (sizes:List Int) (M:Int) (l:List Za) (ps:List (Int×List Int)):List Za:=ps.foldl (oneJ m sizes M l) (List.replicate 5 zE)
theorem Zbll (m:Zd) (hm:LeM m) (hg:Zbd m.Sort_) (sizes:List Int) (hcl:Zc3 sizes) (qa:List Atom) (fr:Bool) (l:List Za) (hl:l.length≤1000) (x:Zv) (zM:SzOk sizes x.mask) (h16:M16 x.mask) (h0:0<x.mask) (hlen:x.Zt.length=x.shared.length) (hx:x.Zt.length≤100) (ok:∀ p∈x.Zt.zip x.shared,Zjc m sizes qa l x.mask p.1 p.2) :
  ∃ fr',Zmn sizes fr l m x=some (.own 2,[.arr 3 1 true (sizes.map ic),.arr 174 4 fr (l.map Za.c),.arr 174 4 fr' (((Zko m sizes x.mask l (x.Zt.zip x.shared)).filter sm).map Za.c)]):=by
 have hs:Zcl m sizes qa x.mask (Zko m sizes x.mask l (x.Zt.zip x.shared)):=Zv0 hg hcl ok (Z6w m sizes qa x.mask)
 obtain ⟨fr',h⟩:=Zblj _ hs.1 sizes fr l 0 (by omega) true [] (Nat.le_refl _)
 rw [List.drop_zero,List.nil_append,Zblk hs h0] at h
 exact ⟨fr',Zbh4 _ _ _ _ _ _ (l_splits m hm hg sizes hcl qa fr l hl x zM h16 hlen hx ok _ 0 (Nat.zero_le _) _ (by simp) (by rw [List.drop_zero];exact h))⟩
end Go.Proofs.YtbapkgocloaaeaaGreat
/- part: SH -/
namespace Go.Proofs.YtbapkgocloaaeaaGreat
open Go.AM
theorem Zblm {m:Zd} {sizes:List Int} {a b:Za} {k v o:Int} (ho:-1≤o∧o≤3) (a0 a1 a2 a3 a4:Za):offJ m sizes a b k v o [a0,a1,a2,a3,a4] =
  [offK 0 a0 (orI a.Mask b.Mask) o (jc m sizes a b k) (Zbt a.Plan.Steps b.Plan.Steps k v),offK 1 a1 (orI a.Mask b.Mask) o (jc m sizes a b k) (Zbt a.Plan.Steps b.Plan.Steps k v),offK 2 a2 (orI a.Mask b.Mask) o (jc m sizes a b k) (Zbt a.Plan.Steps b.Plan.Steps k v),offK 3 a3 (orI a.Mask b.Mask) o (jc m sizes a b k) (Zbt a.Plan.Steps b.Plan.Steps k v),offK 4 a4 (orI a.Mask b.Mask) o (jc m sizes a b k) (Zbt a.Plan.Steps b.Plan.Steps k v)]:=by
 have h5:o=-1∨o=0∨o=1∨o=2∨o=3:=by omega
 rcases h5 with rfl | rfl | rfl | rfl | rfl <;> simp [offJ,offK]
theorem five {mine:List Za} (h:mine.length=5):∃ a0 a1 a2 a3 a4,mine=[a0,a1,a2,a3,a4]:=by
 match mine,h with
 | [a0,a1,a2,a3,a4],_=>exact ⟨a0,a1,a2,a3,a4,rfl⟩
theorem x_offJ (m:Zd) (hm:LeM m) (q:Zb) (hq:LeQ q) (hvq:Zn q.Ze q.Atoms=true) (sizes:List Int) (hs:Le sizes) (hsv:Zbs q.Ze q.Atoms sizes=true) {A B M:Int} (hM16:M16 M) (hM:M≠0) (hp:Pair q.Atoms A B M) {a b:Za} {k v o oa ob:Int} (ho:-1≤o∧o≤3) (hk:3≤k) (ha:a.Mask=A) (hb:b.Mask=B) (ma:Z6 m sizes q.Atoms a.Plan.Steps A oa a.Cost) (mb:Z6 m sizes q.Atoms b.Plan.Steps B ob b.Cost) (hj:Zdb q.Atoms ⟨k,0,v⟩ (A,oa) (B,ob)=some o) (hl:a.Plan.Steps.length+2≤4*popc A∧b.Plan.Steps.length+2≤4*popc B) (a0 a1 a2 a3 a4:Za) :
  ∃ b0 b1 b2 b3 b4 t,offJ m sizes a b k v o [a0,a1,a2,a3,a4]=[b0,b1,b2,b3,b4]∧(t=.dead∨t=.arr 142 3 true ((Zbt a.Plan.Steps b.Plan.Steps k v).map Zc.c))∧Zbr m q sizes M a0 a1 a2 a3 a4 (sm a0) (sm a1) (sm a2) (sm a3) (sm a4) (Zbt a.Plan.Steps b.Plan.Steps k v) o=some (.tup [],[boxO m q sizes M b0 b1 b2 b3 b4 (sm b0) (sm b1) (sm b2) (sm b3) (sm b4),t]):=by
 have hpop:=hp.pop
 have p4:=Zcu hM16
 have mk:=Z6i (x:=⟨k,0,v⟩) ma mb hk rfl hp.dis hp.shr hj
 rw [hp.or] at mk
 have hc:=Z6.cost mk hvq (by simp only [List.length_append,List.length_cons,List.length_nil];omega) hsv
 obtain ⟨t,ht,hx⟩:=Z6k m hm q hq sizes hs M hM a0 a1 a2 a3 a4 (Zbt a.Plan.Steps b.Plan.Steps k v) o ho _ hc
 refine ⟨_,_,_,_,_,t,Zblm ho a0 a1 a2 a3 a4,ht,?_⟩
 rw [hx]
 simp only [jc,ha,hb,hp.or]
end Go.Proofs.YtbapkgocloaaeaaGreat
/- part: IE -/
namespace Go.Proofs.YtbapkgocloaaeaaGreat
open Go.AM
theorem Zny {qa:List Atom} {M A:Int} (h:A∈Zt qa M):1≤A∧A<M∧andI A M=A∧conn qa A=true∧conn qa (M - A)=true:=by
 unfold Zt Zda at h
 rw [List.mem_map] at h
 obtain ⟨k,hk,rfl⟩:=h
 rw [List.mem_filter,List.mem_range'_1] at hk
 obtain ⟨⟨h1,h2⟩,h3⟩:=hk
 simp only [Zb2,Bool.and_eq_true,decide_eq_true_eq] at h3
 exact ⟨by omega,by omega,h3⟩
theorem Zbln {qa:List Atom} {M:Int} {k:Nat} (h1:1≤k) (h2:(k:Int)<M) (h3:Zb2 qa M k=true):(k:Int)∈Zt qa M:=by
 unfold Zt Zda
 rw [List.mem_map]
 exact ⟨k,by rw [List.mem_filter,List.mem_range'_1];exact ⟨⟨h1,by omega⟩,h3⟩,rfl⟩
theorem Zv1 {qa:List Atom} {M:Int} (h:M16 M):(Zt qa M).length≤16:=by
 unfold Zt Zda
 rw [List.length_map]
 refine Nat.le_trans (List.length_filter_le _ _) ?_
 rw [List.length_range']
 omega
set_option maxRecDepth 100000 in
theorem Zblo:∀ a b c d e f g h:Bool,andB (e,f,g,h) (a,b,c,d)=(e,f,g,h)→popc (toI (e,f,g,h))+popc (toI (subB (a,b,c,d) (e,f,g,h)))=popc (toI (a,b,c,d))∧orB (e,f,g,h) (subB (a,b,c,d) (e,f,g,h))=(a,b,c,d)∧andB (e,f,g,h) (subB (a,b,c,d) (e,f,g,h))=(false,false,false,false):=by decide
theorem inN_of {n:Int} {qa:List Atom} (hv:Zn n qa=true) {M:Int} (h:MQ qa M):inN qa.length (ofI M)=true:=by
 have h4:=Zbv hv
 have h16:=(h.m16 hv).1
 obtain ⟨a,rfl⟩:=m16 h16
 have key:∀ a:Fin 16,(a.1<2→inN 1 (ofI (a.1:Int))=true)∧(a.1<4→inN 2 (ofI (a.1:Int))=true)∧(a.1<8→inN 3 (ofI (a.1:Int))=true)∧inN 4 (ofI (a.1:Int))=true:=by decide
 have hk:=key a
 have hl:qa.length=1∨qa.length=2∨qa.length=3∨qa.length=4:=by omega
 have h2:=h.2
 rcases hl with e | e | e | e
 ·rw [e] at h2 ⊢;exact hk.1 (by omega)
 ·rw [e] at h2 ⊢;exact hk.2.1 (by omega)
 ·rw [e] at h2 ⊢;exact hk.2.2.1 (by omega)
 ·rw [e] at h2 ⊢;exact hk.2.2.2
theorem okf1 (g:Ed) {n:Nat} (hn:1≤n∧n≤4) (p:B4):okF1 g n p=true:=by
 have:=f1 g.a g.b g.c g.d g.e g.f p.1 p.2.1 p.2.2.1 p.2.2.2
 have hl:n=1∨n=2∨n=3∨n=4:=by omega
 rcases hl with rfl | rfl | rfl | rfl
 ·exact this.1
 ·exact this.2.1
 ·exact this.2.2.1
 ·exact this.2.2.2
theorem okf2 (g:Ed) {n:Nat} (hn:1≤n∧n≤4) (p x:B4):okF2 g n p x=true:=by
 have:=f2 g.a g.b g.c g.d g.e g.f p.1 p.2.1 p.2.2.1 p.2.2.2 x.1 x.2.1 x.2.2.1 x.2.2.2
 have hl:n=1∨n=2∨n=3∨n=4:=by omega
 rcases hl with rfl | rfl | rfl | rfl
 ·exact this.1
 ·exact this.2.1
 ·exact this.2.2.1
 ·exact this.2.2.2
theorem Zblp {n:Int} {qa:List Atom} (hv:Zn n qa=true) {M A:Int} (hM:MQ qa M) (hc:conn qa M=true) (h:A∈Zt qa M):Pair qa A (M - A) M:=by
 obtain ⟨h1,h2,h3,_,_⟩:=Zny h
 have h16:=(hM.m16 hv).1
 have a16:M16 A:=by omega
 have b16:M16 (M - A):=by omega
 have eM:=Zvq h16
 have eA:=Zvq a16
 have hsub:andB (ofI A) (ofI M)=ofI A:=by
  apply Zvr
  rw [← Zp8,eM,eA];exact h3
 have eB:=Z59 hsub
 rw [eM,eA] at eB
 have hp:=Zblo (ofI M).1 (ofI M).2.1 (ofI M).2.2.1 (ofI M).2.2.2 (ofI A).1 (ofI A).2.1 (ofI A).2.2.1 (ofI A).2.2.2 hsub
 have hp1:popc (toI (ofI A))+popc (toI (subB (ofI M) (ofI A)))=popc (toI (ofI M)):=hp.1
 have hp2:orB (ofI A) (subB (ofI M) (ofI A))=ofI M:=hp.2.1
 have hp3:andB (ofI A) (subB (ofI M) (ofI A))=(false,false,false,false):=hp.2.2
 refine ⟨a16,b16,?_,?_,?_,?_⟩
 ·rw [eB]
  have:=toI_or (ofI A) (subB (ofI M) (ofI A))
  rw [hp2,eM,eA] at this
  exact this
 ·rw [eB]
  have:=Zp8 (ofI A) (subB (ofI M) (ofI A))
  rw [hp3,eA] at this
  exact this
 ·rw [eB]
  have:=edge_bit (Zbv hv).2 (ofI A) (subB (ofI M) (ofI A)) hp3
  rw [eA] at this
  rw [this]
  have h5:=okf2 (edOf qa) (Zbv hv) (ofI M) (ofI A)
  have hcb:=Znv hv (ofI M)
  rw [eM,hc] at hcb
  have hin:=inN_of hv hM
  have n0:ofI A≠(false,false,false,false):=fun he=>by
   rw [he] at eA
   have:toI (false,false,false,false)=0:=rfl
   omega
  have nM:ofI A≠ofI M:=fun he=>by rw [he,eM] at eA;omega
  unfold okF2 at h5
  rw [hsub,← hcb,hin] at h5
  simpa [n0,nM] using h5
 ·rw [eB]
  rw [eM,eA] at hp1
  exact hp1
theorem split_ne {n:Int} {qa:List Atom} (hv:Zn n qa=true) {M:Int} (hM:MQ qa M) (h0:M≠0) (hc:conn qa M=true) (h1:oneB (ofI M)=false):Zt qa M≠[]:=by
 have h16:=(hM.m16 hv).1
 have eM:=Zvq h16
 have h5:=okf1 (edOf qa) (Zbv hv) (ofI M)
 have hcb:=Znv hv (ofI M)
 rw [eM,hc] at hcb
 have hin:=inN_of hv hM
 have nz:ofI M≠(false,false,false,false):=fun he=>by
  rw [he] at eM
  have:toI (false,false,false,false)=0:=rfl
  omega
 have one:∀ (x:B4) (k:Nat),toI x=(k:Int)→1≤k→oneB x=true→andB x x=x→Zb3 (edOf qa) qa.length x=true→andB (ofI M) x≠(false,false,false,false)→(andB (ofI M) x=x)→Zb3 (edOf qa) qa.length (subB (ofI M) x)=true→Zt qa M≠[]:=by
  intro x k hk hk1 hx hxx hcx hne hsub hcs
  have hsub':andB x (ofI M)=x:=by
   have:andB x (ofI M)=andB (ofI M) x:=by
    obtain ⟨a,b,c,d⟩:=x
    show (a && (ofI M).1,b && (ofI M).2.1,c && (ofI M).2.2.1,d && (ofI M).2.2.2)=((ofI M).1 && a,(ofI M).2.1 && b,(ofI M).2.2.1 && c,(ofI M).2.2.2 && d)
    simp only [Bool.and_comm]
   rw [this,hsub]
  have e1:=Z59 hsub'
  rw [eM,hk] at e1
  have hxm:x≠ofI M:=fun he=>by rw [← he,hx] at h1;cases h1
  have hle:(k:Int)<M:=by
   have q1:=toI_16 (subB (ofI M) x)
   have q2:toI (subB (ofI M) x)≠0:=by
    intro hz
    apply hxm
    apply Zvr
    rw [eM,hk];omega
   omega
  have:(k:Int)∈Zt qa M:=by
   refine Zbln hk1 hle ?_
   unfold Zb2
   rw [e1,Znv hv,hcs,← hk,Znv hv,hcx]
   have:andI (toI x) M=toI x:=by
    have:=Zp8 x (ofI M)
    rw [eM,hsub'] at this
    exact this
   rw [this];simp
  exact List.ne_nil_of_mem this
 have c1:∀ (g:Ed) (n:Nat),1≤n∧n≤4→Zb3 g n (true,false,false,false)=true∧Zb3 g n (false,true,false,false)=true∧Zb3 g n (false,false,true,false)=true∧Zb3 g n (false,false,false,true)=true:=by
  have key:∀ a b c d e f:Bool,∀ n:Fin 5,1≤n.1→Zb3 ⟨a,b,c,d,e,f⟩ n.1 (true,false,false,false)=true∧Zb3 ⟨a,b,c,d,e,f⟩ n.1 (false,true,false,false)=true∧Zb3 ⟨a,b,c,d,e,f⟩ n.1 (false,false,true,false)=true∧Zb3 ⟨a,b,c,d,e,f⟩ n.1 (false,false,false,true)=true:=by decide
  intro g n hn
  exact key g.a g.b g.c g.d g.e g.f ⟨n,by omega⟩ hn.1
 obtain ⟨k0,k1,k2,k3⟩:=c1 (edOf qa) qa.length (Zbv hv)
 have sel:∀ a b c d:Bool,(¬ andB (a,b,c,d) (true,false,false,false)=(false,false,false,false)→andB (a,b,c,d) (true,false,false,false)=(true,false,false,false))∧(¬ andB (a,b,c,d) (false,true,false,false)=(false,false,false,false)→andB (a,b,c,d) (false,true,false,false)=(false,true,false,false))∧(¬ andB (a,b,c,d) (false,false,true,false)=(false,false,false,false)→andB (a,b,c,d) (false,false,true,false)=(false,false,true,false))∧(¬ andB (a,b,c,d) (false,false,false,true)=(false,false,false,false)→andB (a,b,c,d) (false,false,false,true)=(false,false,false,true)):=by
  intro a b c d
  cases a <;> cases b <;> cases c <;> cases d <;> simp [andB]
 have hs:=sel (ofI M).1 (ofI M).2.1 (ofI M).2.2.1 (ofI M).2.2.2
 unfold okF1 at h5
 rw [hin,← hcb,h1] at h5
 have nz':(ofI M == (false,false,false,false))=false:=by simpa using nz
 rw [nz'] at h5
 simp only [Bool.not_true,Bool.false_or,Bool.or_eq_true,Bool.and_eq_true,bne_iff_ne,ne_eq] at h5
 rcases h5 with ((h5 | h5) | h5) | h5
 ·exact one _ 1 rfl (by omega) rfl rfl k0 h5.1 (hs.1 h5.1) h5.2
 ·exact one _ 2 rfl (by omega) rfl rfl k1 h5.1 (hs.2.1 h5.1) h5.2
 ·exact one _ 4 rfl (by omega) rfl rfl k2 h5.1 (hs.2.2.1 h5.1) h5.2
 ·exact one _ 8 rfl (by omega) rfl rfl k3 h5.1 (hs.2.2.2 h5.1) h5.2
end Go.Proofs.YtbapkgocloaaeaaGreat
/- part: IA -/
namespace Go.Proofs.YtbapkgocloaaeaaGreat
open Go.AM
structure Base (m:Zd) (q:Zb) (sizes:List Int):Prop where
 hm:LeM m
 hg:Zbd m.Sort_
 hq:LeQ q
 hv:Zn q.Ze q.Atoms=true
 hs:Le sizes
 hcl:Zc3 sizes
 hsv:Zbs q.Ze q.Atoms sizes=true
theorem i_merges {m:Zd} {q:Zb} {sizes:List Int} (b:Base m q sizes) {A B M:Int} (hM16:M16 M) (hM:M≠0) (hp:Pair q.Atoms A B M) {E F:List Za} (hE:Held m sizes q.Atoms A E) (hF:Held m sizes q.Atoms B F)
  (sh:List Int) (hl4:sh.length≤1000) (hv:∀ v∈sh,(-1≤v∧v≤3)∧vin q.Atoms A v=true∧vin q.Atoms B v=true)
  (fr:Bool) (table:List (List Za)) (fr1:Bool) (out:List Za) (x x1:List Int) (x3 x4 x5 x6:Int) (r:AV×List Blk) :
  ∀ i,i≤sh.length→∀ a0 a1 a2 a3 a4:Za,(∀ b0 b1 b2 b3 b4,(sh.drop i).foldl (Zeu m sizes A B E F) [a0,a1,a2,a3,a4]=[b0,b1,b2,b3,b4] →
   Zdj m q fr table fr1 out m q sizes M b0 b1 b2 b3 b4 (sm b0) (sm b1) (sm b2) (sm b3) (sm b4) x x1 sizes M x3 x4 x5 (w (x6+1))=some r) →
  Zco m q fr table fr1 out m q sizes M a0 a1 a2 a3 a4 (sm a0) (sm a1) (sm a2) (sm a3) (sm a4) x x1 sh sizes M E F x3 x4 x5 x6 sh.length i=some r:=by
 have pA:=Zcu hp.a16
 have pB:=Zcu hp.b16
 refine down _ ?_ ?_
 ·intro a0 a1 a2 a3 a4 h
  refine Z3u _ _ _ _ _ _ _ _ _ _ _ _ _ _ _ _ _ _ _ _ _ _ _ _ _ _ _ _ _ _ _ _ _ _ ?_
  rw [if_neg (by omega)]
  exact h _ _ _ _ _ (by simp)
 ·intro i hi ih a0 a1 a2 a3 a4 h
  have h4:=inc64 (i:=i) (by omega)
  have hw:w ((i:Int)+1)=((i+1:Nat):Int):=by rw [show w ((i:Int)+1)=(i:Int)+1 from h4];simp
  rw [List.drop_eq_getElem_cons hi,List.foldl_cons] at h
  obtain ⟨v1,v2,v3⟩:=hv sh[i] (List.getElem_mem hi)
  obtain ⟨k1,k2,k3,k4,k5⟩:=Zhd hE b.hg b.hcl hp.a16 v2
  obtain ⟨j1,j2,j3,j4,j5⟩:=Zhd hF b.hg b.hcl hp.b16 v3
  obtain ⟨b0,b1,b2,b3,b4,t,hJ,ht,hx⟩:=x_offJ m b.hm q b.hq b.hv sizes b.hs b.hsv hM16 hM hp (a:=inp m sizes A E sh[i]) (b:=inp m sizes B F sh[i]) (k:=4) (v:=sh[i]) v1 (by omega) k1 j1 k3 j3 (Z6j v2 v3 rfl rfl) ⟨k5,j5⟩ a0 a1 a2 a3 a4
  rw [show Zeu m sizes A B E F [a0,a1,a2,a3,a4] sh[i]=[b0,b1,b2,b3,b4] from hJ] at h
  have ih:=ih b0 b1 b2 b3 b4 h
  refine Z3u _ _ _ _ _ _ _ _ _ _ _ _ _ _ _ _ _ _ _ _ _ _ _ _ _ _ _ _ _ _ _ _ _ _ ?_
  rw [if_pos (by omega)]
  refine ⟨by omega,sh[i],by rw [Int.toNat_natCast];exact List.getElem?_eq_getElem hi,?_⟩
  rw [hw]
  rcases Zvt m b.hm b.hg q b.hq b.hv sizes b.hs b.hcl b.hsv hp.a16 hE v2 with ha | ha
  ·refine .inl ⟨_,ha,?_⟩
   rcases Zvt m b.hm b.hg q b.hq b.hv sizes b.hs b.hcl b.hsv hp.b16 hF v3 with hb | hb
   ·refine .inl ⟨_,hb,_,Zkm _ _ _ _ (by omega) (by omega),?_⟩
    rcases ht with rfl | rfl
    ·exact .inl ⟨m,q,sizes,M,b0,b1,b2,b3,b4,_,_,_,_,_,hx,ih⟩
    ·exact .inr ⟨m,q,sizes,M,b0,b1,b2,b3,b4,_,_,_,_,_,_,hx,ih⟩
   ·refine .inr ⟨_,hb,_,Zkm _ ⟨(inp m sizes B F sh[i]).Plan.Steps⟩ _ _ (by omega) (by show (inp m sizes B F sh[i]).Plan.Steps.length≤1000;omega),?_⟩
    rcases ht with rfl | rfl
    ·exact .inl ⟨m,q,sizes,M,b0,b1,b2,b3,b4,_,_,_,_,_,hx,ih⟩
    ·exact .inr ⟨m,q,sizes,M,b0,b1,b2,b3,b4,_,_,_,_,_,_,hx,ih⟩
  ·refine .inr ⟨_,ha,?_⟩
   rcases Zvt m b.hm b.hg q b.hq b.hv sizes b.hs b.hcl b.hsv hp.b16 hF v3 with hb | hb
   ·refine .inl ⟨_,hb,_,Zkm ⟨(inp m sizes A E sh[i]).Plan.Steps⟩ _ _ _ (by show (inp m sizes A E sh[i]).Plan.Steps.length≤1000;omega) (by omega),?_⟩
    rcases ht with rfl | rfl
    ·exact .inl ⟨m,q,sizes,M,b0,b1,b2,b3,b4,_,_,_,_,_,hx,ih⟩
    ·exact .inr ⟨m,q,sizes,M,b0,b1,b2,b3,b4,_,_,_,_,_,_,hx,ih⟩
   ·refine .inr ⟨_,hb,_,Zkm ⟨(inp m sizes A E sh[i]).Plan.Steps⟩ ⟨(inp m sizes B F sh[i]).Plan.Steps⟩ _ _ (by show (inp m sizes A E sh[i]).Plan.Steps.length≤1000;omega) (by show (inp m sizes B F sh[i]).Plan.Steps.length≤1000;omega),?_⟩
    rcases ht with rfl | rfl
    ·exact .inl ⟨m,q,sizes,M,b0,b1,b2,b3,b4,_,_,_,_,_,hx,ih⟩
    ·exact .inr ⟨m,q,sizes,M,b0,b1,b2,b3,b4,_,_,_,_,_,_,hx,ih⟩
theorem i_nested {m:Zd} {q:Zb} {sizes:List Int} (b:Base m q sizes) {A B M:Int} (hM16:M16 M) (hM:M≠0) (hp:Pair q.Atoms A B M) {E F:List Za} (hE:Held m sizes q.Atoms A E) (hF:Held m sizes q.Atoms B F)
  (sh:List Int) (hsh:Zh5 q A (andNotI M A)=some (.own 0,[.arr 3 1 true (sh.map ic)]))
  (fr:Bool) (table:List (List Za)) (fr1:Bool) (out:List Za) (x x1:List Int) (x3 x4 x5 x6:Int) (r:AV×List Blk) :
  ∀ i,i≤E.length→∀ a0 a1 a2 a3 a4:Za,(∀ b0 b1 b2 b3 b4,(E.drop i).foldl (Zef m sizes (Zz F)) [a0,a1,a2,a3,a4]=[b0,b1,b2,b3,b4] →
   Zco m q fr table fr1 out m q sizes M b0 b1 b2 b3 b4 (sm b0) (sm b1) (sm b2) (sm b3) (sm b4) x x1 sh sizes M E F x3 x4 x5 x6 sh.length 0=some r) →
  Zel m q fr table fr1 out m q sizes M a0 a1 a2 a3 a4 (sm a0) (sm a1) (sm a2) (sm a3) (sm a4) (Zz F).Plan x x1 sizes M A E F x3 x4 x5 x6 E E.length i=some r:=by
 have pA:=Zcu hp.a16
 have pB:=Zcu hp.b16
 have lF:=hF.len _ hF.best
 have hle:=hE.le
 refine down _ ?_ ?_
 ·intro a0 a1 a2 a3 a4 h
  refine Z3t _ _ _ _ _ _ _ _ _ _ _ _ _ _ _ _ _ _ _ _ _ _ _ _ _ _ _ _ _ _ _ _ _ _ _ _ ?_
  rw [if_neg (by omega)]
  exact ⟨sh,hsh,h _ _ _ _ _ (by simp)⟩
 ·intro i hi ih a0 a1 a2 a3 a4 h
  have h4:=inc64 (i:=i) (by omega)
  have hw:w ((i:Int)+1)=((i+1:Nat):Int):=by rw [show w ((i:Int)+1)=(i:Int)+1 from h4];simp
  rw [List.drop_eq_getElem_cons hi,List.foldl_cons] at h
  have hmem:=List.getElem_mem hi
  have lE:=hE.len _ hmem
  obtain ⟨b0,b1,b2,b3,b4,t,hJ,ht,hx⟩:=x_offJ m b.hm q b.hq b.hv sizes b.hs b.hsv hM16 hM hp (a:=E[i]) (b:=Zz F) (k:=5) (v:=0) (hE.ord _ hmem) (by omega) (hE.mask _ hmem) (hF.mask _ hF.best) (hE.makes _ hmem) (hF.makes _ hF.best) nest_p ⟨by omega,by omega⟩ a0 a1 a2 a3 a4
  rw [show Zef m sizes (Zz F) [a0,a1,a2,a3,a4] E[i]=[b0,b1,b2,b3,b4] from hJ] at h
  have ih:=ih b0 b1 b2 b3 b4 h
  refine Z3t _ _ _ _ _ _ _ _ _ _ _ _ _ _ _ _ _ _ _ _ _ _ _ _ _ _ _ _ _ _ _ _ _ _ _ _ ?_
  rw [if_pos (by omega)]
  refine ⟨by omega,E[i],by rw [Int.toNat_natCast];exact List.getElem?_eq_getElem hi,?_⟩
  rw [hw]
  refine ⟨_,Zkm _ _ _ _ (by omega) (by omega),?_⟩
  rcases ht with rfl | rfl
  ·exact .inl ⟨m,q,sizes,M,b0,b1,b2,b3,b4,_,_,_,_,_,hx,ih⟩
  ·exact .inr ⟨m,q,sizes,M,b0,b1,b2,b3,b4,_,_,_,_,_,_,hx,ih⟩
end Go.Proofs.YtbapkgocloaaeaaGreat
/- part: IC -/
namespace Go.Proofs.YtbapkgocloaaeaaGreat
open Go.AM
structure Z6z (m:Zd) (q:Zb) (sizes:List Int) (out:List Za) (table:List (List Za)) (M A:Int) (sh:List Int):Prop where
 ok:Zjc m sizes q.Atoms out M A sh
 diff:andNotI M A=M - A
 sh:Zh5 q A (andNotI M A)=some (.own 0,[.arr 3 1 true (sh.map ic)])
 tA:table[A.toNat]?=some (ofM out A)
 tB:table[(M - A).toNat]?=some (ofM out (M - A))
theorem i_splits {m:Zd} {q:Zb} {sizes:List Int} (b:Base m q sizes) {M:Int} (hM16:M16 M) (hM:M≠0) (table:List (List Za)) (ht:M.toNat<table.length) (out:List Za) (hout:out.length≤1000) (ps:List (Int×List Int)) (hps:ps.length≤100)
  (ok:∀ p∈ps,Z6z m q sizes out table M p.1 p.2) (fr fr1:Bool) (x:List Int) (x2 x3:Int) (r:AV×List Blk) :
  ∀ i,i≤ps.length→∀ a0 a1 a2 a3 a4:Za,(∀ f1 E,((ps.drop i).foldl (oneJ m sizes M out) [a0,a1,a2,a3,a4]).filter sm=E →
   Zff m q f1 (table.set M.toNat E) (fr1 && flat (E.map Za.c)) (out++E) x sizes x2 (w (x3+1))=some r) →
  Zdj m q fr table fr1 out m q sizes M a0 a1 a2 a3 a4 (sm a0) (sm a1) (sm a2) (sm a3) (sm a4) x (ps.map Prod.fst) sizes M x2 x3 ps.length i=some r:=by
 refine down _ ?_ ?_
 ·intro a0 a1 a2 a3 a4 h
  refine Z3r _ _ _ _ _ _ _ _ _ _ _ _ _ _ _ _ _ _ _ _ _ _ _ _ _ _ _ _ _ ?_
  rw [if_neg (by omega)]
  obtain ⟨fr',he⟩:=Zbk8 m q sizes M a0 a1 a2 a3 a4
  have hl:(there a0 a1 a2 a3 a4).length≤5:=List.length_filter_le _ _
  exact ⟨fr',there a0 a1 a2 a3 a4,he,by omega,_,List.getElem?_eq_getElem ht,by omega,h _ _ (by rw [List.drop_length];rfl)⟩
 ·intro i hi ih a0 a1 a2 a3 a4 h
  have h4:=inc64 (i:=i) (by omega)
  have hw:w ((i:Int)+1)=((i+1:Nat):Int):=by rw [show w ((i:Int)+1)=(i:Int)+1 from h4];simp
  rw [List.drop_eq_getElem_cons hi,List.foldl_cons] at h
  obtain ⟨o,hd,hsh,tA,tB⟩:=ok _ (List.getElem_mem hi)
  have hget:(ps.map Prod.fst)[i]?=some ps[i].1:=by rw [List.getElem?_map,List.getElem?_eq_getElem hi];rfl
  generalize ps[i]=p at *
  obtain ⟨A,sh⟩:=p
  simp only at o hd hsh tA tB hget
  have hp:=o.pair
  have hE:=o.left
  have hF:=o.right
  have pA:=Zcu hp.a16
  have pB:=Zcu hp.b16
  have lE:=hE.len _ hE.best
  have lF:=hF.len _ hF.best
  have leE:=hE.le
  have leF:=hF.le
  obtain ⟨b0,b1,b2,b3,b4,t,hJ,htt,hx⟩:=x_offJ m b.hm q b.hq b.hv sizes b.hs b.hsv hM16 hM hp (a:=Zz (ofM out A)) (b:=Zz (ofM out (M - A))) (k:=3) (v:=0) (o:=-1) (by omega) (by omega) (hE.mask _ hE.best) (hF.mask _ hF.best) (hE.makes _ hE.best) (hF.makes _ hF.best) hash_p ⟨by omega,by omega⟩ a0 a1 a2 a3 a4
  have hone:oneJ m sizes M out [a0,a1,a2,a3,a4] (A,sh)=sh.foldl (Zeu m sizes A (M - A) (ofM out A) (ofM out (M - A))) ((ofM out A).foldl (Zef m sizes (Zz (ofM out (M - A)))) [b0,b1,b2,b3,b4]):=by
   unfold oneJ Zjb
   rw [← hJ]
  rw [hone] at h
  have hnext:Zel m q fr table fr1 out m q sizes M b0 b1 b2 b3 b4 (sm b0) (sm b1) (sm b2) (sm b3) (sm b4) (Zz (ofM out (M - A))).Plan x (ps.map Prod.fst) sizes M A (ofM out A) (ofM out (M - A)) x2 x3 ps.length i (ofM out A) (ofM out A).length 0=some r:=by
   refine i_nested b hM16 hM hp hE hF sh hsh fr table fr1 out x _ x2 x3 _ _ r 0 (Nat.zero_le _) b0 b1 b2 b3 b4 ?_
   intro c0 c1 c2 c3 c4 hc
   refine i_merges b hM16 hM hp hE hF sh o.len o.vars fr table fr1 out x _ x2 x3 _ _ r 0 (Nat.zero_le _) c0 c1 c2 c3 c4 ?_
   intro d0 d1 d2 d3 d4 hdd
   rw [hw]
   rw [List.drop_zero] at hc hdd
   rw [hc,hdd] at h
   exact ih d0 d1 d2 d3 d4 h
  refine Z3r _ _ _ _ _ _ _ _ _ _ _ _ _ _ _ _ _ _ _ _ _ _ _ _ _ _ _ _ _ ?_
  rw [if_pos (by omega)]
  refine ⟨by omega,A,by rw [Int.toNat_natCast];exact hget,hp.a16.1,_,tA,by rw [hd];exact hp.b16.1,_,by rw [hd];exact tB,_,Zqd _ hF.ne (by omega),_,Zqd _ hE.ne (by omega),_,Zkm _ _ _ _ (by omega) (by omega),?_⟩
  rcases htt with rfl | rfl
  ·exact .inl ⟨m,q,sizes,M,b0,b1,b2,b3,b4,_,_,_,_,_,hx,hnext⟩
  ·exact .inr ⟨m,q,sizes,M,b0,b1,b2,b3,b4,_,_,_,_,_,_,hx,hnext⟩
end Go.Proofs.YtbapkgocloaaeaaGreat
/- part: IF -/
namespace Go.Proofs.YtbapkgocloaaeaaGreat
open Go.AM
def Zb5 (q:Zb) (M:Int):List (Int×List Int):=(Zt q.Atoms M).map fun A=>(A,Zed q A (M - A))
def Zhe (m:Zd) (sizes:List Int) (q:Zb) (M a:Int):Za:=⟨M,((q.Atoms[a.toNat]?).map fun x=>x.Vars.headD 0).getD 0,Z9 m.Scan (szAt sizes M) 0 (szAt sizes M),⟨[⟨1,a,0⟩]⟩⟩
def entM (m:Zd) (sizes:List Int) (q:Zb) (out:List Za) (M:Int):List Za:=match Zck M with
 | [a]=>[Zhe m sizes q M a]
 | _=>(Zko m sizes M out (Zb5 q M)).filter sm
theorem Z60:∀ a:Fin 16,(oneB (ofI (a.1:Int))=true→(Zck (a.1:Int)=[((0:Nat):Int)]∧(a.1:Int)=shlI 1 (0:Nat))∨(Zck (a.1:Int)=[((1:Nat):Int)]∧(a.1:Int)=shlI 1 (1:Nat))∨(Zck (a.1:Int)=[((2:Nat):Int)]∧(a.1:Int)=shlI 1 (2:Nat))∨(Zck (a.1:Int)=[((3:Nat):Int)]∧(a.1:Int)=shlI 1 (3:Nat)))∧(oneB (ofI (a.1:Int))=false→(Zck (a.1:Int)).length≠1):=by decide
theorem Zv2 {M:Int} (h:M16 M) (ho:oneB (ofI M)=true):∃ i:Nat,i<4∧Zck M=[(i:Int)]∧M=shlI 1 i:=by
 obtain ⟨a,rfl⟩:=m16 h
 rcases (Z60 a).1 ho with h | h | h | h
 ·exact ⟨0,by omega,h⟩
 ·exact ⟨1,by omega,h⟩
 ·exact ⟨2,by omega,h⟩
 ·exact ⟨3,by omega,h⟩
theorem Zv3 {M:Int} (h:M16 M) (ho:oneB (ofI M)=false):(Zck M).length≠1:=by
 obtain ⟨a,rfl⟩:=m16 h
 exact (Z60 a).2 ho
theorem Zv4 {m:Zd} {sizes:List Int} {q:Zb} {out:List Za} {M a:Int} (h:Zck M=[a]):entM m sizes q out M=[Zhe m sizes q M a]:=by unfold entM;rw [h]
theorem Zv5 {m:Zd} {sizes:List Int} {q:Zb} {out:List Za} {M:Int} (h:(Zck M).length≠1):entM m sizes q out M=(Zko m sizes M out (Zb5 q M)).filter sm:=by
 unfold entM
 split
 ·rename_i a e;rw [e] at h;simp at h
 ·rfl
theorem Zv6 {m:Zd} {sizes:List Int} {a b:Za} {k v o:Int} (ho:-1≤o∧o≤3) (hM:orI a.Mask b.Mask≠0) {mine:List Za} (h5:mine.length=5):(offJ m sizes a b k v o mine).filter sm≠[]:=by
 refine List.ne_nil_of_mem (a:=offE ((mine[(o+1).toNat]?).getD zE) (orI a.Mask b.Mask) o (jc m sizes a b k) (Zbt a.Plan.Steps b.Plan.Steps k v)) (List.mem_filter.2 ⟨?_,sm_off hM⟩)
 unfold offJ
 exact List.mem_set (by omega) _
theorem Z61 {m:Zd} {sizes:List Int} {b:Za}:∀ {E mine:List Za},(∀ e∈E,(-1≤e.Order∧e.Order≤3)∧orI e.Mask b.Mask≠0)→mine.length=5→mine.filter sm≠[]→(E.foldl (Zef m sizes b) mine).filter sm≠[]
 | [],_,_,_,h=>h
 | e::E,mine,he,h5,h=>by
  rw [List.foldl_cons]
  obtain ⟨e1,e2⟩:=he e (by simp)
  exact Z61 (fun x hx=>he x (by simp [hx])) (by rw [show (Zef m sizes b mine e).length=mine.length from Zdr];exact h5) (Zv6 e1 e2 h5)
theorem Z62 {m:Zd} {sizes:List Int} {A B:Int} {E F:List Za}:∀ {sh:List Int} {mine:List Za},(∀ v∈sh,(-1≤v∧v≤3)∧orI (inp m sizes A E v).Mask (inp m sizes B F v).Mask≠0)→mine.length=5→mine.filter sm≠[]→(sh.foldl (Zeu m sizes A B E F) mine).filter sm≠[]
 | [],_,_,_,h=>h
 | v::sh,mine,he,h5,h=>by
  rw [List.foldl_cons]
  obtain ⟨e1,e2⟩:=he v (by simp)
  exact Z62 (fun x hx=>he x (by simp [hx])) (by rw [show (Zeu m sizes A B E F mine v).length=mine.length from Zdr];exact h5) (Zv6 e1 e2 h5)
theorem one_some {m:Zd} {sizes:List Int} {qa:List Atom} {M:Int} {l:List Za} {p:Int×List Int} (hM:M≠0) (hg:Zbd m.Sort_) (hcl:Zc3 sizes) (o:Zjc m sizes qa l M p.1 p.2) {mine:List Za} (h5:mine.length=5):(oneJ m sizes M l mine p).filter sm≠[]:=by
 have hp:=o.pair
 unfold oneJ Zjb
 refine Z62 (fun v hv=>⟨(o.vars v hv).1,?_⟩) (by rw [Zqg,Zdr];exact h5) (Z61 (fun e he=>⟨o.left.ord e he,?_⟩) (by rw [Zdr];exact h5) (Zv6 (by omega) ?_ h5))
 ·rw [(Zhd o.left hg hcl hp.a16 (o.vars v hv).2.1).1,(Zhd o.right hg hcl hp.b16 (o.vars v hv).2.2).1,hp.or];exact hM
 ·rw [o.left.mask e he,o.right.mask _ o.right.best,hp.or];exact hM
 ·rw [o.left.mask _ o.left.best,o.right.mask _ o.right.best,hp.or];exact hM
theorem Z63 {m:Zd} {sizes:List Int} {qa:List Atom} {M:Int} {l:List Za} (hM:M≠0) (hg:Zbd m.Sort_) (hcl:Zc3 sizes):∀ {ps:List (Int×List Int)} {mine:List Za},(∀ p∈ps,Zjc m sizes qa l M p.1 p.2)→mine.length=5→(ps≠[]∨mine.filter sm≠[])→(ps.foldl (oneJ m sizes M l) mine).filter sm≠[]
 | [],_,_,_,h=>by rcases h with h | h;exact absurd rfl h;exact h
 | p::ps,mine,hp,h5,_=>by
  rw [List.foldl_cons]
  exact Z63 hM hg hcl (fun x hx=>hp x (by simp [hx])) (by rw [show (oneJ m sizes M l mine p).length=mine.length from Z6v];exact h5) (.inr (one_some hM hg hcl (hp p (by simp)) h5))
structure Inv (m:Zd) (sizes:List Int) (q:Zb) (done:List Int) (out:List Za):Prop where
 held:∀ M∈done,Held m sizes q.Atoms M (ofM out M)
 only:∀ e∈out,e.Mask∈done
 len:out.length≤5*done.length
theorem Zblq {q:Zb} (hv:Zn q.Ze q.Atoms=true) {A B:Int}:∀ v∈Zed q A B,(-1≤v∧v≤3)∧vin q.Atoms A v=true∧vin q.Atoms B v=true:=by
 intro v hvm
 unfold Zed at hvm
 rw [List.mem_filter] at hvm
 obtain ⟨h1,h2⟩:=hvm
 rw [Zfz] at h2
 have key:∀ m,v∈Zc2 q m→(0≤v∧v≤3)∧vin q.Atoms m v=true:=by
  intro m hm
  unfold Zc2 varL at hm
  rw [List.mem_map] at hm
  obtain ⟨u,hu,rfl⟩:=hm
  rw [List.mem_filter,List.mem_range] at hu
  have hn:=Zdd hv
  refine ⟨by omega,?_⟩
  unfold vin
  rw [Bool.and_eq_true]
  exact ⟨by simp [inR];omega,by rw [Int.toNat_natCast];exact hu.2⟩
 obtain ⟨k1,k2⟩:=key A h1
 obtain ⟨k3,k4⟩:=key B h2
 exact ⟨by omega,k2,k4⟩
theorem Zblr {q:Zb} (hv:Zn q.Ze q.Atoms=true) (A B:Int):(Zed q A B).length≤1000:=by
 have:=Znt q hv A
 unfold Zed
 have:=List.length_filter_le (has (Zc2 q B)) (Zc2 q A)
 omega
theorem Zbf {q:Zb} {sizes:List Int} (hsv:Zbs q.Ze q.Atoms sizes=true) {M:Int} (h:MQ q.Atoms M):SzOk sizes M:=by
 unfold Zbs at hsv
 simp only [Bool.and_eq_true,decide_eq_true_eq] at hsv
 have hf:=Zeb hsv.1.1
 have h1:=h.1
 have h2:=h.2
 have hl:M.toNat<sizes.length:=by omega
 refine ⟨h1,?_⟩
 unfold szAt
 rw [List.getElem?_eq_getElem hl];rfl
theorem Zv7 {qa:List Atom} {M A:Int} (hM:MQ qa M) (h:A∈Zt qa M):MQ qa A∧MQ qa (M - A):=by
 obtain ⟨h1,h2,_⟩:=Zny h
 have:=hM.2
 exact ⟨⟨by omega,by omega⟩,⟨by omega,by omega⟩⟩
theorem Zv8 {m:Zd} {q:Zb} {sizes:List Int} (b:Base m q sizes) {done:List Int} {out:List Za} (hi:Inv m sizes q done out) {M:Int} (hM:MQ q.Atoms M) (hc:conn q.Atoms M=true) (hd:∀ A∈Zt q.Atoms M,A∈done∧M - A∈done):∀ p∈Zb5 q M,Zjc m sizes q.Atoms out M p.1 p.2:=by
 intro p hp
 unfold Zb5 at hp
 rw [List.mem_map] at hp
 obtain ⟨A,hA,rfl⟩:=hp
 obtain ⟨d1,d2⟩:=hd A hA
 obtain ⟨q1,q2⟩:=Zv7 hM hA
 exact ⟨Zblp b.hv hM hc hA,hi.held A d1,hi.held _ d2,Zbf b.hsv q1,Zbf b.hsv q2,Zblr b.hv _ _,Zblq b.hv⟩
theorem Zv9 {m:Zd} {q:Zb} {sizes:List Int} (b:Base m q sizes) {done:List Int} {out:List Za} (hi:Inv m sizes q done out) {M:Int} (hM:MQ q.Atoms M) (h0:M≠0) (hc:conn q.Atoms M=true) (hd:∀ A∈Zt q.Atoms M,A∈done∧M - A∈done):Held m sizes q.Atoms M (entM m sizes q out M):=by
 have h16:=(hM.m16 b.hv).1
 cases ho:oneB (ofI M) with
 | true =>
  obtain ⟨i,hi4,ha,rfl⟩:=Zv2 h16 ho
  rw [Zv4 ha]
  have hl:i<q.Atoms.length:=by
   have h2:=hM.2
   have hl4:=Zbv b.hv
   have e:shlI 1 (i:Nat)=2 ^ i:=by
    have:i=0∨i=1∨i=2∨i=3:=by omega
    rcases this with rfl | rfl | rfl | rfl <;> decide
   rw [e] at h2
   have h3:(2:Int) ^ i<2 ^ q.Atoms.length:=h2
   rw [← Zec,← Zec] at h3
   have h4:2 ^ i<2 ^ q.Atoms.length:=by omega
   exact (Nat.pow_lt_pow_iff_right (by omega)).1 h4
  have hmk:=Zbk7 (m:=m) (sizes:=sizes) hl
  have hu:=Zkn m.Scan (szAt sizes (shlI 1 i)) 0 (szAt sizes (shlI 1 i))
  rw [w_id (by omega) (by omega)] at hmk
  have hvar:=Zjk b.hv _ (List.getElem_mem hl)
  have he:Zhe m sizes q (shlI 1 i) (i:Int)=⟨shlI 1 i,q.Atoms[i].Vars.headD 0,Z9 m.Scan (szAt sizes (shlI 1 i)) 0 (szAt sizes (shlI 1 i)),⟨[⟨1,i,0⟩]⟩⟩:=by
   simp [Zhe,List.getElem?_eq_getElem hl]
  have hpop:popc (shlI 1 (i:Nat))=1:=by
   have:i=0∨i=1∨i=2∨i=3:=by omega
   rcases this with rfl | rfl | rfl | rfl <;> decide
  have hord:0≤q.Atoms[i].Vars.headD 0∧q.Atoms[i].Vars.headD 0≤3:=by
   cases hvs:q.Atoms[i].Vars with
   | nil=>rw [hvs] at hvar;simp at hvar
   | cons v vs =>
    have:=Zoj b.hv _ (List.getElem_mem hl) v (by rw [hvs];simp)
    have hn:=Zdd b.hv
    simp [inR] at this
    simp only [List.headD_cons]
    omega
  rw [he]
  refine ⟨by simp,by simp,?_,?_,?_,?_⟩
  ·intro e hm;rw [List.mem_singleton.1 hm]
  ·intro e hm;rw [List.mem_singleton.1 hm];exact ⟨by show -1≤q.Atoms[i].Vars.headD 0;omega,hord.2⟩
  ·intro e hm;rw [List.mem_singleton.1 hm];exact hmk
  ·intro e hm;rw [List.mem_singleton.1 hm];simp [hpop]
 | false =>
  rw [Zv5 (Zv3 h16 ho)]
  have ok:=Zv8 b hi hM hc hd
  have hne:=split_ne b.hv hM h0 hc ho
  refine Zblh (Zv0 b.hg b.hcl ok (Z6w m sizes q.Atoms M)) (Z63 h0 b.hg b.hcl ok (by simp) (.inl ?_))
  unfold Zb5
  intro hh
  exact hne (List.map_eq_nil_iff.1 hh)
theorem Z64 (a b:List Za) (M:Int):ofM (a++b) M=ofM a M++ofM b M:=by simp [ofM]
theorem ofM_all {l:List Za} {M:Int} (h:∀ e∈l,e.Mask=M):ofM l M=l:=by
 unfold ofM
 rw [List.filter_eq_self]
 intro e he
 simp [h e he]
theorem ofM_no {l:List Za} {M:Int} (h:∀ e∈l,e.Mask≠M):ofM l M=[]:=by
 unfold ofM
 rw [List.filter_eq_nil_iff]
 intro e he
 simp [h e he]
theorem Z65 {m:Zd} {q:Zb} {sizes:List Int} (b:Base m q sizes) {done:List Int} {out:List Za} (hi:Inv m sizes q done out) {M:Int} (hM:MQ q.Atoms M) (h0:M≠0) (hc:conn q.Atoms M=true) (hd:∀ A∈Zt q.Atoms M,A∈done∧M - A∈done) (hn:M ∉ done) :
  Inv m sizes q (done++[M]) (out++entM m sizes q out M)∧(∀ A∈done,ofM (out++entM m sizes q out M) A=ofM out A)∧ofM (out++entM m sizes q out M) M=entM m sizes q out M:=by
 have hh:=Zv9 b hi hM h0 hc hd
 have e1:∀ A∈done,ofM (out++entM m sizes q out M) A=ofM out A:=by
  intro A hA
  rw [Z64,ofM_no (l:=entM m sizes q out M),List.append_nil]
  intro e he
  rw [hh.mask e he]
  intro h
  exact hn (h ▸ hA)
 have e2:ofM (out++entM m sizes q out M) M=entM m sizes q out M:=by
  rw [Z64,ofM_all hh.mask,ofM_no (l:=out),List.nil_append]
  intro e he h
  exact hn (h ▸ hi.only e he)
 refine ⟨⟨?_,?_,?_⟩,e1,e2⟩
 ·intro A hA
  rcases List.mem_append.1 hA with hA | hA
  ·rw [e1 A hA];exact hi.held A hA
  ·simp at hA;subst hA;rw [e2];exact hh
 ·intro e he
  rcases List.mem_append.1 he with he | he
  ·exact List.mem_append_left _ (hi.only e he)
  ·rw [hh.mask e he];simp
 ·have:=hh.le
  have:=hi.len
  simp only [List.length_append,List.length_cons,List.length_nil]
  omega
theorem Zjd {qa:List Atom} {M:Int}:M∈Zo qa↔1≤M∧M<2 ^ qa.length∧conn qa M=true:=by
 unfold Zo Zdo
 rw [List.mem_map]
 have hp:=Zec qa.length
 constructor
 ·rintro ⟨k,hk,rfl⟩
  rw [List.mem_filter,List.mem_range'_1] at hk
  exact ⟨by omega,by omega,hk.2⟩
 ·rintro ⟨h1,h2,h3⟩
  refine ⟨M.toNat,?_,by omega⟩
  rw [List.mem_filter,List.mem_range'_1]
  have e:((M.toNat:Nat):Int)=M:=by omega
  exact ⟨by omega,by rw [e];exact h3⟩
theorem Znz (qa:List Atom):(Zo qa).Pairwise (·<·):=by
 unfold Zo Zdo
 rw [List.pairwise_map]
 refine List.Pairwise.filter _ ?_
 refine (List.pairwise_lt_range' (s:=1) (n:=2 ^ qa.length - 1)).imp ?_
 intro a b h
 omega
theorem Zqh {n:Int} {qa:List Atom} (hv:Zn n qa=true):(Zo qa).length≤15:=by
 have h16:2 ^ qa.length≤16:=Nat.pow_le_pow_right (by omega:0<2) (Zbv hv).2
 have:=Zbj7 (qa:=qa) (k:=1) (n:=2 ^ qa.length - 1)
 unfold Zo
 omega
theorem Z66 {Ms:List Int} (hu:Ms.Pairwise (·<·)) {i:Nat} (hi:i<Ms.length) {A:Int} (hA:A∈Ms) (h:A<Ms[i]):A∈Ms.take i:=by
 obtain ⟨j,hj,rfl⟩:=List.mem_iff_getElem.1 hA
 rw [List.pairwise_iff_getElem] at hu
 have hji:j<i:=by
  rcases Nat.lt_trichotomy j i with q | rfl | q
  ·exact q
  ·omega
  ·have:=hu i j hi hj q;omega
 rw [List.mem_take_iff_getElem]
 exact ⟨j,by omega,rfl⟩
theorem Zwa {Ms:List Int} (hu:Ms.Pairwise (·<·)) {i:Nat} (hi:i<Ms.length):Ms[i] ∉ Ms.take i:=by
 intro h
 rw [List.mem_take_iff_getElem] at h
 obtain ⟨j,hj,e⟩:=h
 rw [List.pairwise_iff_getElem] at hu
 have:=hu j i (by omega) hi (by omega)
 omega
def Z2 (m:Zd) (sizes:List Int) (q:Zb):Nat→List Za
 | 0=>[]
 | i+1=>Z2 m sizes q i++entM m sizes q (Z2 m sizes q i) ((Zo q.Atoms).getD i 0)
theorem Zkp {q:Zb} {i:Nat} (hi:i<(Zo q.Atoms).length):MQ q.Atoms (Zo q.Atoms)[i]∧(Zo q.Atoms)[i]≠0∧conn q.Atoms (Zo q.Atoms)[i]=true∧∀ A∈Zt q.Atoms (Zo q.Atoms)[i],A∈(Zo q.Atoms).take i∧(Zo q.Atoms)[i] - A∈(Zo q.Atoms).take i:=by
 obtain ⟨h1,h2,h3⟩:=Zjd.1 (List.getElem_mem hi)
 refine ⟨⟨by omega,h2⟩,by omega,h3,?_⟩
 intro A hA
 obtain ⟨a1,a2,a3,a4,a5⟩:=Zny hA
 exact ⟨Z66 (Znz _) hi (Zjd.2 ⟨a1,by omega,a4⟩) a2,Z66 (Znz _) hi (Zjd.2 ⟨by omega,by omega,a5⟩) (by omega)⟩
theorem Zkq {m:Zd} {q:Zb} {sizes:List Int} (b:Base m q sizes):∀ i,i≤(Zo q.Atoms).length→Inv m sizes q ((Zo q.Atoms).take i) (Z2 m sizes q i)
 | 0,_=>⟨by simp,by simp [Z2],by simp [Z2]⟩
 | i+1,h=>by
  have hi:i<(Zo q.Atoms).length:=by omega
  obtain ⟨c1,c2,c3,c4⟩:=Zkp hi
  have:=(Z65 b (Zkq b i (by omega)) c1 c2 c3 c4 (Zwa (Znz _) hi)).1
  rw [Z2,List.take_succ_eq_append_getElem hi]
  have e:(Zo q.Atoms).getD i 0=(Zo q.Atoms)[i]:=by simp [List.getD,hi]
  rw [e]
  exact this
theorem Zn0 {m:Zd} {q:Zb} {sizes:List Int} (b:Base m q sizes) {i:Nat} (hi:i≤(Zo q.Atoms).length):(Z2 m sizes q i).length≤75:=by
 have h1:=(Zkq b i hi).len
 have h2:=Zqh b.hv
 rw [List.length_take] at h1
 omega
end Go.Proofs.YtbapkgocloaaeaaGreat
