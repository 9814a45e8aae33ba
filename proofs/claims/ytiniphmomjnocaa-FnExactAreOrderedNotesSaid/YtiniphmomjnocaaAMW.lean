/-
  THE ABSTRACT MACHINE: states, the weakest precondition 'W', and the translation 'comp' from the model's code.
-/
import Derived.Test.YtiniphmomjnocaaAMCore
namespace Go.AM

structure S where
  env : Env
  stk : List Env
  h : List Blk
  deriving Inhabited

inductive X where
  | n
  | x (id : Nat)
  | r

def put (d : Option Nat) (v : AV) (e : Env) : Env := match d with
  | some d => (d, v) :: e
  | none => e

def rst (keep : List Nat) (e : Env) : Env := keep.map fun k => (k, lk k e)

/-- a reference to a dead root says nothing -/
def scrub (h : List Blk) : AV → AV
  | .own b => match gt h b with
    | .dead => .top
    | _ => .own b
  | v => v

def scrubE (h : List Blk) (e : Env) : Env := e.map fun p => (p.1, scrub h p.2)

/-- the roots that can be reached, in the order in which they are met -/
def reach (h : List Blk) : Nat → List Nat → List Nat → List Nat
  | 0, _, acc => acc
  | _, [], acc => acc
  | n + 1, b :: todo, acc => if acc.contains b then reach h n todo acc else reach h n (refsB (gt h b) ++ todo) (acc ++ [b])

def idx (b : Nat) : List Nat → Nat → Nat
  | [], i => i
  | c :: cs, i => if c = b then i else idx b cs (i + 1)

def refsE (e : Env) : List Nat := e.flatMap fun p => refs p.2
def renE (f : Nat → Nat) (e : Env) : Env := e.map fun p => (p.1, ren f p.2)

/-- are all that hang on these among them -/
def closedB (h : List Blk) (ids : List Nat) (rs : List Nat) : Bool := rs.all (ids.contains ·) && ids.all fun b => (refsB (gt h b)).all (ids.contains ·)

/-- forget what is not kept, collect, number anew -/
def canon (keep : List Nat) (s : S) : S :=
  let env := scrubE s.h (rst keep s.env)
  let rs := refsE env ++ s.stk.flatMap refsE
  let ids := reach s.h 200 rs []
  if closedB s.h ids rs then
    let f := fun b => idx b ids 0
    { env := renE f env, stk := s.stk.map (renE f), h := ids.map fun b => renB f (gt s.h b) }
  else { env := [], stk := s.stk, h := s.h }

/-- a callee's result put behind the caller's blocks -/
def shift (n : Nat) (v : AV) : AV := ren (fun b => b + n) v
def newU (n : Nat) : List Blk → Nat → List (Nat × Blk)
  | [], _ => []
  | b :: bs, i => (n + i, renB (fun c => c + n) b) :: newU n bs (i + 1)

mutual
/-- no tree that could share memory -/
def scalAV : AV → Bool
  | .t x => scalar x
  | .agg cs => scalAVs cs
  | .tup cs => scalAVs cs
  | .fn _ cs => scalAVs cs
  | .iptr _ _ => false
  | _ => true
def scalAVs : List AV → Bool
  | [] => true
  | v :: vs => scalAV v && scalAVs vs
end

def frB : Blk → Bool
  | .dead => true
  | .box cs => scalAVs cs
  | .arr _ _ fr _ => fr

/-- a result that shares nothing -/
def frR (r : AV) (hr : List Blk) : Bool := scalAV r && hr.all frB

/-- arguments that are no rows of one's own -/
def noOwn (args : List AV) : Bool := (refss args).isEmpty

inductive Res where
  | tmp (t : Nat)
  | cell (a : Nat) (n : Option Nat)

structure MFun where
  np : Nat
  nt : Nat
  res : List Res
  body : MCode

def resOne (s : S) : Res → Option AV
  | .tmp t => some (lk t s.env)
  | .cell a n => match lk a s.env with
    | .ptr b off => match gt s.h b with
      | .box cs => loadA cs off n
      | _ => none
    | _ => none

def resAll (s : S) : List Res → Option (List AV)
  | [] => some []
  | r :: rs => match resOne s r, resAll s rs with
    | some v, some vs => some (v :: vs)
    | _, _ => none

def resAV (rs : List Res) (s : S) : Option AV := match resAll s rs with
  | some [v] => some v
  | some vs => some (.tup vs)
  | none => none

/-- a contract: function, arguments, the roots handed over; the result, and the roots behind it (those handed over come first) -/
abbrev Ctr := Nat → List AV → List Blk → AV → List Blk → Prop

/-- the roots that hang on values -/
def subIds (h : List Blk) (vs : List AV) : List Nat := reach h 200 (refss vs) []
/-- how they look from the callee -/
def subH (h : List Blk) (ids : List Nat) : List Blk := ids.map fun b => renB (fun c => idx c ids 0) (gt h b)
def subA (ids : List Nat) (vs : List AV) : List AV := rens (fun c => idx c ids 0) vs
/-- back to the caller's numbers -/
def bk (ids : List Nat) (nx : Nat) (i : Nat) : Nat := match ids[i]? with
  | some b => b
  | none => nx + (i - ids.length)
def backU (ids : List Nat) (nx : Nat) : List Blk → Nat → List (Nat × Blk)
  | [], _ => []
  | b :: bs, i => (bk ids nx i, renB (bk ids nx) b) :: backU ids nx bs (i + 1)

section
variable (Γ : Ctr)

/-- a call that hands over roots: the callee may change them -/
def mcallW (f : Nat) (vs : List AV) (h : List Blk) (nx : Nat) (K : AV → List (Nat × Blk) → Prop) : Prop :=
  closedB h (subIds h vs) (refss vs) = true ∧ ∃ r h1, Γ f (subA (subIds h vs) vs) (subH h (subIds h vs)) r h1 ∧ K (ren (bk (subIds h vs) nx) r) (backU (subIds h vs) nx h1 0)

/-- a call that hands over roots: the callee leaves them as they are -/
def pcallW (f : Nat) (vs : List AV) (h : List Blk) (nx : Nat) (K : AV → List (Nat × Blk) → Prop) : Prop :=
  closedB h (subIds h vs) (refss vs) = true ∧ ∃ r hn, Γ f (subA (subIds h vs) vs) (subH h (subIds h vs)) r (subH h (subIds h vs) ++ hn) ∧ K (ren (bk (subIds h vs) nx) r) (backU (subIds h vs) nx hn (subIds h vs).length)

/-- an operation whose guard lets it run -/
def runW (o : MO) (s : S) (K : S → Prop) : Prop := match o.op with
  | .call f args => ∃ as, frzs s.h (args.map (ev s.env)) = some as ∧ ∃ r hr, Γ f as [] r hr ∧ (noOwn (args.map (ev s.env)) || frR r hr) = true ∧
      K { s with env := put o.dst (shift s.h.length r) s.env, h := upd s.h (newU s.h.length hr 0) }
  | .icall f args => mcallW Γ f (args.map (ev s.env)) s.h s.h.length fun v u => K { s with env := put o.dst v s.env, h := upd s.h u }
  | .pcall f args => pcallW Γ f (args.map (ev s.env)) s.h s.h.length fun v u => K { s with env := put o.dst v s.env, h := upd s.h u }
  | .dcall f args => match ev s.env f with
    | .fn g caps => mcallW Γ g (args.map (ev s.env) ++ caps) s.h s.h.length fun v u => K { s with env := put o.dst v s.env, h := upd s.h u }
    | _ => False
  | k => match evalOp s.h s.h.length s.env k with
    | some (v, u) => K { s with env := put o.dst v s.env, h := upd s.h u }
    | none => False

def opW (o : MO) (s : S) (K : S → Prop) : Prop := match o.guard with
  | none => runW Γ o s K
  | some (g, want) => match lk g s.env with
    | .t (.bool b) => if b = want then runW Γ o s K else K { s with env := put o.dst (.tup []) s.env }
    | .tup [] => K { s with env := put o.dst (.tup []) s.env }
    | _ => False

def regW : List MO → S → (S → Prop) → Prop
  | [], s, K => K s
  | o :: os, s, K => opW Γ o s fun s' => regW os s' K

/-- what an operation looks at and sets: slots, blocks -/
structure Foot where
  rs : List Nat
  ws : List Nat
  rb : List Nat
  wb : List Nat

def opdSlots : Opd → List Nat
  | .s i => [i]
  | .c _ => []

def opdsOf : MOp → List Opd
  | .mov x => [x]
  | .pick c a b => [c, a, b]
  | .alloc _ => []
  | .box x => [x]
  | .build _ ps => ps.map fun p => p.2.2
  | .bslice _ _ _ _ ps => ps.map fun p => p.2
  | .bptrs _ ps => ps.map fun p => p.2
  | .load _ x => [x]
  | .store _ x v => [x, v]
  | .nilchk x => [x]
  | .bin _ x y => [x, y]
  | .beq _ x y => [x, y]
  | .aeq _ _ x y => [x, y]
  | .nileq _ _ x => [x]
  | .mm _ x y => [x, y]
  | .un _ x => [x]
  | .conv _ x => [x]
  | .mkfn _ caps => caps
  | .mkslice _ _ _ _ l c => [l, c]
  | .slice _ x lo hi => x :: (lo.toList ++ hi.toList)
  | .faddr _ x => [x]
  | .field _ _ x => [x]
  | .iaddr _ x i => [x, i]
  | .index x i => [x, i]
  | .ext x _ => [x]
  | .len _ x => [x]
  | .append _ _ _ _ x y => [x, y]
  | .call _ args => args
  | .icall _ args => args
  | .pcall _ args => args
  | .dcall f args => f :: args

/-- these and what hangs on them -/
def reach1 (h : List Blk) (rs : List Nat) : List Nat := rs ++ (rs.flatMap fun b => refsB (gt h b)) ++ reach h 200 rs []

/-- the roots that an operation refers to -/
def frefs (k : MOp) (e : Env) : List Nat := match k with
  | .dcall f args => match ev e f with
    | .fn _ caps => refss (args.map (ev e) ++ caps)
    | _ => refss ((opdsOf (.dcall f args)).map (ev e))
  | k => refss ((opdsOf k).map (ev e))

def footOf (o : MO) (s : S) (wb : List Nat) : Foot :=
  { rs := (opdsOf o.op).flatMap opdSlots ++ (match o.guard with | some (g, _) => [g] | none => []), ws := o.dst.toList, rb := reach1 s.h (frefs o.op s.env), wb := wb }

def meets (a b : List Nat) : Bool := a.any (b.contains ·)

def conflict (f g : Foot) : Bool := meets f.ws (g.rs ++ g.ws) || meets g.ws f.rs || meets f.wb (g.rb ++ g.wb) || meets g.wb f.rb

/-- all that must come before, by all steps -/
def closure : List (List Nat) → List (List Nat) → List (List Nat)
  | [], acc => acc
  | b :: bs, acc => closure bs (acc ++ [b ++ b.flatMap fun i => acc.getD i []])

def ordFrom (cl : List (List Nat)) (feet : List Foot) (j : Nat) : Bool :=
  match feet[j]?, cl[j]? with
  | some g, some c => (List.range j).all fun i => match feet[i]? with
    | some f => !conflict f g || c.contains i
    | none => false
  | _, _ => false

/-- the text's order stands for every order -/
def ordOK (before : List (List Nat)) (feet : List Foot) : Bool := (List.range feet.length).all (ordFrom (closure before []) feet)

/-- an operation of a region whose order is drawn -/
def drwOp (o : MO) (s : S) (K : Foot → S → Prop) : Prop := match o.op with
  | .call f args => ∃ as, frzs s.h (args.map (ev s.env)) = some as ∧ ∃ r hr, Γ f as [] r hr ∧ (noOwn (args.map (ev s.env)) || frR r hr) = true ∧
      K (footOf o s ((newU s.h.length hr 0).map Prod.fst)) { s with env := put o.dst (shift s.h.length r) s.env, h := upd s.h (newU s.h.length hr 0) }
  | .icall f args => mcallW Γ f (args.map (ev s.env)) s.h s.h.length fun v u => K (footOf o s (u.map Prod.fst)) { s with env := put o.dst v s.env, h := upd s.h u }
  | .pcall f args => pcallW Γ f (args.map (ev s.env)) s.h s.h.length fun v u => K (footOf o s (u.map Prod.fst)) { s with env := put o.dst v s.env, h := upd s.h u }
  | .dcall f args => match ev s.env f with
    | .fn g caps => mcallW Γ g (args.map (ev s.env) ++ caps) s.h s.h.length fun v u => K (footOf o s (u.map Prod.fst)) { s with env := put o.dst v s.env, h := upd s.h u }
    | _ => False
  | k => match evalOp s.h s.h.length s.env k with
    | some (v, u) => K (footOf o s (u.map Prod.fst)) { s with env := put o.dst v s.env, h := upd s.h u }
    | none => False

def drwG (o : MO) (s : S) (K : Foot → S → Prop) : Prop := match o.guard with
  | none => drwOp Γ o s K
  | some (g, want) => match lk g s.env with
    | .t (.bool b) => if b = want then drwOp Γ o s K else K (footOf o s []) { s with env := put o.dst (.tup []) s.env }
    | .tup [] => K (footOf o s []) { s with env := put o.dst (.tup []) s.env }
    | _ => False

def drwW : List MO → S → List Foot → (List Foot → S → Prop) → Prop
  | [], s, feet, K => K feet s
  | o :: os, s, feet, K => drwG Γ o s fun f s' => drwW os s' (feet ++ [f]) K

/-- a loop: an invariant on the heads and a measure -/
def LoopW (keep : List Nat) (body : (X → S → Prop) → S → Prop) (Q : X → S → Prop) (s : S) : Prop :=
  ∃ (I : S → Prop) (μ : S → Nat), I (canon keep s) ∧ ∀ s, I s → body (fun x s' => match x with
    | .n => I (canon keep s') ∧ μ (canon keep s') < μ s
    | x => Q x s') s

def Wc : MCode → (X → S → Prop) → S → Prop
  | .skip, Q, s => Q .n s
  | .reg ops keep, Q, s => regW Γ ops s fun s' => Q .n { s' with env := rst keep s'.env }
  | .drw ops before keep, Q, s => drwW Γ ops s [] fun feet s' => ordOK before feet = true ∧ Q .n { s' with env := rst keep s'.env }
  | .seq a b, Q, s => Wc a (fun x s' => match x with | .n => Wc b Q s' | x => Q x s') s
  | .cond c x y, Q, s => match ev s.env c with
    | .t (.bool b) => if b = true then Wc x Q s else Wc y Q s
    | _ => False
  | .block id b, Q, s => Wc b (fun x s' => match x with | .x i => (if i = id then Q .n s' else Q (.x i) s') | x => Q x s') s
  | .loop keep b, Q, s => LoopW keep (Wc b) Q s
  | .exit id, Q, s => Q (.x id) s
  | .ret, Q, s => Q .r s
end

def initE : List AV → Nat → Env
  | [], _ => []
  | v :: vs, i => (i, v) :: initE vs (i + 1)

def bodyQ (rs : List Res) (K : AV → S → Prop) : X → S → Prop
  | .x _, _ => False
  | _, s => match resAV rs s with
    | some v => K v s
    | none => False

/-- the roots handed over, as one more frame: a slot each -/
def rootsE : List Blk → Nat → Env
  | [], _ => []
  | b :: bs, i => (i, match b with | .box _ => .ptr i 0 | .arr _ _ _ _ => .own i | .dead => .top) :: rootsE bs (i + 1)

/-- where a root handed over stands now -/
def rootNow (h : List Blk) (e : Env) (i : Nat) : Nat := match scrub h (lk i e) with
  | .ptr b 0 => b
  | .own b => b
  | _ => h.length + i

/-- the result and the blocks that hang on it or were handed over, numbered anew: those handed over come first -/
def canonR (k : Nat) (v : AV) (s : S) : Option (AV × List Blk) :=
  let v := scrub s.h v
  let e := match s.stk with | [e] => e | _ => []
  let rs := (List.range k).map (rootNow s.h e)
  let ids := reach s.h 200 ((rs.flatMap fun b => refsB (gt s.h b)) ++ refs v) rs
  if closedB s.h ids (rs ++ refs v) && nodupB rs then
    some (ren (fun b => idx b ids 0) v, ids.map fun b => renB (fun b => idx b ids 0) (gt s.h b))
  else none

/-- a function run on data -/
def FW (Γ : Ctr) (m : MFun) (args : List AV) (h0 : List Blk) (r : AV) (hr : List Blk) : Prop :=
  args.length = m.np ∧ Wc Γ m.body (bodyQ m.res fun v s => canonR h0.length v s = some (r, hr)) { env := initE args 0, stk := [rootsE h0 0], h := h0 }

end Go.AM
