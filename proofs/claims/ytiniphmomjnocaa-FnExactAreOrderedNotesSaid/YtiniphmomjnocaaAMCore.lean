/-
  THE ABSTRACT MACHINE: pure trees for data, owned roots for memory that the running function made. Definitions only.
-/
import Derived.Calls
import Derived.Below
namespace Go.AM

/-- Pure data. 'lst sz es': a slice whose elements take 'sz' cells each. 'nil': the nil slice for sure. -/
inductive T where
  | int (k : IntKind) (n : Int)
  | bool (b : Bool)
  | str (s : ByteArray)
  | nil
  | lst (sz : Nat) (es : List (List T))
  deriving Inhabited

/-- Abstract values. -/
inductive AV where
  | top
  | nilp
  | t (x : T)
  | agg (cs : List AV)
  | tup (vs : List AV)
  | ptr (b off : Nat)
  | eptr (b i sz off : Nat)
  | iptr (cs : List T) (off : Nat)
  | own (b : Nat)
  | bsl (b n : Nat)
  | fn (f : Nat) (caps : List AV)
  deriving Inhabited

/-- Abstract blocks: roots. -/
inductive Blk where
  | dead
  | box (cs : List AV)
  | arr (e : TypeId) (sz : Nat) (fr : Bool) (es : List (List T))
  deriving Inhabited

abbrev Env := List (Nat × AV)

def lk (s : Nat) : Env → AV
  | [] => .top
  | (k, v) :: e => if k = s then v else lk s e

def gt (h : List Blk) (b : Nat) : Blk := (h[b]?).getD .dead

/-- set block b (padding with dead blocks) -/
def stB : List Blk → Nat → Blk → List Blk
  | [], 0, x => [x]
  | [], b + 1, x => .dead :: stB [] b x
  | _ :: h, 0, x => x :: h
  | y :: h, b + 1, x => y :: stB h b x

def upd (h : List Blk) : List (Nat × Blk) → List Blk
  | [] => h
  | (b, x) :: u => upd (stB h b x) u

inductive Opd where
  | s (i : Nat)
  | c (v : AV)
  deriving Inhabited

def ev (e : Env) : Opd → AV
  | .s i => lk i e
  | .c v => v

inductive MOp where
  | mov (x : Opd)
  | pick (c a b : Opd)
  | alloc (zs : List AV)
  | box (x : Opd)
  | build (zs : List AV) (ps : List (Nat × Nat × Opd))
  | bslice (e : TypeId) (sz n : Nat) (zs : List T) (ps : List (Nat × Opd))
  | bptrs (n : Nat) (ps : List (Nat × Opd))
  | load (n : Option Nat) (x : Opd)
  | store (n : Nat) (x v : Opd)
  | nilchk (x : Opd)
  | bin (op : BinOp) (x y : Opd)
  | beq (neg : Bool) (x y : Opd)
  | aeq (neg : Bool) (ks : List Nat) (x y : Opd)
  | nileq (neg sl : Bool) (x : Opd)
  | mm (mx : Bool) (x y : Opd)
  | un (op : UnOp) (x : Opd)
  | conv (k : IntKind) (x : Opd)
  | mkfn (f : Nat) (caps : List Opd)
  | mkslice (e : TypeId) (sz bytes : Nat) (zs : List T) (l c : Opd)
  | slice (sz : Option Nat) (x : Opd) (lo hi : Option Opd)
  | faddr (off : Nat) (x : Opd)
  | field (off : Nat) (n : Option Nat) (x : Opd)
  | iaddr (sz : Nat) (x i : Opd)
  | index (x i : Opd)
  | ext (x : Opd) (i : Nat)
  | len (st : Bool) (x : Opd)
  | append (e : TypeId) (sz bytes : Nat) (mv : Bool) (x y : Opd)
  | call (f : Nat) (args : List Opd)
  | icall (f : Nat) (args : List Opd)
  | pcall (f : Nat) (args : List Opd)
  | dcall (f : Opd) (args : List Opd)
  deriving Inhabited

structure MO where
  dst : Option Nat
  guard : Option (Nat × Bool)   -- slot of the guarding operation, wanted value
  op : MOp
  deriving Inhabited

inductive MCode where
  | skip
  | reg (ops : List MO) (keep : List Nat)
  | drw (ops : List MO) (before : List (List Nat)) (keep : List Nat)
  | seq (a b : MCode)
  | cond (c : Opd) (x y : MCode)
  | block (id : Nat) (b : MCode)
  | loop (keep : List Nat) (b : MCode)
  | exit (id : Nat)
  | ret
  deriving Inhabited

/-! ### what an operation does -/

def scalar : T → Bool
  | .lst _ _ => false
  | _ => true

def flat (es : List (List T)) : Bool := es.all fun x => x.all scalar

/-- the cells of a value (what a store writes) -/
def cellsOf : AV → Option (List AV)
  | .agg cs => some cs
  | .top | .tup _ => none
  | v => some [v]

def setCells (cs : List AV) (off : Nat) (vs : List AV) : List AV := cs.take off ++ vs ++ cs.drop (off + vs.length)
def setT (cs : List T) (off : Nat) (vs : List T) : List T := cs.take off ++ vs ++ cs.drop (off + vs.length)

/-- a cell as data: (the tree, is all that it holds fresh, the roots that it takes in) -/
def toT (h : List Blk) : AV → Option (T × Bool × List Nat)
  | .t x => some (x, scalar x, [])
  | .own b => match gt h b with
    | .arr _ sz fr es => some (.lst sz es, fr, [b])
    | _ => none
  | _ => none

def toTs (h : List Blk) : List AV → Option (List T × Bool × List Nat)
  | [] => some ([], true, [])
  | v :: vs => match toT h v, toTs h vs with
    | some (x, f, ks), some (xs, g, ls) => some (x :: xs, f && g, ks ++ ls)
    | _, _ => none

def kill (ks : List Nat) : List (Nat × Blk) := ks.map fun b => (b, .dead)

def nodupB : List Nat → Bool
  | [] => true
  | x :: xs => !xs.contains x && nodupB xs

def binT (op : BinOp) : T → T → Option T
  | .int k a, .int k' b => match op with
    | .shl => if b < 0 then none else some (.int k (k.wrap (a * 2 ^ (min b.toNat k.bits))))
    | .shr => if b < 0 then none else some (.int k (a.fdiv (2 ^ (min b.toNat k.bits))))
    | _ => if k = k' then (match op with
      | .add => some (.int k (k.wrap (a + b)))
      | .sub => some (.int k (k.wrap (a - b)))
      | .mul => some (.int k (k.wrap (a * b)))
      | .quo => if b = 0 then none else some (.int k (k.wrap (a.tdiv b)))
      | .rem => if b = 0 then none else some (.int k (a.tmod b))
      | .and => some (.int k (k.wrap (BitVec.ofInt k.bits a &&& BitVec.ofInt k.bits b).toNat))
      | .or => some (.int k (k.wrap (BitVec.ofInt k.bits a ||| BitVec.ofInt k.bits b).toNat))
      | .xor => some (.int k (k.wrap (BitVec.ofInt k.bits a ^^^ BitVec.ofInt k.bits b).toNat))
      | .andNot => some (.int k (k.wrap (BitVec.ofInt k.bits a &&& ~~~ BitVec.ofInt k.bits b).toNat))
      | .eql => some (.bool (a == b))
      | .neq => some (.bool (a != b))
      | .lss => some (.bool (a < b))
      | .leq => some (.bool (a ≤ b))
      | .gtr => some (.bool (a > b))
      | .geq => some (.bool (a ≥ b))
      | _ => none) else none
  | .str a, .str b => match op with
    | .add => if a.size + b.size ≤ 9223372036854775807 then some (.str (a ++ b)) else none
    | .eql => some (.bool (a.toList == b.toList))
    | .neq => some (.bool (!(a.toList == b.toList)))
    | .lss => some (.bool (Op.bytesLess a.toList b.toList))
    | .leq => some (.bool (Op.bytesLess a.toList b.toList || a.toList == b.toList))
    | .gtr => some (.bool (!(Op.bytesLess a.toList b.toList || a.toList == b.toList)))
    | .geq => some (.bool (!Op.bytesLess a.toList b.toList))
    | _ => none
  | _, _ => none

def unT : UnOp → T → Option T
  | .not, .bool b => some (.bool !b)
  | .neg, .int k n => some (.int k (k.wrap (0 - n)))
  | _, _ => none

def tEq : Nat → T → T → Option Bool
  | 1, .int k a, .int k' b => if k = k' then some (a == b) else none
  | 0, .bool a, .bool b => some (a == b)
  | 2, .str a, .str b => some (a.toList == b.toList)
  | _, _, _ => none

/-- equality of two structs of plain fields; 'ks': the kinds of the fields (0 bool, 1 int, 2 string) -/
def eqAs : List Nat → List AV → List AV → Option Bool
  | [], [], [] => some true
  | k :: ks, .t a :: xs, .t b :: ys => match tEq k a b, eqAs ks xs ys with
    | some r, some s => some (r && s)
    | _, _ => none
  | _, _, _ => none

def isNilAV (h : List Blk) : Bool → AV → Option Bool
  | true, .t .nil => some true
  | true, .t (.lst _ (_ :: _)) => some false
  | true, .own b => match gt h b with
    | .arr _ _ _ (_ :: _) => some false
    | _ => none
  | false, .nilp => some true
  | false, .ptr _ _ => some false
  | false, .eptr _ _ _ _ => some false
  | false, .iptr _ _ => some false
  | _, _ => none

def lenAV (h : List Blk) : Bool → AV → Option Nat
  | false, .t (.lst _ es) => some es.length
  | false, .t .nil => some 0
  | true, .t (.str s) => some s.size
  | false, .own b => match gt h b with
    | .arr _ _ _ es => some es.length
    | _ => none
  | false, .bsl _ n => some n
  | _, _ => none

def natOf (n : Int) : Option Nat := if 0 ≤ n then some n.toNat else none

/-- set several parts of an aggregate -/
def parts (e : Env) : List AV → List (Nat × Nat × Opd) → Option (List AV)
  | cs, [] => some cs
  | cs, (off, n, x) :: ps => match cellsOf (ev e x) with
    | some vs => if vs.length = n ∧ off + n ≤ cs.length then parts e (setCells cs off vs) ps else none
    | none => none

/-- the elements of a slice literal as data -/
def elems (h : List Blk) (e : Env) (sz : Nat) : List (List T) → List (Nat × Opd) → Option (List (List T) × Bool × List Nat)
  | es, [] => some (es, true, [])
  | es, (i, x) :: ps => match cellsOf (ev e x) with
    | some vs => match toTs h vs with
      | some (ts, f, ks) => if i < es.length ∧ vs.length = sz then (match elems h e sz (es.set i ts) ps with
        | some (es', g, ls) => some (es', f && g, ks ++ ls)
        | none => none) else none
      | none => none
    | none => none

/-- the elements of a slice literal of one-cell values that are no data -/
def bparts (e : Env) : List AV → List (Nat × Opd) → Option (List AV)
  | cs, [] => some cs
  | cs, (i, x) :: ps => match cellsOf (ev e x) with
    | some [v] => if i < cs.length then bparts e (cs.set i v) ps else none
    | _ => none

def loadT (cs : List T) (off : Nat) : Option Nat → Option AV
  | none => (cs[off]?).map .t
  | some n => if off + n ≤ cs.length then some (.agg (((cs.drop off).take n).map .t)) else none

def loadA (cs : List AV) (off : Nat) : Option Nat → Option AV
  | none => cs[off]?
  | some n => if off + n ≤ cs.length then some (.agg ((cs.drop off).take n)) else none

def room : Nat := 140737488355328

/-- where an append's new elements come from: (elements, fresh, roots taken in) -/
def srcOf (h : List Blk) (sz : Nat) (mv : Bool) : AV → Option (List (List T) × Bool × List Nat)
  | .t .nil => some ([], true, [])
  | .t (.lst sz' ys) => if sz' = sz then some (ys, flat ys, []) else none
  | .own c => match gt h c with
    | .arr _ sz' fr ys => if sz' = sz then (if mv then some (ys, fr, [c]) else some (ys, flat ys, [])) else none
    | _ => none
  | _ => none

/-- a bound of a slice expression -/
def bnd (e : Env) (d : Nat) : Option Opd → Option Nat
  | none => some d
  | some o => match ev e o with
    | .t (.int _ n) => natOf n
    | _ => none

/-- One operation that is no call: the value and the blocks that it sets. 'nx': the number for a new block. -/
def evalOp (h : List Blk) (nx : Nat) (e : Env) : MOp → Option (AV × List (Nat × Blk))
  | .mov x => some (ev e x, [])
  | .pick c a b => match ev e c with
    | .t (.bool true) => some (ev e a, [])
    | .t (.bool false) => some (ev e b, [])
    | _ => none
  | .alloc zs => some (.ptr nx 0, [(nx, .box zs)])
  | .box x => match cellsOf (ev e x) with
    | some cs => some (.ptr nx 0, [(nx, .box cs)])
    | none => none
  | .build zs ps => match parts e zs ps with
    | some cs => some (.agg cs, [])
    | none => none
  | .bslice el sz n zs ps => match elems h e sz (List.replicate n zs) ps with
    | some (es, fr, ks) => if nodupB ks then some (.own nx, kill ks ++ [(nx, .arr el sz fr es)]) else none
    | none => none
  | .bptrs n ps => match bparts e (List.replicate n .nilp) ps with
    | some cs => some (.bsl nx n, [(nx, .box cs)])
    | none => none
  | .load n x => match ev e x with
    | .ptr b off => match gt h b with
      | .box cs => (loadA cs off n).map (·, [])
      | _ => none
    | .eptr b i sz off => match gt h b with
      | .arr _ sz' _ es => if sz = sz' then (match es[i]? with
        | some cs => (loadT cs off n).map (·, [])
        | none => none) else none
      | _ => none
    | .iptr cs off => (loadT cs off n).map (·, [])
    | _ => none
  | .store n x v => match cellsOf (ev e v) with
    | some vs => if vs.length = n then (match ev e x with
      | .ptr b off => match gt h b with
        | .box cs => if off + n ≤ cs.length then some (.top, [(b, .box (setCells cs off vs))]) else none
        | _ => none
      | .eptr b i sz off => match gt h b with
        | .arr el sz' fr es => match es[i]?, toTs h vs with
          | some cs, some (ts, f, ks) =>
            if off + n ≤ cs.length ∧ nodupB (b :: ks) ∧ sz = sz' then some (.top, kill ks ++ [(b, .arr el sz' (fr && f) (es.set i (setT cs off ts)))]) else none
          | _, _ => none
        | _ => none
      | _ => none) else none
    | none => none
  | .nilchk x => match ev e x with
    | .ptr b off => some (.ptr b off, [])
    | .eptr b i sz off => some (.eptr b i sz off, [])
    | .iptr cs off => some (.iptr cs off, [])
    | .fn f cs => some (.fn f cs, [])
    | _ => none
  | .bin op x y => match ev e x, ev e y with
    | .t a, .t b => (binT op a b).map (.t ·, [])
    | _, _ => none
  | .beq neg x y => match ev e x, ev e y with
    | .t (.bool a), .t (.bool b) => some (.t (.bool (neg != (a == b))), [])
    | _, _ => none
  | .aeq neg ks x y => match ev e x, ev e y with
    | .agg xs, .agg ys => match eqAs ks xs ys with
      | some r => some (.t (.bool (neg != r)), [])
      | none => none
    | _, _ => none
  | .nileq neg sl x => match isNilAV h sl (ev e x) with
    | some r => some (.t (.bool (neg != r)), [])
    | none => none
  | .mm mx x y => match ev e x, ev e y with
    | .t (.int k a), .t (.int _ b) => some (.t (.int k (if mx then (if b > a then b else a) else (if b < a then b else a))), [])
    | _, _ => none
  | .un op x => match ev e x with
    | .t a => (unT op a).map (.t ·, [])
    | _ => none
  | .conv k x => match ev e x with
    | .t (.int _ n) => some (.t (.int k (k.wrap n)), [])
    | _ => none
  | .mkfn f caps => some (.fn f (caps.map (ev e)), [])
  | .mkslice el sz bytes zs l c => match ev e l, ev e c with
    | .t (.int _ l), .t (.int _ c) =>
      if 0 ≤ l ∧ l ≤ c ∧ c.toNat * bytes ≤ room ∧ c ≤ 140737488355328 then some (.own nx, [(nx, .arr el sz (zs.all scalar) (List.replicate l.toNat zs))]) else none
    | _, _ => none
  | .slice sz x lo hi => match bnd e 0 lo with
    | none => none
    | some l => match sz, ev e x with
      | none, .t (.str s) => match bnd e s.size hi with
        | some r => if l ≤ r ∧ r ≤ s.size then some (.t (.str (s.extract l r)), []) else none
        | none => none
      | some sz, .t (.lst sz' es) => match bnd e es.length hi with
        | some r => if l ≤ r ∧ r ≤ es.length ∧ sz' = sz then some (.t (.lst sz ((es.take r).drop l)), []) else none
        | none => none
      | some sz, .own b => match gt h b with
        | .arr el sz' fr es => match bnd e es.length hi with
          | some r => if l = 0 ∧ r ≤ es.length ∧ sz' = sz then some (.own nx, kill [b] ++ [(nx, .arr el sz fr (es.take r))]) else none
          | none => none
        | _ => none
      | _, _ => none
  | .faddr off x => match ev e x with
    | .ptr b o => some (.ptr b (o + off), [])
    | .eptr b i sz o => some (.eptr b i sz (o + off), [])
    | .iptr cs o => some (.iptr cs (o + off), [])
    | _ => none
  | .field off n x => match ev e x with
    | .agg cs => (loadA cs off n).map (·, [])
    | _ => none
  | .iaddr sz x i => match ev e i with
    | .t (.int _ n) => if 0 ≤ n then (match ev e x with
      | .t (.lst sz' es) => if sz' = sz then (match es[n.toNat]? with
        | some cs => some (.iptr cs 0, [])
        | none => none) else none
      | .own b => match gt h b with
        | .arr _ sz' _ es => if sz' = sz ∧ n.toNat < es.length then some (.eptr b n.toNat sz 0, []) else none
        | _ => none
      | .bsl b m => if sz = 1 ∧ n.toNat < m then some (.ptr b n.toNat, []) else none
      | _ => none) else none
    | _ => none
  | .index x i => match ev e x, ev e i with
    | .t (.str s), .t (.int _ n) => if 0 ≤ n then (match s[n.toNat]? with
      | some b => some (.t (.int .u8 b.toNat), [])
      | none => none) else none
    | _, _ => none
  | .ext x i => match ev e x with
    | .tup vs => (vs[i]?).map (·, [])
    | _ => none
  | .len st x => match lenAV h st (ev e x) with
    | some n => some (.t (.int .i64 (n : Int)), [])
    | none => none
  | .append el sz bytes mv x y => match srcOf h sz mv (ev e y) with
    | some (ys, f, ks) => match ev e x with
      | .t .nil => if ys.length * bytes ≤ room ∧ ys.length ≤ room then some (.own nx, kill ks ++ [(nx, .arr el sz f ys)]) else none
      | .own b => match gt h b with
        | .arr el' sz' fr es =>
          if el' = el ∧ sz' = sz ∧ nodupB (b :: ks) ∧ (es.length + ys.length) * bytes ≤ room ∧ es.length + ys.length ≤ room then
            some (.own nx, kill (b :: ks) ++ [(nx, .arr el sz (fr && f) (es ++ ys))]) else none
        | _ => none
      | _ => none
    | none => none
  | .call _ _ | .icall _ _ | .pcall _ _ | .dcall _ _ => none

/-! ### freezing, renaming, collecting -/

/-- a cell as data -/
def frzT (h : List Blk) : AV → Option T
  | .t x => some x
  | .own b => match gt h b with
    | .arr _ sz _ es => some (.lst sz es)
    | _ => none
  | _ => none

def frzTs (h : List Blk) : List AV → Option (List T)
  | [] => some []
  | v :: vs => match frzT h v, frzTs h vs with
    | some x, some xs => some (x :: xs)
    | _, _ => none

/-- what a callee sees of an argument: data alone, and places that are only read -/
def frz1 (h : List Blk) : AV → Option AV
  | .t x => some (.t x)
  | .nilp => some .nilp
  | .iptr cs off => some (.iptr cs off)
  | .own b => match gt h b with
    | .arr _ sz _ es => some (.t (.lst sz es))
    | _ => none
  | .ptr b off => match gt h b with
    | .box cs => match frzTs h cs with
      | some ts => some (.iptr ts off)
      | none => none
    | _ => none
  | .agg cs => match frzTs h cs with
    | some ts => some (.agg (ts.map .t))
    | none => none
  | _ => none

def frz1s (h : List Blk) : List AV → Option (List AV)
  | [] => some []
  | v :: vs => match frz1 h v, frz1s h vs with
    | some x, some xs => some (x :: xs)
    | _, _ => none

def frz (h : List Blk) : AV → Option AV
  | .fn g cs => match frz1s h cs with
    | some ds => some (.fn g ds)
    | none => none
  | v => frz1 h v

def frzs (h : List Blk) : List AV → Option (List AV)
  | [] => some []
  | v :: vs => match frz h v, frzs h vs with
    | some x, some xs => some (x :: xs)
    | _, _ => none

mutual
def ren (f : Nat → Nat) : AV → AV
  | .agg cs => .agg (rens f cs)
  | .tup vs => .tup (rens f vs)
  | .ptr b off => .ptr (f b) off
  | .eptr b i sz off => .eptr (f b) i sz off
  | .own b => .own (f b)
  | .bsl b n => .bsl (f b) n
  | .fn g cs => .fn g (rens f cs)
  | v => v
def rens (f : Nat → Nat) : List AV → List AV
  | [] => []
  | v :: vs => ren f v :: rens f vs
end

def renB (f : Nat → Nat) : Blk → Blk
  | .box cs => .box (rens f cs)
  | b => b

mutual
def refs : AV → List Nat
  | .agg cs => refss cs
  | .tup vs => refss vs
  | .ptr b _ => [b]
  | .eptr b _ _ _ => [b]
  | .own b => [b]
  | .bsl b _ => [b]
  | .fn _ cs => refss cs
  | _ => []
def refss : List AV → List Nat
  | [] => []
  | v :: vs => refs v ++ refss vs
end

def refsB : Blk → List Nat
  | .box cs => refss cs
  | _ => []

end Go.AM
