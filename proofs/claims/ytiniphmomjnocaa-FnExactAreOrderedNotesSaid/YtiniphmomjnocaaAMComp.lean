/-
  THE TRANSLATION from the model's code to the abstract machine's ('comp').
-/
import Derived.Test.YtiniphmomjnocaaAMW
import Derived.Still
namespace Go.AM

def valT : Value → Option T
  | .int k n => some (.int k n)
  | .bool b => some (.bool b)
  | .string s => some (.str s)
  | .slice none 0 0 => some .nil
  | _ => none

def valC (v : Value) : Option AV := match v with
  | .pointer none => some .nilp
  | v => (valT v).map .t

def mapO {α β : Type} (f : α → Option β) : List α → Option (List β)
  | [] => some []
  | x :: xs => match f x, mapO f xs with
    | some y, some ys => some (y :: ys)
    | _, _ => none

def valAV : Value → Option AV
  | .agg cs => (mapO valC cs.toList).map .agg
  | v => valC v

def opd : Operand → Option Opd
  | .tmp t => some (.s t)
  | .const v => (valAV v).map .c
  | .func f => some (.c (.fn f []))
  | .global _ => none

/-- the cells of a type's zero value -/
def zeroC (P : Program) (t : TypeId) : Option (List AV) := ((P.info? t).bind (·.zero)).bind fun z => mapO valC z.cells.toList
def zeroT (P : Program) (t : TypeId) : Option (List T) := ((P.info? t).bind (·.zero)).bind fun z => mapO valT z.cells.toList

/-- how a variable of the type is loaded: one cell, or so many as an aggregate -/
def loadN (P : Program) (t : TypeId) : Option (Option Nat) := match P.underlying t with
  | some (.struct _) | some (.array _ _) => (P.info? t).map fun i => some i.size
  | some _ => some none
  | none => none

def isBuildSlice (ops : Array Oper) (x : Operand) : Bool := match x with
  | .tmp t => ops.any fun o => o.dst == some t && (match o.op with | .buildSlice .. => true | _ => false)
  | _ => false

def fieldOf (P : Program) (t : TypeId) (f : Nat) : Option (Nat × TypeId) := match P.underlying t with
  | some (.struct fs) => match fs[f]? with
    | some fd => match P.info? fd.type with
      | some i => if i.size = 0 then none else some (fd.offset, fd.type)
      | none => none
    | none => none
  | _ => none

/-- a struct of plain fields, a cell each: their kinds -/
def okEq (P : Program) : List Field → Nat → Option (List Nat)
  | [], _ => some []
  | f :: fs, j => if f.name ≠ "_" ∧ f.offset = j then (match (match P.underlying f.type with
      | some .bool => some 0
      | some (.int _) => some 1
      | some .string => some 2
      | _ => none), okEq P fs (j + 1) with
    | some k, some ks => some (k :: ks)
    | _, _ => none) else none

/-- a function with a body -/
def callable (P : Program) (f : Nat) : Bool := match P.funcs[f]? with
  | some fn => fn.body.isSome && fn.name != "runtime.NumGoroutine"
  | none => false

def compK (P : Program) (inl : List Nat) (ops : Array Oper) : Op → Option MOp
  | .move x | .assign x => (opd x).map .mov
  | .pick c a b => match opd c, opd a, opd b with
    | some c, some a, some b => some (.pick c a b)
    | _, _, _ => none
  | .alloc e => (zeroC P e).map .alloc
  | .box _ x => (opd x).map .box
  | .build t ps => match P.underlying t, zeroC P t with
    | some (.struct fs), some zs => match fs.toList.mapM (fun f => (P.info? f.type).map fun i => (f.offset, i.size)) with
      | some places => (mapO (fun p : Nat × Operand => match places[p.1]?, opd p.2 with
        | some q, some x => some (q.1, q.2, x)
        | _, _ => none) ps.toList).map (.build zs)
      | none => none
    | _, _ => none
  | .buildSlice t n ps => match P.underlying t with
    | some (.slice e) => match P.info? e with
      | some i => if n * i.size ≤ 16777216 ∧ 0 < i.size then (match mapO (fun p : Nat × Operand => (opd p.2).map fun x => (p.1, x)) ps.toList with
          | some qs => (match zeroT P e with
            | some zs => if zs.length = i.size then some (.bslice e i.size n zs qs) else none
            | none => match i.zero with
              | some (.pointer none) => if i.size = 1 then some (.bptrs n qs) else none
              | _ => none)
          | none => none) else none
      | none => none
    | _ => none
  | .load t x => match loadN P t, opd x with
    | some n, some x => some (.load n x)
    | _, _ => none
  | .store t x v => match P.info? t, opd x, opd v with
    | some i, some x, some v => some (.store i.size x v)
    | _, _, _ => none
  | .nilCheck x => (opd x).map .nilchk
  | .binOp op t x y _ => match opd x, opd y with
    | some x', some y' => match P.underlying t with
      | some (.int _) | some .string => some (.bin op x' y')
      | some .bool => match op with
        | .eql => some (.beq false x' y')
        | .neq => some (.beq true x' y')
        | _ => none
      | some (.slice _) => match op, y with
        | .eql, .const (.slice none 0 0) => some (.nileq false true x')
        | .neq, .const (.slice none 0 0) => some (.nileq true true x')
        | _, _ => none
      | some (.pointer _) => match op, y with
        | .eql, .const (.pointer none) => some (.nileq false false x')
        | .neq, .const (.pointer none) => some (.nileq true false x')
        | _, _ => none
      | some (.struct fs) => match okEq P fs.toList 0 with
        | some ks => if P.stoodInHeld t = false ∧ P.eqGuardType P.depth t = false then (match op with
          | .eql => some (.aeq false ks x' y')
          | .neq => some (.aeq true ks x' y')
          | _ => none) else none
        | none => none
      | _ => none
    | _, _ => none
  | .unOp op _ x => (opd x).map (.un op)
  | .convert s d x => match P.underlying s, P.underlying d with
    | some _, some (.int k) => (opd x).map (.conv k)
    | _, _ => none
  | .makeFunc (.func f) first caps => if first.isEmpty then (mapO opd caps.toList).map (.mkfn f) else none
  | .makeSlice t l c => match P.underlying t with
    | some (.slice e) => match P.info? e, zeroT P e, opd l, opd c with
      | some i, some zs, some l, some c => if zs.length = i.size ∧ 0 < i.size then some (.mkslice e i.size i.bytes zs l c) else none
      | _, _, _, _ => none
    | _ => none
  | .slice t x lo hi none => match (match P.underlying t with
      | some .string => some none
      | some (.slice e) => (P.info? e).map fun i => some i.size
      | _ => none), opd x, (match lo with | none => some none | some o => (opd o).map some), (match hi with | none => some none | some o => (opd o).map some) with
    | some sz, some x, some lo, some hi => some (.slice sz x lo hi)
    | _, _, _, _ => none
  | .fieldAddr t x f => match fieldOf P t f, opd x with
    | some (off, _), some x => some (.faddr off x)
    | _, _ => none
  | .field t x f => match fieldOf P t f, opd x with
    | some (off, u), some x => (loadN P u).map fun n => .field off n x
    | _, _ => none
  | .indexAddr t x i => match P.underlying t with
    | some (.slice e) => match P.info? e, opd x, opd i with
      | some inf, some x, some i => some (.iaddr inf.size x i)
      | _, _, _ => none
    | _ => none
  | .index t x i => match P.underlying t, opd x, opd i with
    | some .string, some x, some i => some (.index x i)
    | _, _, _ => none
  | .extract x i => (opd x).map fun x => .ext x i
  | .call c => match c.callee with
    | .builtin .len => match c.args.toList, c.argTypes.toList with
      | [x], [t] => match P.underlying t with
        | some (.slice _) => (opd x).map (.len false)
        | some .string => (opd x).map (.len true)
        | _ => none
      | _, _ => none
    | .builtin .append => match c.args.toList, c.argTypes.toList with
      | [x, y], [t, u] => match P.underlying t, P.underlying u with
        | some (.slice e), some (.slice _) => match P.info? e, opd x, opd y with
          | some i, some x', some y' => match i.zero with
            | some z => if 0 < i.size ∧ z.cells.size = i.size ∧ t = u then some (.append e i.size i.bytes (isBuildSlice ops y) x' y') else none
            | none => none
          | _, _, _ => none
        | _, _ => none
      | _, _ => none
    | .builtin .max => match c.args.toList with
      | [x, y] => match opd x, opd y with
        | some x, some y => some (.mm true x y)
        | _, _ => none
      | _ => none
    | .builtin .min => match c.args.toList with
      | [x, y] => match opd x, opd y with
        | some x, some y => some (.mm false x y)
        | _, _ => none
      | _ => none
    | .value (.func f) => if callable P f = true then (mapO opd c.args.toList).map (if inl.contains f then .icall f else if inl.contains (f + 1000000) then .pcall f else .call f) else none
    | .value x => match opd x, mapO opd c.args.toList with
      | some x, some as => some (.dcall x as)
      | _, _ => none
    | _ => none
  | _ => none

def compO (P : Program) (inl : List Nat) (nt : Nat) (ops : Array Oper) (o : Oper) : Option MO :=
  if o.dst.all (· < nt) = true then match compK P inl ops o.op, (match o.guard with
    | none => some none
    | some (j, b) => ((ops[j]?).bind (·.dst)).map fun d => some (d, b)) with
  | some k, some g => some { dst := o.dst, guard := g, op := k }
  | _, _ => none
  else none

def bindsOn (o : Oper) : List Nat := o.after.toList.filterMap fun e => if Region.binds .any e then some e.on else none

/-- every edge that binds leads back -/
def backB : List (List Nat) → Nat → Bool
  | [], _ => true
  | b :: bs, i => b.all (· < i) && backB bs (i + 1)

def comp (P : Program) (inl : List Nat) (nt : Nat) : Code → List (List Nat) → Option (MCode × List (List Nat))
  | .skip, ks => some (.skip, ks)
  | .region _ ops draw, k :: ks => match mapO (compO P inl nt ops) ops.toList with
    | some os => if draw then (if backB (ops.toList.map bindsOn) 0 = true ∧ P.follows .mixedOrders = true ∧ Region.noSelect ops = true then some (.drw os (ops.toList.map bindsOn) k, ks) else none) else some (.reg os k, ks)
    | none => none
  | .seq a b, ks => match comp P inl nt a ks with
    | some (x, ks) => match comp P inl nt b ks with
      | some (y, ks) => some (.seq x y, ks)
      | none => none
    | none => none
  | .cond c a b, ks => match opd c, comp P inl nt a ks with
    | some c, some (x, ks) => match comp P inl nt b ks with
      | some (y, ks) => some (.cond c x y, ks)
      | none => none
    | _, _ => none
  | .block id b, ks => match comp P inl nt b ks with
    | some (x, ks) => some (.block id x, ks)
    | none => none
  | .loop b, k :: ks => match comp P inl nt b ks with
    | some (x, ks) => some (.loop k x, ks)
    | none => none
  | .exit id, ks => some (.exit id, ks)
  | .ret, ks => some (.ret, ks)
  | _, _ => none

def compRes (P : Program) : ResultVar → Option Res
  | .tmp t => some (.tmp t)
  | .cell a t => (loadN P t).map (.cell a)

def compF (P : Program) (inl : List Nat) (keeps : List (List Nat)) (f : Func) : Option MFun := match f.body with
  | some c => match comp P inl f.ntmps c keeps, mapO (compRes P) f.results.toList with
    | some (b, []), some rs => (if f.params.size + f.nfree ≤ f.ntmps then some { np := f.params.size + f.nfree, nt := f.ntmps, res := rs, body := b } else none)
    | _, _ => none
  | none => none

end Go.AM
