/-
  THE ABSTRACT MACHINE: which slots are needed behind each region and at each loop's head; the table of all functions.
-/
import Derived.Test.YtiniphmomjnocaaAMEv
namespace Go.AM

def ins (x : Nat) : List Nat → List Nat
  | [] => [x]
  | y :: ys => if x < y then x :: y :: ys else if x = y then y :: ys else y :: ins x ys
def union (a b : List Nat) : List Nat := b.foldl (fun acc x => ins x acc) a
def opdSl : Operand → List Nat
  | .tmp t => [t]
  | _ => []
def opUses (o : Op) : List Nat := o.operands.toList.flatMap opdSl

def regIn (ops : List Oper) (out : List Nat) : List Nat :=
  ops.reverse.foldl (fun live o => union (match o.dst with | some d => live.filter (· != d) | none => live) (opUses o.op)) out

def guardSl (ops : Array Oper) : List Nat := ops.toList.flatMap fun o => match o.guard with
  | some (j, _) => (match ops[j]? with | some p => p.dst.toList | none => [])
  | none => []

def fixL (f : List Nat → List Nat × List (List Nat)) : Nat → List Nat → List Nat × List (List Nat)
  | 0, L => (L, L :: (f L).2)
  | n + 1, L => match f L with
    | (l, k) => if l.all (L.contains ·) then (L, L :: k) else fixL f n (union L l)

def live (ret : List Nat) (exits : List (Nat × List Nat)) : Code → List Nat → List Nat × List (List Nat)
  | .region _ ops _, out =>
    let defs := ops.toList.flatMap fun o => o.dst.toList
    (union (regIn ops.toList out) ((guardSl ops).filter (fun g => !defs.contains g)), [out])
  | .seq a b, out => match live ret exits b out with
    | (lb, kb) => match live ret exits a lb with
      | (la, ka) => (la, ka ++ kb)
  | .cond c a b, out => match live ret exits a out, live ret exits b out with
    | (la, ka), (lb, kb) => (union (union la lb) (opdSl c), ka ++ kb)
  | .block id b, out => live ret ((id, out) :: exits) b out
  | .loop b, _ => fixL (live ret exits b) 12 []
  | .exit id, _ => ((exits.lookup id).getD [], [])
  | .ret, _ => (ret, [])
  | _, out => (out, [])

def keepsOf (fn : Func) : List (List Nat) := match fn.body with
  | some c =>
    let rs := fn.results.toList.foldl (fun acc r => ins (match r with | .tmp t => t | .cell a _ => a) acc) []
    (live rs [] c rs).2
  | none => []

/-- the table of all functions -/
def tblOf (P : Program) (inl : List Nat) (f : Nat) : Option MFun := match P.funcs[f]? with
  | some fn => if callable P f = true then compF P inl (keepsOf fn) fn else none
  | none => none

theorem tblOK (P : Program) (inl : List Nat) : TblOK P (tblOf P inl) := by
  intro f m h
  unfold tblOf at h
  split at h
  · rename_i fn hf
    split at h
    · rename_i hc; exact ⟨fn, keepsOf fn, inl, hf, h, hc⟩
    · cases h
  · cases h

theorem tblOf_eq {P : Program} {inl : List Nat} {f : Nat} {fn : Func} {m : MFun} (hf : P.funcs[f]? = some fn) (hc : callable P f = true) (h : compF P inl (keepsOf fn) fn = some m) : tblOf P inl f = some m := by
  unfold tblOf
  rw [hf]
  simp only
  rw [if_pos hc]
  exact h

end Go.AM
