/-
  THE ABSTRACT MACHINE: from a law's contract to what its row asks.
-/
import Derived.Test.YtiniphmomjnocaaAMFun
import Derived.ProofKit
import Derived.OpenShut
import Derived.Carry
namespace Go.AM
open Go.RowKit (Below)
open Go.ChangeShapes Go.WideShapes Go.ChangeAt Go.RowKit

/-- shapes of cells -/
inductive CSh where
  | int (k : IntKind)
  | bool
  | str
  | slice (cs : List CSh)

/-- the cells of a struct's fields, in order -/
def fieldsSh (rec : TypeId → Option (List CSh)) (P : Program) : List Field → Nat → Option (List CSh)
  | [], _ => some []
  | f :: fs, o => if f.offset = o then (match rec f.type with
    | some cs => if cs.length = P.cellsOf f.type then (match fieldsSh rec P fs (o + cs.length) with
      | some ds => some (cs ++ ds)
      | none => none) else none
    | none => none) else none

/-- the cells of a type -/
def cellSh (P : Program) : Nat → TypeId → Option (List CSh)
  | 0, _ => none
  | n + 1, t => match P.underlying t with
    | some .bool => some [.bool]
    | some (.int k) => some [.int k]
    | some .string => some [.str]
    | some (.slice e) => match cellSh P n e with
      | some cs => if cs.length = P.cellsOf e ∧ 0 < cs.length then some [.slice cs] else none
      | none => none
    | some (.struct fs) => match fieldsSh (cellSh P n) P fs.toList 0 with
      | some cs => if cs.length = P.cellsOf t then some cs else none
      | none => none
    | _ => none

mutual
/-- a tree of that shape -/
inductive HasSh : CSh → T → Prop
  | int {k : IntKind} {n : Int} (h : (Lit.int k n).wf = true) : HasSh (.int k) (.int k n)
  | bool (b : Bool) : HasSh .bool (.bool b)
  | str {s : ByteArray} (h : s.size ≤ maxLen) : HasSh .str (.str s)
  | slice {cs : List CSh} {es : List (List T)} (hl : es.length ≤ maxLen) (h : HasAll cs es) : HasSh (.slice cs) (.lst cs.length es)
inductive HasShs : List CSh → List T → Prop
  | nil : HasShs [] []
  | cons {c : CSh} {t : T} {cs : List CSh} {ts : List T} (h : HasSh c t) (hs : HasShs cs ts) : HasShs (c :: cs) (t :: ts)
inductive HasAll : List CSh → List (List T) → Prop
  | nil (cs : List CSh) : HasAll cs []
  | cons {cs : List CSh} {e : List T} {es : List (List T)} (h : HasShs cs e) (hs : HasAll cs es) : HasAll cs (e :: es)
end

theorem HasShs.append {cs ds : List CSh} {ts us : List T} (h : HasShs cs ts) (h' : HasShs ds us) : HasShs (cs ++ ds) (ts ++ us) := by
  induction cs generalizing ts with
  | nil => cases h; exact h'
  | cons c cs ih => cases h with | cons h hs => exact .cons h (ih hs)

theorem HasShs.len {cs : List CSh} {ts : List T} (h : HasShs cs ts) : ts.length = cs.length := by
  induction cs generalizing ts with
  | nil => cases h; rfl
  | cons c cs ih => cases h with | cons h hs => simp [ih hs]

theorem HasAll.snoc {cs : List CSh} {es : List (List T)} {e : List T} (h : HasAll cs es) (h' : HasShs cs e) : HasAll cs (es ++ [e]) := by
  induction es with
  | nil => exact .cons h' (.nil _)
  | cons x es ih => cases h with | cons h hs => exact .cons h (ih hs)

section
variable {H : Type} {enc : TypeId × Value → H} {P : Program} {w : World} {sp : Nat → Bool} {held : Bool}

theorem mapM_range {α : Type} {f : Nat → Option α} {n : Nat} {xs : List α} (h : (List.range n).mapM f = some xs) : xs.length = n ∧ ∀ i, i < n → ∃ x, xs[i]? = some x ∧ f i = some x := by
  have key : ∀ (l : List Nat) (xs : List α), l.mapM f = some xs → xs.length = l.length ∧ ∀ (i : Nat) (a : Nat), l[i]? = some a → ∃ x, xs[i]? = some x ∧ f a = some x := by
    intro l
    induction l with
    | nil => intro xs h; simp at h; subst h; exact ⟨rfl, by simp⟩
    | cons a l ih =>
      intro xs h
      simp only [List.mapM_cons, Option.bind_eq_bind, Option.bind_eq_some_iff, Option.pure_def, Option.some.injEq] at h
      obtain ⟨x, hx, ys, hys, rfl⟩ := h
      obtain ⟨h1, h2⟩ := ih ys hys
      refine ⟨by simp [h1], ?_⟩
      intro i b hb
      cases i with
      | zero => simp at hb; subst hb; exact ⟨x, rfl, hx⟩
      | succ i => simpa using h2 i b (by simpa using hb)
  obtain ⟨h1, h2⟩ := key _ xs h
  refine ⟨by simpa using h1, fun i hi => h2 i i (by simp [hi])⟩

theorem cells_seg {a : Addr} {n : Nat} {cs : List Value} (h : w.cells? 0 a n = some cs) (hn : 0 < n) : ∃ g off c e fz, a = ⟨g, off, none⟩ ∧ w.heap[g]? = some (.cells c e fz) ∧ (c.toList.drop off).take n = cs ∧ cs.length = n := by
  unfold World.cells? at h
  simp only [Nat.zero_le, if_true] at h
  obtain ⟨h1, h2⟩ := mapM_range h
  obtain ⟨x, _, h4⟩ := h2 0 hn
  have ha0 : a.add 0 = a := by simp [Addr.add]
  rw [ha0] at h4
  have h5 := h4
  unfold World.cell? at h5
  split at h5
  · rename_i c e fz hb
    split at h5
    · cases h5
    · rename_i hs
      obtain ⟨g, off, spot⟩ := a
      have : spot = none := by simpa using hs
      subst this
      refine ⟨g, off, c, e, fz, rfl, hb, ?_, h1⟩
      apply List.ext_getElem?
      intro i
      rw [List.getElem?_take]
      by_cases hi : i < n
      · rw [if_pos hi]
        obtain ⟨y, h6, h7⟩ := h2 i hi
        rw [addr_add, cell_of_row w g (off + i) c e fz hb] at h7
        rw [h6, ← h7]
        simp
      · rw [if_neg hi]
        symm
        exact List.getElem?_eq_none (by omega)
  · cases h5

theorem trod_tree : ∀ (fuel : Nat) (t : TypeId) (cs : List Value) (d : DataW H) (ps : List MemPlace), DataW.trod enc P w 0 sp held fuel t cs = some (d, ps) → ∀ (n : Nat) (sh : List CSh), cellSh P n t = some sh → ∃ ts fp, TRs w ts cs fp ∧ HasShs sh ts := by
  intro fuel
  induction fuel with
  | zero => intro t cs d ps h; simp [DataW.trod] at h
  | succ fuel ih =>
    intro t cs d ps h n sh hsh
    cases n with
    | zero => simp [cellSh] at hsh
    | succ n =>
      cases hu : P.underlying t with
      | none => simp [cellSh, hu] at hsh
      | some dd =>
        cases dd <;> try (simp [cellSh, hu] at hsh; done)
        case bool =>
          simp [cellSh, hu] at hsh
          subst hsh
          simp only [DataW.trod, hu] at h
          split at h <;> try (simp_all; done)
          rename_i b _
          exact ⟨[.bool b], [], .cons (.bool b) .nil, .cons (.bool b) .nil⟩
        case int k =>
          simp [cellSh, hu] at hsh
          subst hsh
          simp only [DataW.trod, hu] at h
          split at h <;> try (simp_all; done)
          rename_i k1 k2 m heq
          cases heq
          split at h
          · rename_i hc
            obtain ⟨rfl, hwf⟩ := hc
            exact ⟨[.int _ m], [], .cons (.int _ m) .nil, .cons (.int hwf) .nil⟩
          · cases h
        case string =>
          simp [cellSh, hu] at hsh
          subst hsh
          simp only [DataW.trod, hu] at h
          split at h <;> try (simp_all; done)
          rename_i s heq
          split at h
          · rename_i hc
            exact ⟨[.str s], [], .cons (.str s) .nil, .cons (.str hc) .nil⟩
          · cases h
        case slice e =>
          simp only [cellSh, hu] at hsh
          split at hsh
          · rename_i ecs hecs
            split at hsh
            · rename_i hcond
              cases hsh
              simp only [DataW.trod, hu] at h
              split at h <;> try (simp_all; done)
              · exact ⟨[.lst ecs.length []], [], .cons (.lst0 _ _ _) .nil, .cons (.slice (by simp) (.nil _)) .nil⟩
              · rename_i e' a len cap heq
                cases heq
                split at h
                · rename_i hb
                  simp only [Option.bind_eq_some_iff] at h
                  obtain ⟨elems, hel, _⟩ := h
                  obtain ⟨hlen, hget⟩ := mapM_range hel
                  -- every element reads
                  by_cases hl0 : len = 0
                  · subst hl0
                    exact ⟨[.lst ecs.length []], [], .cons (.lst0 _ _ _) .nil, .cons (.slice (by simp) (.nil _)) .nil⟩
                  · have hsz : 0 < P.cellsOf e := by omega
                    have helem : ∀ i, i < len → ∃ vs ts fp, w.cells? 0 (a.add (i * P.cellsOf e)) (P.cellsOf e) = some vs ∧ TRs w ts vs fp ∧ HasShs ecs ts := by
                      intro i hi
                      obtain ⟨x, _, h2⟩ := hget i hi
                      simp only [Option.bind_eq_some_iff] at h2
                      obtain ⟨vs, h3, h4⟩ := h2
                      obtain ⟨ts, fp, h5, h6⟩ := ih e vs x.1 x.2 h4 n ecs hecs
                      exact ⟨vs, ts, fp, h3, h5, h6⟩
                    obtain ⟨vs0, ts0, fp0, h3, _, _⟩ := helem 0 (by omega)
                    rw [Nat.zero_mul] at h3
                    have ha0 : a.add 0 = a := by simp [Addr.add]
                    rw [ha0] at h3
                    obtain ⟨g, off, c, te, fz, rfl, hg, _, _⟩ := cells_seg h3 hsz
                    have build : ∀ m, m ≤ len → ∃ es fp, es.length = m ∧ HasAll ecs es ∧ (∀ x ∈ es, x.length = P.cellsOf e) ∧ TRs w es.flatten ((c.toList.drop off).take (m * P.cellsOf e)) fp := by
                      intro m
                      induction m with
                      | zero => intro _; exact ⟨[], [], rfl, .nil _, by simp, by simpa using TRs.nil⟩
                      | succ m ihm =>
                        intro hm
                        obtain ⟨es, fp, h5, h6, h7, h8⟩ := ihm (by omega)
                        obtain ⟨vs, ts, fq, h9, h10, h11⟩ := helem m (by omega)
                        rw [addr_add] at h9
                        obtain ⟨g', off', c', te', fz', he, hg', hseg, hvl⟩ := cells_seg h9 hsz
                        cases he
                        rw [hg] at hg'
                        cases hg'
                        refine ⟨es ++ [ts], fp ++ fq, by simp [h5], ?_, ?_, ?_⟩
                        · exact h6.snoc h11
                        · intro x hx
                          rcases List.mem_append.1 hx with hx | hx
                          · exact h7 x hx
                          · simp at hx; subst hx; rw [h11.len]; exact hcond.1
                        · rw [List.flatten_append]
                          simp only [List.flatten_cons, List.flatten_nil, List.append_nil]
                          have e1 : (c.toList.drop off).take ((m + 1) * P.cellsOf e) = (c.toList.drop off).take (m * P.cellsOf e) ++ vs := by
                            rw [Nat.add_mul, Nat.one_mul, List.take_add, List.drop_drop]
                            rw [hseg]
                          rw [e1]
                          exact h8.append h10
                    obtain ⟨es, fp, h5, h6, h7, h8⟩ := build len (Nat.le_refl _)
                    subst h5
                    refine ⟨[.lst ecs.length es], (g :: fp) ++ [], .cons ?_ .nil, .cons (.slice (by omega) h6) .nil⟩
                    rw [hcond.1]
                    exact .lst (by intro hc; subst hc; simp at hl0) hsz hb.2.1 hg h7 h8
                · cases h
            · cases hsh
          · cases hsh
        case struct fs =>
          simp only [cellSh, hu] at hsh
          split at hsh
          · rename_i scs hscs
            split at hsh
            · rename_i hcl
              cases hsh
              simp only [DataW.trod, hu] at h
              split at h
              · rename_i hlen
                simp only [Option.map_eq_some_iff] at h
                obtain ⟨xs, hxs, _⟩ := h
                have key : ∀ (l : List Field) (o : Nat) (scs : List CSh) (xs : List (DataW H × List MemPlace)), fieldsSh (cellSh P n) P l o = some scs → o + scs.length ≤ cs.length →
                    l.mapM (fun f => DataW.trod enc P w 0 sp held fuel f.type ((cs.drop f.offset).take (P.cellsOf f.type))) = some xs → ∃ ts fp, TRs w ts ((cs.drop o).take scs.length) fp ∧ HasShs scs ts := by
                  intro l
                  induction l with
                  | nil =>
                    intro o scs xs h1 _ _
                    cases h1
                    exact ⟨[], [], by simpa using TRs.nil, .nil⟩
                  | cons f l ihl =>
                    intro o scs xs h1 h2 h3
                    simp only [fieldsSh] at h1
                    split at h1
                    · rename_i ho
                      split at h1
                      · rename_i c1 hc1
                        split at h1
                        · rename_i hl1
                          split at h1
                          · rename_i c2 hc2
                            cases h1
                            simp only [List.mapM_cons, Option.bind_eq_bind, Option.bind_eq_some_iff, Option.pure_def, Option.some.injEq] at h3
                            obtain ⟨x, hx, ys, hys, rfl⟩ := h3
                            rw [List.length_append] at h2
                            obtain ⟨t1, f1, q1, q2⟩ := ih f.type _ x.1 x.2 hx n c1 hc1
                            obtain ⟨t2, f2, q3, q4⟩ := ihl (o + c1.length) c2 ys hc2 (by omega) hys
                            refine ⟨t1 ++ t2, f1 ++ f2, ?_, q2.append q4⟩
                            rw [ho, ← hl1] at q1
                            have e1 : (cs.drop o).take (c1 ++ c2).length = (cs.drop o).take c1.length ++ (cs.drop (o + c1.length)).take c2.length := by
                              rw [List.length_append, List.take_add, List.drop_drop]
                            rw [e1]
                            exact q1.append q3
                          · cases h1
                        · cases h1
                      · cases h1
                    · cases h1
                obtain ⟨ts, fp, h1, h2⟩ := key fs.toList 0 sh xs hscs (by omega) hxs
                refine ⟨ts, fp, ?_, h2⟩
                have : (cs.drop 0).take sh.length = cs := by rw [List.drop_zero]; exact List.take_of_length_le (by omega)
                rw [this] at h1
                exact h1
              · cases h
            · cases hsh
          · cases hsh

end
end Go.AM
