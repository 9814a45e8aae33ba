/-
  Plain facts on lists that the walks of loops use.
-/
import Derived.Test.YtiniphmomjnocaaAMEv
namespace Go.AM

/-- the first i are done, the others stand as they were made -/
def fill {α : Type} (f : α → List T) (z : List T) (xs : List α) (i : Nat) : List (List T) := (xs.take i).map f ++ List.replicate (xs.length - i) z

section
variable {α : Type} {f : α → List T} {z : List T} {xs : List α} {i : Nat}

theorem fill_zero : fill f z xs 0 = List.replicate xs.length z := by simp [fill]
theorem fill_all : fill f z xs xs.length = xs.map f := by simp [fill]
theorem fill_len (h : i ≤ xs.length) : (fill f z xs i).length = xs.length := by
  simp [fill]; omega
theorem fill_get (h : i < xs.length) : (fill f z xs i)[i]? = some z := by
  unfold fill
  have e : i - (List.map f (List.take i xs)).length = 0 := by simp; omega
  rw [List.getElem?_append_right (by simp; omega), e, List.getElem?_replicate, if_pos (by omega)]
@[simp] theorem fill_at (h : i < (fill f z xs i).length) : (fill f z xs i)[i] = z := by
  have h1 : i < xs.length := by
    unfold fill at h
    simp at h
    omega
  have h2 := fill_get (f := f) (z := z) h1
  rw [List.getElem?_eq_getElem h] at h2
  exact Option.some.inj h2
theorem fill_set (h : i < xs.length) : (fill f z xs i).set i (f xs[i]) = fill f z xs (i + 1) := by
  unfold fill
  have e : xs.length - i = (xs.length - (i + 1)) + 1 := by omega
  rw [e, List.replicate_succ, List.set_append_right _ _ (by simp; omega)]
  have e2 : i - (List.map f (List.take i xs)).length = 0 := by simp; omega
  rw [e2, List.set_cons_zero, List.take_add_one, List.getElem?_eq_getElem h]
  simp only [Option.toList, List.map_append, List.map_cons, List.map_nil, List.append_assoc, List.singleton_append]
end

theorem wrap64 {n : Int} (h1 : -9223372036854775808 ≤ n) (h2 : n ≤ 9223372036854775807) : IntKind.wrap .i64 n = n := by
  simp only [IntKind.wrap, IntKind.signed, IntKind.bits, Bool.true_and]
  split
  · rename_i h; have h := of_decide_eq_true h; omega
  · rename_i h; simp at h; omega

end Go.AM
