/-
  What the printed texts of blocks use.
-/
import Derived.Test.YtiniphmomjnocaaAMTy
namespace Go.AM

abbrev Rs := Option (AV × List Blk)
abbrev w (n : Int) : Int := IntKind.wrap .i64 n

def kc (k : IntKind) (n : Int) : List T := [.int k n]
def bc (b : Bool) : List T := [.bool b]
def lc {α : Type} (sz : Nat) (c : α → List T) (xs : List α) : List T := [.lst sz (xs.map c)]
@[simp] theorem kc_def (k : IntKind) (n : Int) : kc k n = [.int k n] := rfl
@[simp] theorem bc_def (b : Bool) : bc b = [.bool b] := rfl
@[simp] theorem lc_def {α : Type} (sz : Nat) (c : α → List T) (xs : List α) : lc sz c xs = [.lst sz (xs.map c)] := rfl

theorem Ev_eq {C : CallE} {ks : List Fr} {s : S} {B c : MCode} (hB : B = c) : Ev C ks B s = Ev C ks c s := by rw [hB]
theorem ltOfGet {α : Type} {xs : List α} {i : Nat} {x : α} (h : xs[i]? = some x) : i < xs.length := (List.getElem?_eq_some_iff.1 h).1
theorem getOf {α : Type} {xs : List α} {i : Nat} {x : α} (h : xs[i]? = some x) : xs[i]'(ltOfGet h) = x := (List.getElem?_eq_some_iff.1 h).2
theorem roomA {n b : Nat} (h : n ≤ 68719476736) (hb : b ≤ 2048) : n * b ≤ room := Nat.le_trans (Nat.mul_le_mul h hb) (by decide)
theorem roomB {n : Nat} (h : n ≤ 68719476736) : n ≤ room := Nat.le_trans h (by decide)

theorem flat_of {α : Type} {c : α → List T} (h : ∀ x, (c x).all scalar = true) (xs : List α) : (xs.map c).all (fun x => x.all scalar) = true := by
  rw [List.all_eq_true]
  intro x hx
  obtain ⟨a, _, rfl⟩ := List.mem_map.1 hx
  exact h a
@[simp] theorem flat_ic (xs : List Int) : (xs.map ic).all (fun x => x.all scalar) = true := flat_of (fun _ => rfl) xs
@[simp] theorem flat_sc (xs : List ByteArray) : (xs.map sc).all (fun x => x.all scalar) = true := flat_of (fun _ => rfl) xs
@[simp] theorem flat_bc (xs : List Bool) : (xs.map bc).all (fun x => x.all scalar) = true := flat_of (fun _ => rfl) xs
@[simp] theorem flat_kc (k : IntKind) (xs : List Int) : (xs.map (kc k)).all (fun x => x.all scalar) = true := flat_of (fun _ => rfl) xs

@[simp] theorem all_take {α : Type} {p : α → Bool} {l : List α} {n : Nat} (h : l.all p = true) : (l.take n).all p = true := by
  rw [List.all_eq_true] at h ⊢
  exact fun x hx => h x (List.mem_of_mem_take hx)
@[simp] theorem all_drop {α : Type} {p : α → Bool} {l : List α} {n : Nat} (h : l.all p = true) : (l.drop n).all p = true := by
  rw [List.all_eq_true] at h ⊢
  exact fun x hx => h x (List.mem_of_mem_drop hx)
@[simp] theorem all_set {α : Type} {p : α → Bool} {l : List α} {n : Nat} {a : α} (h : l.all p = true) (ha : p a = true) : (l.set n a).all p = true := by
  rw [List.all_eq_true] at h ⊢
  intro x hx
  rcases List.mem_or_eq_of_mem_set hx with hx | rfl
  · exact h x hx
  · exact ha
theorem map_inj_of {α : Type} {c : α → List T} (h : ∀ a b, c a = c b → a = b) : ∀ {xs ys : List α}, xs.map c = ys.map c ↔ xs = ys
  | [], [] => by simp
  | [], _ :: _ => by simp
  | _ :: _, [] => by simp
  | x :: xs, y :: ys => by
    simp only [List.map_cons, List.cons.injEq, map_inj_of h (xs := xs) (ys := ys)]
    exact ⟨fun ⟨a, b⟩ => ⟨h _ _ a, b⟩, fun ⟨a, b⟩ => ⟨by rw [a], b⟩⟩
@[simp] theorem map_ic (xs ys : List Int) : xs.map ic = ys.map ic ↔ xs = ys := map_inj_of (by intro a b h; simpa using h)
@[simp] theorem map_sc (xs ys : List ByteArray) : xs.map sc = ys.map sc ↔ xs = ys := map_inj_of (by intro a b h; simpa using h)
@[simp] theorem map_bc (xs ys : List Bool) : xs.map bc = ys.map bc ↔ xs = ys := map_inj_of (by intro a b h; simpa using h)
@[simp] theorem map_kc (k : IntKind) (xs ys : List Int) : xs.map (kc k) = ys.map (kc k) ↔ xs = ys := map_inj_of (by intro a b h; simpa using h)
@[simp] theorem map_isc (xs ys : List (List Int)) : xs.map isc = ys.map isc ↔ xs = ys := map_inj_of (by intro a b h; simpa using h)
@[simp] theorem map_lcic (xs ys : List (List Int)) : xs.map (lc 1 ic) = ys.map (lc 1 ic) ↔ xs = ys := map_inj_of (by intro a b h; simpa using h)
end Go.AM
