/-
  Parts of the proofs for this seat: AMSx.
-/
import Derived.Test.YtbapkgocloaaeaaGreatP4
set_option linter.unusedSimpArgs false
set_option linter.unusedVariables false
/- part: AMSx -/
namespace Go.AM

abbrev Rs := Option (AV × List Blk)
abbrev w (n : Int) : Int := IntKind.wrap .i64 n

def kc (k : IntKind) (n : Int) : List T := [.int k n]
def bc (b : Bool) : List T := [.bool b]
def lc {α : Type} (sz : Nat) (c : α → List T) (xs : List α) : List T := [.lst sz (xs.map c)]
@[simp] theorem kc_def (k : IntKind) (n : Int) : kc k n = [.int k n] := rfl
@[simp] theorem bc_def (b : Bool) : bc b = [.bool b] := rfl
@[simp] theorem lc_def {α : Type} (sz : Nat) (c : α → List T) (xs : List α) : lc sz c xs = [.lst sz (xs.map c)] := rfl

@[simp] theorem gt_nil (n : Nat) : gt [] n = .dead := by simp [gt]
theorem Ev_eq {C : CallE} {ks : List Fr} {s : S} {B c : MCode} (hB : B = c) : Ev C ks B s = Ev C ks c s := by rw [hB]
theorem ltOfGet {α : Type} {xs : List α} {i : Nat} {x : α} (h : xs[i]? = some x) : i < xs.length := (List.getElem?_eq_some_iff.1 h).1
theorem getOf {α : Type} {xs : List α} {i : Nat} {x : α} (h : xs[i]? = some x) : xs[i]'(ltOfGet h) = x := (List.getElem?_eq_some_iff.1 h).2
theorem roomA {n b : Nat} (h : n ≤ 68719476736) (hb : b ≤ 2048) : n * b ≤ room := Nat.le_trans (Nat.mul_le_mul h hb) (by decide)
theorem roomB {n : Nat} (h : n ≤ 68719476736) : n ≤ room := Nat.le_trans h (by decide)

theorem itb {b : Bool} {A B : Prop} : (if b = true then A else B) = ((b = true ∧ A) ∨ (b = false ∧ B)) := by cases b <;> simp
theorem itf {c : Prop} [Decidable c] {A B : Prop} : (if c then A else B) = (((c = True) ∧ A) ∨ ((c = False) ∧ B)) := by by_cases h : c <;> simp [h]
theorem kA {n : Nat} : (0 < (n : Int)) = (0 < n) := propext Int.natCast_pos
theorem kB {a b : Nat} : ((a : Int) < (b : Int)) = (a < b) := propext Int.ofNat_lt
theorem kC {a b : Nat} : ((a : Int) ≤ (b : Int)) = (a ≤ b) := propext Int.ofNat_le
theorem kD {a b : Nat} : ((a : Int) = (b : Int)) = (a = b) := propext Int.natCast_inj
theorem kE {n : Nat} : ((n : Int) = 0) = (n = 0) := propext Int.natCast_eq_zero
theorem kF {α : Type} {l : List α} : (l.length = 0) = (l = []) := propext List.length_eq_zero_iff
theorem kk : (∀ n : Nat, (0 < (n : Int)) = (0 < n)) ∧ (∀ a b : Nat, ((a : Int) < (b : Int)) = (a < b)) ∧ (∀ a b : Nat, ((a : Int) ≤ (b : Int)) = (a ≤ b)) ∧ (∀ a b : Nat, ((a : Int) = (b : Int)) = (a = b)) ∧ (∀ n : Nat, ((n : Int) = 0) = (n = 0)) ∧ ∀ (α : Type) (l : List α), (l.length = 0) = (l = []) :=
  ⟨fun _ => kA, fun _ _ => kB, fun _ _ => kC, fun _ _ => kD, fun _ => kE, fun _ _ => kF⟩
theorem mpl {α β : Type} (f : α → β) : ([].map f = []) ∧ (∀ a l, (a :: l).map f = f a :: l.map f) ∧ (∀ (l : List α) n, (l.take n).map f = (l.map f).take n) ∧ (∀ (l : List α) n, (l.drop n).map f = (l.map f).drop n) ∧ (∀ l k : List α, (l ++ k).map f = l.map f ++ k.map f) ∧ (∀ (l : List α) n a, (l.set n a).map f = (l.map f).set n (f a)) ∧ (∀ n a, (List.replicate n a).map f = List.replicate n (f a)) :=
  ⟨rfl, fun _ _ => rfl, fun _ _ => List.map_take, fun _ _ => List.map_drop, fun _ _ => List.map_append, fun _ _ _ => List.map_set, fun _ _ => List.map_replicate⟩
theorem dfs : (∀ n, ic n = [.int .i64 n]) ∧ (∀ l, isc l = [.lst 1 (l.map ic)]) ∧ (∀ s, sc s = [.str s]) ∧ (∀ b, bc b = [.bool b]) ∧ (∀ k n, kc k n = [.int k n]) ∧ (∀ (α : Type) (sz : Nat) (c : α → List T) (xs : List α), lc sz c xs = [.lst sz (xs.map c)]) :=
  ⟨fun _ => rfl, fun _ => rfl, fun _ => rfl, fun _ => rfl, fun _ _ => rfl, fun _ _ _ _ => rfl⟩
def MO.o (d : Nat) (k : MOp) : MO := ⟨some d, none, k⟩
def MO.m (d x : Nat) : MO := ⟨some d, none, .mov (.s x)⟩
def MO.g (d g : Nat) (k : MOp) : MO := ⟨some d, some (g, true), k⟩
def MO.h (d g : Nat) (k : MOp) : MO := ⟨some d, some (g, false), k⟩
def MO.n (k : MOp) : MO := ⟨none, none, k⟩
def Opd.k (n : Int) : Opd := .c (.t (.int .i64 n))
@[simp] theorem MO.g_def (d g : Nat) (k : MOp) : MO.g d g k = ⟨some d, some (g, true), k⟩ := rfl
@[simp] theorem MO.h_def (d g : Nat) (k : MOp) : MO.h d g k = ⟨some d, some (g, false), k⟩ := rfl
@[simp] theorem MO.n_def (k : MOp) : MO.n k = ⟨none, none, k⟩ := rfl
@[simp] theorem Opd.k_def (n : Int) : Opd.k n = .c (.t (.int .i64 n)) := rfl
@[simp] theorem MO.o_def (d : Nat) (k : MOp) : MO.o d k = ⟨some d, none, k⟩ := rfl
@[simp] theorem MO.m_def (d x : Nat) : MO.m d x = ⟨some d, none, .mov (.s x)⟩ := rfl
@[simp] theorem roomA' {n b : Nat} (h : n ≤ 68719476736) (hb : b ≤ 2048) : n * b ≤ room := Nat.le_trans (Nat.mul_le_mul h hb) (by decide)
@[simp] theorem roomB' {n : Nat} (h : n ≤ 68719476736) : n ≤ room := Nat.le_trans h (by decide)

theorem flat_of {α : Type} {c : α → List T} (h : ∀ x, (c x).all scalar = true) (xs : List α) : (xs.map c).all (fun x => x.all scalar) = true := by
  rw [List.all_eq_true]
  intro x hx
  obtain ⟨a, _, rfl⟩ := List.mem_map.1 hx
  exact h a
@[simp] theorem flat_ic (xs : List Int) : (xs.map ic).all (fun x => x.all scalar) = true := flat_of (fun _ => rfl) xs
@[simp] theorem flat_sc (xs : List ByteArray) : (xs.map sc).all (fun x => x.all scalar) = true := flat_of (fun _ => rfl) xs
@[simp] theorem flat_bc (xs : List Bool) : (xs.map bc).all (fun x => x.all scalar) = true := flat_of (fun _ => rfl) xs
@[simp] theorem flat_kc (k : IntKind) (xs : List Int) : (xs.map (kc k)).all (fun x => x.all scalar) = true := flat_of (fun _ => rfl) xs

theorem flat_of' {α : Type} {c : α → List T} (h : ∀ x, (c x).all scalar = true) (xs : List α) : xs.all ((fun x => x.all scalar) ∘ c) = true := by
  rw [List.all_eq_true]
  exact fun x _ => h x
@[simp] theorem flat_ic' (xs : List Int) : xs.all ((fun x => x.all scalar) ∘ ic) = true := flat_of' (fun _ => rfl) xs
@[simp] theorem flat_sc' (xs : List ByteArray) : xs.all ((fun x => x.all scalar) ∘ sc) = true := flat_of' (fun _ => rfl) xs
@[simp] theorem flat_bc' (xs : List Bool) : xs.all ((fun x => x.all scalar) ∘ bc) = true := flat_of' (fun _ => rfl) xs
@[simp] theorem flat_kc' (k : IntKind) (xs : List Int) : xs.all ((fun x => x.all scalar) ∘ kc k) = true := flat_of' (fun _ => rfl) xs
@[simp] theorem all_take {α : Type} {p : α → Bool} {l : List α} {n : Nat} (h : l.all p = true) : (l.take n).all p = true := by
  rw [List.all_eq_true] at h ⊢
  exact fun x hx => h x (List.mem_of_mem_take hx)
@[simp] theorem all_drop {α : Type} {p : α → Bool} {l : List α} {n : Nat} (h : l.all p = true) : (l.drop n).all p = true := by
  rw [List.all_eq_true] at h ⊢
  exact fun x hx => h x (List.mem_of_mem_drop hx)
@[simp] theorem all_set {α : Type} {p : α → Bool} {l : List α} {n : Nat} {a : α} (h : l.all p = true) (ha : p a = true) : (l.set n a).all p = true := by
  rw [List.all_eq_true] at h ⊢
  intro x hx
  rcases List.mem_or_eq_of_mem_set hx with hx | rfl
  · exact h x hx
  · exact ha
theorem map_inj_of {α : Type} {c : α → List T} (h : ∀ a b, c a = c b → a = b) : ∀ {xs ys : List α}, xs.map c = ys.map c ↔ xs = ys
  | [], [] => by simp
  | [], _ :: _ => by simp
  | _ :: _, [] => by simp
  | x :: xs, y :: ys => by
    simp only [List.map_cons, List.cons.injEq, map_inj_of h (xs := xs) (ys := ys)]
    exact ⟨fun ⟨a, b⟩ => ⟨h _ _ a, b⟩, fun ⟨a, b⟩ => ⟨by rw [a], b⟩⟩
@[simp] theorem map_ic (xs ys : List Int) : xs.map ic = ys.map ic ↔ xs = ys := map_inj_of (by intro a b h; simpa using h)
@[simp] theorem map_sc (xs ys : List ByteArray) : xs.map sc = ys.map sc ↔ xs = ys := map_inj_of (by intro a b h; simpa using h)
@[simp] theorem map_bc (xs ys : List Bool) : xs.map bc = ys.map bc ↔ xs = ys := map_inj_of (by intro a b h; simpa using h)
@[simp] theorem map_kc (k : IntKind) (xs ys : List Int) : xs.map (kc k) = ys.map (kc k) ↔ xs = ys := map_inj_of (by intro a b h; simpa using h)
@[simp] theorem map_isc (xs ys : List (List Int)) : xs.map isc = ys.map isc ↔ xs = ys := map_inj_of (by intro a b h; simpa using h)
@[simp] theorem map_lcic (xs ys : List (List Int)) : xs.map (lc 1 ic) = ys.map (lc 1 ic) ↔ xs = ys := map_inj_of (by intro a b h; simpa using h)
end Go.AM
