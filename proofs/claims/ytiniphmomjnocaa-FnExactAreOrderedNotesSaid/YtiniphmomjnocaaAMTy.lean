/-
  Plain data: lists of numbers, sizes, and what the regular helper functions compute.
-/
import Derived.Test.YtiniphmomjnocaaAMSimp
import Derived.Test.YtiniphmomjnocaaAMLaw2
namespace Go.AM

def ic (n : Int) : List T := [.int .i64 n]
def isc (xs : List Int) : List T := [.lst 1 (xs.map ic)]
def sc (s : ByteArray) : List T := [.str s]
@[simp] theorem ic_def (n : Int) : ic n = [.int .i64 n] := rfl
@[simp] theorem isc_def (xs : List Int) : isc xs = [.lst 1 (xs.map ic)] := rfl
@[simp] theorem sc_def (s : ByteArray) : sc s = [.str s] := rfl
abbrev tI (xs : List Int) : T := .lst 1 (xs.map ic)
abbrev tII (xs : List (List Int)) : T := .lst 1 (xs.map isc)

/-- not longer than the laws let pass -/
abbrev SmA {α : Type} (xs : List α) : Prop := xs.length ≤ 4294967296
abbrev SmL {α : Type} (p : α → Prop) (xs : List α) : Prop := xs.length ≤ 4294967296 ∧ ∀ x ∈ xs, p x
abbrev SsA (s : ByteArray) : Prop := s.size ≤ 4294967296

abbrev OkI (n : Int) : Prop := -9223372036854775808 ≤ n ∧ n ≤ 9223372036854775807
abbrev OkS (s : ByteArray) : Prop := s.size ≤ maxLen
abbrev OkL {α : Type} (p : α → Prop) (xs : List α) : Prop := xs.length ≤ maxLen ∧ ∀ x ∈ xs, p x

theorem drop_eq_iff {α : Type} {xs ys : List α} {i : Nat} (h : i < xs.length) (h' : i < ys.length) : xs.drop i = ys.drop i ↔ xs[i] = ys[i] ∧ xs.drop (i + 1) = ys.drop (i + 1) := by
  rw [List.drop_eq_getElem_cons h, List.drop_eq_getElem_cons h', List.cons.injEq]

/-- short enough for any index -/
abbrev Le {α : Type} (xs : List α) : Prop := xs.length ≤ 1099511627776
theorem inc64 {i : Nat} (h : i < 1099511627776) : IntKind.wrap .i64 ((i : Int) + 1) = (i : Int) + 1 := wrap64 (by omega) (by omega)
theorem room1 {n b : Nat} (h : n ≤ 4398046511104) (hb : b ≤ 32) : n * b ≤ room := Nat.le_trans (Nat.mul_le_mul h hb) (by decide)
theorem room2 {n : Nat} (h : n ≤ 4398046511104) : n ≤ room := Nat.le_trans h (by decide)

theorem tf (b : Bool) : b = false ∨ b = true := by cases b <;> simp

/-! ### sizes -/

def sz1 (n : Nat) (left : Int) : Int := if IntKind.wrap .i64 (left - n) < 0 then -1 else IntKind.wrap .i64 (left - n)
abbrev szI (y : List Int) (l : Int) : Int := sz1 y.length l
def andSz (l : Int) (f : Int → Int) : Int := if l < 0 then -1 else f l
def szFold {α : Type} (f : α → Int → Int) : List α → Int → Int
  | [], l => l
  | x :: xs, l => if f x l < 0 then -1 else szFold f xs (f x l)
def szL {α : Type} (f : α → Int → Int) (xs : List α) (left : Int) : Int := andSz (sz1 xs.length left) (szFold f xs)

theorem sz1_ok {n : Nat} {left : Int} (hn : n ≤ maxLen) (h0 : 0 ≤ left) (h1 : left ≤ 1048576) (h : 0 ≤ sz1 n left) : sz1 n left ≤ left ∧ n ≤ 1048576 := by
  unfold maxLen at hn
  have hw : IntKind.wrap .i64 (left - n) = left - n := wrap64 (by omega) (by omega)
  unfold sz1 at h ⊢
  rw [hw] at h ⊢
  split at h
  · omega
  · rename_i hx; rw [if_neg hx]; omega

theorem sz1_okA {n : Nat} {left : Int} (hn : n ≤ maxLen) (h0 : 0 ≤ left) (h1 : left ≤ 1048576) (h : 0 ≤ sz1 n left) : sz1 n left ≤ left ∧ n ≤ 4294967296 := by
  have := sz1_ok hn h0 h1 h
  exact ⟨this.1, by omega⟩

theorem andSz_ok {l left : Int} {f : Int → Int} {p q : Prop} (h : 0 ≤ andSz l f) (hl : 0 ≤ l → l ≤ left ∧ p) (hf : 0 ≤ l → 0 ≤ f l → f l ≤ l ∧ q) : andSz l f ≤ left ∧ p ∧ q := by
  unfold andSz at h ⊢
  split at h
  · omega
  · rename_i hx
    rw [if_neg hx]
    have h1 := hl (by omega)
    have h2 := hf (by omega) h
    exact ⟨by omega, h1.2, h2.2⟩

theorem szFold_ok {α : Type} {f : α → Int → Int} {p : α → Prop} {M : Int} : ∀ (xs : List α) (left : Int), (∀ x ∈ xs, ∀ l, 0 ≤ l → l ≤ M → 0 ≤ f x l → f x l ≤ l ∧ p x) → 0 ≤ left → left ≤ M → 0 ≤ szFold f xs left → szFold f xs left ≤ left ∧ ∀ x ∈ xs, p x
  | [], left, _, _, _, h => ⟨Int.le_refl _, fun x hx => by cases hx⟩
  | x :: xs, left, hf, h0, h1, h => by
    unfold szFold at h ⊢
    split at h
    · omega
    · rename_i hx
      rw [if_neg hx]
      obtain ⟨h2, h3⟩ := hf x (by simp) left h0 h1 (by omega)
      obtain ⟨h4, h5⟩ := szFold_ok xs (f x left) (fun y hy => hf y (by simp [hy])) (by omega) (by omega) h
      refine ⟨by omega, ?_⟩
      intro y hy
      cases hy with
      | head => exact h3
      | tail _ hy => exact h5 y hy

theorem szL_ok {α : Type} {f : α → Int → Int} {p : α → Prop} {xs : List α} {left : Int} (hn : xs.length ≤ maxLen) (hf : ∀ x ∈ xs, ∀ l, 0 ≤ l → l ≤ 1048576 → 0 ≤ f x l → f x l ≤ l ∧ p x) (h0 : 0 ≤ left) (h1 : left ≤ 1048576) (h : 0 ≤ szL f xs left) :
    szL f xs left ≤ left ∧ SmL p xs := by
  refine andSz_ok h (fun hl => sz1_okA hn h0 h1 hl) (fun hl hfl => ?_)
  have := sz1_ok hn h0 h1 hl
  exact szFold_ok xs _ hf hl (by omega) hfl

/-! ### from shapes to data -/

theorem dec_int {t : T} (h : HasSh (.int .i64) t) : ∃ n, t = .int .i64 n ∧ OkI n := by
  cases h with
  | int h => exact ⟨_, rfl, by simp [Lit.wf, IntKind.min, IntKind.max, IntKind.signed, IntKind.bits] at h; exact h⟩
theorem dec_bool {t : T} (h : HasSh .bool t) : ∃ b, t = .bool b := by
  cases h with
  | bool b => exact ⟨_, rfl⟩
theorem dec_str {t : T} (h : HasSh .str t) : ∃ s, t = .str s ∧ OkS s := by
  cases h with
  | str h => exact ⟨_, rfl, h⟩

theorem dec_all {α : Type} {c : α → List T} {p : α → Prop} {cs : List CSh} (hd : ∀ ts, HasShs cs ts → ∃ a, ts = c a ∧ p a) : ∀ {es : List (List T)}, HasAll cs es → ∃ xs : List α, es = xs.map c ∧ ∀ x ∈ xs, p x
  | [], _ => ⟨[], rfl, fun x hx => by cases hx⟩
  | e :: es, h => by
    cases h with
    | cons h hs =>
      obtain ⟨a, rfl, ha⟩ := hd e h
      obtain ⟨xs, rfl, hx⟩ := dec_all hd hs
      exact ⟨a :: xs, rfl, fun x hm => by cases hm with | head => exact ha | tail _ hm => exact hx x hm⟩

theorem dec_slice {α : Type} {c : α → List T} {p : α → Prop} {cs : List CSh} {t : T} (hd : ∀ ts, HasShs cs ts → ∃ a, ts = c a ∧ p a) (h : HasSh (.slice cs) t) : ∃ xs : List α, t = .lst cs.length (xs.map c) ∧ OkL p xs := by
  cases h with
  | slice hl h =>
    obtain ⟨xs, rfl, hx⟩ := dec_all hd h
    exact ⟨xs, rfl, by simpa using hl, hx⟩

theorem dec_cons {c : CSh} {cs : List CSh} {ts : List T} (h : HasShs (c :: cs) ts) : ∃ t us, ts = t :: us ∧ HasSh c t ∧ HasShs cs us := by
  cases h with
  | cons h hs => exact ⟨_, _, rfl, h, hs⟩
theorem dec_nil {ts : List T} (h : HasShs [] ts) : ts = [] := by cases h; rfl

theorem dec_ic (ts : List T) (h : HasShs [.int .i64] ts) : ∃ n, ts = ic n ∧ OkI n := by
  obtain ⟨t, us, rfl, h1, h2⟩ := dec_cons h
  cases dec_nil h2
  obtain ⟨n, rfl, hn⟩ := dec_int h1
  exact ⟨n, rfl, hn⟩
theorem dec_sc (ts : List T) (h : HasShs [.str] ts) : ∃ n, ts = sc n ∧ OkS n := by
  obtain ⟨t, us, rfl, h1, h2⟩ := dec_cons h
  cases dec_nil h2
  obtain ⟨n, rfl, hn⟩ := dec_str h1
  exact ⟨n, rfl, hn⟩
theorem dec_tI {t : T} (h : HasSh (.slice [.int .i64]) t) : ∃ xs, t = tI xs ∧ OkL OkI xs := dec_slice dec_ic h
theorem dec_isc (ts : List T) (h : HasShs [.slice [.int .i64]] ts) : ∃ n, ts = isc n ∧ OkL OkI n := by
  obtain ⟨t, us, rfl, h1, h2⟩ := dec_cons h
  cases dec_nil h2
  obtain ⟨n, rfl, hn⟩ := dec_tI h1
  exact ⟨n, rfl, hn⟩
theorem dec_tII {t : T} (h : HasSh (.slice [.slice [.int .i64]]) t) : ∃ xs, t = tII xs ∧ OkL (OkL OkI) xs := dec_slice dec_isc h

end Go.AM
