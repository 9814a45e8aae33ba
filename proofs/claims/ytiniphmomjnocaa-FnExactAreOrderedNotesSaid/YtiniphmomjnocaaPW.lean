/-
  Plain data: what the functions compute.
-/
import Derived.Test.YtiniphmomjnocaaTX
namespace Go.Proofs.Ytiniphmomjnocaa
open Go.AM
set_option linter.unusedSimpArgs false
set_option linter.unusedVariables false

def firstDiff : List Int → List Int → Option Int
  | a :: as', b :: bs => if a < b then some (-1) else if a > b then some 1 else firstDiff as' bs
  | _, _ => none
def cmpRows (xs ys : List Int) : Int := match firstDiff xs ys with
  | some r => r
  | none => if xs.length < ys.length then -1 else if xs.length > ys.length then 1 else 0
theorem firstDiff_ne {xs ys : List Int} {r : Int} (h : firstDiff xs ys = some r) : r ≠ 0 ∧ xs ≠ ys := by
  induction xs generalizing ys with
  | nil => cases ys <;> simp [firstDiff] at h
  | cons x xs ih =>
    cases ys with
    | nil => simp [firstDiff] at h
    | cons y ys =>
      simp only [firstDiff] at h
      split at h
      · cases h; exact ⟨by omega, fun hc => by cases hc; omega⟩
      · split at h
        · cases h; exact ⟨by omega, fun hc => by cases hc; omega⟩
        · have := ih h
          exact ⟨this.1, fun hc => this.2 (by cases hc; rfl)⟩
theorem firstDiff_none {xs ys : List Int} (h : firstDiff xs ys = none) (hl : xs.length = ys.length) : xs = ys := by
  induction xs generalizing ys with
  | nil => cases ys <;> simp at hl ⊢
  | cons x xs ih =>
    cases ys with
    | nil => simp at hl
    | cons y ys =>
      simp only [firstDiff] at h
      split at h
      · cases h
      · split at h
        · cases h
        · have : x = y := by omega
          rw [this, ih h (by simpa using hl)]
theorem cmpRows_zero (xs ys : List Int) : cmpRows xs ys = 0 ↔ xs = ys := by
  unfold cmpRows
  cases hd : firstDiff xs ys with
  | some r => simp [(firstDiff_ne hd).1, (firstDiff_ne hd).2]
  | none =>
    simp only
    constructor
    · intro h
      refine firstDiff_none hd ?_
      split at h
      · omega
      · split at h <;> omega
    · rintro rfl; simp
def inR (a b c : Int) : Bool := decide (b ≤ a ∧ a ≤ c)
def classSize (c : Int) : Int := if c < 0 then -1 else if c = 0 then 0 else if c = 1 then 1 else if c = 2 then 4 else if c = 3 then 16 else if c = 4 then 64 else if c = 5 then 256 else if c = 6 then 1024 else if c = 7 then 4096 else -1
theorem cls8 {c : Int} (h : inR c 0 7 = true) : c = 0 ∨ c = 1 ∨ c = 2 ∨ c = 3 ∨ c = 4 ∨ c = 5 ∨ c = 6 ∨ c = 7 := by
  simp [inR] at h; omega
theorem classSize_out {c : Int} (h : inR c 0 7 = false) : classSize c = -1 := by
  simp [inR] at h
  unfold classSize
  split
  · rfl
  · repeat' split
    all_goals omega
def sizeClass (n : Int) : Int := if n < 0 then -1 else if n ≤ 0 then 0 else if n ≤ 1 then 1 else if n ≤ 4 then 2 else if n ≤ 16 then 3 else if n ≤ 64 then 4 else if n ≤ 256 then 5 else if n ≤ 1024 then 6 else if n ≤ 4096 then 7 else -1
def roundUp (n : Int) : Int := classSize (sizeClass n)
theorem roundUp_neg (n : Int) : roundUp n < 0 ↔ inR n 0 4096 = false := by
  unfold roundUp sizeClass
  simp [inR]
  repeat' split
  all_goals simp [classSize]
  all_goals omega
theorem drop_all {α : Type} (p : α → Bool) {xs : List α} {i : Nat} (h : i < xs.length) : (xs.drop i).all p = (p xs[i] && (xs.drop (i + 1)).all p) := by
  rw [List.drop_eq_getElem_cons h, List.all_cons]
theorem drop_any {α : Type} (p : α → Bool) {xs : List α} {i : Nat} (h : i < xs.length) : (xs.drop i).any p = (p xs[i] || (xs.drop (i + 1)).any p) := by
  rw [List.drop_eq_getElem_cons h, List.any_cons]
def allLoc (xs : List Int) : Bool := xs.all (fun x => inR x 0 7)
def isLoc (xs : List Int) : Bool := allLoc xs && decide ((xs.length : Int) ≤ 16)
theorem allLoc_drop {xs : List Int} {i : Nat} (h : i < xs.length) : allLoc (xs.drop i) = (inR xs[i] 0 7 && allLoc (xs.drop (i + 1))) := drop_all _ h
def domAll : List Int → List Int → Bool
  | x :: xs, y :: ys => decide (y ≤ x) && domAll xs ys
  | _, _ => true
def dom (xs ys : List Int) : Bool := decide (xs.length = ys.length) && domAll xs ys
theorem dom_drop {xs ys : List Int} {i : Nat} (h : i < xs.length) (h' : i < ys.length) : domAll (xs.drop i) (ys.drop i) = (decide (ys[i] ≤ xs[i]) && domAll (xs.drop (i + 1)) (ys.drop (i + 1))) := by
  rw [List.drop_eq_getElem_cons h, List.drop_eq_getElem_cons h', domAll]
def validBox (lo hi : List Int) : Bool := decide (0 < lo.length) && isLoc lo && isLoc hi && dom hi lo
def inBox (lo hi l : List Int) : Bool := validBox lo hi && dom l lo && dom hi l
def bit4 (a b c d : Bool) : Int := (if a then 1 else 0) + (if b then 2 else 0) + (if c then 4 else 0) + (if d then 8 else 0)
def bits4 (p : Nat → Bool) : Int := bit4 (p 0) (p 1) (p 2) (p 3)
theorem in4 {v : Int} (h : inR v 0 3 = true) : v = 0 ∨ v = 1 ∨ v = 2 ∨ v = 3 := by simp [inR] at h; omega
def has (xs : List Int) (v : Int) : Bool := xs.any (fun x => decide (v = x))
theorem has_iff {xs : List Int} {v : Int} : has xs v = true ↔ v ∈ xs := by
  simp only [has, List.any_eq_true, decide_eq_true_eq]
  exact ⟨fun ⟨x, h, e⟩ => e ▸ h, fun h => ⟨v, h, rfl⟩⟩
def addV (p : Nat → Bool) (vs : List Int) : Nat → Bool := fun u => p u || has vs u
theorem addV_nil (p : Nat → Bool) : addV p [] = p := by funext u; simp [addV, has]
theorem addV_cons (p : Nat → Bool) (v : Int) (vs : List Int) : addV (addV p [v]) vs = addV p (v :: vs) := by funext u; simp [addV, has, Bool.or_assoc]
theorem addV_drop (p : Nat → Bool) {vs : List Int} {i : Nat} (h : i < vs.length) : addV p (vs.drop i) = addV (addV p [vs[i]]) (vs.drop (i + 1)) := by
  rw [List.drop_eq_getElem_cons h, addV_cons]
theorem or_d : ∀ a b c d : Bool, orI (bit4 a b c d) 1 = bit4 true b c d ∧ orI (bit4 a b c d) 2 = bit4 a true c d ∧ orI (bit4 a b c d) 4 = bit4 a b true d ∧ orI (bit4 a b c d) 8 = bit4 a b c true := by decide
theorem or_bit (p : Nat → Bool) {v : Int} (h : inR v 0 3 = true) : orI (bits4 p) (shlI 1 v) = bits4 (addV p [v]) := by
  have q := or_d (p 0) (p 1) (p 2) (p 3)
  rcases in4 h with rfl | rfl | rfl | rfl <;> simp [addV, has, bits4, shlI, wrap64, q]
theorem and_d : ∀ a b c d : Bool, (andI (shrI (bit4 a b c d) 0) 1 = 1 ↔ a = true) ∧ (andI (shrI (bit4 a b c d) 1) 1 = 1 ↔ b = true) ∧ (andI (shrI (bit4 a b c d) 2) 1 = 1 ↔ c = true) ∧ (andI (shrI (bit4 a b c d) 3) 1 = 1 ↔ d = true) := by decide
theorem at_bit (p : Nat → Bool) {v : Int} (h : inR v 0 3 = true) : andI (shrI (bits4 p) v) 1 = 1 ↔ p v.toNat = true := by
  have q := and_d (p 0) (p 1) (p 2) (p 3)
  rcases in4 h with rfl | rfl | rfl | rfl <;> simp [bits4, q]
theorem and4 : ∀ a b c d a' b' c' d' : Bool, andI (bit4 a b c d) (bit4 a' b' c' d') = bit4 (a && a') (b && b') (c && c') (d && d') := by decide
theorem and_bits (p q : Nat → Bool) : andI (bits4 p) (bits4 q) = bits4 (fun u => p u && q u) := and4 _ _ _ _ _ _ _ _
theorem zero4 : ∀ a b c d : Bool, bit4 a b c d = 0 ↔ (a = false ∧ b = false ∧ c = false ∧ d = false) := by decide
theorem bits_zero (p : Nat → Bool) : bits4 p = 0 ↔ ∀ u, u < 4 → p u = false := by
  rw [bits4, zero4]
  constructor
  · rintro ⟨h0, h1, h2, h3⟩ u hu
    match u, hu with
    | 0, _ => exact h0
    | 1, _ => exact h1
    | 2, _ => exact h2
    | 3, _ => exact h3
  · intro h; exact ⟨h 0 (by omega), h 1 (by omega), h 2 (by omega), h 3 (by omega)⟩
/-- The number of the first that answers, counted from i; -1 if none does. -/
def find1 {α : Type} (p : α → Bool) : List α → Nat → Int
  | [], _ => -1
  | x :: xs, i => if p x = true then i else find1 p xs (i + 1)
theorem find1_drop {α : Type} (p : α → Bool) {xs : List α} {i : Nat} (h : i < xs.length) : find1 p (xs.drop i) i = if p xs[i] = true then (i : Int) else find1 p (xs.drop (i + 1)) (i + 1) := by
  rw [List.drop_eq_getElem_cons h, find1]
theorem find1_none {α : Type} (p : α → Bool) (xs : List α) : ∀ i, xs.any p = false → find1 p xs i = -1 := by
  induction xs with
  | nil => intro i _; rfl
  | cons x xs ih => intro i h; simp at h; simp [find1, h]; apply ih; simp; exact h.2
theorem find1_some {α : Type} (p : α → Bool) (xs : List α) : ∀ i, xs.any p = true → 0 ≤ find1 p xs i := by
  induction xs with
  | nil => intro i h; simp at h
  | cons x xs ih =>
    intro i h
    unfold find1
    split
    · omega
    · rename_i hx; simp only [List.any_cons, hx, Bool.false_or] at h; exact ih _ h
abbrev tB (xs : List Bool) : T := .lst 1 (xs.map fun b => [T.bool b])
def nmOk (s : ByteArray) : Bool := match s[0]? with
  | some b => decide (s.size = 1) && decide (97 ≤ (b.toNat : Int)) && decide ((b.toNat : Int) ≤ 122)
  | none => false
theorem get0 {s : ByteArray} (h : s.size = 1) : ∃ b, s[0]? = some b := ⟨s[0], getElem?_pos s 0 (by omega)⟩
def varsOk (n : Int) (pre : List Int) : List Int → Bool
  | [] => true
  | v :: rest => inR v 0 (n - 1) && !has pre v && varsOk n (pre ++ [v]) rest
theorem varsOk_drop (n : Int) {vs : List Int} {k : Nat} (h : k < vs.length) : varsOk n (vs.take k) (vs.drop k) = (inR vs[k] 0 (n - 1) && !has (vs.take k) vs[k] && varsOk n (vs.take (k + 1)) (vs.drop (k + 1))) := by
  conv => lhs; rw [List.drop_eq_getElem_cons h, varsOk]
  rw [List.take_add_one, List.getElem?_eq_getElem h]
  rfl
theorem varsOk_in {n : Int} : ∀ {vs pre : List Int}, varsOk n pre vs = true → ∀ v ∈ vs, inR v 0 (n - 1) = true
  | [], _, _, v, hv => by cases hv
  | x :: xs, pre, h, v, hv => by
    simp only [varsOk, Bool.and_eq_true] at h
    cases hv with
    | head => exact h.1.1
    | tail _ hv => exact varsOk_in h.2 v hv
def okAtom (n : Int) (a : Atom) : Bool := nmOk a.Name && inR a.Vars.length 1 3 && varsOk n [] a.Vars
/-- the variables that occur -/
def addA (p : Nat → Bool) (qa : List Atom) : Nat → Bool := fun u => p u || qa.any fun a => has a.Vars u
theorem addA_drop (p : Nat → Bool) {qa : List Atom} {i : Nat} (h : i < qa.length) : addA p (qa.drop i) = addA (addV p qa[i].Vars) (qa.drop (i + 1)) := by
  rw [List.drop_eq_getElem_cons h]; funext u; simp only [addA, List.any_cons, addV, Bool.or_assoc]
def validQ (n : Int) (qa : List Atom) : Bool :=
  inR n 1 4 && inR qa.length 1 4 && qa.all (okAtom n) && (List.range n.toNat).all (addA (fun _ => false) qa)
def bl (p : Nat → Bool) (n : Nat) : List (List T) := (List.range n).map fun u => [T.bool (p u)]
theorem bl_len (p : Nat → Bool) (n : Nat) : (bl p n).length = n := by simp [bl]
@[simp] theorem bl_get (p : Nat → Bool) (n i : Nat) (h : i < (bl p n).length) : (bl p n)[i] = [T.bool (p i)] := by simp [bl]
theorem bl_set (p : Nat → Bool) (n : Nat) {v : Int} (h : inR v 0 ((n : Int) - 1) = true) : (bl p n).set v.toNat [T.bool true] = bl (addV p [v]) n := by
  simp [inR] at h
  apply List.ext_getElem
  · simp [bl]
  · intro i h1 h2
    simp only [bl, List.length_set, List.length_map, List.length_range] at h1
    rw [List.getElem_set]
    simp only [bl, List.getElem_map, List.getElem_range]
    by_cases e : v.toNat = i
    · have : (i : Int) = v := by omega
      simp [e, addV, has, this]
    · have : ¬ (i : Int) = v := by omega
      simp [e, addV, has, this]
theorem bl_any (p : Nat → Bool) (n : Nat) : ((List.range n).map p).any (fun x => false == x) = !(List.range n).all p := by
  rw [List.any_map, Bool.eq_iff_iff]
  simp
theorem inR3 {n : Nat} (hn : n ≤ 4) {v : Int} (h : inR v 0 ((n : Int) - 1) = true) : inR v 0 3 = true := by simp [inR] at h ⊢; omega
theorem shl_neg {v : Int} (h : inR v 0 3 = true) : ¬ v < 0 := by simp [inR] at h; omega
theorem full_bits : ∀ a b c d : Bool, (bit4 a b c d = 1 ↔ (a = true ∧ b = false ∧ c = false ∧ d = false)) ∧ (bit4 a b c d = 3 ↔ (a = true ∧ b = true ∧ c = false ∧ d = false)) ∧ (bit4 a b c d = 7 ↔ (a = true ∧ b = true ∧ c = true ∧ d = false)) ∧ (bit4 a b c d = 15 ↔ (a = true ∧ b = true ∧ c = true ∧ d = true)) := by decide
theorem all_in {n : Int} {qa : List Atom} (h : qa.all (okAtom n) = true) : ∀ u : Int, n ≤ u → qa.any (fun a => has a.Vars u) = false := by
  intro u hu
  rw [List.any_eq_false]
  intro a ha hc
  rw [has_iff] at hc
  have := List.all_eq_true.1 h a ha
  simp only [okAtom, Bool.and_eq_true] at this
  have := varsOk_in this.2 _ hc
  simp [inR] at this
  omega
def fullM (n : Int) (qa : List Atom) : Int := if validQ n qa = true then shlI 1 qa.length - 1 else 0
theorem shl_len {n : Int} {qa : List Atom} (h : validQ n qa = true) : (qa.length = 1 ∨ qa.length = 2 ∨ qa.length = 3 ∨ qa.length = 4) ∧ shlI 1 qa.length = 2 ^ qa.length ∧ IntKind.wrap .i64 (shlI 1 qa.length - 1) = shlI 1 qa.length - 1 ∧ IntKind.wrap .i64 (shlI 1 qa.length - 1 + 1) = shlI 1 qa.length - 1 + 1 := by
  simp only [validQ, Bool.and_eq_true] at h
  have h2 := h.1.1.2
  simp [inR] at h2
  have h3 : qa.length = 1 ∨ qa.length = 2 ∨ qa.length = 3 ∨ qa.length = 4 := by omega
  refine ⟨h3, ?_⟩
  rcases h3 with h3 | h3 | h3 | h3 <;> rw [h3] <;> decide
theorem fullM_inc (n : Int) (qa : List Atom) : IntKind.wrap .i64 (fullM n qa + 1) = fullM n qa + 1 := by
  unfold fullM
  split
  · rename_i h; exact (shl_len h).2.2.2
  · decide
def boxOkQ (n : Int) (qa : List Atom) (lo hi : List Int) : Bool := validBox lo hi && decide ((lo.length : Int) = fullM n qa + 1)
def inMask (m : Int) (i : Nat) : Bool := decide (andI (shrI m i) 1 = 1)
/-- does a variable occur in an atom of the mask, from atom i on -/
def hasV (m : Int) : List Atom → Nat → Int → Bool
  | [], _, _ => false
  | a :: as', i, u => (inMask m i && has a.Vars u) || hasV m as' (i + 1) u
theorem hasV_drop (m : Int) {qa : List Atom} {i : Nat} (h : i < qa.length) (u : Int) : hasV m (qa.drop i) i u = ((inMask m i && has qa[i].Vars u) || hasV m (qa.drop (i + 1)) (i + 1) u) := by
  rw [List.drop_eq_getElem_cons h, hasV]
def pV (m : Int) (qa : List Atom) : Nat → Bool := fun u => hasV m qa 0 u
/-- all variables are among the first four -/
def Var4 (qa : List Atom) : Prop := ∀ a ∈ qa, ∀ v ∈ a.Vars, inR v 0 3 = true
theorem valid_var {n : Int} {qa : List Atom} (h : validQ n qa = true) : ∀ a ∈ qa, ∀ v ∈ a.Vars, inR v 0 (n - 1) = true := by
  intro a ha v hv
  simp only [validQ, Bool.and_eq_true] at h
  have := List.all_eq_true.1 h.1.2 a ha
  simp only [okAtom, Bool.and_eq_true] at this
  exact varsOk_in this.2 v hv
theorem valid_n {n : Int} {qa : List Atom} (h : validQ n qa = true) : 1 ≤ n ∧ n ≤ 4 := by
  simp only [validQ, Bool.and_eq_true] at h
  have := h.1.1.1
  simpa [inR] using this
theorem valid_len {n : Int} {qa : List Atom} (h : validQ n qa = true) : 1 ≤ qa.length ∧ qa.length ≤ 4 := by
  simp only [validQ, Bool.and_eq_true] at h
  have := h.1.1.2
  simp [inR] at this
  omega
theorem valid_vars {n : Int} {qa : List Atom} (h : validQ n qa = true) : ∀ a ∈ qa, 1 ≤ a.Vars.length ∧ a.Vars.length ≤ 3 := by
  intro a ha
  simp only [validQ, Bool.and_eq_true] at h
  have := List.all_eq_true.1 h.1.2 a ha
  simp only [okAtom, Bool.and_eq_true] at this
  have := this.1.2
  simp [inR] at this
  omega
theorem valid4 {n : Int} {qa : List Atom} (h : validQ n qa = true) : Var4 qa := by
  intro a ha v hv
  have := valid_var h a ha v hv
  have h2 := valid_n h
  simp [inR] at this ⊢
  omega
def addM (m : Int) (p : Nat → Bool) (qa : List Atom) (i : Nat) : Nat → Bool := fun u => p u || hasV m (qa.drop i) i u
theorem addM_step (m : Int) (p : Nat → Bool) {qa : List Atom} {i : Nat} (h : i < qa.length) : addM m p qa i = addM m (if inMask m i = true then addV p qa[i].Vars else p) qa (i + 1) := by
  funext u
  rw [addM, hasV_drop _ h]
  rcases tf (inMask m i) with e | e <;> simp [addM, addV, e, Bool.or_assoc]
def varL (m : Int) (qa : List Atom) (k : Nat) : List Int := ((List.range k).filter (pV m qa)).map fun u : Nat => (u : Int)
theorem varL_succ (m : Int) (qa : List Atom) (k : Nat) : varL m qa (k + 1) = varL m qa k ++ if hasV m qa 0 k = true then [(k : Int)] else [] := by
  unfold varL
  rw [List.range_succ, List.filter_append, List.map_append]
  rcases tf (hasV m qa 0 k) with e | e <;> simp [pV, e]
theorem varL_len (m : Int) (qa : List Atom) (k : Nat) : (varL m qa k).length ≤ k := by
  unfold varL
  simp
  exact Nat.le_trans (List.length_filter_le _ _) (by simp)
theorem filter_take {α : Type} (p : α → Bool) {xs : List α} {i : Nat} (h : i < xs.length) : (xs.take (i + 1)).filter p = (xs.take i).filter p ++ if p xs[i] = true then [xs[i]] else [] := by
  rw [List.take_add_one, List.getElem?_eq_getElem h, List.filter_append]
  rcases tf (p xs[i]) with e | e <;> simp [e]
def vin (qa : List Atom) (m v : Int) : Bool := inR v 0 3 && pV m qa v.toNat
def shr (qa : List Atom) (a b : Int) : Bool := (List.range 4).any fun u => pV a qa u && pV b qa u
def topAt (st : List Int) (info : List StepInfo) (k : Nat) : Option (Int × StepInfo) := if k ≤ st.length then (match st[st.length - k]? with
  | some s => (info[s.toNat]?).map (s, ·)
  | none => none) else none
def joinO (qa : List Atom) (x : PlanStep) (y z : StepInfo) : Option Int :=
  if x.Kind = 3 ∧ x.Order = 0 then some (-1)
  else if x.Kind = 5 ∧ x.Order = 0 then some y.Order
  else if x.Kind = 4 ∧ vin qa y.Mask x.Order = true ∧ vin qa z.Mask x.Order = true ∧ y.Order = x.Order ∧ z.Order = x.Order then some x.Order
  else none
def stepI (qa : List Atom) (x : PlanStep) (info : List StepInfo) (st : List Int) : Option StepInfo :=
  if x.Kind = 1 then (if inR x.Atom 0 (qa.length - 1) = true ∧ x.Order = 0 then some ⟨shlI 1 x.Atom, (match qa[x.Atom.toNat]? with | some a => a.Vars.headD 0 | none => 0), -1, -1⟩ else none)
  else if x.Atom ≠ 0 then none
  else if x.Kind = 2 then (match topAt st info 1 with
    | some (s, y) => if vin qa y.Mask x.Order = true ∧ y.Order ≠ x.Order then some ⟨y.Mask, x.Order, s, -1⟩ else none
    | none => none)
  else match topAt st info 2, topAt st info 1 with
    | some (s, y), some (t, z) => if andI y.Mask z.Mask = 0 ∧ shr qa y.Mask z.Mask = true then (joinO qa x y z).map (⟨orI y.Mask z.Mask, ·, s, t⟩) else none
    | _, _ => none
def StOk (info : List StepInfo) (st : List Int) : Prop := ∀ s ∈ st, 0 ≤ s ∧ s.toNat < info.length
theorem topAt_ok {info : List StepInfo} {st : List Int} (h : StOk info st) {k : Nat} (h1 : 1 ≤ k) (h2 : k ≤ st.length) :
    ∃ s y, topAt st info k = some (s, y) ∧ st[st.length - k]? = some s ∧ 0 ≤ s ∧ info[s.toNat]? = some y := by
  have hlt : st.length - k < st.length := by omega
  obtain ⟨h3, h4⟩ := h _ (List.getElem_mem hlt)
  refine ⟨st[st.length - k], info[(st[st.length - k]).toNat], ?_, List.getElem?_eq_getElem hlt, h3, List.getElem?_eq_getElem h4⟩
  simp [topAt, h2, List.getElem?_eq_getElem hlt, List.getElem?_eq_getElem h4]
theorem pV_lt {n : Int} {qa : List Atom} (h : validQ n qa = true) {m : Int} {u : Nat} (hp : pV m qa u = true) : (u : Int) < n := by
  have : ∀ (l : List Atom) (i : Nat), (∀ a ∈ l, a ∈ qa) → hasV m l i u = true → (u : Int) < n := by
    intro l
    induction l with
    | nil => intro i _ hh; simp [hasV] at hh
    | cons a l ih =>
      intro i hs hh
      simp only [hasV, Bool.or_eq_true, Bool.and_eq_true] at hh
      rcases hh with hh | hh
      · have := valid_var h a (hs a (by simp)) u (has_iff.1 hh.2)
        simp [inR] at this
        omega
      · exact ih (i + 1) (fun b hb => hs b (by simp [hb])) hh
  exact this qa 0 (fun a ha => ha) hp
theorem has_varL {n : Int} {qa : List Atom} (h : validQ n qa = true) (m v : Int) : has (varL m qa n.toNat) v = vin qa m v := by
  have hn := valid_n h
  rw [Bool.eq_iff_iff, has_iff]
  simp only [varL, List.mem_map, List.mem_filter, List.mem_range, vin, Bool.and_eq_true]
  constructor
  · rintro ⟨u, ⟨h1, h2⟩, rfl⟩
    refine ⟨by simp [inR]; omega, by simpa using h2⟩
  · rintro ⟨h1, h2⟩
    have h3 := pV_lt h h2
    simp [inR] at h1
    exact ⟨v.toNat, ⟨by omega, h2⟩, by omega⟩
theorem shared_len {n : Int} {qa : List Atom} (h : validQ n qa = true) (a b : Int) : ((varL a qa n.toNat).filter (has (varL b qa n.toNat))).length = 0 ↔ shr qa a b = false := by
  have hn := valid_n h
  rw [List.length_eq_zero_iff, List.filter_eq_nil_iff, shr, List.any_eq_false]
  simp only [has_varL h]
  constructor
  · intro hh u hu
    simp only [List.mem_range] at hu
    simp only [Bool.and_eq_true, not_and]
    intro h1 h2
    have h3 := pV_lt h h1
    refine hh (u : Int) ?_ ?_
    · simp only [varL, List.mem_map, List.mem_filter, List.mem_range]
      exact ⟨u, ⟨by omega, h1⟩, rfl⟩
    · simp only [vin, Bool.and_eq_true]
      exact ⟨by simp [inR]; omega, by simpa using h2⟩
  · intro hh v hv
    simp only [varL, List.mem_map, List.mem_filter, List.mem_range] at hv
    obtain ⟨u, ⟨h1, h2⟩, rfl⟩ := hv
    have := hh u (by simp only [List.mem_range]; omega)
    simp only [Bool.and_eq_true, not_and] at this
    simp only [vin, Bool.and_eq_true, not_and]
    intro _
    simpa using this h2
theorem has_shared {n : Int} {qa : List Atom} (h : validQ n qa = true) (a b v : Int) : has ((varL a qa n.toNat).filter (has (varL b qa n.toNat))) v = (vin qa a v && vin qa b v) := by
  rw [Bool.eq_iff_iff, has_iff, List.mem_filter, ← has_iff, has_varL h, has_varL h, Bool.and_eq_true]
theorem shr_bits (qa : List Atom) (a b : Int) : andI (bits4 (pV a qa)) (bits4 (pV b qa)) = 0 ↔ shr qa a b = false := by
  rw [and_bits, bits_zero, shr, List.any_eq_false]
  simp
abbrev stepA (x : PlanStep) : AV := .agg [I x.Kind, I x.Atom, I x.Order]
abbrev siA (y : StepInfo) : AV := .agg [I y.Mask, I y.Order, I y.Left, I y.Right]
abbrev siZ : AV := .agg [I 0, I 0, I 0, I 0]
def popsI (x : PlanStep) : Int := if x.Kind = 1 then 0 else if x.Kind = 2 then 1 else 2
theorem hd0 {xs : List Int} (h : 0 < xs.length) : xs.head?.getD 0 = xs[0] := by cases xs with | nil => simp at h | cons x xs => rfl
def pops (y : StepInfo) : Nat := if 0 ≤ y.Right then 2 else if 0 ≤ y.Left then 1 else 0
def planGo (qa : List Atom) : List PlanStep → Nat → List StepInfo → List Int → Option (List StepInfo × List Int)
  | [], _, info, st => some (info, st)
  | x :: xs, i, info, st => match stepI qa x info st with
    | none => none
    | some y => planGo qa xs (i + 1) (info ++ [y]) (st.take (st.length - pops y) ++ [(i : Int)])
theorem planGo_drop (qa : List Atom) {xs : List PlanStep} {i : Nat} (h : i < xs.length) (info : List StepInfo) (st : List Int) : planGo qa (xs.drop i) i info st = match stepI qa xs[i] info st with
    | none => none
    | some y => planGo qa (xs.drop (i + 1)) (i + 1) (info ++ [y]) (st.take (st.length - pops y) ++ [(i : Int)]) := by
  rw [List.drop_eq_getElem_cons h, planGo]
def planInfo (n : Int) (qa : List Atom) (steps : List PlanStep) : Option (List StepInfo) :=
  if validQ n qa = true ∧ inR steps.length 1 14 = true then (match planGo qa steps 0 [] [] with
    | some (info, st) => if st.length = 1 then some info else none
    | none => none) else none
theorem topAt_some {st : List Int} {info : List StepInfo} {k : Nat} {s : Int} {y : StepInfo} (hs : StOk info st) (h1 : 1 ≤ k) (h : topAt st info k = some (s, y)) : k ≤ st.length ∧ 0 ≤ s ∧ s.toNat < info.length ∧ info[s.toNat]? = some y := by
  have hk : k ≤ st.length := by
    unfold topAt at h
    split at h
    · assumption
    · cases h
  obtain ⟨s', y', q1, q2, q3, q4⟩ := topAt_ok hs h1 hk
  rw [q1] at h
  cases h
  exact ⟨hk, q3, (List.getElem?_eq_some_iff.1 q4).1, q4⟩
/-- what a step's info says -/
theorem step_facts {qa : List Atom} {x : PlanStep} {info : List StepInfo} {st : List Int} {y : StepInfo} (hs : StOk info st) (h : stepI qa x info st = some y) :
    popsI x = pops y ∧ pops y ≤ st.length ∧ (0 ≤ y.Right ↔ 3 ≤ x.Kind) := by
  unfold stepI at h
  unfold popsI pops
  split at h
  · rename_i k1
    split at h
    · cases h; simp [k1]
    · cases h
  · rename_i k1
    split at h
    · cases h
    · split at h
      · rename_i k2
        split at h
        · rename_i s y' ht
          split at h
          · cases h
            obtain ⟨t1, t2, _⟩ := topAt_some hs (Nat.le_refl 1) ht
            simp [k2, t2, t1]
          · cases h
        · cases h
      · rename_i k2
        split at h
        · rename_i s y' t z ht hu
          split at h
          · obtain ⟨t1, t2, _⟩ := topAt_some hs (by omega : 1 ≤ 2) ht
            obtain ⟨u1, u2, _⟩ := topAt_some hs (by omega : 1 ≤ 1) hu
            obtain ⟨o, ho, rfl⟩ := Option.map_eq_some_iff.1 h
            have hk : x.Kind = 3 ∨ x.Kind = 4 ∨ x.Kind = 5 := by
              unfold joinO at ho
              split at ho
              · omega
              · split at ho
                · omega
                · split at ho
                  · omega
                  · cases ho
            simp only [u2, if_true, k1, k2, if_false]
            refine ⟨rfl, t1, ?_⟩
            simp; omega
          · cases h
        · cases h
theorem st_next {info : List StepInfo} {st : List Int} (hs : StOk info st) (y : StepInfo) (k : Nat) : StOk (info ++ [y]) (st.take k ++ [(info.length : Int)]) := by
  intro s h
  rcases List.mem_append.1 h with h | h
  · obtain ⟨h1, h2⟩ := hs s (List.mem_of_mem_take h)
    exact ⟨h1, by simp; omega⟩
  · simp at h
    subst h
    simp
theorem st_len {st : List Int} {i k : Nat} (h : st.length ≤ i) (x : Int) : (st.take k ++ [x]).length ≤ i + 1 := by simp; omega
theorem flatI (xs : List Int) (k : Nat) : ((xs.map ic).take k).all (fun x => x.all scalar) = true := by
  rw [List.all_eq_true]
  intro x hx
  have := List.mem_of_mem_take hx
  simp only [List.mem_map] at this
  obtain ⟨a, _, rfl⟩ := this
  rfl
theorem planGo_len {qa : List Atom} : ∀ {xs : List PlanStep} {i : Nat} {info : List StepInfo} {st : List Int} {info' : List StepInfo} {st' : List Int}, planGo qa xs i info st = some (info', st') → info'.length = info.length + xs.length
  | [], _, _, _, _, _, h => by simp [planGo] at h; simp [h.1]
  | x :: xs, i, info, st, info', st', h => by
    rw [planGo] at h
    split at h
    · cases h
    · have := planGo_len h
      simp at this ⊢
      omega
theorem planInfo_len {n : Int} {qa : List Atom} {steps : List PlanStep} {info : List StepInfo} (h : planInfo n qa steps = some info) : validQ n qa = true ∧ info.length = steps.length ∧ 1 ≤ steps.length ∧ steps.length ≤ 14 := by
  unfold planInfo at h
  split at h
  · rename_i hc
    have h2 := hc.2
    simp [inR] at h2
    split at h
    · rename_i info' st hg
      split at h
      · cases h
        have := planGo_len hg
        simp at this
        exact ⟨hc.1, this, by omega, by omega⟩
      · cases h
    · cases h
  · cases h
def planMask (n : Int) (qa : List Atom) (steps : List PlanStep) : Int := match planInfo n qa steps with
  | some info => match info[info.length - 1]? with
    | some y => y.Mask
    | none => 0
  | none => 0
def validReg (n : Int) (qa : List Atom) (steps : List PlanStep) (lo hi : List Int) (pc : Int) : Bool :=
  validQ n qa && boxOkQ n qa lo hi && decide (planMask n qa steps = fullM n qa) && inR pc 100 1000
theorem fullM_pos {n : Int} {qa : List Atom} (h : validQ n qa = true) : 0 < fullM n qa := by
  obtain ⟨h1, h2, _⟩ := shl_len h
  unfold fullM
  rw [if_pos h, h2]
  rcases h1 with h1 | h1 | h1 | h1 <;> rw [h1] <;> decide
theorem or16 : ∀ a b : Fin 16, orI (a.1 : Int) (b.1 : Int) = ((a.1 ||| b.1 : Nat) : Int) := by decide
theorem or_lt {k : Nat} (hk : k ≤ 4) {a b : Int} (ha : 0 ≤ a ∧ a < 2 ^ k) (hb : 0 ≤ b ∧ b < 2 ^ k) : 0 ≤ orI a b ∧ orI a b < 2 ^ k := by
  have h16 : (2 : Int) ^ k ≤ 16 := by
    have : k = 0 ∨ k = 1 ∨ k = 2 ∨ k = 3 ∨ k = 4 := by omega
    rcases this with rfl | rfl | rfl | rfl | rfl <;> decide
  have e1 : a = (a.toNat : Int) := by omega
  have e2 : b = (b.toNat : Int) := by omega
  have l1 : a.toNat < 16 := by omega
  have l2 : b.toNat < 16 := by omega
  have e := or16 ⟨a.toNat, l1⟩ ⟨b.toNat, l2⟩
  simp only at e
  rw [e1, e2, e]
  have c : ((2 ^ k : Nat) : Int) = 2 ^ k := by simp
  have m1 : a.toNat < 2 ^ k := by omega
  have m2 : b.toNat < 2 ^ k := by omega
  have := Nat.or_lt_two_pow m1 m2
  omega
theorem shl_lt {k : Nat} (hk : k ≤ 4) {v : Int} (h0 : 0 ≤ v) (h1 : v < k) : 0 ≤ shlI 1 v ∧ shlI 1 v < 2 ^ k := by
  have h2 : v = 0 ∨ v = 1 ∨ v = 2 ∨ v = 3 := by omega
  have h3 : k = 0 ∨ k = 1 ∨ k = 2 ∨ k = 3 ∨ k = 4 := by omega
  rcases h2 with rfl | rfl | rfl | rfl <;> rcases h3 with rfl | rfl | rfl | rfl | rfl <;> first | omega | decide
def MaskOk (k : Nat) (y : StepInfo) : Prop := 0 ≤ y.Mask ∧ y.Mask < 2 ^ k
theorem step_mask {qa : List Atom} (hk : qa.length ≤ 4) {x : PlanStep} {info : List StepInfo} {st : List Int} {y : StepInfo} (hs : StOk info st) (hm : ∀ y ∈ info, MaskOk qa.length y) (h : stepI qa x info st = some y) : MaskOk qa.length y := by
  unfold stepI at h
  split at h
  · split at h
    · rename_i hc
      cases h
      have := hc.1
      simp [inR] at this
      exact shl_lt hk this.1 (by omega)
    · cases h
  · split at h
    · cases h
    · split at h
      · split at h
        · rename_i s y' ht
          split at h
          · cases h
            obtain ⟨_, _, t3, t4⟩ := topAt_some hs (Nat.le_refl 1) ht
            exact hm y' (List.mem_of_getElem? t4)
          · cases h
        · cases h
      · split at h
        · rename_i s y' t z ht hu
          split at h
          · obtain ⟨_, _, _, t4⟩ := topAt_some hs (by omega : 1 ≤ 2) ht
            obtain ⟨_, _, _, u4⟩ := topAt_some hs (by omega : 1 ≤ 1) hu
            obtain ⟨o, ho, rfl⟩ := Option.map_eq_some_iff.1 h
            exact or_lt hk (hm y' (List.mem_of_getElem? t4)) (hm z (List.mem_of_getElem? u4))
          · cases h
        · cases h
/-- what is new in an info, step by step -/
theorem planGo_spec {qa : List Atom} (hk : qa.length ≤ 4) : ∀ {xs : List PlanStep} {i : Nat} {info : List StepInfo} {st : List Int} {info' : List StepInfo} {st' : List Int}, planGo qa xs i info st = some (info', st') →
    StOk info st → info.length = i → (∀ y ∈ info, MaskOk qa.length y) → (∀ y ∈ info', MaskOk qa.length y) ∧ ∃ tail, info' = info ++ tail ∧ tail.length = xs.length ∧ ∀ (j : Nat) (y : StepInfo) (x : PlanStep), tail[j]? = some y → xs[j]? = some x → (0 ≤ y.Right ↔ 3 ≤ x.Kind)
  | [], i, info, st, info', st', h, hs, hi, hm => by
    simp [planGo] at h
    obtain ⟨rfl, rfl⟩ := h
    exact ⟨hm, [], by simp, rfl, by intro j y x hj; simp at hj⟩
  | x :: xs, i, info, st, info', st', h, hs, hi, hm => by
    rw [planGo] at h
    split at h
    · cases h
    · rename_i y hy
      have hn := st_next hs y (st.length - pops y)
      rw [hi] at hn
      have hm2 : ∀ z ∈ info ++ [y], MaskOk qa.length z := by
        intro z hz
        rcases List.mem_append.1 hz with hz | hz
        · exact hm z hz
        · simp at hz; subst hz; exact step_mask hk hs hm hy
      obtain ⟨g1, tail, g2, g3, g4⟩ := planGo_spec hk h hn (by simp [hi]) hm2
      refine ⟨g1, y :: tail, by simp [g2], by simp [g3], ?_⟩
      intro j y' x' hj hx
      cases j with
      | zero => simp at hj hx; subst hj; subst hx; exact (step_facts hs hy).2.2
      | succ j => exact g4 j y' x' (by simpa using hj) (by simpa using hx)
theorem planInfo_spec {n : Int} {qa : List Atom} {steps : List PlanStep} {info : List StepInfo} (h : planInfo n qa steps = some info) :
    (∀ y ∈ info, MaskOk qa.length y) ∧ ∀ (j : Nat) (y : StepInfo) (x : PlanStep), info[j]? = some y → steps[j]? = some x → (0 ≤ y.Right ↔ 3 ≤ x.Kind) := by
  have hq := (planInfo_len h).1
  unfold planInfo at h
  split at h
  · split at h
    · rename_i info' st hg
      split at h
      · cases h
        obtain ⟨g1, tail, g2, g3, g4⟩ := planGo_spec (valid_len hq).2 hg (fun s hs => by cases hs) rfl (fun y hy => by cases hy)
        simp at g2
        subst g2
        exact ⟨g1, g4⟩
      · cases h
    · cases h
  · cases h
def opn (lo hi : List Int) (m : Int) : Bool := match lo[m.toNat]?, hi[m.toNat]? with
  | some a, some b => decide (a < b)
  | _, _ => false
def tgt (lo hi : List Int) : List StepInfo → Int
  | [] => 0
  | y :: ys => if (decide (0 ≤ y.Right) && opn lo hi y.Mask) = true then y.Mask else tgt lo hi ys
def anyT (lo hi : List Int) (ys : List StepInfo) : Bool := ys.any fun y => decide (0 ≤ y.Right) && opn lo hi y.Mask
theorem tgt_none {lo hi : List Int} : ∀ {ys : List StepInfo}, anyT lo hi ys = false → tgt lo hi ys = 0
  | [], _ => rfl
  | y :: ys, h => by
    simp only [anyT, List.any_cons, Bool.or_eq_false_iff] at h
    rw [tgt, h.1]
    exact tgt_none h.2
theorem dom_len {a b : List Int} (h : dom a b = true) : a.length = b.length := by
  simp only [dom, Bool.and_eq_true, decide_eq_true_eq] at h
  exact h.1
def spillT (n : Int) (qa : List Atom) (steps : List PlanStep) (lo hi : List Int) : Int := match planInfo n qa steps with
  | some info => if boxOkQ n qa lo hi = true then tgt lo hi info else 0
  | none => 0
theorem box_mask {n : Int} {qa : List Atom} {steps : List PlanStep} {info : List StepInfo} {lo hi : List Int} (h : planInfo n qa steps = some info) (hb : boxOkQ n qa lo hi = true) : lo.length = hi.length ∧ ∀ y ∈ info, 0 ≤ y.Mask ∧ y.Mask.toNat < lo.length := by
  have hq := (planInfo_len h).1
  simp only [boxOkQ, Bool.and_eq_true, decide_eq_true_eq, validBox] at hb
  refine ⟨(dom_len hb.1.2).symm, fun y hy => ?_⟩
  obtain ⟨h1, h2⟩ := (planInfo_spec h).1 y hy
  have h3 := hb.2
  unfold fullM at h3
  rw [if_pos hq, (shl_len hq).2.1] at h3
  exact ⟨h1, by omega⟩
def jst : List PlanStep → Nat → List Int
  | [], _ => []
  | x :: xs, i => if 3 ≤ x.Kind then (i : Int) :: jst xs (i + 1) else jst xs (i + 1)
theorem jst_drop {xs : List PlanStep} {i : Nat} (h : i < xs.length) : jst (xs.drop i) i = if 3 ≤ xs[i].Kind then (i : Int) :: jst (xs.drop (i + 1)) (i + 1) else jst (xs.drop (i + 1)) (i + 1) := by
  rw [List.drop_eq_getElem_cons h, jst]
theorem jst_len : ∀ (xs : List PlanStep) (i : Nat), (jst xs i).length ≤ xs.length
  | [], _ => Nat.le_refl _
  | x :: xs, i => by
    have := jst_len xs (i + 1)
    unfold jst
    split <;> simp <;> omega
def tj (lo hi : List Int) (info : List StepInfo) : List Int → Option Int
  | [] => none
  | i :: is => match info[i.toNat]? with
    | some y => if opn lo hi y.Mask = true then some y.Mask else tj lo hi info is
    | none => none
theorem tj_eq {lo hi : List Int} {info : List StepInfo} {steps : List PlanStep} (hl : info.length = steps.length) (hr : ∀ (j : Nat) (y : StepInfo) (x : PlanStep), info[j]? = some y → steps[j]? = some x → (0 ≤ y.Right ↔ 3 ≤ x.Kind)) : ∀ i, i ≤ steps.length →
    tj lo hi info (jst (steps.drop i) i) = if anyT lo hi (info.drop i) = true then some (tgt lo hi (info.drop i)) else none := by
  refine down _ ?_ ?_
  · rw [List.drop_length, ← hl, List.drop_length]; rfl
  · intro i hi0 ih
    have hi' : i < info.length := by omega
    have hb := hr i info[i] steps[i] (List.getElem?_eq_getElem hi') (List.getElem?_eq_getElem hi0)
    have d : anyT lo hi (info.drop i) = ((decide (0 ≤ info[i].Right) && opn lo hi info[i].Mask) || anyT lo hi (info.drop (i + 1))) := by
      unfold anyT; exact drop_any _ hi'
    have d2 : tgt lo hi (info.drop i) = if (decide (0 ≤ info[i].Right) && opn lo hi info[i].Mask) = true then info[i].Mask else tgt lo hi (info.drop (i + 1)) := by
      rw [List.drop_eq_getElem_cons hi', tgt]
    rw [jst_drop hi0, d, d2]
    by_cases c : 3 ≤ steps[i].Kind
    · have c' := hb.2 c
      have e : ((i : Int)).toNat = i := by omega
      simp only [c, if_true, tj, e, List.getElem?_eq_getElem hi', c', decide_true, Bool.true_and]
      rcases tf (opn lo hi info[i].Mask) with e2 | e2
      · simp only [e2, Bool.false_eq_true, if_false, Bool.false_or]; exact ih
      · simp [e2]
    · have c' : ¬ 0 ≤ info[i].Right := fun hc => c (hb.1 hc)
      simp only [c, if_false, c', decide_false, Bool.false_and, Bool.false_or, Bool.false_eq_true]
      exact ih
theorem jst_mem : ∀ {xs : List PlanStep} {i : Nat} {j : Int}, j ∈ jst xs i → (i : Int) ≤ j ∧ j < i + xs.length
  | [], _, _, h => by cases h
  | x :: xs, i, j, h => by
    unfold jst at h
    split at h
    · cases h with
      | head => simp; omega
      | tail _ h => have := jst_mem h; simp; omega
    · have := jst_mem h; simp; omega
def vol : List Int → List Int → Int
  | l :: ls, h :: hs => (h - l + 1) * vol ls hs
  | _, _ => 1
theorem vol_nil : vol [] [] = 1 := rfl
theorem vol_drop {lo hi : List Int} {i : Nat} (h : i < lo.length) (h' : i < hi.length) : vol (lo.drop i) (hi.drop i) = (hi[i] - lo[i] + 1) * vol (lo.drop (i + 1)) (hi.drop (i + 1)) := by
  rw [List.drop_eq_getElem_cons h, List.drop_eq_getElem_cons h', vol]
def capV (v : Int) : Int := if 401 < v then 401 else v
theorem domAll_get : ∀ {xs ys : List Int} (h : domAll xs ys = true) (i : Nat) (h1 : i < xs.length) (h2 : i < ys.length), ys[i] ≤ xs[i]
  | x :: xs, y :: ys, h, 0, _, _ => by simp only [domAll, Bool.and_eq_true, decide_eq_true_eq] at h; exact h.1
  | x :: xs, y :: ys, h, i + 1, h1, h2 => by
    simp only [domAll, Bool.and_eq_true, decide_eq_true_eq] at h
    exact domAll_get h.2 i (by simpa using h1) (by simpa using h2)
theorem box_get {lo hi : List Int} (h : validBox lo hi = true) : hi.length = lo.length ∧ 1 ≤ lo.length ∧ lo.length ≤ 16 ∧ ∀ (i : Nat) (h1 : i < lo.length) (h2 : i < hi.length), 0 ≤ lo[i] ∧ lo[i] ≤ hi[i] ∧ hi[i] ≤ 7 := by
  simp only [validBox, Bool.and_eq_true, decide_eq_true_eq, isLoc, allLoc, List.all_eq_true] at h
  have hl := dom_len h.2
  refine ⟨hl, by omega, by omega, fun i h1 h2 => ?_⟩
  have a := h.1.1.2.1 _ (List.getElem_mem h1)
  have b := h.1.2.1 _ (List.getElem_mem h2)
  have hd := h.2
  simp only [dom, Bool.and_eq_true] at hd
  have c := domAll_get hd.2 i h2 h1
  simp [inR] at a b
  omega
theorem pow8 {i : Nat} (h : i ≤ 16) : (8 : Int) ^ i ≤ 281474976710656 := by
  have : (8 : Nat) ^ i ≤ 8 ^ 16 := Nat.pow_le_pow_right (by omega) h
  have e : ((8 ^ i : Nat) : Int) = (8 : Int) ^ i := by simp
  have e2 : (8 : Nat) ^ 16 = 281474976710656 := by decide
  omega
def boxVol (lo hi : List Int) : Int := if validBox lo hi = true then capV (vol lo hi) else 0
theorem cap_mul {n d : Int} (hn : 1 ≤ n) (hd : 1 ≤ d) : capV (capV n * d) = capV (n * d) := by
  unfold capV
  by_cases h : 401 < n
  · have h1 : n * 1 ≤ n * d := Int.mul_le_mul_of_nonneg_left hd (by omega)
    have h2 : (401 : Int) * 1 ≤ 401 * d := Int.mul_le_mul_of_nonneg_left hd (by omega)
    rw [if_pos h]
    split <;> split <;> omega
  · rw [if_neg h]
theorem cap_flip (v : Int) : (if v < 401 then v else 401) = capV v := by
  unfold capV
  split <;> split <;> omega
theorem cap_le {v : Int} (h : 1 ≤ v) : 1 ≤ capV v ∧ capV v ≤ 401 := by unfold capV; split <;> omega
def slackB (b s : Int) : Int := if inR b 0 1000000000000 = true ∧ inR s 0 100 = true then (b * (100 + s)).tdiv 100 else -1
theorem slack_w {b s : Int} (h1 : inR b 0 1000000000000 = true) (h2 : inR s 0 100 = true) : IntKind.wrap .i64 (100 + s) = 100 + s ∧ IntKind.wrap .i64 (b * (100 + s)) = b * (100 + s) ∧ IntKind.wrap .i64 ((b * (100 + s)).tdiv 100) = (b * (100 + s)).tdiv 100 := by
  simp [inR] at h1 h2
  have m1 : b * (100 + s) ≤ 1000000000000 * 200 := Int.mul_le_mul h1.2 (by omega) (by omega) (by omega)
  have m2 : 0 ≤ b * (100 + s) := Int.mul_nonneg h1.1 (by omega)
  have m3 : 0 ≤ (b * (100 + s)).tdiv 100 := Int.tdiv_nonneg m2 (by omega)
  have m4 : (b * (100 + s)).tdiv 100 ≤ b * (100 + s) := by
    rw [Int.tdiv_eq_ediv_of_nonneg m2]
    omega
  exact ⟨wrap64 (by omega) (by omega), wrap64 (by omega) (by omega), wrap64 (by omega) (by omega)⟩
def diffIdx (n : Int) (vs : List Int) : Bool := varsOk n [] vs && decide (0 < vs.length)
abbrev bqL (b : Bouquet) : List AV := [I b.Version, I b.Ratio, I b.Slack, .t (tI b.Box.Low), .t (tI b.Box.High), .t (tI b.Budgets), L 1 (b.Plans.map Plan.c), .t (tII b.Contours)]
abbrev LeB (b : Bouquet) : Prop := Le b.Box.Low ∧ Le b.Box.High ∧ Le b.Budgets ∧ Le b.Plans ∧ Le b.Contours ∧ ∀ c ∈ b.Contours, Le c
def prevOk (r : Int) (prev : Option Int) (x : Int) : Bool := match prev with
  | none => true
  | some p => decide (x = p * r)
def budOk (r : Int) (prev : Option Int) : List Int → Bool
  | [] => true
  | x :: xs => inR x 1 500000000000 && prevOk r prev x && budOk r (some x) xs
theorem budOk_drop (r : Int) (prev : Option Int) {xs : List Int} {k : Nat} (h : k < xs.length) : budOk r prev (xs.drop k) = (inR xs[k] 1 500000000000 && prevOk r prev xs[k] && budOk r (some xs[k]) (xs.drop (k + 1))) := by
  rw [List.drop_eq_getElem_cons h, budOk]
def planOk (n : Int) (qa : List Atom) (p : Plan) : Bool := decide (planMask n qa p.Steps = fullM n qa)
def headB (n : Int) (qa : List Atom) (b : Bouquet) : Bool :=
  inR b.Version 1 999 && inR b.Ratio 2 8 && inR b.Slack 0 100 && inR (boxVol b.Box.Low b.Box.High) 1 400 && decide ((b.Box.Low.length : Int) = fullM n qa + 1)
def validB (n : Int) (qa : List Atom) (b : Bouquet) : Bool :=
  validQ n qa && headB n qa b && b.Plans.all (planOk n qa) && budOk b.Ratio none b.Budgets && b.Contours.all (diffIdx b.Plans.length) && (decide (0 < b.Budgets.length) && decide (b.Contours.length = b.Budgets.length))
/-- what stands before element k -/
def prevAt (xs : List Int) : Nat → Option Int
  | 0 => none
  | k + 1 => xs[k]?
end Go.Proofs.Ytiniphmomjnocaa
