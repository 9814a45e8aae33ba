/-
  THE ABSTRACT MACHINE: how abstract states stand to worlds.
-/
import Derived.Test.YtiniphmomjnocaaAMComp
import Derived.Laws.AppendOwn
namespace Go.AM

mutual
/-- In the world w the value v reads as the tree; 'fp': the blocks that the reading meets. -/
inductive TR (w : World) : T → Value → List Nat → Prop
  | int (k : IntKind) (n : Int) : TR w (.int k n) (.int k n) []
  | bool (b : Bool) : TR w (.bool b) (.bool b) []
  | str (s : ByteArray) : TR w (.str s) (.string s) []
  | nil : TR w .nil (.slice none 0 0) []
  | lst0 (sz : Nat) (a : Option Addr) (cap : Nat) : TR w (.lst sz []) (.slice a 0 cap) []
  | lst {sz : Nat} {es : List (List T)} {g off cap : Nat} {c : Array Value} {e : TypeId} {fz : Nat × Nat} {fp : List Nat} (hne : es ≠ []) (hsz : 0 < sz) (hcap : es.length ≤ cap)
      (hg : w.heap[g]? = some (.cells c e fz)) (hlen : ∀ x ∈ es, x.length = sz) (hc : TRs w es.flatten ((c.toList.drop off).take (es.length * sz)) fp) :
      TR w (.lst sz es) (.slice (some ⟨g, off, none⟩) es.length cap) (g :: fp)
inductive TRs (w : World) : List T → List Value → List Nat → Prop
  | nil : TRs w [] [] []
  | cons {t : T} {v : Value} {fp : List Nat} {ts : List T} {vs : List Value} {fq : List Nat} (h : TR w t v fp) (hs : TRs w ts vs fq) : TRs w (t :: ts) (v :: vs) (fp ++ fq)
end

section
variable {w w' : World}

theorem TR.frame {t : T} {v : Value} {fp : List Nat} (h : TR w t v fp) : (∀ g ∈ fp, w'.heap[g]? = w.heap[g]?) → TR w' t v fp := by
  refine TR.rec (motive_1 := fun t v fp _ => (∀ g ∈ fp, w'.heap[g]? = w.heap[g]?) → TR w' t v fp) (motive_2 := fun ts vs fp _ => (∀ g ∈ fp, w'.heap[g]? = w.heap[g]?) → TRs w' ts vs fp)
    ?_ ?_ ?_ ?_ ?_ ?_ ?_ ?_ h
  · intro k n _; exact .int k n
  · intro b _; exact .bool b
  · intro s _; exact .str s
  · intro _; exact .nil
  · intro sz a cap _; exact .lst0 sz a cap
  · intro sz es g off cap c e fz fp hne hsz hcap hg hlen _ ih hf
    exact .lst hne hsz hcap (by rw [hf g (by simp)]; exact hg) hlen (ih fun g hg => hf g (by simp [hg]))
  · intro _; exact .nil
  · intro t v fp ts vs fq _ _ ih1 ih2 hf
    exact .cons (ih1 fun g hg => hf g (by simp [hg])) (ih2 fun g hg => hf g (by simp [hg]))

theorem TRs.frame {ts : List T} {vs : List Value} {fp : List Nat} (h : TRs w ts vs fp) : (∀ g ∈ fp, w'.heap[g]? = w.heap[g]?) → TRs w' ts vs fp := by
  induction ts generalizing vs fp with
  | nil => cases h; exact fun _ => .nil
  | cons t ts ih =>
    cases h with
    | cons h hs => exact fun hf => .cons (h.frame fun g hg => hf g (by simp [hg])) (ih hs fun g hg => hf g (by simp [hg]))

theorem TR.lt {t : T} {v : Value} {fp : List Nat} (h : TR w t v fp) : ∀ g ∈ fp, g < w.heap.size := by
  refine TR.rec (motive_1 := fun t v fp _ => ∀ g ∈ fp, g < w.heap.size) (motive_2 := fun ts vs fp _ => ∀ g ∈ fp, g < w.heap.size)
    ?_ ?_ ?_ ?_ ?_ ?_ ?_ ?_ h
  · intro _ _ g hg; cases hg
  · intro _ g hg; cases hg
  · intro _ g hg; cases hg
  · intro g hg; cases hg
  · intro _ _ _ g hg; cases hg
  · intro sz es g off cap c e fz fp _ _ _ hg _ _ ih x hx
    cases hx with
    | head => exact (Array.getElem?_eq_some_iff.1 hg).1
    | tail _ hx => exact ih x hx
  · intro g hg; cases hg
  · intro t v fp ts vs fq _ _ ih1 ih2 x hx
    rcases List.mem_append.1 hx with hx | hx
    · exact ih1 x hx
    · exact ih2 x hx

theorem TRs.lt {ts : List T} {vs : List Value} {fp : List Nat} (h : TRs w ts vs fp) : ∀ g ∈ fp, g < w.heap.size := by
  induction ts generalizing vs fp with
  | nil => cases h; intro g hg; cases hg
  | cons t ts ih =>
    cases h with
    | cons h hs =>
      intro g hg
      rcases List.mem_append.1 hg with hg | hg
      · exact h.lt g hg
      · exact ih hs g hg

theorem TR.one {t : T} {v : Value} {fp : List Nat} (h : TR w t v fp) : v.oneCell' = true := by cases h <;> rfl

theorem TRs.one {ts : List T} {vs : List Value} {fp : List Nat} (h : TRs w ts vs fp) : ∀ v ∈ vs, v.oneCell' = true := by
  induction ts generalizing vs fp with
  | nil => cases h; intro v hv; cases hv
  | cons t ts ih =>
    cases h with
    | cons h hs =>
      intro v hv
      cases hv with
      | head => exact h.one
      | tail _ hv => exact ih hs v hv

theorem TRs.length {ts : List T} {vs : List Value} {fp : List Nat} (h : TRs w ts vs fp) : ts.length = vs.length := by
  induction ts generalizing vs fp with
  | nil => cases h; rfl
  | cons t ts ih =>
    cases h with
    | cons h hs => simp [ih hs]

theorem TRs.append {ts us : List T} {vs xs : List Value} {fp fq : List Nat} (h : TRs w ts vs fp) (h' : TRs w us xs fq) : TRs w (ts ++ us) (vs ++ xs) (fp ++ fq) := by
  induction ts generalizing vs fp with
  | nil => cases h; exact h'
  | cons t ts ih =>
    cases h with
    | cons h hs => simpa [List.append_assoc] using TRs.cons h (ih hs)

theorem TRs.split {ts us : List T} {vs : List Value} {fp : List Nat} (h : TRs w (ts ++ us) vs fp) :
    ∃ fa fb, fp = fa ++ fb ∧ TRs w ts (vs.take ts.length) fa ∧ TRs w us (vs.drop ts.length) fb := by
  induction ts generalizing vs fp with
  | nil => exact ⟨[], fp, rfl, .nil, h⟩
  | cons t ts ih =>
    cases h with
    | cons h hs =>
      obtain ⟨fa, fb, rfl, h1, h2⟩ := ih hs
      exact ⟨_ ++ fa, fb, by simp, .cons h h1, h2⟩

/-- one tree of a list -/
theorem TRs.at {ts : List T} {vs : List Value} {fp : List Nat} (h : TRs w ts vs fp) {i : Nat} {t : T} (hi : ts[i]? = some t) :
    ∃ v fq, vs[i]? = some v ∧ TR w t v fq ∧ ∀ g ∈ fq, g ∈ fp := by
  induction ts generalizing vs fp i with
  | nil => simp at hi
  | cons t' ts ih =>
    cases h with
    | cons h hs =>
      cases i with
      | zero => simp at hi; subst hi; exact ⟨_, _, rfl, h, fun g hg => by simp [hg]⟩
      | succ i =>
        obtain ⟨v, fq, h1, h2, h3⟩ := ih hs (by simpa using hi)
        exact ⟨v, fq, by simpa using h1, h2, fun g hg => by simp [h3 g hg]⟩

theorem TRs.flat {ts : List T} {vs : List Value} {fp : List Nat} (h : TRs w ts vs fp) (hf : ts.all scalar = true) : fp = [] := by
  induction ts generalizing vs fp with
  | nil => cases h; rfl
  | cons t ts ih =>
    cases h with
    | cons h hs =>
      simp only [List.all_cons, Bool.and_eq_true] at hf
      rw [ih hs hf.2]
      cases h <;> first | rfl | simp [scalar] at hf
end

/-! ### roots -/

structure Root where
  v : Value
  fp : List Nat

def blkOf : Value → Option Nat
  | .pointer (some a) => some a.block
  | .slice (some a) _ _ => some a.block
  | _ => none

abbrev Map := Nat → Option Root

/-- what a running function may own ('a'), what may lie in its fresh rows ('f'), and what it must leave as it is ('z') -/
structure Par where
  a : Nat → Prop
  f : Nat → Prop
  z : Nat → Prop

/-- the block belongs to no live root -/
def Free (N : Par) (ρ : Map) (h : List Blk) (g : Nat) : Prop := N.a g ∧ ∀ b r, ρ b = some r → gt h b ≠ .dead → blkOf r.v ≠ some g

mutual
inductive RV (ρ : Map) (w : World) (F : Nat → Prop) : AV → Value → Prop
  | top (v : Value) : RV ρ w F .top v
  | nilp : RV ρ w F .nilp (.pointer none)
  | t {x : T} {v : Value} {fp : List Nat} (h : TR w x v fp) (hf : ∀ g ∈ fp, F g) : RV ρ w F (.t x) v
  | agg {cs : List AV} {c : Array Value} (h : RVs ρ w F cs c.toList) (h1 : ∀ v ∈ c.toList, v.oneCell' = true) : RV ρ w F (.agg cs) (.agg c)
  | tup {cs : List AV} {c : Array Value} (h : RVs ρ w F cs c.toList) : RV ρ w F (.tup cs) (.tuple c)
  | ptr {b off g : Nat} {r : Root} (hr : ρ b = some r) (hv : r.v = .pointer (some ⟨g, 0, none⟩)) : RV ρ w F (.ptr b off) (.pointer (some ⟨g, off, none⟩))
  | eptr {b i sz off g n cap : Nat} {r : Root} (hr : ρ b = some r) (hv : r.v = .slice (some ⟨g, 0, none⟩) n cap) : RV ρ w F (.eptr b i sz off) (.pointer (some ⟨g, i * sz + off, none⟩))
  | iptr {cs : List T} {off g o : Nat} {c : Array Value} {e : TypeId} {fz : Nat × Nat} {fp : List Nat} (hg : w.heap[g]? = some (.cells c e fz)) (hF : F g)
      (hc : TRs w cs ((c.toList.drop o).take cs.length) fp) (hf : ∀ g ∈ fp, F g) : RV ρ w F (.iptr cs off) (.pointer (some ⟨g, o + off, none⟩))
  | own {b : Nat} {r : Root} (hr : ρ b = some r) (h1 : r.v.oneCell' = true) : RV ρ w F (.own b) r.v
  | bsl {b n g : Nat} {r : Root} (hr : ρ b = some r) (hv : r.v = .pointer (some ⟨g, 0, none⟩)) : RV ρ w F (.bsl b n) (.slice (some ⟨g, 0, none⟩) n n)
  | fn {f : Nat} {cs : List AV} {c : Array Value} (h : RVs ρ w F cs c.toList) : RV ρ w F (.fn f cs) (.func (.func f) #[] c)
inductive RVs (ρ : Map) (w : World) (F : Nat → Prop) : List AV → List Value → Prop
  | nil : RVs ρ w F [] []
  | cons {a : AV} {v : Value} {as : List AV} {vs : List Value} (h : RV ρ w F a v) (hs : RVs ρ w F as vs) : RVs ρ w F (a :: as) (v :: vs)
end

/-- what stays of a value's standing: the roots keep their values, free blocks stay free and as they were -/
structure Keeps (ρ : Map) (w : World) (F : Nat → Prop) (ρ' : Map) (w' : World) (F' : Nat → Prop) : Prop where
  root : ∀ b r, ρ b = some r → ∃ r', ρ' b = some r' ∧ r'.v = r.v
  free : ∀ g, g < w.heap.size → F g → F' g ∧ w'.heap[g]? = w.heap[g]?

section
variable {ρ ρ' : Map} {w w' : World} {F F' : Nat → Prop}

theorem Keeps.refl : Keeps ρ w F ρ w F := ⟨fun _ r h => ⟨r, h, rfl⟩, fun _ _ h => ⟨h, rfl⟩⟩

theorem RV.keep (hk : Keeps ρ w F ρ' w' F') {a : AV} {v : Value} (h : RV ρ w F a v) : RV ρ' w' F' a v := by
  refine RV.rec (motive_1 := fun a v _ => RV ρ' w' F' a v) (motive_2 := fun as vs _ => RVs ρ' w' F' as vs) ?_ ?_ ?_ ?_ ?_ ?_ ?_ ?_ ?_ ?_ ?_ ?_ ?_ h
  · exact fun v => .top v
  · exact .nilp
  · intro x v fp h hf
    exact .t (h.frame fun g hg => (hk.free g (h.lt g hg) (hf g hg)).2) fun g hg => (hk.free g (h.lt g hg) (hf g hg)).1
  · intro cs c _ h1 ih; exact .agg ih h1
  · intro cs c _ ih; exact .tup ih
  · intro b off g r hr hv
    obtain ⟨r', h1, h2⟩ := hk.root b r hr
    exact .ptr h1 (h2.trans hv)
  · intro b i sz off g n cap r hr hv
    obtain ⟨r', h1, h2⟩ := hk.root b r hr
    exact .eptr h1 (h2.trans hv)
  · intro cs off g o c e fz fp hg hF hc hf
    have hl : g < w.heap.size := (Array.getElem?_eq_some_iff.1 hg).1
    exact .iptr (by rw [(hk.free g hl hF).2]; exact hg) (hk.free g hl hF).1 (hc.frame fun g hg => (hk.free g (hc.lt g hg) (hf g hg)).2)
      fun g hg => (hk.free g (hc.lt g hg) (hf g hg)).1
  · intro b r hr ho
    obtain ⟨r', h1, h2⟩ := hk.root b r hr
    rw [← h2]
    exact .own h1 (by rw [h2]; exact ho)
  · intro b n g r hr hv
    obtain ⟨r', h1, h2⟩ := hk.root b r hr
    exact .bsl h1 (h2.trans hv)
  · intro f cs c _ ih; exact .fn ih
  · exact .nil
  · intro a v as vs _ _ ih1 ih2; exact .cons ih1 ih2

theorem RVs.keep (hk : Keeps ρ w F ρ' w' F') {as : List AV} {vs : List Value} (h : RVs ρ w F as vs) : RVs ρ' w' F' as vs := by
  induction as generalizing vs with
  | nil => cases h; exact .nil
  | cons a as ih => cases h with | cons h hs => exact .cons (h.keep hk) (ih hs)

theorem RVs.length {as : List AV} {vs : List Value} (h : RVs ρ w F as vs) : as.length = vs.length := by
  induction as generalizing vs with
  | nil => cases h; rfl
  | cons a as ih => cases h with | cons h hs => simp [ih hs]

theorem RVs.at {as : List AV} {vs : List Value} (h : RVs ρ w F as vs) {i : Nat} {a : AV} (hi : as[i]? = some a) : ∃ v, vs[i]? = some v ∧ RV ρ w F a v := by
  induction as generalizing vs i with
  | nil => simp at hi
  | cons a' as ih =>
    cases h with
    | cons h hs =>
      cases i with
      | zero => simp at hi; subst hi; exact ⟨_, rfl, h⟩
      | succ i =>
        obtain ⟨v, h1, h2⟩ := ih hs (by simpa using hi)
        exact ⟨v, by simpa using h1, h2⟩

theorem RVs.append {as bs : List AV} {vs xs : List Value} (h : RVs ρ w F as vs) (h' : RVs ρ w F bs xs) : RVs ρ w F (as ++ bs) (vs ++ xs) := by
  induction as generalizing vs with
  | nil => cases h; exact h'
  | cons a as ih => cases h with | cons h hs => exact .cons h (ih hs)

theorem RVs.take {as : List AV} {vs : List Value} (h : RVs ρ w F as vs) (n : Nat) : RVs ρ w F (as.take n) (vs.take n) := by
  induction as generalizing vs n with
  | nil => cases h; simpa using RVs.nil
  | cons a as ih =>
    cases h with
    | cons h hs => cases n with | zero => exact .nil | succ n => exact .cons h (ih hs n)

theorem RVs.drop {as : List AV} {vs : List Value} (h : RVs ρ w F as vs) (n : Nat) : RVs ρ w F (as.drop n) (vs.drop n) := by
  induction as generalizing vs n with
  | nil => cases h; simpa using RVs.nil
  | cons a as ih =>
    cases h with
    | cons h hs => cases n with | zero => exact .cons h hs | succ n => exact ih hs n

theorem RVs.of_TRs {ts : List T} {vs : List Value} {fp : List Nat} (h : TRs w ts vs fp) (hf : ∀ g ∈ fp, F g) : RVs ρ w F (ts.map .t) vs := by
  induction ts generalizing vs fp with
  | nil => cases h; exact .nil
  | cons t ts ih => cases h with | cons h hs => exact .cons (.t h fun g hg => hf g (by simp [hg])) (ih hs fun g hg => hf g (by simp [hg]))
end

/-! ### blocks and the whole -/

/-- how a live root's block stands -/
def BlkRel (N : Par) (base : Nat) (ρ : Map) (w : World) (F : Nat → Prop) (r : Root) : Blk → Prop
  | .dead => True
  | .box cs => ∃ g c e, r.v = .pointer (some ⟨g, 0, none⟩) ∧ base ≤ g ∧ w.heap[g]? = some (.cells c e (0, 0)) ∧ RVs ρ w F cs c.toList ∧ ∀ v ∈ c.toList, v.oneCell' = true
  | .arr e sz fr es => ∃ xs, w.ownsRow base e sz r.v es.length xs ∧ 0 < sz ∧ (∀ x ∈ es, x.length = sz) ∧ TRs w es.flatten xs r.fp ∧ (∀ g ∈ r.fp, F g) ∧
      (fr = true → r.fp.Nodup ∧ ∀ g ∈ r.fp, N.f g)

def isFresh : Blk → Bool
  | .arr _ _ fr _ => fr
  | _ => false

structure Rel (N : Par) (base : Nat) (ρ : Map) (h : List Blk) (w : World) : Prop where
  hb : base ≤ w.heap.size
  hN : ∀ g, w.heap.size ≤ g → N.a g ∧ N.f g
  hO : ∀ b r g, ρ b = some r → gt h b ≠ .dead → blkOf r.v = some g → N.a g ∧ N.f g
  blk : ∀ b, gt h b ≠ .dead → ∃ r, ρ b = some r ∧ BlkRel N base ρ w (Free N ρ h) r (gt h b)
  inj : ∀ b b' r r' g, ρ b = some r → ρ b' = some r' → gt h b ≠ .dead → gt h b' ≠ .dead → blkOf r.v = some g → blkOf r'.v = some g → b = b'
  apart : ∀ b b' r r' g, ρ b = some r → ρ b' = some r' → isFresh (gt h b) = true → isFresh (gt h b') = true → g ∈ r.fp → g ∈ r'.fp → b = b'

theorem gt_stB (h : List Blk) (b c : Nat) (x : Blk) : gt (stB h b x) c = if c = b then x else gt h c := by
  induction h generalizing b c with
  | nil =>
    induction b generalizing c with
    | zero => cases c <;> simp [stB, gt]
    | succ b ih =>
      cases c with
      | zero => simp [stB, gt]
      | succ c => simpa [stB, gt] using ih c
  | cons y h ih =>
    cases b with
    | zero => cases c <;> simp [stB, gt]
    | succ b =>
      cases c with
      | zero => simp [stB, gt]
      | succ c => simpa [stB, gt] using ih b c

end Go.AM
