/-
  THE ABSTRACT MACHINE: a region whose order is drawn: the text's order stands for all of them.
-/
import Derived.Test.YtiniphmomjnocaaAMFrame
import Derived.Orders
namespace Go.AM
open Go.RowKit (Below)

structure Tr where
  dst : Option Nat
  v : AV
  u : List (Nat × Blk)
  foot : Foot

def appT (t : Tr) (s : S) : S := { s with env := put t.dst t.v s.env, h := upd s.h t.u }

/-- the text's order, but only those of 'L' -/
def foldS (L : Nat → Bool) : Nat → List Tr → S → S
  | _, [], s => s
  | i, t :: ts, s => foldS L (i + 1) ts (if L i then appT t s else s)

def gRun (o : MO) (e : Env) : Prop := o.guard = none ∨ ∃ g b, o.guard = some (g, b) ∧ lk g e = .t (.bool b)
def gSkip (o : MO) (e : Env) : Prop := ∃ g b, o.guard = some (g, b) ∧ (lk g e = .tup [] ∨ ∃ c, lk g e = .t (.bool c) ∧ c ≠ b)

def StepOK (Γ : Ctr) (o : MO) (t : Tr) (s : S) : Prop := t.dst = o.dst ∧ t.foot = footOf o s (t.u.map Prod.fst) ∧
  ((gRun o s.env ∧ opR Γ s.h s.h.length s.env o.op t.v t.u) ∨ (gSkip o s.env ∧ t.v = .tup [] ∧ t.u = []))

def Steps (Γ : Ctr) : List MO → List Tr → S → Prop
  | [], [], _ => True
  | o :: os, t :: ts, s => StepOK Γ o t s ∧ Steps Γ os ts (appT t s)
  | _, _, _ => False

theorem drwG_step {Γ : Ctr} {o : MO} {s : S} {K : Foot → S → Prop} (h : drwG Γ o s K) : ∃ t, StepOK Γ o t s ∧ K t.foot (appT t s) := by
  have run : gRun o s.env → drwOp Γ o s K → ∃ t, StepOK Γ o t s ∧ K t.foot (appT t s) := by
    intro hg h
    cases ho : o.op with
    | call f args =>
      simp only [drwOp, ho] at h
      obtain ⟨as, h1, r, hr, h2, h3, h4⟩ := h
      exact ⟨⟨o.dst, shift s.h.length r, newU s.h.length hr 0, _⟩, ⟨rfl, rfl, .inl ⟨hg, by rw [ho]; exact ⟨as, h1, r, hr, h2, h3, rfl, rfl⟩⟩⟩, h4⟩
    | icall f args =>
      simp only [drwOp, ho, mcallW] at h
      obtain ⟨h1, r, h2, h3, h4⟩ := h
      exact ⟨⟨o.dst, _, _, _⟩, ⟨rfl, rfl, .inl ⟨hg, by rw [ho]; exact ⟨h1, r, h2, h3, rfl, rfl⟩⟩⟩, h4⟩
    | pcall f args =>
      simp only [drwOp, ho, pcallW] at h
      obtain ⟨h1, r, h2, h3, h4⟩ := h
      exact ⟨⟨o.dst, _, _, _⟩, ⟨rfl, rfl, .inl ⟨hg, by rw [ho]; exact ⟨h1, r, h2, h3, rfl, rfl⟩⟩⟩, h4⟩
    | dcall f args =>
      simp only [drwOp, ho] at h
      split at h
      · rename_i g caps hgc
        obtain ⟨h1, r, h2, h3, h4⟩ := h
        exact ⟨⟨o.dst, _, _, _⟩, ⟨rfl, rfl, .inl ⟨hg, by rw [ho]; exact ⟨g, caps, hgc, h1, r, h2, h3, rfl, rfl⟩⟩⟩, h4⟩
      · exact h.elim
    | _ =>
      simp only [drwOp, ho] at h
      split at h
      · rename_i v u hev
        exact ⟨⟨o.dst, v, u, _⟩, ⟨rfl, rfl, .inl ⟨hg, by rw [ho]; exact hev⟩⟩, h⟩
      · exact h.elim
  have skip : gSkip o s.env → K (footOf o s []) { s with env := put o.dst (.tup []) s.env } → ∃ t, StepOK Γ o t s ∧ K t.foot (appT t s) := fun hg h =>
    ⟨⟨o.dst, .tup [], [], footOf o s []⟩, ⟨rfl, rfl, .inr ⟨hg, rfl, rfl⟩⟩, h⟩
  unfold drwG at h
  split at h
  · rename_i hg; exact run (.inl hg) h
  · rename_i g want hg
    split at h
    · rename_i b hb
      split at h
      · rename_i hbw; subst hbw; exact run (.inr ⟨g, b, hg, hb⟩) h
      · rename_i hbw; exact skip ⟨g, want, hg, .inr ⟨b, hb, hbw⟩⟩ h
    · rename_i hb; exact skip ⟨g, want, hg, .inl hb⟩ h
    · exact h.elim

theorem drwW_steps {Γ : Ctr} : ∀ (os : List MO) (s : S) (feet : List Foot) (K : List Foot → S → Prop) (i : Nat), drwW Γ os s feet K → ∃ ts, Steps Γ os ts s ∧ K (feet ++ ts.map (·.foot)) (foldS (fun _ => true) i ts s)
  | [], s, feet, K, i, h => ⟨[], trivial, by simp only [List.map_nil, List.append_nil, foldS]; exact h⟩
  | o :: os, s, feet, K, i, h => by
    obtain ⟨t, h1, h2⟩ := drwG_step h
    obtain ⟨ts, h3, h4⟩ := drwW_steps os (appT t s) _ K (i + 1) h2
    refine ⟨t :: ts, ⟨h1, h3⟩, ?_⟩
    simpa [foldS] using h4

theorem foldS_none {L : Nat → Bool} : ∀ (ts : List Tr) (k : Nat) (s : S), (∀ j, k ≤ j → L j = false) → foldS L k ts s = s
  | [], _, _, _ => rfl
  | t :: ts, k, s, h => by
    simp only [foldS, h k (Nat.le_refl _), Bool.false_eq_true, if_false]
    exact foldS_none ts (k + 1) s fun j hj => h j (by omega)

theorem steps_at {Γ : Ctr} : ∀ (os : List MO) (ts : List Tr) (s : S) (k : Nat), Steps Γ os ts s → ts.length = os.length ∧ ∀ i o, os[i]? = some o → ∃ t, ts[i]? = some t ∧ StepOK Γ o t (foldS (fun j => decide (j < k + i)) k ts s)
  | [], [], _, _, _ => ⟨rfl, by simp⟩
  | o :: os, t :: ts, s, k, h => by
    obtain ⟨h1, h2⟩ := h
    obtain ⟨h3, h4⟩ := steps_at os ts (appT t s) (k + 1) h2
    refine ⟨by simp [h3], ?_⟩
    intro i o' ho
    cases i with
    | zero =>
      simp at ho
      subst ho
      refine ⟨t, rfl, ?_⟩
      rw [foldS_none]
      · exact h1
      · intro j hj; simp; omega
    | succ i =>
      obtain ⟨t', h5, h6⟩ := h4 i o' (by simpa using ho)
      refine ⟨t', by simpa using h5, ?_⟩
      have e : foldS (fun j => decide (j < k + (i + 1))) k (t :: ts) s = foldS (fun j => decide (j < k + 1 + i)) (k + 1) ts (appT t s) := by
        simp only [foldS]
        rw [if_pos (by simp)]
        congr 1
        funext j
        congr 1
        exact propext (by omega)
      rw [e]
      exact h6
  | [], _ :: _, _, _, h => h.elim
  | _ :: _, [], _, _, h => h.elim

theorem lk_put (d : Option Nat) (v : AV) (e : Env) (r : Nat) : lk r (put d v e) = if d = some r then v else lk r e := by
  cases d with
  | none => simp [put]
  | some d => simp [put, lk]

theorem gt_upd_not {u : List (Nat × Blk)} : ∀ {h : List Blk} {b : Nat}, b ∉ u.map Prod.fst → gt (upd h u) b = gt h b := by
  induction u with
  | nil => intro h b _; rfl
  | cons p u ih =>
    intro h b hb
    obtain ⟨c, x⟩ := p
    simp only [List.map_cons, List.mem_cons, not_or] at hb
    rw [upd, ih hb.2, gt_stB, if_neg hb.1]

theorem gt_upd_in {u : List (Nat × Blk)} : ∀ {h h' : List Blk} {b : Nat}, b ∈ u.map Prod.fst → gt (upd h u) b = gt (upd h' u) b := by
  induction u with
  | nil => intro h h' b hb; simp at hb
  | cons p u ih =>
    intro h h' b hb
    obtain ⟨c, x⟩ := p
    by_cases hu : b ∈ u.map Prod.fst
    · exact ih hu
    · simp only [upd]
      rw [gt_upd_not hu, gt_upd_not hu, gt_stB, gt_stB]
      simp only [List.map_cons, List.mem_cons] at hb
      rcases hb with rfl | hb
      · simp
      · exact absurd hb hu

theorem gt_upd_congr {u : List (Nat × Blk)} {h h' : List Blk} {b : Nat} (hg : gt h b = gt h' b) : gt (upd h u) b = gt (upd h' u) b := by
  by_cases hb : b ∈ u.map Prod.fst
  · exact gt_upd_in hb
  · rw [gt_upd_not hb, gt_upd_not hb, hg]

theorem foldS_lk {L L' : Nat → Bool} (r : Nat) : ∀ (ts : List Tr) (k : Nat) (s s' : S), (∀ j t, ts[j]? = some t → t.dst = some r → L (k + j) = L' (k + j)) → lk r s.env = lk r s'.env → lk r (foldS L k ts s).env = lk r (foldS L' k ts s').env
  | [], _, _, _, _, h => h
  | t :: ts, k, s, s', hL, h => by
    simp only [foldS]
    refine foldS_lk r ts (k + 1) _ _ (fun j t' hj hd => ?_) ?_
    · have := hL (j + 1) t' (by simpa using hj) hd
      rw [show k + 1 + j = k + (j + 1) by omega]; exact this
    · have h0 := hL 0 t rfl
      rw [Nat.add_zero] at h0
      by_cases hd : t.dst = some r
      · rw [h0 hd]
        cases L' k
        · simpa using h
        · simp [appT, lk_put, hd]
      · have key : ∀ (b : Bool) (x : S), lk r (if b = true then appT t x else x).env = lk r x.env := by
          intro b x; cases b
          · rfl
          · simp [appT, lk_put, hd]
        rw [key, key, h]

theorem foldS_gt {L L' : Nat → Bool} (b : Nat) : ∀ (ts : List Tr) (k : Nat) (s s' : S), (∀ j t, ts[j]? = some t → b ∈ t.u.map Prod.fst → L (k + j) = L' (k + j)) → gt s.h b = gt s'.h b → gt (foldS L k ts s).h b = gt (foldS L' k ts s').h b
  | [], _, _, _, _, h => h
  | t :: ts, k, s, s', hL, h => by
    simp only [foldS]
    refine foldS_gt b ts (k + 1) _ _ (fun j t' hj hd => ?_) ?_
    · have := hL (j + 1) t' (by simpa using hj) hd
      rw [show k + 1 + j = k + (j + 1) by omega]; exact this
    · have h0 := hL 0 t rfl
      rw [Nat.add_zero] at h0
      by_cases hd : b ∈ t.u.map Prod.fst
      · rw [h0 hd]
        cases L' k
        · simpa using h
        · simp only [if_true, appT]; exact gt_upd_in hd
      · have key : ∀ (c : Bool) (x : S), gt (if c = true then appT t x else x).h b = gt x.h b := by
          intro c x; cases c
          · rfl
          · simp only [if_true, appT]; exact gt_upd_not hd
        rw [key, key, h]

theorem foldS_stk {L : Nat → Bool} : ∀ (ts : List Tr) (k : Nat) (s : S), (foldS L k ts s).stk = s.stk
  | [], _, _ => rfl
  | t :: ts, k, s => by
    simp only [foldS]
    rw [foldS_stk ts]
    split <;> rfl

theorem foldS_len {L : Nat → Bool} : ∀ (ts : List Tr) (k : Nat) (s : S), s.h.length ≤ (foldS L k ts s).h.length ∧ ∀ j t, ts[j]? = some t → L (k + j) = true → ∀ b ∈ t.u.map Prod.fst, b < (foldS L k ts s).h.length
  | [], _, _ => ⟨Nat.le_refl _, by simp⟩
  | t :: ts, k, s => by
    simp only [foldS]
    obtain ⟨h1, h2⟩ := foldS_len ts (k + 1) (if L k = true then appT t s else s)
    have h3 : s.h.length ≤ (if L k = true then appT t s else s).h.length := by
      split
      · exact (upd_len t.u s.h).1
      · exact Nat.le_refl _
    refine ⟨Nat.le_trans h3 h1, ?_⟩
    intro j t' hj hL b hb
    cases j with
    | zero =>
      simp at hj
      subst hj
      rw [Nat.add_zero] at hL
      rw [hL] at h1 ⊢
      simp only [if_true] at h1 ⊢
      exact Nat.lt_of_lt_of_le ((upd_len t.u s.h).2 b hb) h1
    | succ j =>
      exact h2 j t' (by simpa using hj) (by rw [show k + 1 + j = k + (j + 1) by omega]; exact hL) b hb

/-- one more of them, put in its place -/
theorem foldS_ins {L : Nat → Bool} {i : Nat} {t : Tr} (hi : L i = false) : ∀ (ts : List Tr) (k : Nat) (s : S), (∃ m, i = k + m ∧ ts[m]? = some t) →
    ((∀ r, t.dst = some r → ∀ j t', ts[j]? = some t' → i < k + j → L (k + j) = true → t'.dst ≠ some r) → ∀ r, lk r (foldS (fun j => L j || decide (j = i)) k ts s).env = lk r (appT t (foldS L k ts s)).env) ∧
    ((∀ b ∈ t.u.map Prod.fst, ∀ j t', ts[j]? = some t' → i < k + j → L (k + j) = true → b ∉ t'.u.map Prod.fst) → ∀ b, gt (foldS (fun j => L j || decide (j = i)) k ts s).h b = gt (appT t (foldS L k ts s)).h b)
  | [], _, _, ⟨m, _, h⟩ => by simp at h
  | t0 :: ts, k, s, ⟨m, hm, ht⟩ => by
    cases m with
    | zero =>
      simp at ht
      subst ht
      have hik : i = k := by omega
      subst hik
      simp only [foldS, hi, Bool.false_or, decide_true, if_true, Bool.false_eq_true, if_false]
      constructor
      · intro hw r
        by_cases hd : t0.dst = some r
        · have e1 := foldS_lk (L := fun j => L j || decide (j = i)) (L' := fun _ => false) r ts (i + 1) (appT t0 s) (appT t0 s) (fun j t' hj hd' => by
            have := hw r hd (j + 1) t' (by simpa using hj) (by omega)
            cases hx : L (i + 1 + j)
            · simp; omega
            · exact absurd hd' (this (by rw [show i + (j + 1) = i + 1 + j by omega]; exact hx))) rfl
          rw [e1, foldS_none ts (i + 1) _ (fun _ _ => rfl)]
          simp [appT, lk_put, hd]
        · have e1 := foldS_lk (L := fun j => L j || decide (j = i)) (L' := L) r ts (i + 1) (appT t0 s) s (fun j t' hj hd' => by
            have : (decide (i + 1 + j = i)) = false := by simp; omega
            simp [this]) (by simp [appT, lk_put, hd])
          rw [e1]
          simp [appT, lk_put, hd]
      · intro hw b
        by_cases hd : b ∈ t0.u.map Prod.fst
        · have e1 := foldS_gt (L := fun j => L j || decide (j = i)) (L' := fun _ => false) b ts (i + 1) (appT t0 s) (appT t0 s) (fun j t' hj hd' => by
            have := hw b hd (j + 1) t' (by simpa using hj) (by omega)
            cases hx : L (i + 1 + j)
            · simp; omega
            · exact absurd hd' (this (by rw [show i + (j + 1) = i + 1 + j by omega]; exact hx))) rfl
          rw [e1, foldS_none ts (i + 1) _ (fun _ _ => rfl)]
          exact gt_upd_in hd
        · have e1 := foldS_gt (L := fun j => L j || decide (j = i)) (L' := L) b ts (i + 1) (appT t0 s) s (fun j t' hj hd' => by
            have : (decide (i + 1 + j = i)) = false := by simp; omega
            simp [this]) (by simp only [appT]; exact gt_upd_not hd)
          rw [e1]
          simp only [appT]
          exact (gt_upd_not hd).symm
    | succ m =>
      have hne : decide (k = i) = false := by simp; omega
      simp only [foldS, hne, Bool.or_false]
      have ih := foldS_ins hi ts (k + 1) (if L k = true then appT t0 s else s) ⟨m, by omega, by simpa using ht⟩
      constructor
      · intro hw
        exact ih.1 fun r hr j t' hj hlt hL => hw r hr (j + 1) t' (by simpa using hj) (by omega) (by rw [show k + (j + 1) = k + 1 + j by omega]; exact hL)
      · intro hw
        exact ih.2 fun b hb j t' hj hlt hL => hw b hb (j + 1) t' (by simpa using hj) (by omega) (by rw [show k + (j + 1) = k + 1 + j by omega]; exact hL)

/-- all that must come before -/
theorem closure_closed {L : Nat → Bool} : ∀ (bs : List (List Nat)) (acc : List (List Nat)), (∀ j b, bs[j]? = some b → L (acc.length + j) = true → ∀ i ∈ b, L i = true) → (∀ j c, acc[j]? = some c → L j = true → ∀ i ∈ c, L i = true) →
    ∀ j c, (closure bs acc)[j]? = some c → L j = true → ∀ i ∈ c, L i = true
  | [], acc, _, h => h
  | b :: bs, acc, hb, h => by
    simp only [closure]
    refine closure_closed bs _ (fun j b' hj hL => hb (j + 1) b' (by simpa using hj) (by simp at hL; rw [show acc.length + (j + 1) = acc.length + 1 + j by omega]; exact hL)) ?_
    intro j c hj hL i hi
    rw [List.getElem?_append] at hj
    split at hj
    · exact h j c hj hL i hi
    · rename_i hlt
      have hj0 : j = acc.length := by
        by_cases hz : j - acc.length = 0
        · omega
        · rw [List.getElem?_eq_none (by simp; omega)] at hj; cases hj
      subst hj0
      simp at hj
      subst hj
      have h0 := hb 0 b rfl (by simpa using hL)
      rcases List.mem_append.1 hi with hi | hi
      · exact h0 i hi
      · obtain ⟨i', h1, h2⟩ := List.mem_flatMap.1 hi
        have hL' := h0 i' h1
        cases hx : acc[i']? with
        | none => rw [hx] at h2; simp at h2
        | some c' => rw [hx] at h2; exact h i' c' hx hL' i h2

theorem ordOK_spec {before : List (List Nat)} {feet : List Foot} (h : ordOK before feet = true) {i j : Nat} {f g : Foot} (hi : feet[i]? = some f) (hj : feet[j]? = some g) (hij : i < j) (hc : conflict f g = true) :
    ∃ c, (closure before [])[j]? = some c ∧ i ∈ c := by
  unfold ordOK at h
  have hjl : j < feet.length := by
    by_cases hx : j < feet.length
    · exact hx
    · rw [List.getElem?_eq_none (by omega)] at hj; cases hj
  have h1 := List.all_eq_true.1 h j (List.mem_range.2 hjl)
  unfold ordFrom at h1
  rw [hj] at h1
  split at h1
  · rename_i g' c hg hcl
    cases hg
    have h2 := List.all_eq_true.1 h1 i (List.mem_range.2 hij)
    rw [hi] at h2
    simp only [hc, Bool.not_true, Bool.false_or] at h2
    exact ⟨c, hcl, by simpa using h2⟩
  · cases h1

theorem mcallW_frame {Γ : Ctr} {f : Nat} {vs : List AV} {h h' : List Blk} {nx : Nat} {K : AV → List (Nat × Blk) → Prop} (hh : ∀ b ∈ reach h 200 (refss vs) [], gt h b = gt h' b) (hr : mcallW Γ f vs h nx K) : mcallW Γ f vs h' nx K := by
  obtain ⟨e1, e2, e3⟩ := sub_frame hh
  unfold mcallW
  rw [e1, e2, e3]
  exact hr

theorem pcallW_frame {Γ : Ctr} {f : Nat} {vs : List AV} {h h' : List Blk} {nx : Nat} {K : AV → List (Nat × Blk) → Prop} (hh : ∀ b ∈ reach h 200 (refss vs) [], gt h b = gt h' b) (hr : pcallW Γ f vs h nx K) : pcallW Γ f vs h' nx K := by
  obtain ⟨e1, e2, e3⟩ := sub_frame hh
  unfold pcallW
  rw [e1, e2, e3]
  exact hr

theorem reach_mono {h : List Blk} (q : Nat → Prop) (hq : ∀ b, q b → ∀ c ∈ refsB (gt h b), q c) {rs : List Nat} (hr : ∀ b ∈ rs, q b) : ∀ b ∈ reach h 200 rs [], q b := reach_all hq 200 rs [] hr (fun b hb => by cases hb)

theorem opR_frame {Γ : Ctr} {h h' : List Blk} {e e' : Env} {nx : Nat} {k : MOp} {v : AV} {u : List (Nat × Blk)} (he : ∀ x ∈ opdsOf k, ev e x = ev e' x) (hh : ∀ b ∈ reach1 h (frefs k e), gt h b = gt h' b)
    (hr : opR Γ h nx e k v u) : opR Γ h' nx e' k v u := by
  cases k with
  | call f args =>
    obtain ⟨as, h1, r, hr, h2, h3, h4, h5⟩ := hr
    have e1 : args.map (ev e') = args.map (ev e) := List.map_congr_left fun x hx => (he x (by simpa [opdsOf] using hx)).symm
    refine ⟨as, ?_, r, hr, h2, by rw [e1]; exact h3, h4, h5⟩
    rw [e1, ← h1]
    exact (frzs_frame (agree_of hh)).symm
  | icall f args =>
    have e1 : args.map (ev e') = args.map (ev e) := List.map_congr_left fun x hx => (he x (by simpa [opdsOf] using hx)).symm
    simp only [opR] at hr ⊢
    rw [e1]
    exact mcallW_frame (fun b hb => hh b (reach1_r hb)) hr
  | pcall f args =>
    have e1 : args.map (ev e') = args.map (ev e) := List.map_congr_left fun x hx => (he x (by simpa [opdsOf] using hx)).symm
    simp only [opR] at hr ⊢
    rw [e1]
    exact pcallW_frame (fun b hb => hh b (reach1_r hb)) hr
  | dcall f args =>
    obtain ⟨g, caps, hg, hr⟩ := hr
    have e1 : args.map (ev e') = args.map (ev e) := List.map_congr_left fun x hx => (he x (by simp [opdsOf, hx])).symm
    refine ⟨g, caps, by rw [← he f (by simp [opdsOf])]; exact hg, ?_⟩
    rw [e1]
    refine mcallW_frame (fun b hb => hh b (reach1_r ?_)) hr
    simp only [frefs, hg]
    exact hb
  | _ =>
    show evalOp h' nx e' _ = some (v, u)
    rw [← evalOp_frame he (fun x hx b hb => hh b (reach1_l (refss_mem (List.mem_map.2 ⟨x, hx, rfl⟩) hb)))]
    exact hr

section
variable {P : Program} {N : Par} {base : Nat} {w0 : World} {nt : Nat} {ts : List (Array Value)} {inl : List Nat}

structure RelD (N : Par) (base : Nat) (w0 : World) (nt : Nat) (ts : List (Array Value)) (D : Nat → Prop) (ρ : Map) (s : S) (a : Act) (w : World) : Prop where
  rel : Rel N base ρ s.h w
  env : RelEnv ρ w (Free N ρ s.h) s.env a.tmps
  stk : StkRel ρ w (Free N ρ s.h) s.stk ts
  dom : ∀ b, D b → ρ b = none
  defers : a.defers = []
  size : a.tmps.size = nt
  below : Below base w0 w
  kn : ∀ g, g < w0.heap.size → ¬ N.a g → w.heap[g]? = w0.heap[g]?
  fz : ∀ g, g < w0.heap.size → N.z g → Free N ρ s.h g ∧ w.heap[g]? = w0.heap[g]?

theorem RelD.congr {D D' : Nat → Prop} {ρ : Map} {s s' : S} {a : Act} {w : World} (h : RelD N base w0 nt ts D ρ s a w) (hl : ∀ r, lk r s.env = lk r s'.env) (hg : ∀ b, gt s.h b = gt s'.h b) (hk : s.stk = s'.stk) (hD : ∀ b, D' b → D b) :
    RelD N base w0 nt ts D' ρ s' a w := by
  refine ⟨h.rel.congr hg, ?_, ?_, fun b hb => h.dom b (hD b hb), h.defers, h.size, h.below, h.kn, by rw [← Free.congr hg]; exact h.fz⟩
  · intro r
    rw [← hl, ← Free.congr hg]
    exact h.env r
  · rw [← hk, ← Free.congr hg]
    exact h.stk

theorem RelD.after {D D' : Nat → Prop} {ρ ρ' : Map} {s : S} {a : Act} {w w' : World} (hS : RelD N base w0 nt ts D ρ s a w) {v : AV} {u : List (Nat × Blk)} {val : Value} (hA : After N base ρ s.h w v u val w' ρ') {d : Option Nat} (hd : ∀ x, d = some x → x < nt)
    (hD : ∀ b, D' b → D b ∧ b ∉ u.map Prod.fst) : RelD N base w0 nt ts D' ρ' { s with env := put d v s.env, h := upd s.h u } (a.put d val) w' := by
  refine ⟨hA.rel, relEnv_put (fun s => (hS.env s).keep hA.keeps) hA.val fun x hx => by rw [hS.size]; exact hd x hx, hS.stk.keep hA.keeps, ?_, by rw [act_put_defers]; exact hS.defers, by rw [act_put_size]; exact hS.size, hS.below.trans hA.below,
    fun g hg hn => (hA.kn g (Nat.lt_of_lt_of_le hg hS.below.size) hn).trans (hS.kn g hg hn), fun g hg hz => ?_⟩
  · intro b hb
    exact hA.same b (hD b hb).2 (hS.dom b (hD b hb).1)
  · obtain ⟨h1, h2⟩ := hS.fz g hg hz
    obtain ⟨h3, h4⟩ := hA.keeps.free g (Nat.lt_of_lt_of_le hg hS.below.size) h1
    exact ⟨h3, h4.trans h2⟩

theorem RelD.skip {D : Nat → Prop} {ρ : Map} {s : S} {a : Act} {w : World} (hS : RelD N base w0 nt ts D ρ s a w) {d : Option Nat} (hd : ∀ x, d = some x → x < nt) :
    RelD N base w0 nt ts D ρ { s with env := put d (.tup []) s.env } (a.put d undef) w :=
  ⟨hS.rel, relEnv_put hS.env (RV.tup (c := #[]) .nil) fun x hx => by rw [hS.size]; exact hd x hx, hS.stk, hS.dom, by rw [act_put_defers]; exact hS.defers, by rw [act_put_size]; exact hS.size, hS.below, hS.kn, hS.fz⟩

theorem mem_meets {a b : List Nat} {x : Nat} (h : x ∈ a) (h' : x ∈ b) : meets a b = true := by
  unfold meets
  exact List.any_eq_true.2 ⟨x, h, by simpa using h'⟩

end
end Go.AM
