/-
  A part of the proofs for this seat: A2.
-/
import Derived.Test.YtlnnmndebmkdhaaA1
namespace Go.Proofs.Ytlnnmndebmkdhaa
open Go.AM
set_option linter.unusedSimpArgs false
set_option linter.unusedVariables false
def tbl : Nat → Option MFun := fun _ => none
theorem tblOK : TblOK Try.prog tbl := fun _ _ h => by cases h

def inR (a b c : Int) : Bool := decide (b ≤ a) && decide (a ≤ c)

theorem s42 (a b c : Int) : Sound Try.prog 42 [.t (.int .i64 a), .t (.int .i64 b), .t (.int .i64 c)] (.t (.bool (inR a b c))) [] := by
  refine sound_of (inl := []) tblOK Try.func42 (ks := K42) (m := M42) (by kernel_rfl) (d := 0) ⟨rfl, ?_⟩
  refine Wc_step (by simp only [runK, run, run1, runS, evalOp, ev, lk, put, upd, initE, rst, List.map, Nat.reduceEqDiff, Nat.reduceAdd, if_true, if_false]; rfl) ?_
  by_cases h : b ≤ a
  · refine Wc_step (by simp only [runK, run, run1, runS, evalOp, ev, lk, put, upd, binT, Option.map, h, decide_true, ge_iff_le, rst, List.map, Nat.reduceEqDiff, Nat.reduceAdd, if_true, if_false]; rfl) ?_
    exact Wc_ret_t rfl (by simp [inR, h])
  · refine Wc_step (by simp only [runK, run, run1, runS, evalOp, ev, lk, put, upd, binT, Option.map, h, decide_false, ge_iff_le, rst, List.map, Nat.reduceEqDiff, Nat.reduceAdd, if_true, if_false, Bool.false_eq_true]; rfl) ?_
    exact Wc_ret_t rfl (by simp [inR, h])

theorem s43 (a b c : Int) : Sound Try.prog 43 [.t (.int .i64 a), .t (.int .i64 b), .t (.int .i64 c)] (.t (.bool (inR a b c))) [] := by
  refine sound_of (inl := []) tblOK Try.func43 (ks := K43) (m := M43) (by kernel_rfl) (d := 0) ⟨rfl, ?_⟩
  refine Wc_step (by simp only [runK, run, run1, runS, evalOp, ev, lk, put, upd, initE, rst, List.map, Nat.reduceEqDiff, Nat.reduceAdd, if_true, if_false]; rfl) ?_
  by_cases h : b ≤ a
  · refine Wc_step (by simp only [runK, run, run1, runS, evalOp, ev, lk, put, upd, binT, Option.map, h, decide_true, ge_iff_le, rst, List.map, Nat.reduceEqDiff, Nat.reduceAdd, if_true, if_false]; rfl) ?_
    exact Wc_ret_t rfl (by simp [inR, h])
  · refine Wc_step (by simp only [runK, run, run1, runS, evalOp, ev, lk, put, upd, binT, Option.map, h, decide_false, ge_iff_le, rst, List.map, Nat.reduceEqDiff, Nat.reduceAdd, if_true, if_false, Bool.false_eq_true]; rfl) ?_
    exact Wc_ret_t rfl (by simp [inR, h])

def names : List ByteArray := [⟨#[111, 107]⟩, ⟨#[105, 110, 118, 97, 108, 105, 100]⟩, ⟨#[97, 110, 115, 119, 101, 114]⟩, ⟨#[116, 111, 116, 97, 108]⟩, ⟨#[111, 114, 100, 101, 114]⟩, ⟨#[114, 117, 110]⟩, ⟨#[102, 97, 99, 116, 111, 114]⟩]
def auditName (a : Int) : ByteArray := if inR a 0 6 then (names[a.toNat]?).getD ⟨#[]⟩ else ⟨#[]⟩

theorem auditName_at {n : Nat} {x : ByteArray} (hn : inR (n : Int) 0 6 = true) (h : names[n]? = some x) : x = auditName n := by
  unfold auditName; rw [if_pos hn, Int.toNat_natCast, h]; rfl

theorem names_at {a : Int} (h : inR a 0 6 = true) : ∃ x, (names.map fun x => [T.str x])[a.toNat]? = some [T.str x] ∧ x = auditName a := by
  have h1 : a = 0 ∨ a = 1 ∨ a = 2 ∨ a = 3 ∨ a = 4 ∨ a = 5 ∨ a = 6 := by
    simp [inR] at h; omega
  rcases h1 with rfl | rfl | rfl | rfl | rfl | rfl | rfl <;> exact ⟨_, rfl, rfl⟩

theorem s10 (a : Int) : Sound Try.prog 10 [.t (.int .i64 a)] (.t (.str (auditName a))) [] := by
  refine sound_of (inl := []) tblOK Try.func10 (ks := K10) (m := M10) (by kernel_rfl) (d := 0) ⟨rfl, ?_⟩
  refine Wc_step (by simp only [runK, run, run1, runS, evalOp, ev, lk, put, upd, initE, rst, List.map, Nat.reduceEqDiff, Nat.reduceAdd, if_true, if_false]; rfl) ?_
  refine Wc_assoc (Wc_steps 1 (by simp only [run, run1, runS, evalOp, ev, lk, put, upd, List.take, Nat.reduceEqDiff, if_true, if_false]; rfl) ?_)
  refine Wc_scall rfl (s42 a 0 6) rfl rfl ?_
  refine Wc_step (by simp only [runK, run, run1, runS, evalOp, ev, lk, put, upd, unT, shift, ren, newU, rst, List.map, Option.map, Nat.reduceEqDiff, if_true, if_false]; rfl) ?_
  refine Wc_scond rfl (fun h => ?_) (fun h => ?_)
  · refine Wc_assoc (Wc_step (by simp only [runK, run, run1, runS, evalOp, ev, lk, put, upd, rst, List.map, Nat.reduceEqDiff, if_true, if_false]; rfl) ?_)
    exact Wc_sret (Wc_ret_t rfl (by simp at h; simp [auditName, h]))
  · have h2 : inR a 0 6 = true := by simpa using h
    obtain ⟨x, hx, he⟩ := names_at h2
    have h0 : 0 ≤ a := by simp [inR] at h2; omega
    have h6 : a.toNat < 7 := by simp [inR] at h2; omega
    refine Wc_sskip ?_
    simp only [names, List.map] at hx
    refine Wc_step (by simp only [runK, run, run1, runS, evalOp, ev, lk, put, upd, stB, gt, elems, cellsOf, toTs, toT, scalar, nodupB, kill, loadT, List.replicate, List.length, List.set, List.map, List.append, List.nil_append, List.getElem?_cons_zero, Option.getD, Bool.and_self, true_and, and_true, and_self, h0, h6, hx, rst, Option.map, Nat.reduceEqDiff, Nat.reduceLT, Nat.reduceAdd, if_true, if_false]; rfl) ?_
    exact Wc_ret_t rfl (by rw [he])
theorem s11 (a : Int) : Sound Try.prog 11 [.t (.int .i64 a)] (.t (.str (auditName a))) [] := by
  refine sound_of (inl := []) tblOK Try.func11 (ks := K11) (m := M11) (by kernel_rfl) (d := 0) ⟨rfl, ?_⟩
  refine Wc_step (by simp only [runK, run, run1, runS, evalOp, ev, lk, put, upd, initE, rst, List.map, Nat.reduceEqDiff, Nat.reduceAdd, if_true, if_false]; rfl) ?_
  refine Wc_assoc (Wc_steps 1 (by simp only [run, run1, runS, evalOp, ev, lk, put, upd, List.take, Nat.reduceEqDiff, if_true, if_false]; rfl) ?_)
  refine Wc_scall rfl (s43 a 0 6) rfl rfl ?_
  refine Wc_step (by simp only [runK, run, run1, runS, evalOp, ev, lk, put, upd, unT, shift, ren, newU, rst, List.map, Option.map, Nat.reduceEqDiff, if_true, if_false]; rfl) ?_
  refine Wc_scond rfl (fun h => ?_) (fun h => ?_)
  · refine Wc_assoc (Wc_step (by simp only [runK, run, run1, runS, evalOp, ev, lk, put, upd, rst, List.map, Nat.reduceEqDiff, if_true, if_false]; rfl) ?_)
    exact Wc_sret (Wc_ret_t rfl (by simp at h; simp [auditName, h]))
  · have h2 : inR a 0 6 = true := by simpa using h
    obtain ⟨x, hx, he⟩ := names_at h2
    have h0 : 0 ≤ a := by simp [inR] at h2; omega
    have h6 : a.toNat < 7 := by simp [inR] at h2; omega
    refine Wc_sskip ?_
    simp only [names, List.map] at hx
    refine Wc_step (by simp only [runK, run, run1, runS, evalOp, ev, lk, put, upd, stB, gt, elems, cellsOf, toTs, toT, scalar, nodupB, kill, loadT, List.replicate, List.length, List.set, List.map, List.append, List.nil_append, List.getElem?_cons_zero, Option.getD, Bool.and_self, true_and, and_true, and_self, h0, h6, hx, rst, Option.map, Nat.reduceEqDiff, Nat.reduceLT, Nat.reduceAdd, if_true, if_false]; rfl) ?_
    exact Wc_ret_t rfl (by rw [he])

theorem s3 (a : Int) : Sound Try.prog 3 [.t (.int .i64 a)] (.t (.bool true)) [] := by
  refine sound_of (inl := []) tblOK Try.func3 (ks := K3) (m := M3) (by kernel_rfl) (d := 0) ⟨rfl, ?_⟩
  refine Wc_step (by simp only [runK, run, run1, runS, evalOp, ev, lk, put, upd, initE, rst, List.map, Nat.reduceEqDiff, Nat.reduceAdd, if_true, if_false]; rfl) ?_
  refine Wc_steps 1 (by simp only [run, run1, runS, evalOp, ev, lk, put, upd, List.take, Nat.reduceEqDiff, if_true, if_false]; rfl) ?_
  refine Wc_scall rfl (s10 a) rfl rfl ?_
  refine Wc_step (by simp only [runK, run, run1, runS, evalOp, ev, lk, put, upd, unT, shift, ren, newU, rst, List.map, Option.map, Nat.reduceEqDiff, if_true, if_false]; rfl) ?_
  refine Wc_steps 1 (by simp only [run, run1, runS, evalOp, ev, lk, put, upd, List.take, Nat.reduceEqDiff, if_true, if_false]; rfl) ?_
  refine Wc_scall rfl (s11 a) rfl rfl ?_
  refine Wc_step (by simp only [runK, run, run1, runS, evalOp, ev, lk, put, upd, unT, shift, ren, newU, rst, List.map, Option.map, Nat.reduceEqDiff, if_true, if_false]; rfl) ?_
  refine Wc_assoc (Wc_step (by simp only [runK, run, run1, runS, evalOp, ev, lk, put, upd, binT, rst, List.map, Option.map, beq_self_eq_true, Bool.not_true, Nat.reduceEqDiff, if_true, if_false]; rfl) ?_)
  refine Wc_scond rfl (fun h => by cases h) (fun _ => Wc_sskip ?_)
  refine Wc_step (by simp only [runK, run, run1, runS, evalOp, ev, lk, put, upd, rst, List.map, Nat.reduceEqDiff, if_true, if_false]; rfl) ?_
  exact Wc_ret_t rfl rfl

end Go.Proofs.Ytlnnmndebmkdhaa
