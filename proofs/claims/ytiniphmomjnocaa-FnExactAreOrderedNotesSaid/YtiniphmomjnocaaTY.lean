/-
  The data types, as printed by program.
-/
import Derived.Test.YtiniphmomjnocaaAMTy
namespace Go.Proofs.Ytiniphmomjnocaa
open Go.AM
set_option linter.unusedVariables false

@[ext] structure Atom where
  Name : ByteArray
  Vars : List Int
  deriving DecidableEq
def Atom.c (x : Atom) : List T := [.str x.Name, tI x.Vars]
@[simp] theorem Atom.c_def (x : Atom) : x.c = [.str x.Name, tI x.Vars] := rfl
abbrev Atom.small (x : Atom) : Prop := SsA x.Name ∧ SmA x.Vars
abbrev Atom.okay (x : Atom) : Prop := OkS x.Name ∧ OkL OkI x.Vars
theorem Atom.dec (ts : List T) (h : HasShs [.str, .slice [.int .i64]] ts) : ∃ x : Atom, ts = x.c ∧ x.okay := by
  obtain ⟨t0, us0, rfl, g0, h0⟩ := dec_cons h
  obtain ⟨t1, us1, rfl, g1, h1⟩ := dec_cons h0
  cases dec_nil h1
  obtain ⟨x0, rfl, o0⟩ := dec_str g0
  obtain ⟨x1, rfl, o1⟩ := dec_tI g1
  exact ⟨⟨x0, x1⟩, rfl, o0, o1⟩
def Atom.sz (x : Atom) (l : Int) : Int := andSz (sz1 x.Name.size l) fun l => andSz (sz1 x.Vars.length l) fun l => l
theorem Atom.sz_ok (x : Atom) (l : Int) (hx : x.okay) (h0 : 0 ≤ l) (h1 : l ≤ 1048576) (h : 0 ≤ x.sz l) : x.sz l ≤ l ∧ x.small := by
  unfold Atom.sz at h ⊢
  simp only [andSz] at h ⊢
  split at h
  · omega
  rename_i q0
  rw [if_neg q0]
  have s0 := sz1_okA hx.1 h0 h1 (Int.not_lt.1 q0)
  split at h
  · omega
  rename_i q1
  rw [if_neg q1]
  have s1 := sz1_okA hx.2.1 (by omega) (by omega) (Int.not_lt.1 q1)
  exact ⟨by omega, s0.2, s1.2⟩

@[ext] structure Query where
  VariableCount : Int
  Atoms : List Atom
  deriving DecidableEq
def Query.c (x : Query) : List T := [.int .i64 x.VariableCount, .lst 2 (x.Atoms.map Atom.c)]
@[simp] theorem Query.c_def (x : Query) : x.c = [.int .i64 x.VariableCount, .lst 2 (x.Atoms.map Atom.c)] := rfl
abbrev Query.small (x : Query) : Prop := SmL Atom.small x.Atoms
abbrev Query.okay (x : Query) : Prop := OkI x.VariableCount ∧ OkL Atom.okay x.Atoms
theorem Query.dec (ts : List T) (h : HasShs [.int .i64, .slice [.str, .slice [.int .i64]]] ts) : ∃ x : Query, ts = x.c ∧ x.okay := by
  obtain ⟨t0, us0, rfl, g0, h0⟩ := dec_cons h
  obtain ⟨t1, us1, rfl, g1, h1⟩ := dec_cons h0
  cases dec_nil h1
  obtain ⟨x0, rfl, o0⟩ := dec_int g0
  obtain ⟨x1, rfl, o1⟩ := dec_slice Atom.dec g1
  exact ⟨⟨x0, x1⟩, rfl, o0, o1⟩
def Query.sz (x : Query) (l : Int) : Int := andSz (szL Atom.sz x.Atoms l) fun l => l
theorem Query.sz_ok (x : Query) (l : Int) (hx : x.okay) (h0 : 0 ≤ l) (h1 : l ≤ 1048576) (h : 0 ≤ x.sz l) : x.sz l ≤ l ∧ x.small := by
  unfold Query.sz at h ⊢
  simp only [andSz] at h ⊢
  split at h
  · omega
  rename_i q0
  rw [if_neg q0]
  have s0 := szL_ok (p := Atom.small) hx.2.1 (fun y hy l a b c => Atom.sz_ok y l (hx.2.2 y hy) a b c) h0 h1 (Int.not_lt.1 q0)
  exact ⟨by omega, s0.2⟩

@[ext] structure Box where
  Low : List Int
  High : List Int
  deriving DecidableEq
def Box.c (x : Box) : List T := [tI x.Low, tI x.High]
@[simp] theorem Box.c_def (x : Box) : x.c = [tI x.Low, tI x.High] := rfl
abbrev Box.small (x : Box) : Prop := SmA x.Low ∧ SmA x.High
abbrev Box.okay (x : Box) : Prop := OkL OkI x.Low ∧ OkL OkI x.High
theorem Box.dec (ts : List T) (h : HasShs [.slice [.int .i64], .slice [.int .i64]] ts) : ∃ x : Box, ts = x.c ∧ x.okay := by
  obtain ⟨t0, us0, rfl, g0, h0⟩ := dec_cons h
  obtain ⟨t1, us1, rfl, g1, h1⟩ := dec_cons h0
  cases dec_nil h1
  obtain ⟨x0, rfl, o0⟩ := dec_tI g0
  obtain ⟨x1, rfl, o1⟩ := dec_tI g1
  exact ⟨⟨x0, x1⟩, rfl, o0, o1⟩
def Box.sz (x : Box) (l : Int) : Int := andSz (sz1 x.Low.length l) fun l => andSz (sz1 x.High.length l) fun l => l
theorem Box.sz_ok (x : Box) (l : Int) (hx : x.okay) (h0 : 0 ≤ l) (h1 : l ≤ 1048576) (h : 0 ≤ x.sz l) : x.sz l ≤ l ∧ x.small := by
  unfold Box.sz at h ⊢
  simp only [andSz] at h ⊢
  split at h
  · omega
  rename_i q0
  rw [if_neg q0]
  have s0 := sz1_okA hx.1.1 h0 h1 (Int.not_lt.1 q0)
  split at h
  · omega
  rename_i q1
  rw [if_neg q1]
  have s1 := sz1_okA hx.2.1 (by omega) (by omega) (Int.not_lt.1 q1)
  exact ⟨by omega, s0.2, s1.2⟩

@[ext] structure PlanStep where
  Kind : Int
  Atom : Int
  Order : Int
  deriving DecidableEq
def PlanStep.c (x : PlanStep) : List T := [.int .i64 x.Kind, .int .i64 x.Atom, .int .i64 x.Order]
@[simp] theorem PlanStep.c_def (x : PlanStep) : x.c = [.int .i64 x.Kind, .int .i64 x.Atom, .int .i64 x.Order] := rfl
abbrev PlanStep.small (x : PlanStep) : Prop := True
abbrev PlanStep.okay (x : PlanStep) : Prop := OkI x.Kind ∧ OkI x.Atom ∧ OkI x.Order
theorem PlanStep.dec (ts : List T) (h : HasShs [.int .i64, .int .i64, .int .i64] ts) : ∃ x : PlanStep, ts = x.c ∧ x.okay := by
  obtain ⟨t0, us0, rfl, g0, h0⟩ := dec_cons h
  obtain ⟨t1, us1, rfl, g1, h1⟩ := dec_cons h0
  obtain ⟨t2, us2, rfl, g2, h2⟩ := dec_cons h1
  cases dec_nil h2
  obtain ⟨x0, rfl, o0⟩ := dec_int g0
  obtain ⟨x1, rfl, o1⟩ := dec_int g1
  obtain ⟨x2, rfl, o2⟩ := dec_int g2
  exact ⟨⟨x0, x1, x2⟩, rfl, o0, o1, o2⟩

@[ext] structure Plan where
  Steps : List PlanStep
  deriving DecidableEq
def Plan.c (x : Plan) : List T := [.lst 3 (x.Steps.map PlanStep.c)]
@[simp] theorem Plan.c_def (x : Plan) : x.c = [.lst 3 (x.Steps.map PlanStep.c)] := rfl
abbrev Plan.small (x : Plan) : Prop := SmA x.Steps
abbrev Plan.okay (x : Plan) : Prop := OkL PlanStep.okay x.Steps
theorem Plan.dec (ts : List T) (h : HasShs [.slice [.int .i64, .int .i64, .int .i64]] ts) : ∃ x : Plan, ts = x.c ∧ x.okay := by
  obtain ⟨t0, us0, rfl, g0, h0⟩ := dec_cons h
  cases dec_nil h0
  obtain ⟨x0, rfl, o0⟩ := dec_slice PlanStep.dec g0
  exact ⟨⟨x0⟩, rfl, o0⟩
def Plan.sz (x : Plan) (l : Int) : Int := andSz (sz1 x.Steps.length l) fun l => l
theorem Plan.sz_ok (x : Plan) (l : Int) (hx : x.okay) (h0 : 0 ≤ l) (h1 : l ≤ 1048576) (h : 0 ≤ x.sz l) : x.sz l ≤ l ∧ x.small := by
  unfold Plan.sz at h ⊢
  simp only [andSz] at h ⊢
  split at h
  · omega
  rename_i q0
  rw [if_neg q0]
  have s0 := sz1_okA hx.1 h0 h1 (Int.not_lt.1 q0)
  exact ⟨by omega, s0.2⟩

@[ext] structure Bouquet where
  Version : Int
  Ratio : Int
  Slack : Int
  Box : Box
  Budgets : List Int
  Plans : List Plan
  Contours : List (List Int)
  deriving DecidableEq
def Bouquet.c (x : Bouquet) : List T := [.int .i64 x.Version, .int .i64 x.Ratio, .int .i64 x.Slack, tI x.Box.Low, tI x.Box.High, tI x.Budgets, .lst 1 (x.Plans.map Plan.c), tII x.Contours]
@[simp] theorem Bouquet.c_def (x : Bouquet) : x.c = [.int .i64 x.Version, .int .i64 x.Ratio, .int .i64 x.Slack, tI x.Box.Low, tI x.Box.High, tI x.Budgets, .lst 1 (x.Plans.map Plan.c), tII x.Contours] := rfl
abbrev Bouquet.small (x : Bouquet) : Prop := SmA x.Box.Low ∧ SmA x.Box.High ∧ SmA x.Budgets ∧ SmL Plan.small x.Plans ∧ SmL SmA x.Contours
abbrev Bouquet.okay (x : Bouquet) : Prop := OkI x.Version ∧ OkI x.Ratio ∧ OkI x.Slack ∧ OkL OkI x.Box.Low ∧ OkL OkI x.Box.High ∧ OkL OkI x.Budgets ∧ OkL Plan.okay x.Plans ∧ OkL (OkL OkI) x.Contours
theorem Bouquet.dec (ts : List T) (h : HasShs [.int .i64, .int .i64, .int .i64, .slice [.int .i64], .slice [.int .i64], .slice [.int .i64], .slice [.slice [.int .i64, .int .i64, .int .i64]], .slice [.slice [.int .i64]]] ts) : ∃ x : Bouquet, ts = x.c ∧ x.okay := by
  obtain ⟨t0, us0, rfl, g0, h0⟩ := dec_cons h
  obtain ⟨t1, us1, rfl, g1, h1⟩ := dec_cons h0
  obtain ⟨t2, us2, rfl, g2, h2⟩ := dec_cons h1
  obtain ⟨t3, us3, rfl, g3, h3⟩ := dec_cons h2
  obtain ⟨t4, us4, rfl, g4, h4⟩ := dec_cons h3
  obtain ⟨t5, us5, rfl, g5, h5⟩ := dec_cons h4
  obtain ⟨t6, us6, rfl, g6, h6⟩ := dec_cons h5
  obtain ⟨t7, us7, rfl, g7, h7⟩ := dec_cons h6
  cases dec_nil h7
  obtain ⟨x0, rfl, o0⟩ := dec_int g0
  obtain ⟨x1, rfl, o1⟩ := dec_int g1
  obtain ⟨x2, rfl, o2⟩ := dec_int g2
  obtain ⟨x3, rfl, o3⟩ := dec_tI g3
  obtain ⟨x4, rfl, o4⟩ := dec_tI g4
  obtain ⟨x5, rfl, o5⟩ := dec_tI g5
  obtain ⟨x6, rfl, o6⟩ := dec_slice Plan.dec g6
  obtain ⟨x7, rfl, o7⟩ := dec_tII g7
  exact ⟨⟨x0, x1, x2, ⟨x3, x4⟩, x5, x6, x7⟩, rfl, o0, o1, o2, o3, o4, o5, o6, o7⟩
def Bouquet.sz (x : Bouquet) (l : Int) : Int := andSz (Box.sz x.Box l) fun l => andSz (sz1 x.Budgets.length l) fun l => andSz (szL Plan.sz x.Plans l) fun l => andSz (szL szI x.Contours l) fun l => l
theorem Bouquet.sz_ok (x : Bouquet) (l : Int) (hx : x.okay) (h0 : 0 ≤ l) (h1 : l ≤ 1048576) (h : 0 ≤ x.sz l) : x.sz l ≤ l ∧ x.small := by
  unfold Bouquet.sz at h ⊢
  simp only [andSz] at h ⊢
  split at h
  · omega
  rename_i q0
  rw [if_neg q0]
  have s0 := Box.sz_ok x.Box _ ⟨hx.2.2.2.1, hx.2.2.2.2.1⟩ h0 h1 (Int.not_lt.1 q0)
  split at h
  · omega
  rename_i q1
  rw [if_neg q1]
  have s1 := sz1_okA hx.2.2.2.2.2.1.1 (by omega) (by omega) (Int.not_lt.1 q1)
  split at h
  · omega
  rename_i q2
  rw [if_neg q2]
  have s2 := szL_ok (p := Plan.small) hx.2.2.2.2.2.2.1.1 (fun y hy l a b c => Plan.sz_ok y l (hx.2.2.2.2.2.2.1.2 y hy) a b c) (by omega) (by omega) (Int.not_lt.1 q2)
  split at h
  · omega
  rename_i q3
  rw [if_neg q3]
  have s3 := szL_ok (f := szI) (p := fun y : List Int => SmA y) hx.2.2.2.2.2.2.2.1 (fun y hy l a b c => sz1_okA (hx.2.2.2.2.2.2.2.2 y hy).1 a b c) (by omega) (by omega) (Int.not_lt.1 q3)
  exact ⟨by omega, s0.2.1, s0.2.2, s1.2, s2.2, s3.2⟩

@[ext] structure RunNote where
  Contour : Int
  Plan : Int
  Budget : Int
  Cost : Int
  Done : Bool
  deriving DecidableEq
def RunNote.c (x : RunNote) : List T := [.int .i64 x.Contour, .int .i64 x.Plan, .int .i64 x.Budget, .int .i64 x.Cost, .bool x.Done]
@[simp] theorem RunNote.c_def (x : RunNote) : x.c = [.int .i64 x.Contour, .int .i64 x.Plan, .int .i64 x.Budget, .int .i64 x.Cost, .bool x.Done] := rfl
abbrev RunNote.small (x : RunNote) : Prop := True
abbrev RunNote.okay (x : RunNote) : Prop := OkI x.Contour ∧ OkI x.Plan ∧ OkI x.Budget ∧ OkI x.Cost
theorem RunNote.dec (ts : List T) (h : HasShs [.int .i64, .int .i64, .int .i64, .int .i64, .bool] ts) : ∃ x : RunNote, ts = x.c ∧ x.okay := by
  obtain ⟨t0, us0, rfl, g0, h0⟩ := dec_cons h
  obtain ⟨t1, us1, rfl, g1, h1⟩ := dec_cons h0
  obtain ⟨t2, us2, rfl, g2, h2⟩ := dec_cons h1
  obtain ⟨t3, us3, rfl, g3, h3⟩ := dec_cons h2
  obtain ⟨t4, us4, rfl, g4, h4⟩ := dec_cons h3
  cases dec_nil h4
  obtain ⟨x0, rfl, o0⟩ := dec_int g0
  obtain ⟨x1, rfl, o1⟩ := dec_int g1
  obtain ⟨x2, rfl, o2⟩ := dec_int g2
  obtain ⟨x3, rfl, o3⟩ := dec_int g3
  obtain ⟨x4, rfl⟩ := dec_bool g4
  exact ⟨⟨x0, x1, x2, x3, x4⟩, rfl, o0, o1, o2, o3⟩

@[ext] structure Region where
  Plan : Plan
  Box : Box
  Percent : Int
  deriving DecidableEq
def Region.c (x : Region) : List T := [.lst 3 (x.Plan.Steps.map PlanStep.c), tI x.Box.Low, tI x.Box.High, .int .i64 x.Percent]
@[simp] theorem Region.c_def (x : Region) : x.c = [.lst 3 (x.Plan.Steps.map PlanStep.c), tI x.Box.Low, tI x.Box.High, .int .i64 x.Percent] := rfl
abbrev Region.small (x : Region) : Prop := SmA x.Plan.Steps ∧ SmA x.Box.Low ∧ SmA x.Box.High
abbrev Region.okay (x : Region) : Prop := OkL PlanStep.okay x.Plan.Steps ∧ OkL OkI x.Box.Low ∧ OkL OkI x.Box.High ∧ OkI x.Percent
theorem Region.dec (ts : List T) (h : HasShs [.slice [.int .i64, .int .i64, .int .i64], .slice [.int .i64], .slice [.int .i64], .int .i64] ts) : ∃ x : Region, ts = x.c ∧ x.okay := by
  obtain ⟨t0, us0, rfl, g0, h0⟩ := dec_cons h
  obtain ⟨t1, us1, rfl, g1, h1⟩ := dec_cons h0
  obtain ⟨t2, us2, rfl, g2, h2⟩ := dec_cons h1
  obtain ⟨t3, us3, rfl, g3, h3⟩ := dec_cons h2
  cases dec_nil h3
  obtain ⟨x0, rfl, o0⟩ := dec_slice PlanStep.dec g0
  obtain ⟨x1, rfl, o1⟩ := dec_tI g1
  obtain ⟨x2, rfl, o2⟩ := dec_tI g2
  obtain ⟨x3, rfl, o3⟩ := dec_int g3
  exact ⟨⟨⟨x0⟩, ⟨x1, x2⟩, x3⟩, rfl, o0, o1, o2, o3⟩
def Region.sz (x : Region) (l : Int) : Int := andSz (Plan.sz x.Plan l) fun l => andSz (Box.sz x.Box l) fun l => l
theorem Region.sz_ok (x : Region) (l : Int) (hx : x.okay) (h0 : 0 ≤ l) (h1 : l ≤ 1048576) (h : 0 ≤ x.sz l) : x.sz l ≤ l ∧ x.small := by
  unfold Region.sz at h ⊢
  simp only [andSz] at h ⊢
  split at h
  · omega
  rename_i q0
  rw [if_neg q0]
  have s0 := Plan.sz_ok x.Plan _ hx.1 h0 h1 (Int.not_lt.1 q0)
  split at h
  · omega
  rename_i q1
  rw [if_neg q1]
  have s1 := Box.sz_ok x.Box _ ⟨hx.2.1, hx.2.2.1⟩ (by omega) (by omega) (Int.not_lt.1 q1)
  exact ⟨by omega, s0.2, s1.2.1, s1.2.2⟩

end Go.Proofs.Ytiniphmomjnocaa
