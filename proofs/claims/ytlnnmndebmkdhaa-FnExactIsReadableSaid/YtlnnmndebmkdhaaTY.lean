/-
  The data types, as printed by program.
-/
import Derived.Test.YtlnnmndebmkdhaaAMTy
namespace Go.Proofs.Ytlnnmndebmkdhaa
open Go.AM
set_option linter.unusedVariables false

@[ext] structure Atom where
  Name : ByteArray
  Vars : List Int
  deriving DecidableEq
def Atom.c (x : Atom) : List T := [.str x.Name, tI x.Vars]
@[simp] theorem Atom.c_def (x : Atom) : x.c = [.str x.Name, tI x.Vars] := rfl
abbrev Atom.small (x : Atom) : Prop := SsA x.Name ∧ SmA x.Vars
abbrev Atom.okay (x : Atom) : Prop := OkS x.Name ∧ OkL OkI x.Vars
theorem Atom.dec (ts : List T) (h : HasShs [.str, .slice [.int .i64]] ts) : ∃ x : Atom, ts = x.c ∧ x.okay := by
  obtain ⟨t0, us0, rfl, g0, h0⟩ := dec_cons h
  obtain ⟨t1, us1, rfl, g1, h1⟩ := dec_cons h0
  cases dec_nil h1
  obtain ⟨x0, rfl, o0⟩ := dec_str g0
  obtain ⟨x1, rfl, o1⟩ := dec_tI g1
  exact ⟨⟨x0, x1⟩, rfl, o0, o1⟩
def Atom.sz (x : Atom) (l : Int) : Int := andSz (sz1 x.Name.size l) fun l => andSz (sz1 x.Vars.length l) fun l => l
theorem Atom.sz_ok (x : Atom) (l : Int) (hx : x.okay) (h0 : 0 ≤ l) (h1 : l ≤ 1048576) (h : 0 ≤ x.sz l) : x.sz l ≤ l ∧ x.small := by
  unfold Atom.sz at h ⊢
  simp only [andSz] at h ⊢
  split at h
  · omega
  rename_i q0
  rw [if_neg q0]
  have s0 := sz1_okA hx.1 h0 h1 (Int.not_lt.1 q0)
  split at h
  · omega
  rename_i q1
  rw [if_neg q1]
  have s1 := sz1_okA hx.2.1 (by omega) (by omega) (Int.not_lt.1 q1)
  exact ⟨by omega, s0.2, s1.2⟩

@[ext] structure Query where
  VariableCount : Int
  Atoms : List Atom
  deriving DecidableEq
def Query.c (x : Query) : List T := [.int .i64 x.VariableCount, .lst 2 (x.Atoms.map Atom.c)]
@[simp] theorem Query.c_def (x : Query) : x.c = [.int .i64 x.VariableCount, .lst 2 (x.Atoms.map Atom.c)] := rfl
abbrev Query.small (x : Query) : Prop := SmL Atom.small x.Atoms
abbrev Query.okay (x : Query) : Prop := OkI x.VariableCount ∧ OkL Atom.okay x.Atoms
theorem Query.dec (ts : List T) (h : HasShs [.int .i64, .slice [.str, .slice [.int .i64]]] ts) : ∃ x : Query, ts = x.c ∧ x.okay := by
  obtain ⟨t0, us0, rfl, g0, h0⟩ := dec_cons h
  obtain ⟨t1, us1, rfl, g1, h1⟩ := dec_cons h0
  cases dec_nil h1
  obtain ⟨x0, rfl, o0⟩ := dec_int g0
  obtain ⟨x1, rfl, o1⟩ := dec_slice Atom.dec g1
  exact ⟨⟨x0, x1⟩, rfl, o0, o1⟩
def Query.sz (x : Query) (l : Int) : Int := andSz (szL Atom.sz x.Atoms l) fun l => l
theorem Query.sz_ok (x : Query) (l : Int) (hx : x.okay) (h0 : 0 ≤ l) (h1 : l ≤ 1048576) (h : 0 ≤ x.sz l) : x.sz l ≤ l ∧ x.small := by
  unfold Query.sz at h ⊢
  simp only [andSz] at h ⊢
  split at h
  · omega
  rename_i q0
  rw [if_neg q0]
  have s0 := szL_ok (p := Atom.small) hx.2.1 (fun y hy l a b c => Atom.sz_ok y l (hx.2.2 y hy) a b c) h0 h1 (Int.not_lt.1 q0)
  exact ⟨by omega, s0.2⟩

@[ext] structure Answer where
  Vars : List Int
  Rows : List (List Int)
  deriving DecidableEq
def Answer.c (x : Answer) : List T := [tI x.Vars, tII x.Rows]
@[simp] theorem Answer.c_def (x : Answer) : x.c = [tI x.Vars, tII x.Rows] := rfl
abbrev Answer.small (x : Answer) : Prop := SmA x.Vars ∧ SmL SmA x.Rows
abbrev Answer.okay (x : Answer) : Prop := OkL OkI x.Vars ∧ OkL (OkL OkI) x.Rows
theorem Answer.dec (ts : List T) (h : HasShs [.slice [.int .i64], .slice [.slice [.int .i64]]] ts) : ∃ x : Answer, ts = x.c ∧ x.okay := by
  obtain ⟨t0, us0, rfl, g0, h0⟩ := dec_cons h
  obtain ⟨t1, us1, rfl, g1, h1⟩ := dec_cons h0
  cases dec_nil h1
  obtain ⟨x0, rfl, o0⟩ := dec_tI g0
  obtain ⟨x1, rfl, o1⟩ := dec_tII g1
  exact ⟨⟨x0, x1⟩, rfl, o0, o1⟩
def Answer.sz (x : Answer) (l : Int) : Int := andSz (sz1 x.Vars.length l) fun l => andSz (szL szI x.Rows l) fun l => l
theorem Answer.sz_ok (x : Answer) (l : Int) (hx : x.okay) (h0 : 0 ≤ l) (h1 : l ≤ 1048576) (h : 0 ≤ x.sz l) : x.sz l ≤ l ∧ x.small := by
  unfold Answer.sz at h ⊢
  simp only [andSz] at h ⊢
  split at h
  · omega
  rename_i q0
  rw [if_neg q0]
  have s0 := sz1_okA hx.1.1 h0 h1 (Int.not_lt.1 q0)
  split at h
  · omega
  rename_i q1
  rw [if_neg q1]
  have s1 := szL_ok (f := szI) (p := fun y : List Int => SmA y) hx.2.1 (fun y hy l a b c => sz1_okA (hx.2.2 y hy).1 a b c) (by omega) (by omega) (Int.not_lt.1 q1)
  exact ⟨by omega, s0.2, s1.2⟩

@[ext] structure Box where
  Low : List Int
  High : List Int
  deriving DecidableEq
def Box.c (x : Box) : List T := [tI x.Low, tI x.High]
@[simp] theorem Box.c_def (x : Box) : x.c = [tI x.Low, tI x.High] := rfl
abbrev Box.small (x : Box) : Prop := SmA x.Low ∧ SmA x.High
abbrev Box.okay (x : Box) : Prop := OkL OkI x.Low ∧ OkL OkI x.High
theorem Box.dec (ts : List T) (h : HasShs [.slice [.int .i64], .slice [.int .i64]] ts) : ∃ x : Box, ts = x.c ∧ x.okay := by
  obtain ⟨t0, us0, rfl, g0, h0⟩ := dec_cons h
  obtain ⟨t1, us1, rfl, g1, h1⟩ := dec_cons h0
  cases dec_nil h1
  obtain ⟨x0, rfl, o0⟩ := dec_tI g0
  obtain ⟨x1, rfl, o1⟩ := dec_tI g1
  exact ⟨⟨x0, x1⟩, rfl, o0, o1⟩
def Box.sz (x : Box) (l : Int) : Int := andSz (sz1 x.Low.length l) fun l => andSz (sz1 x.High.length l) fun l => l
theorem Box.sz_ok (x : Box) (l : Int) (hx : x.okay) (h0 : 0 ≤ l) (h1 : l ≤ 1048576) (h : 0 ≤ x.sz l) : x.sz l ≤ l ∧ x.small := by
  unfold Box.sz at h ⊢
  simp only [andSz] at h ⊢
  split at h
  · omega
  rename_i q0
  rw [if_neg q0]
  have s0 := sz1_okA hx.1.1 h0 h1 (Int.not_lt.1 q0)
  split at h
  · omega
  rename_i q1
  rw [if_neg q1]
  have s1 := sz1_okA hx.2.1 (by omega) (by omega) (Int.not_lt.1 q1)
  exact ⟨by omega, s0.2, s1.2⟩

@[ext] structure CostStep where
  From : Int
  Add : Int
  deriving DecidableEq
def CostStep.c (x : CostStep) : List T := [.int .i64 x.From, .int .i64 x.Add]
@[simp] theorem CostStep.c_def (x : CostStep) : x.c = [.int .i64 x.From, .int .i64 x.Add] := rfl
abbrev CostStep.small (x : CostStep) : Prop := True
abbrev CostStep.okay (x : CostStep) : Prop := OkI x.From ∧ OkI x.Add
theorem CostStep.dec (ts : List T) (h : HasShs [.int .i64, .int .i64] ts) : ∃ x : CostStep, ts = x.c ∧ x.okay := by
  obtain ⟨t0, us0, rfl, g0, h0⟩ := dec_cons h
  obtain ⟨t1, us1, rfl, g1, h1⟩ := dec_cons h0
  cases dec_nil h1
  obtain ⟨x0, rfl, o0⟩ := dec_int g0
  obtain ⟨x1, rfl, o1⟩ := dec_int g1
  exact ⟨⟨x0, x1⟩, rfl, o0, o1⟩

@[ext] structure Operator where
  Fixed : Int
  PerLeft : Int
  PerRight : Int
  PerOutput : Int
  PerPair : Int
  Steps : List CostStep
  deriving DecidableEq
def Operator.c (x : Operator) : List T := [.int .i64 x.Fixed, .int .i64 x.PerLeft, .int .i64 x.PerRight, .int .i64 x.PerOutput, .int .i64 x.PerPair, .lst 2 (x.Steps.map CostStep.c)]
@[simp] theorem Operator.c_def (x : Operator) : x.c = [.int .i64 x.Fixed, .int .i64 x.PerLeft, .int .i64 x.PerRight, .int .i64 x.PerOutput, .int .i64 x.PerPair, .lst 2 (x.Steps.map CostStep.c)] := rfl
abbrev Operator.small (x : Operator) : Prop := SmA x.Steps
abbrev Operator.okay (x : Operator) : Prop := OkI x.Fixed ∧ OkI x.PerLeft ∧ OkI x.PerRight ∧ OkI x.PerOutput ∧ OkI x.PerPair ∧ OkL CostStep.okay x.Steps
theorem Operator.dec (ts : List T) (h : HasShs [.int .i64, .int .i64, .int .i64, .int .i64, .int .i64, .slice [.int .i64, .int .i64]] ts) : ∃ x : Operator, ts = x.c ∧ x.okay := by
  obtain ⟨t0, us0, rfl, g0, h0⟩ := dec_cons h
  obtain ⟨t1, us1, rfl, g1, h1⟩ := dec_cons h0
  obtain ⟨t2, us2, rfl, g2, h2⟩ := dec_cons h1
  obtain ⟨t3, us3, rfl, g3, h3⟩ := dec_cons h2
  obtain ⟨t4, us4, rfl, g4, h4⟩ := dec_cons h3
  obtain ⟨t5, us5, rfl, g5, h5⟩ := dec_cons h4
  cases dec_nil h5
  obtain ⟨x0, rfl, o0⟩ := dec_int g0
  obtain ⟨x1, rfl, o1⟩ := dec_int g1
  obtain ⟨x2, rfl, o2⟩ := dec_int g2
  obtain ⟨x3, rfl, o3⟩ := dec_int g3
  obtain ⟨x4, rfl, o4⟩ := dec_int g4
  obtain ⟨x5, rfl, o5⟩ := dec_slice CostStep.dec g5
  exact ⟨⟨x0, x1, x2, x3, x4, x5⟩, rfl, o0, o1, o2, o3, o4, o5⟩
def Operator.sz (x : Operator) (l : Int) : Int := andSz (sz1 x.Steps.length l) fun l => l
theorem Operator.sz_ok (x : Operator) (l : Int) (hx : x.okay) (h0 : 0 ≤ l) (h1 : l ≤ 1048576) (h : 0 ≤ x.sz l) : x.sz l ≤ l ∧ x.small := by
  unfold Operator.sz at h ⊢
  simp only [andSz] at h ⊢
  split at h
  · omega
  rename_i q0
  rw [if_neg q0]
  have s0 := sz1_okA hx.2.2.2.2.2.1 h0 h1 (Int.not_lt.1 q0)
  exact ⟨by omega, s0.2⟩

@[ext] structure Model where
  Scan : Operator
  Sort_ : Operator
  Hash : Operator
  Merge : Operator
  Nested : Operator
  deriving DecidableEq
def Model.c (x : Model) : List T := [.int .i64 x.Scan.Fixed, .int .i64 x.Scan.PerLeft, .int .i64 x.Scan.PerRight, .int .i64 x.Scan.PerOutput, .int .i64 x.Scan.PerPair, .lst 2 (x.Scan.Steps.map CostStep.c), .int .i64 x.Sort_.Fixed, .int .i64 x.Sort_.PerLeft, .int .i64 x.Sort_.PerRight, .int .i64 x.Sort_.PerOutput, .int .i64 x.Sort_.PerPair, .lst 2 (x.Sort_.Steps.map CostStep.c), .int .i64 x.Hash.Fixed, .int .i64 x.Hash.PerLeft, .int .i64 x.Hash.PerRight, .int .i64 x.Hash.PerOutput, .int .i64 x.Hash.PerPair, .lst 2 (x.Hash.Steps.map CostStep.c), .int .i64 x.Merge.Fixed, .int .i64 x.Merge.PerLeft, .int .i64 x.Merge.PerRight, .int .i64 x.Merge.PerOutput, .int .i64 x.Merge.PerPair, .lst 2 (x.Merge.Steps.map CostStep.c), .int .i64 x.Nested.Fixed, .int .i64 x.Nested.PerLeft, .int .i64 x.Nested.PerRight, .int .i64 x.Nested.PerOutput, .int .i64 x.Nested.PerPair, .lst 2 (x.Nested.Steps.map CostStep.c)]
@[simp] theorem Model.c_def (x : Model) : x.c = [.int .i64 x.Scan.Fixed, .int .i64 x.Scan.PerLeft, .int .i64 x.Scan.PerRight, .int .i64 x.Scan.PerOutput, .int .i64 x.Scan.PerPair, .lst 2 (x.Scan.Steps.map CostStep.c), .int .i64 x.Sort_.Fixed, .int .i64 x.Sort_.PerLeft, .int .i64 x.Sort_.PerRight, .int .i64 x.Sort_.PerOutput, .int .i64 x.Sort_.PerPair, .lst 2 (x.Sort_.Steps.map CostStep.c), .int .i64 x.Hash.Fixed, .int .i64 x.Hash.PerLeft, .int .i64 x.Hash.PerRight, .int .i64 x.Hash.PerOutput, .int .i64 x.Hash.PerPair, .lst 2 (x.Hash.Steps.map CostStep.c), .int .i64 x.Merge.Fixed, .int .i64 x.Merge.PerLeft, .int .i64 x.Merge.PerRight, .int .i64 x.Merge.PerOutput, .int .i64 x.Merge.PerPair, .lst 2 (x.Merge.Steps.map CostStep.c), .int .i64 x.Nested.Fixed, .int .i64 x.Nested.PerLeft, .int .i64 x.Nested.PerRight, .int .i64 x.Nested.PerOutput, .int .i64 x.Nested.PerPair, .lst 2 (x.Nested.Steps.map CostStep.c)] := rfl
abbrev Model.small (x : Model) : Prop := SmA x.Scan.Steps ∧ SmA x.Sort_.Steps ∧ SmA x.Hash.Steps ∧ SmA x.Merge.Steps ∧ SmA x.Nested.Steps
abbrev Model.okay (x : Model) : Prop := OkI x.Scan.Fixed ∧ OkI x.Scan.PerLeft ∧ OkI x.Scan.PerRight ∧ OkI x.Scan.PerOutput ∧ OkI x.Scan.PerPair ∧ OkL CostStep.okay x.Scan.Steps ∧ OkI x.Sort_.Fixed ∧ OkI x.Sort_.PerLeft ∧ OkI x.Sort_.PerRight ∧ OkI x.Sort_.PerOutput ∧ OkI x.Sort_.PerPair ∧ OkL CostStep.okay x.Sort_.Steps ∧ OkI x.Hash.Fixed ∧ OkI x.Hash.PerLeft ∧ OkI x.Hash.PerRight ∧ OkI x.Hash.PerOutput ∧ OkI x.Hash.PerPair ∧ OkL CostStep.okay x.Hash.Steps ∧ OkI x.Merge.Fixed ∧ OkI x.Merge.PerLeft ∧ OkI x.Merge.PerRight ∧ OkI x.Merge.PerOutput ∧ OkI x.Merge.PerPair ∧ OkL CostStep.okay x.Merge.Steps ∧ OkI x.Nested.Fixed ∧ OkI x.Nested.PerLeft ∧ OkI x.Nested.PerRight ∧ OkI x.Nested.PerOutput ∧ OkI x.Nested.PerPair ∧ OkL CostStep.okay x.Nested.Steps
theorem Model.dec (ts : List T) (h : HasShs [.int .i64, .int .i64, .int .i64, .int .i64, .int .i64, .slice [.int .i64, .int .i64], .int .i64, .int .i64, .int .i64, .int .i64, .int .i64, .slice [.int .i64, .int .i64], .int .i64, .int .i64, .int .i64, .int .i64, .int .i64, .slice [.int .i64, .int .i64], .int .i64, .int .i64, .int .i64, .int .i64, .int .i64, .slice [.int .i64, .int .i64], .int .i64, .int .i64, .int .i64, .int .i64, .int .i64, .slice [.int .i64, .int .i64]] ts) : ∃ x : Model, ts = x.c ∧ x.okay := by
  obtain ⟨t0, us0, rfl, g0, h0⟩ := dec_cons h
  obtain ⟨t1, us1, rfl, g1, h1⟩ := dec_cons h0
  obtain ⟨t2, us2, rfl, g2, h2⟩ := dec_cons h1
  obtain ⟨t3, us3, rfl, g3, h3⟩ := dec_cons h2
  obtain ⟨t4, us4, rfl, g4, h4⟩ := dec_cons h3
  obtain ⟨t5, us5, rfl, g5, h5⟩ := dec_cons h4
  obtain ⟨t6, us6, rfl, g6, h6⟩ := dec_cons h5
  obtain ⟨t7, us7, rfl, g7, h7⟩ := dec_cons h6
  obtain ⟨t8, us8, rfl, g8, h8⟩ := dec_cons h7
  obtain ⟨t9, us9, rfl, g9, h9⟩ := dec_cons h8
  obtain ⟨t10, us10, rfl, g10, h10⟩ := dec_cons h9
  obtain ⟨t11, us11, rfl, g11, h11⟩ := dec_cons h10
  obtain ⟨t12, us12, rfl, g12, h12⟩ := dec_cons h11
  obtain ⟨t13, us13, rfl, g13, h13⟩ := dec_cons h12
  obtain ⟨t14, us14, rfl, g14, h14⟩ := dec_cons h13
  obtain ⟨t15, us15, rfl, g15, h15⟩ := dec_cons h14
  obtain ⟨t16, us16, rfl, g16, h16⟩ := dec_cons h15
  obtain ⟨t17, us17, rfl, g17, h17⟩ := dec_cons h16
  obtain ⟨t18, us18, rfl, g18, h18⟩ := dec_cons h17
  obtain ⟨t19, us19, rfl, g19, h19⟩ := dec_cons h18
  obtain ⟨t20, us20, rfl, g20, h20⟩ := dec_cons h19
  obtain ⟨t21, us21, rfl, g21, h21⟩ := dec_cons h20
  obtain ⟨t22, us22, rfl, g22, h22⟩ := dec_cons h21
  obtain ⟨t23, us23, rfl, g23, h23⟩ := dec_cons h22
  obtain ⟨t24, us24, rfl, g24, h24⟩ := dec_cons h23
  obtain ⟨t25, us25, rfl, g25, h25⟩ := dec_cons h24
  obtain ⟨t26, us26, rfl, g26, h26⟩ := dec_cons h25
  obtain ⟨t27, us27, rfl, g27, h27⟩ := dec_cons h26
  obtain ⟨t28, us28, rfl, g28, h28⟩ := dec_cons h27
  obtain ⟨t29, us29, rfl, g29, h29⟩ := dec_cons h28
  cases dec_nil h29
  obtain ⟨x0, rfl, o0⟩ := dec_int g0
  obtain ⟨x1, rfl, o1⟩ := dec_int g1
  obtain ⟨x2, rfl, o2⟩ := dec_int g2
  obtain ⟨x3, rfl, o3⟩ := dec_int g3
  obtain ⟨x4, rfl, o4⟩ := dec_int g4
  obtain ⟨x5, rfl, o5⟩ := dec_slice CostStep.dec g5
  obtain ⟨x6, rfl, o6⟩ := dec_int g6
  obtain ⟨x7, rfl, o7⟩ := dec_int g7
  obtain ⟨x8, rfl, o8⟩ := dec_int g8
  obtain ⟨x9, rfl, o9⟩ := dec_int g9
  obtain ⟨x10, rfl, o10⟩ := dec_int g10
  obtain ⟨x11, rfl, o11⟩ := dec_slice CostStep.dec g11
  obtain ⟨x12, rfl, o12⟩ := dec_int g12
  obtain ⟨x13, rfl, o13⟩ := dec_int g13
  obtain ⟨x14, rfl, o14⟩ := dec_int g14
  obtain ⟨x15, rfl, o15⟩ := dec_int g15
  obtain ⟨x16, rfl, o16⟩ := dec_int g16
  obtain ⟨x17, rfl, o17⟩ := dec_slice CostStep.dec g17
  obtain ⟨x18, rfl, o18⟩ := dec_int g18
  obtain ⟨x19, rfl, o19⟩ := dec_int g19
  obtain ⟨x20, rfl, o20⟩ := dec_int g20
  obtain ⟨x21, rfl, o21⟩ := dec_int g21
  obtain ⟨x22, rfl, o22⟩ := dec_int g22
  obtain ⟨x23, rfl, o23⟩ := dec_slice CostStep.dec g23
  obtain ⟨x24, rfl, o24⟩ := dec_int g24
  obtain ⟨x25, rfl, o25⟩ := dec_int g25
  obtain ⟨x26, rfl, o26⟩ := dec_int g26
  obtain ⟨x27, rfl, o27⟩ := dec_int g27
  obtain ⟨x28, rfl, o28⟩ := dec_int g28
  obtain ⟨x29, rfl, o29⟩ := dec_slice CostStep.dec g29
  exact ⟨⟨⟨x0, x1, x2, x3, x4, x5⟩, ⟨x6, x7, x8, x9, x10, x11⟩, ⟨x12, x13, x14, x15, x16, x17⟩, ⟨x18, x19, x20, x21, x22, x23⟩, ⟨x24, x25, x26, x27, x28, x29⟩⟩, rfl, o0, o1, o2, o3, o4, o5, o6, o7, o8, o9, o10, o11, o12, o13, o14, o15, o16, o17, o18, o19, o20, o21, o22, o23, o24, o25, o26, o27, o28, o29⟩
def Model.sz (x : Model) (l : Int) : Int := andSz (Operator.sz x.Scan l) fun l => andSz (Operator.sz x.Sort_ l) fun l => andSz (Operator.sz x.Hash l) fun l => andSz (Operator.sz x.Merge l) fun l => andSz (Operator.sz x.Nested l) fun l => l
theorem Model.sz_ok (x : Model) (l : Int) (hx : x.okay) (h0 : 0 ≤ l) (h1 : l ≤ 1048576) (h : 0 ≤ x.sz l) : x.sz l ≤ l ∧ x.small := by
  unfold Model.sz at h ⊢
  simp only [andSz] at h ⊢
  split at h
  · omega
  rename_i q0
  rw [if_neg q0]
  have s0 := Operator.sz_ok x.Scan _ ⟨hx.1, hx.2.1, hx.2.2.1, hx.2.2.2.1, hx.2.2.2.2.1, hx.2.2.2.2.2.1⟩ h0 h1 (Int.not_lt.1 q0)
  split at h
  · omega
  rename_i q1
  rw [if_neg q1]
  have s1 := Operator.sz_ok x.Sort_ _ ⟨hx.2.2.2.2.2.2.1, hx.2.2.2.2.2.2.2.1, hx.2.2.2.2.2.2.2.2.1, hx.2.2.2.2.2.2.2.2.2.1, hx.2.2.2.2.2.2.2.2.2.2.1, hx.2.2.2.2.2.2.2.2.2.2.2.1⟩ (by omega) (by omega) (Int.not_lt.1 q1)
  split at h
  · omega
  rename_i q2
  rw [if_neg q2]
  have s2 := Operator.sz_ok x.Hash _ ⟨hx.2.2.2.2.2.2.2.2.2.2.2.2.1, hx.2.2.2.2.2.2.2.2.2.2.2.2.2.1, hx.2.2.2.2.2.2.2.2.2.2.2.2.2.2.1, hx.2.2.2.2.2.2.2.2.2.2.2.2.2.2.2.1, hx.2.2.2.2.2.2.2.2.2.2.2.2.2.2.2.2.1, hx.2.2.2.2.2.2.2.2.2.2.2.2.2.2.2.2.2.1⟩ (by omega) (by omega) (Int.not_lt.1 q2)
  split at h
  · omega
  rename_i q3
  rw [if_neg q3]
  have s3 := Operator.sz_ok x.Merge _ ⟨hx.2.2.2.2.2.2.2.2.2.2.2.2.2.2.2.2.2.2.1, hx.2.2.2.2.2.2.2.2.2.2.2.2.2.2.2.2.2.2.2.1, hx.2.2.2.2.2.2.2.2.2.2.2.2.2.2.2.2.2.2.2.2.1, hx.2.2.2.2.2.2.2.2.2.2.2.2.2.2.2.2.2.2.2.2.2.1, hx.2.2.2.2.2.2.2.2.2.2.2.2.2.2.2.2.2.2.2.2.2.2.1, hx.2.2.2.2.2.2.2.2.2.2.2.2.2.2.2.2.2.2.2.2.2.2.2.1⟩ (by omega) (by omega) (Int.not_lt.1 q3)
  split at h
  · omega
  rename_i q4
  rw [if_neg q4]
  have s4 := Operator.sz_ok x.Nested _ ⟨hx.2.2.2.2.2.2.2.2.2.2.2.2.2.2.2.2.2.2.2.2.2.2.2.2.1, hx.2.2.2.2.2.2.2.2.2.2.2.2.2.2.2.2.2.2.2.2.2.2.2.2.2.1, hx.2.2.2.2.2.2.2.2.2.2.2.2.2.2.2.2.2.2.2.2.2.2.2.2.2.2.1, hx.2.2.2.2.2.2.2.2.2.2.2.2.2.2.2.2.2.2.2.2.2.2.2.2.2.2.2.1, hx.2.2.2.2.2.2.2.2.2.2.2.2.2.2.2.2.2.2.2.2.2.2.2.2.2.2.2.2.1, hx.2.2.2.2.2.2.2.2.2.2.2.2.2.2.2.2.2.2.2.2.2.2.2.2.2.2.2.2.2⟩ (by omega) (by omega) (Int.not_lt.1 q4)
  exact ⟨by omega, s0.2, s1.2, s2.2, s3.2, s4.2⟩

@[ext] structure PlanStep where
  Kind : Int
  Atom : Int
  Order : Int
  deriving DecidableEq
def PlanStep.c (x : PlanStep) : List T := [.int .i64 x.Kind, .int .i64 x.Atom, .int .i64 x.Order]
@[simp] theorem PlanStep.c_def (x : PlanStep) : x.c = [.int .i64 x.Kind, .int .i64 x.Atom, .int .i64 x.Order] := rfl
abbrev PlanStep.small (x : PlanStep) : Prop := True
abbrev PlanStep.okay (x : PlanStep) : Prop := OkI x.Kind ∧ OkI x.Atom ∧ OkI x.Order
theorem PlanStep.dec (ts : List T) (h : HasShs [.int .i64, .int .i64, .int .i64] ts) : ∃ x : PlanStep, ts = x.c ∧ x.okay := by
  obtain ⟨t0, us0, rfl, g0, h0⟩ := dec_cons h
  obtain ⟨t1, us1, rfl, g1, h1⟩ := dec_cons h0
  obtain ⟨t2, us2, rfl, g2, h2⟩ := dec_cons h1
  cases dec_nil h2
  obtain ⟨x0, rfl, o0⟩ := dec_int g0
  obtain ⟨x1, rfl, o1⟩ := dec_int g1
  obtain ⟨x2, rfl, o2⟩ := dec_int g2
  exact ⟨⟨x0, x1, x2⟩, rfl, o0, o1, o2⟩

@[ext] structure Plan where
  Steps : List PlanStep
  deriving DecidableEq
def Plan.c (x : Plan) : List T := [.lst 3 (x.Steps.map PlanStep.c)]
@[simp] theorem Plan.c_def (x : Plan) : x.c = [.lst 3 (x.Steps.map PlanStep.c)] := rfl
abbrev Plan.small (x : Plan) : Prop := SmA x.Steps
abbrev Plan.okay (x : Plan) : Prop := OkL PlanStep.okay x.Steps
theorem Plan.dec (ts : List T) (h : HasShs [.slice [.int .i64, .int .i64, .int .i64]] ts) : ∃ x : Plan, ts = x.c ∧ x.okay := by
  obtain ⟨t0, us0, rfl, g0, h0⟩ := dec_cons h
  cases dec_nil h0
  obtain ⟨x0, rfl, o0⟩ := dec_slice PlanStep.dec g0
  exact ⟨⟨x0⟩, rfl, o0⟩
def Plan.sz (x : Plan) (l : Int) : Int := andSz (sz1 x.Steps.length l) fun l => l
theorem Plan.sz_ok (x : Plan) (l : Int) (hx : x.okay) (h0 : 0 ≤ l) (h1 : l ≤ 1048576) (h : 0 ≤ x.sz l) : x.sz l ≤ l ∧ x.small := by
  unfold Plan.sz at h ⊢
  simp only [andSz] at h ⊢
  split at h
  · omega
  rename_i q0
  rw [if_neg q0]
  have s0 := sz1_okA hx.1 h0 h1 (Int.not_lt.1 q0)
  exact ⟨by omega, s0.2⟩

@[ext] structure Kept where
  Mask : Int
  Size : Int
  deriving DecidableEq
def Kept.c (x : Kept) : List T := [.int .i64 x.Mask, .int .i64 x.Size]
@[simp] theorem Kept.c_def (x : Kept) : x.c = [.int .i64 x.Mask, .int .i64 x.Size] := rfl
abbrev Kept.small (x : Kept) : Prop := True
abbrev Kept.okay (x : Kept) : Prop := OkI x.Mask ∧ OkI x.Size
theorem Kept.dec (ts : List T) (h : HasShs [.int .i64, .int .i64] ts) : ∃ x : Kept, ts = x.c ∧ x.okay := by
  obtain ⟨t0, us0, rfl, g0, h0⟩ := dec_cons h
  obtain ⟨t1, us1, rfl, g1, h1⟩ := dec_cons h0
  cases dec_nil h1
  obtain ⟨x0, rfl, o0⟩ := dec_int g0
  obtain ⟨x1, rfl, o1⟩ := dec_int g1
  exact ⟨⟨x0, x1⟩, rfl, o0, o1⟩

@[ext] structure Region where
  Plan : Plan
  Box : Box
  Percent : Int
  deriving DecidableEq
def Region.c (x : Region) : List T := [.lst 3 (x.Plan.Steps.map PlanStep.c), tI x.Box.Low, tI x.Box.High, .int .i64 x.Percent]
@[simp] theorem Region.c_def (x : Region) : x.c = [.lst 3 (x.Plan.Steps.map PlanStep.c), tI x.Box.Low, tI x.Box.High, .int .i64 x.Percent] := rfl
abbrev Region.small (x : Region) : Prop := SmA x.Plan.Steps ∧ SmA x.Box.Low ∧ SmA x.Box.High
abbrev Region.okay (x : Region) : Prop := OkL PlanStep.okay x.Plan.Steps ∧ OkL OkI x.Box.Low ∧ OkL OkI x.Box.High ∧ OkI x.Percent
theorem Region.dec (ts : List T) (h : HasShs [.slice [.int .i64, .int .i64, .int .i64], .slice [.int .i64], .slice [.int .i64], .int .i64] ts) : ∃ x : Region, ts = x.c ∧ x.okay := by
  obtain ⟨t0, us0, rfl, g0, h0⟩ := dec_cons h
  obtain ⟨t1, us1, rfl, g1, h1⟩ := dec_cons h0
  obtain ⟨t2, us2, rfl, g2, h2⟩ := dec_cons h1
  obtain ⟨t3, us3, rfl, g3, h3⟩ := dec_cons h2
  cases dec_nil h3
  obtain ⟨x0, rfl, o0⟩ := dec_slice PlanStep.dec g0
  obtain ⟨x1, rfl, o1⟩ := dec_tI g1
  obtain ⟨x2, rfl, o2⟩ := dec_tI g2
  obtain ⟨x3, rfl, o3⟩ := dec_int g3
  exact ⟨⟨⟨x0⟩, ⟨x1, x2⟩, x3⟩, rfl, o0, o1, o2, o3⟩
def Region.sz (x : Region) (l : Int) : Int := andSz (Plan.sz x.Plan l) fun l => andSz (Box.sz x.Box l) fun l => l
theorem Region.sz_ok (x : Region) (l : Int) (hx : x.okay) (h0 : 0 ≤ l) (h1 : l ≤ 1048576) (h : 0 ≤ x.sz l) : x.sz l ≤ l ∧ x.small := by
  unfold Region.sz at h ⊢
  simp only [andSz] at h ⊢
  split at h
  · omega
  rename_i q0
  rw [if_neg q0]
  have s0 := Plan.sz_ok x.Plan _ hx.1 h0 h1 (Int.not_lt.1 q0)
  split at h
  · omega
  rename_i q1
  rw [if_neg q1]
  have s1 := Box.sz_ok x.Box _ ⟨hx.2.1, hx.2.2.1⟩ (by omega) (by omega) (Int.not_lt.1 q1)
  exact ⟨by omega, s0.2, s1.2.1, s1.2.2⟩

@[ext] structure CacheEntry where
  Query : Query
  Region : Region
  Version : Int
  Used : Int
  deriving DecidableEq
def CacheEntry.c (x : CacheEntry) : List T := [.int .i64 x.Query.VariableCount, .lst 2 (x.Query.Atoms.map Atom.c), .lst 3 (x.Region.Plan.Steps.map PlanStep.c), tI x.Region.Box.Low, tI x.Region.Box.High, .int .i64 x.Region.Percent, .int .i64 x.Version, .int .i64 x.Used]
@[simp] theorem CacheEntry.c_def (x : CacheEntry) : x.c = [.int .i64 x.Query.VariableCount, .lst 2 (x.Query.Atoms.map Atom.c), .lst 3 (x.Region.Plan.Steps.map PlanStep.c), tI x.Region.Box.Low, tI x.Region.Box.High, .int .i64 x.Region.Percent, .int .i64 x.Version, .int .i64 x.Used] := rfl
abbrev CacheEntry.small (x : CacheEntry) : Prop := SmL Atom.small x.Query.Atoms ∧ SmA x.Region.Plan.Steps ∧ SmA x.Region.Box.Low ∧ SmA x.Region.Box.High
abbrev CacheEntry.okay (x : CacheEntry) : Prop := OkI x.Query.VariableCount ∧ OkL Atom.okay x.Query.Atoms ∧ OkL PlanStep.okay x.Region.Plan.Steps ∧ OkL OkI x.Region.Box.Low ∧ OkL OkI x.Region.Box.High ∧ OkI x.Region.Percent ∧ OkI x.Version ∧ OkI x.Used
theorem CacheEntry.dec (ts : List T) (h : HasShs [.int .i64, .slice [.str, .slice [.int .i64]], .slice [.int .i64, .int .i64, .int .i64], .slice [.int .i64], .slice [.int .i64], .int .i64, .int .i64, .int .i64] ts) : ∃ x : CacheEntry, ts = x.c ∧ x.okay := by
  obtain ⟨t0, us0, rfl, g0, h0⟩ := dec_cons h
  obtain ⟨t1, us1, rfl, g1, h1⟩ := dec_cons h0
  obtain ⟨t2, us2, rfl, g2, h2⟩ := dec_cons h1
  obtain ⟨t3, us3, rfl, g3, h3⟩ := dec_cons h2
  obtain ⟨t4, us4, rfl, g4, h4⟩ := dec_cons h3
  obtain ⟨t5, us5, rfl, g5, h5⟩ := dec_cons h4
  obtain ⟨t6, us6, rfl, g6, h6⟩ := dec_cons h5
  obtain ⟨t7, us7, rfl, g7, h7⟩ := dec_cons h6
  cases dec_nil h7
  obtain ⟨x0, rfl, o0⟩ := dec_int g0
  obtain ⟨x1, rfl, o1⟩ := dec_slice Atom.dec g1
  obtain ⟨x2, rfl, o2⟩ := dec_slice PlanStep.dec g2
  obtain ⟨x3, rfl, o3⟩ := dec_tI g3
  obtain ⟨x4, rfl, o4⟩ := dec_tI g4
  obtain ⟨x5, rfl, o5⟩ := dec_int g5
  obtain ⟨x6, rfl, o6⟩ := dec_int g6
  obtain ⟨x7, rfl, o7⟩ := dec_int g7
  exact ⟨⟨⟨x0, x1⟩, ⟨⟨x2⟩, ⟨x3, x4⟩, x5⟩, x6, x7⟩, rfl, o0, o1, o2, o3, o4, o5, o6, o7⟩
def CacheEntry.sz (x : CacheEntry) (l : Int) : Int := andSz (Query.sz x.Query l) fun l => andSz (Region.sz x.Region l) fun l => l
theorem CacheEntry.sz_ok (x : CacheEntry) (l : Int) (hx : x.okay) (h0 : 0 ≤ l) (h1 : l ≤ 1048576) (h : 0 ≤ x.sz l) : x.sz l ≤ l ∧ x.small := by
  unfold CacheEntry.sz at h ⊢
  simp only [andSz] at h ⊢
  split at h
  · omega
  rename_i q0
  rw [if_neg q0]
  have s0 := Query.sz_ok x.Query _ ⟨hx.1, hx.2.1⟩ h0 h1 (Int.not_lt.1 q0)
  split at h
  · omega
  rename_i q1
  rw [if_neg q1]
  have s1 := Region.sz_ok x.Region _ ⟨hx.2.2.1, hx.2.2.2.1, hx.2.2.2.2.1, hx.2.2.2.2.2.1⟩ (by omega) (by omega) (Int.not_lt.1 q1)
  exact ⟨by omega, s0.2, s1.2.1, s1.2.2.1, s1.2.2.2⟩

@[ext] structure PlanCache where
  Clock : Int
  Entries : List CacheEntry
  deriving DecidableEq
def PlanCache.c (x : PlanCache) : List T := [.int .i64 x.Clock, .lst 8 (x.Entries.map CacheEntry.c)]
@[simp] theorem PlanCache.c_def (x : PlanCache) : x.c = [.int .i64 x.Clock, .lst 8 (x.Entries.map CacheEntry.c)] := rfl
abbrev PlanCache.small (x : PlanCache) : Prop := SmL CacheEntry.small x.Entries
abbrev PlanCache.okay (x : PlanCache) : Prop := OkI x.Clock ∧ OkL CacheEntry.okay x.Entries
theorem PlanCache.dec (ts : List T) (h : HasShs [.int .i64, .slice [.int .i64, .slice [.str, .slice [.int .i64]], .slice [.int .i64, .int .i64, .int .i64], .slice [.int .i64], .slice [.int .i64], .int .i64, .int .i64, .int .i64]] ts) : ∃ x : PlanCache, ts = x.c ∧ x.okay := by
  obtain ⟨t0, us0, rfl, g0, h0⟩ := dec_cons h
  obtain ⟨t1, us1, rfl, g1, h1⟩ := dec_cons h0
  cases dec_nil h1
  obtain ⟨x0, rfl, o0⟩ := dec_int g0
  obtain ⟨x1, rfl, o1⟩ := dec_slice CacheEntry.dec g1
  exact ⟨⟨x0, x1⟩, rfl, o0, o1⟩
def PlanCache.sz (x : PlanCache) (l : Int) : Int := andSz (szL CacheEntry.sz x.Entries l) fun l => l
theorem PlanCache.sz_ok (x : PlanCache) (l : Int) (hx : x.okay) (h0 : 0 ≤ l) (h1 : l ≤ 1048576) (h : 0 ≤ x.sz l) : x.sz l ≤ l ∧ x.small := by
  unfold PlanCache.sz at h ⊢
  simp only [andSz] at h ⊢
  split at h
  · omega
  rename_i q0
  rw [if_neg q0]
  have s0 := szL_ok (p := CacheEntry.small) hx.2.1 (fun y hy l a b c => CacheEntry.sz_ok y l (hx.2.2 y hy) a b c) h0 h1 (Int.not_lt.1 q0)
  exact ⟨by omega, s0.2⟩

@[ext] structure Reply where
  Mode : Int
  Cost : Int
  Runs : Int
  Answer : Answer
  deriving DecidableEq
def Reply.c (x : Reply) : List T := [.int .i64 x.Mode, .int .i64 x.Cost, .int .i64 x.Runs, tI x.Answer.Vars, tII x.Answer.Rows]
@[simp] theorem Reply.c_def (x : Reply) : x.c = [.int .i64 x.Mode, .int .i64 x.Cost, .int .i64 x.Runs, tI x.Answer.Vars, tII x.Answer.Rows] := rfl
abbrev Reply.small (x : Reply) : Prop := SmA x.Answer.Vars ∧ SmL SmA x.Answer.Rows
abbrev Reply.okay (x : Reply) : Prop := OkI x.Mode ∧ OkI x.Cost ∧ OkI x.Runs ∧ OkL OkI x.Answer.Vars ∧ OkL (OkL OkI) x.Answer.Rows
theorem Reply.dec (ts : List T) (h : HasShs [.int .i64, .int .i64, .int .i64, .slice [.int .i64], .slice [.slice [.int .i64]]] ts) : ∃ x : Reply, ts = x.c ∧ x.okay := by
  obtain ⟨t0, us0, rfl, g0, h0⟩ := dec_cons h
  obtain ⟨t1, us1, rfl, g1, h1⟩ := dec_cons h0
  obtain ⟨t2, us2, rfl, g2, h2⟩ := dec_cons h1
  obtain ⟨t3, us3, rfl, g3, h3⟩ := dec_cons h2
  obtain ⟨t4, us4, rfl, g4, h4⟩ := dec_cons h3
  cases dec_nil h4
  obtain ⟨x0, rfl, o0⟩ := dec_int g0
  obtain ⟨x1, rfl, o1⟩ := dec_int g1
  obtain ⟨x2, rfl, o2⟩ := dec_int g2
  obtain ⟨x3, rfl, o3⟩ := dec_tI g3
  obtain ⟨x4, rfl, o4⟩ := dec_tII g4
  exact ⟨⟨x0, x1, x2, ⟨x3, x4⟩⟩, rfl, o0, o1, o2, o3, o4⟩
def Reply.sz (x : Reply) (l : Int) : Int := andSz (Answer.sz x.Answer l) fun l => l
theorem Reply.sz_ok (x : Reply) (l : Int) (hx : x.okay) (h0 : 0 ≤ l) (h1 : l ≤ 1048576) (h : 0 ≤ x.sz l) : x.sz l ≤ l ∧ x.small := by
  unfold Reply.sz at h ⊢
  simp only [andSz] at h ⊢
  split at h
  · omega
  rename_i q0
  rw [if_neg q0]
  have s0 := Answer.sz_ok x.Answer _ ⟨hx.2.2.2.1, hx.2.2.2.2⟩ h0 h1 (Int.not_lt.1 q0)
  exact ⟨by omega, s0.2.1, s0.2.2⟩

end Go.Proofs.Ytlnnmndebmkdhaa
