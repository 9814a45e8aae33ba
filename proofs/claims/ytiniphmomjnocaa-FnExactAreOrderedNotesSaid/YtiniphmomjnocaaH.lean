/-
  The seat's names, as printed by program.
-/
import Derived.Test.YtiniphmomjnocaaTY
import Derived.Test.YtiniphmomjnocaaRows
namespace Go.Proofs.Ytiniphmomjnocaa
open Go.AM
open Go.ChangeShapes Go.WideShapes Go.ChangeAt Go.RowKit

theorem own : ownKnob Try.prog.godebug = none := by kernel_rfl
theorem laidOut : laidOutB Try.prog = true := by kernel_rfl

noncomputable def tbl : Nat → Option MFun := tblOf Try.prog [21, 22, 66, 67, 118, 119, 1000094, 1000159]
noncomputable def C : CallE := callC tbl

theorem run {f : Nat} {xs : List AV} {m : MFun} (ht : tbl f = some m) (hl : xs.length = m.np) {r : AV × List Blk} (h : Ev C [.fin 0 m.res] m.body ⟨initE xs 0, [[]], []⟩ = some r) : C f xs [] = some r := callC_of (h0 := []) ht hl h
theorem runM {f : Nat} {xs : List AV} {h0 : List Blk} {m : MFun} (ht : tbl f = some m) (hl : xs.length = m.np) {r : AV × List Blk} (h : Ev C [.fin h0.length m.res] m.body ⟨initE xs 0, [rootsE h0 0], h0⟩ = some r) : C f xs h0 = some r := callC_of ht hl h
theorem sound {f : Nat} {xs : List AV} {r : AV} {hr : List Blk} (h : C f xs [] = some (r, hr)) : Sound Try.prog f xs [] r hr := callC_sound (tblOK _ _) h

abbrev f_laws_FnExactSpillTarget : Nat := 3
abbrev f_laws_FnExactSpillPlan : Nat := 4
abbrev f_laws_FnExactIsValidRegion : Nat := 5
abbrev f_laws_FnExactAreOrderedNotes : Nat := 6
abbrev f_laws_szQuery : Nat := 8
abbrev f_laws_szPlan : Nat := 9
abbrev f_laws_szBox : Nat := 10
abbrev f_spec_SpillTarget : Nat := 11
abbrev f_laws_toQuery : Nat := 12
abbrev f_laws_toPlan : Nat := 13
abbrev f_laws_toBox : Nat := 14
abbrev f_impl_SpillTarget : Nat := 15
abbrev f_laws_eqQuery : Nat := 16
abbrev f_laws_eqPlan : Nat := 17
abbrev f_laws_eqBox : Nat := 18
abbrev f_spec_SpillPlan : Nat := 19
abbrev f_impl_SpillPlan : Nat := 20
abbrev f_laws_markQuery : Nat := 21
abbrev f_laws_markPlan : Nat := 22
abbrev f_laws_heldPlan : Nat := 23
abbrev f_laws_szRegion : Nat := 24
abbrev f_spec_IsValidRegion : Nat := 25
abbrev f_laws_toRegion : Nat := 26
abbrev f_impl_IsValidRegion : Nat := 27
abbrev f_laws_eqRegion : Nat := 28
abbrev f_laws_szBouquet : Nat := 29
abbrev f_laws_szRunNoteS : Nat := 30
abbrev f_spec_AreOrderedNotes : Nat := 31
abbrev f_laws_toBouquet : Nat := 32
abbrev f_laws_toRunNoteS : Nat := 33
abbrev f_impl_AreOrderedNotes : Nat := 34
abbrev f_laws_eqBouquet : Nat := 35
abbrev f_laws_eqRunNoteS : Nat := 36
abbrev f_laws_szAtomS : Nat := 49
abbrev f_laws_szPlanStepS : Nat := 50
abbrev f_laws_szIntS : Nat := 51
abbrev f_spec_PlanInfo : Nat := 52
abbrev f_spec_IsValidBox : Nat := 53
abbrev f_spec_FullMask : Nat := 54
abbrev f_laws_toAtomS : Nat := 55
abbrev f_laws_toPlanStepS : Nat := 56
abbrev f_laws_toIntS : Nat := 57
abbrev f_impl_PlanInfo : Nat := 58
abbrev f_impl_boxOk : Nat := 59
abbrev f_impl_joinSteps : Nat := 60
abbrev f_laws_eqAtomS : Nat := 61
abbrev f_laws_eqPlanStepS : Nat := 62
abbrev f_laws_eqIntS : Nat := 63
abbrev f_spec_SubplanAt : Nat := 64
abbrev f_impl_SubplanAt : Nat := 65
abbrev f_laws_markAtomS : Nat := 66
abbrev f_laws_markPlanStepS : Nat := 67
abbrev f_laws_heldPlanStepS : Nat := 68
abbrev f_spec_PlanMask : Nat := 69
abbrev f_spec_l1In : Nat := 70
abbrev f_impl_IsValidQuery : Nat := 71
abbrev f_impl_PlanMask : Nat := 72
abbrev f_impl_FullMask : Nat := 73
abbrev f_impl_within : Nat := 74
abbrev f_laws_szPlanS : Nat := 75
abbrev f_laws_szIntSS : Nat := 76
abbrev f_spec_IsValidBouquet : Nat := 77
abbrev f_spec_SlackBudget : Nat := 78
abbrev f_spec_l27Find : Nat := 79
abbrev f_laws_toPlanS : Nat := 80
abbrev f_laws_toIntSS : Nat := 81
abbrev f_laws_toRunNote : Nat := 82
abbrev f_impl_IsValidBouquet : Nat := 83
abbrev f_impl_orderedNote : Nat := 84
abbrev f_laws_eqPlanS : Nat := 85
abbrev f_laws_eqIntSS : Nat := 86
abbrev f_laws_eqRunNote : Nat := 87
abbrev f_laws_szAtom : Nat := 104
abbrev f_spec_IsValidQuery : Nat := 105
abbrev f_spec_l23Step : Nat := 106
abbrev f_spec_IsLocation : Nat := 107
abbrev f_spec_DominatesLocation : Nat := 108
abbrev f_laws_toAtom : Nat := 109
abbrev f_laws_toPlanStep : Nat := 110
abbrev f_impl_stepInfo : Nat := 111
abbrev f_impl_IsValidBox : Nat := 112
abbrev f_laws_eqAtom : Nat := 113
abbrev f_laws_eqPlanStep : Nat := 114
abbrev f_spec_l23First : Nat := 115
abbrev f_impl_copyPlan : Nat := 116
abbrev f_impl_begins : Nat := 117
abbrev f_laws_markIntS : Nat := 119
abbrev f_impl_nameOk : Nat := 120
abbrev f_slices_Contains___int_int_ : Nat := 121
abbrev f_slices_Contains___bool_bool_ : Nat := 122
abbrev f_spec_BoxVolume : Nat := 123
abbrev f_spec_l7Has : Nat := 124
abbrev f_impl_BoxVolume : Nat := 125
abbrev f_impl_differentIndices : Nat := 126
abbrev f_impl_SlackBudget : Nat := 127
abbrev f_slices_Index___int_int_ : Nat := 128
abbrev f_spec_l4Name : Nat := 145
abbrev f_spec_l23In : Nat := 146
abbrev f_spec_l7Bits : Nat := 147
abbrev f_impl_variables : Nat := 148
abbrev f_impl_both : Nat := 149
abbrev f_impl_IsLocation : Nat := 150
abbrev f_impl_DominatesLocation : Nat := 151
abbrev f_slices_Index___bool_bool_ : Nat := 152
abbrev f_impl_volume : Nat := 153
abbrev t_int : Nat := 3
abbrev t_bool : Nat := 4
abbrev t_uint8 : Nat := 5
abbrev t_string : Nat := 9
abbrev t_s_int : Nat := 28
abbrev t_s_impl_Atom : Nat := 35
abbrev t_impl_Query : Nat := 37
abbrev t_s_impl_PlanStep : Nat := 39
abbrev t_impl_Plan : Nat := 41
abbrev t_impl_Box : Nat := 43
abbrev t_impl_Region : Nat := 59
abbrev t_s_s_int : Nat := 64
abbrev t_s_impl_Plan : Nat := 71
abbrev t_impl_Bouquet : Nat := 73
abbrev t_s_impl_RunNote : Nat := 75
abbrev t_s_uint8 : Nat := 80
abbrev t_s_impl_CostStep : Nat := 82
abbrev t_impl_Operator : Nat := 84
abbrev t_impl_Model : Nat := 86
abbrev t_s_impl_Kept : Nat := 96
abbrev t_impl_Kept : Nat := 98
abbrev t_s_impl_StepInfo : Nat := 105
abbrev t_impl_StepInfo : Nat := 111
abbrev t_impl_RunNote : Nat := 129
abbrev t_impl_CostStep : Nat := 153
abbrev t_s_impl_Table : Nat := 154
abbrev t_impl_Database : Nat := 156
abbrev t_impl_PlanStep : Nat := 166
abbrev t_impl_Atom : Nat := 168
abbrev t_s_bool : Nat := 179
abbrev t_spec_l1Cur : Nat := 185
abbrev t_s_string : Nat := 211
abbrev t_impl_Table : Nat := 213
abbrev t_impl_Answer : Nat := 218
end Go.Proofs.Ytiniphmomjnocaa
