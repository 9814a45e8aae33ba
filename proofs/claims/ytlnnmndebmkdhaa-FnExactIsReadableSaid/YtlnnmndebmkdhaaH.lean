/-
  The seat's names, as printed by program.
-/
import Derived.Test.YtlnnmndebmkdhaaTY
import Derived.Test.YtlnnmndebmkdhaaRows
namespace Go.Proofs.Ytlnnmndebmkdhaa
open Go.AM
open Go.ChangeShapes Go.WideShapes Go.ChangeAt Go.RowKit

theorem own : ownKnob Try.prog.godebug = none := by kernel_rfl
theorem laidOut : laidOutB Try.prog = true := by kernel_rfl

noncomputable def tbl : Nat → Option MFun := tblOf Try.prog [18, 1000073, 1000108]
noncomputable def C : CallE := callC tbl

theorem run {f : Nat} {xs : List AV} {m : MFun} (ht : tbl f = some m) (hl : xs.length = m.np) {r : AV × List Blk} (h : Ev C [.fin 0 m.res] m.body ⟨initE xs 0, [[]], []⟩ = some r) : C f xs [] = some r := callC_of (h0 := []) ht hl h
theorem runM {f : Nat} {xs : List AV} {h0 : List Blk} {m : MFun} (ht : tbl f = some m) (hl : xs.length = m.np) {r : AV × List Blk} (h : Ev C [.fin h0.length m.res] m.body ⟨initE xs 0, [rootsE h0 0], h0⟩ = some r) : C f xs h0 = some r := callC_of ht hl h
theorem sound {f : Nat} {xs : List AV} {r : AV} {hr : List Blk} (h : C f xs [] = some (r, hr)) : Sound Try.prog f xs [] r hr := callC_sound (tblOK _ _) h

abbrev f_laws_FnExactKeepResult : Nat := 4
abbrev f_laws_FnExactEqualReplies : Nat := 5
abbrev f_laws_FnExactEqualRegions : Nat := 6
abbrev f_laws_FnExactReadCost : Nat := 7
abbrev f_laws_FnExactOldestEntry : Nat := 8
abbrev f_laws_FnExactIsReadable : Nat := 9
abbrev f_laws_szKeptS : Nat := 12
abbrev f_spec_KeepResult : Nat := 13
abbrev f_laws_toKeptS : Nat := 14
abbrev f_laws_toKept : Nat := 15
abbrev f_impl_KeepResult : Nat := 16
abbrev f_laws_eqKeptS : Nat := 17
abbrev f_laws_markKeptS : Nat := 18
abbrev f_laws_heldKeptS : Nat := 19
abbrev f_laws_szReply : Nat := 20
abbrev f_spec_EqualReplies : Nat := 21
abbrev f_laws_toReply : Nat := 22
abbrev f_impl_EqualReplies : Nat := 23
abbrev f_laws_eqReply : Nat := 24
abbrev f_laws_szRegion : Nat := 25
abbrev f_spec_EqualRegions : Nat := 26
abbrev f_laws_toRegion : Nat := 27
abbrev f_impl_EqualRegions : Nat := 28
abbrev f_laws_eqRegion : Nat := 29
abbrev f_laws_szModel : Nat := 30
abbrev f_spec_ReadCost : Nat := 31
abbrev f_laws_toModel : Nat := 32
abbrev f_impl_ReadCost : Nat := 33
abbrev f_laws_eqModel : Nat := 34
abbrev f_laws_szPlanCache : Nat := 35
abbrev f_spec_OldestEntry : Nat := 36
abbrev f_laws_toPlanCache : Nat := 37
abbrev f_impl_OldestEntry : Nat := 38
abbrev f_laws_eqPlanCache : Nat := 39
abbrev f_spec_IsReadable : Nat := 40
abbrev f_impl_IsReadable : Nat := 41
abbrev f_spec_l1In : Nat := 42
abbrev f_impl_within : Nat := 43
abbrev f_laws_eqKept : Nat := 44
abbrev f_laws_szAnswer : Nat := 45
abbrev f_spec_EqualAnswers : Nat := 46
abbrev f_laws_toAnswer : Nat := 47
abbrev f_impl_EqualAnswers : Nat := 48
abbrev f_laws_eqAnswer : Nat := 49
abbrev f_laws_szPlan : Nat := 50
abbrev f_laws_szBox : Nat := 51
abbrev f_spec_EqualPlans : Nat := 52
abbrev f_spec_EqualBoxes : Nat := 53
abbrev f_laws_toPlan : Nat := 54
abbrev f_laws_toBox : Nat := 55
abbrev f_impl_EqualPlans : Nat := 56
abbrev f_impl_EqualBoxes : Nat := 57
abbrev f_laws_eqPlan : Nat := 58
abbrev f_laws_eqBox : Nat := 59
abbrev f_laws_szOperator : Nat := 60
abbrev f_spec_OperatorCost : Nat := 61
abbrev f_spec_RoundUpSize : Nat := 62
abbrev f_laws_toOperator : Nat := 63
abbrev f_impl_RoundUpSize : Nat := 64
abbrev f_impl_OperatorCost : Nat := 65
abbrev f_laws_eqOperator : Nat := 66
abbrev f_laws_szCacheEntryS : Nat := 67
abbrev f_laws_toCacheEntryS : Nat := 68
abbrev f_laws_eqCacheEntryS : Nat := 69
abbrev f_spec_IsAdmitted : Nat := 70
abbrev f_spec_l22Op : Nat := 71
abbrev f_impl_IsAdmitted : Nat := 72
abbrev f_impl_operators : Nat := 73
abbrev f_laws_szIntS : Nat := 74
abbrev f_laws_szIntSS : Nat := 75
abbrev f_spec_CompareRows : Nat := 76
abbrev f_laws_toIntS : Nat := 77
abbrev f_laws_toIntSS : Nat := 78
abbrev f_slices_Equal___int_int_ : Nat := 79
abbrev f_impl_equalRows : Nat := 80
abbrev f_laws_eqIntS : Nat := 81
abbrev f_laws_eqIntSS : Nat := 82
abbrev f_laws_szPlanStepS : Nat := 83
abbrev f_laws_toPlanStepS : Nat := 84
abbrev f_slices_Equal___impl_PlanStep_impl_PlanStep_ : Nat := 85
abbrev f_laws_eqPlanStepS : Nat := 86
abbrev f_laws_szCostStepS : Nat := 87
abbrev f_spec_IsValidOperator : Nat := 88
abbrev f_spec_ClassSize : Nat := 89
abbrev f_spec_SizeClass : Nat := 90
abbrev f_laws_toCostStepS : Nat := 91
abbrev f_impl_ClassSize : Nat := 92
abbrev f_impl_SizeClass : Nat := 93
abbrev f_impl_IsValidOperator : Nat := 94
abbrev f_impl_operatorCost : Nat := 95
abbrev f_laws_eqCostStepS : Nat := 96
abbrev f_laws_szCacheEntry : Nat := 97
abbrev f_laws_toCacheEntry : Nat := 98
abbrev f_laws_eqCacheEntry : Nat := 99
abbrev f_spec_RefuteModel : Nat := 100
abbrev f_impl_RefuteModel : Nat := 101
abbrev f_slices_EqualFunc_____int_____int___int___int_ : Nat := 102
abbrev f_impl_equalRows_1 : Nat := 103
abbrev f_laws_toPlanStep : Nat := 104
abbrev f_laws_eqPlanStep : Nat := 105
abbrev f_spec_l21Coefficient : Nat := 106
abbrev f_laws_toCostStep : Nat := 107
abbrev f_impl_coefficients : Nat := 108
abbrev f_laws_eqCostStep : Nat := 109
abbrev f_laws_szQuery : Nat := 110
abbrev f_laws_toQuery : Nat := 111
abbrev f_laws_eqQuery : Nat := 112
abbrev f_spec_FindDecrease : Nat := 113
abbrev f_spec_l22Cheap : Nat := 114
abbrev f_impl_FindDecrease : Nat := 115
abbrev f_impl_triples : Nat := 116
abbrev f_impl_tripleCost : Nat := 117
abbrev f_laws_szAtomS : Nat := 118
abbrev f_laws_toAtomS : Nat := 119
abbrev f_laws_eqAtomS : Nat := 120
abbrev f_spec_l21At : Nat := 121
abbrev f_impl_copyInts : Nat := 122
abbrev f_laws_szAtom : Nat := 123
abbrev f_laws_toAtom : Nat := 124
abbrev f_laws_eqAtom : Nat := 125
abbrev t_int : Nat := 3
abbrev t_bool : Nat := 4
abbrev t_uint8 : Nat := 5
abbrev t_string : Nat := 9
abbrev t_s_impl_Kept : Nat := 28
abbrev t_impl_Kept : Nat := 31
abbrev t_s_int : Nat := 36
abbrev t_s_s_int : Nat := 37
abbrev t_impl_Answer : Nat := 44
abbrev t_impl_Reply : Nat := 46
abbrev t_s_impl_PlanStep : Nat := 58
abbrev t_impl_Plan : Nat := 60
abbrev t_impl_Box : Nat := 61
abbrev t_impl_Region : Nat := 63
abbrev t_s_impl_CostStep : Nat := 73
abbrev t_impl_Operator : Nat := 75
abbrev t_impl_Model : Nat := 77
abbrev t_s_impl_CacheEntry : Nat := 86
abbrev t_impl_PlanCache : Nat := 88
abbrev t_s_string : Nat := 95
abbrev t_s_impl_Atom : Nat := 112
abbrev t_impl_Query : Nat := 114
abbrev t_impl_CacheEntry : Nat := 116
abbrev t_impl_PlanStep : Nat := 134
abbrev t_impl_CostStep : Nat := 140
abbrev t_impl_Atom : Nat := 177
end Go.Proofs.Ytlnnmndebmkdhaa
