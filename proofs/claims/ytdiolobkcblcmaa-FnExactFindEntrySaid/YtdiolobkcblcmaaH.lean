/-
  The seat's names, as printed by program.
-/
import Derived.Test.YtdiolobkcblcmaaTY
import Derived.Test.YtdiolobkcblcmaaRows
namespace Go.Proofs.Ytdiolobkcblcmaa
open Go.AM
open Go.ChangeShapes Go.WideShapes Go.ChangeAt Go.RowKit

theorem own : ownKnob Try.prog.godebug = none := by kernel_rfl
theorem laidOut : laidOutB Try.prog = true := by kernel_rfl

noncomputable def tbl : Nat → Option MFun := tblOf Try.prog [31, 32, 74, 75, 120, 121]
noncomputable def C : CallE := callC tbl

theorem run {f : Nat} {xs : List AV} {m : MFun} (ht : tbl f = some m) (hl : xs.length = m.np) {r : AV × List Blk} (h : Ev C [.fin 0 m.res] m.body ⟨initE xs 0, [[]], []⟩ = some r) : C f xs [] = some r := callC_of (h0 := []) ht hl h
theorem runM {f : Nat} {xs : List AV} {h0 : List Blk} {m : MFun} (ht : tbl f = some m) (hl : xs.length = m.np) {r : AV × List Blk} (h : Ev C [.fin h0.length m.res] m.body ⟨initE xs 0, [rootsE h0 0], h0⟩ = some r) : C f xs h0 = some r := callC_of ht hl h
theorem sound {f : Nat} {xs : List AV} {r : AV} {hr : List Blk} (h : C f xs [] = some (r, hr)) : Sound Try.prog f xs [] r hr := callC_sound (tblOK _ _) h

abbrev f_laws_FnExactEqualCaches : Nat := 3
abbrev f_laws_FnExactFindEntry : Nat := 4
abbrev f_laws_FnExactSpillTarget : Nat := 5
abbrev f_laws_FnExactSpillPlan : Nat := 6
abbrev f_laws_FnExactIsValidRegion : Nat := 7
abbrev f_laws_FnExactAreOrderedNotes : Nat := 8
abbrev f_laws_szPlanCache : Nat := 9
abbrev f_spec_EqualCaches : Nat := 10
abbrev f_laws_toPlanCache : Nat := 11
abbrev f_impl_EqualCaches : Nat := 12
abbrev f_laws_eqPlanCache : Nat := 13
abbrev f_laws_szQuery : Nat := 14
abbrev f_spec_FindEntry : Nat := 15
abbrev f_laws_toQuery : Nat := 16
abbrev f_laws_toIntS : Nat := 17
abbrev f_impl_FindEntry : Nat := 18
abbrev f_laws_eqQuery : Nat := 19
abbrev f_laws_eqIntS : Nat := 20
abbrev f_laws_szPlan : Nat := 21
abbrev f_laws_szBox : Nat := 22
abbrev f_spec_SpillTarget : Nat := 23
abbrev f_laws_toPlan : Nat := 24
abbrev f_laws_toBox : Nat := 25
abbrev f_impl_SpillTarget : Nat := 26
abbrev f_laws_eqPlan : Nat := 27
abbrev f_laws_eqBox : Nat := 28
abbrev f_spec_SpillPlan : Nat := 29
abbrev f_impl_SpillPlan : Nat := 30
abbrev f_laws_markQuery : Nat := 31
abbrev f_laws_markPlan : Nat := 32
abbrev f_laws_heldPlan : Nat := 33
abbrev f_laws_szRegion : Nat := 34
abbrev f_spec_IsValidRegion : Nat := 35
abbrev f_laws_toRegion : Nat := 36
abbrev f_impl_IsValidRegion : Nat := 37
abbrev f_laws_eqRegion : Nat := 38
abbrev f_laws_szBouquet : Nat := 39
abbrev f_laws_szRunNoteS : Nat := 40
abbrev f_spec_AreOrderedNotes : Nat := 41
abbrev f_laws_toBouquet : Nat := 42
abbrev f_laws_toRunNoteS : Nat := 43
abbrev f_impl_AreOrderedNotes : Nat := 44
abbrev f_laws_eqBouquet : Nat := 45
abbrev f_laws_eqRunNoteS : Nat := 46
abbrev f_laws_szCacheEntryS : Nat := 47
abbrev f_spec_EqualQueries : Nat := 48
abbrev f_spec_EqualRegions : Nat := 49
abbrev f_laws_toCacheEntryS : Nat := 50
abbrev f_slices_EqualFunc___impl_CacheEntry___impl_CacheEntry_impl_CacheEntry_impl_CacheEntry_ : Nat := 51
abbrev f_impl_equalEntries : Nat := 52
abbrev f_laws_eqCacheEntryS : Nat := 53
abbrev f_laws_szAtomS : Nat := 54
abbrev f_spec_IsInBox : Nat := 55
abbrev f_laws_toAtomS : Nat := 56
abbrev f_slices_IndexFunc___impl_CacheEntry_impl_CacheEntry_ : Nat := 57
abbrev f_impl_FindEntry_1 : Nat := 58
abbrev f_impl_EqualQueries : Nat := 59
abbrev f_impl_IsInBox : Nat := 60
abbrev f_laws_eqAtomS : Nat := 61
abbrev f_laws_szPlanStepS : Nat := 62
abbrev f_laws_szIntS : Nat := 63
abbrev f_spec_PlanInfo : Nat := 64
abbrev f_spec_IsValidBox : Nat := 65
abbrev f_spec_FullMask : Nat := 66
abbrev f_laws_toPlanStepS : Nat := 67
abbrev f_impl_PlanInfo : Nat := 68
abbrev f_impl_boxOk : Nat := 69
abbrev f_impl_joinSteps : Nat := 70
abbrev f_laws_eqPlanStepS : Nat := 71
abbrev f_spec_SubplanAt : Nat := 72
abbrev f_impl_SubplanAt : Nat := 73
abbrev f_laws_markAtomS : Nat := 74
abbrev f_laws_markPlanStepS : Nat := 75
abbrev f_laws_heldPlanStepS : Nat := 76
abbrev f_spec_PlanMask : Nat := 77
abbrev f_spec_l1In : Nat := 78
abbrev f_impl_IsValidQuery : Nat := 79
abbrev f_impl_PlanMask : Nat := 80
abbrev f_impl_FullMask : Nat := 81
abbrev f_impl_within : Nat := 82
abbrev f_laws_szPlanS : Nat := 83
abbrev f_laws_szIntSS : Nat := 84
abbrev f_spec_IsValidBouquet : Nat := 85
abbrev f_spec_SlackBudget : Nat := 86
abbrev f_spec_l27Find : Nat := 87
abbrev f_laws_toPlanS : Nat := 88
abbrev f_laws_toIntSS : Nat := 89
abbrev f_laws_toRunNote : Nat := 90
abbrev f_impl_IsValidBouquet : Nat := 91
abbrev f_impl_orderedNote : Nat := 92
abbrev f_laws_eqPlanS : Nat := 93
abbrev f_laws_eqIntSS : Nat := 94
abbrev f_laws_eqRunNote : Nat := 95
abbrev f_laws_szCacheEntry : Nat := 96
abbrev f_spec_CompareRows : Nat := 97
abbrev f_spec_EqualPlans : Nat := 98
abbrev f_spec_EqualBoxes : Nat := 99
abbrev f_laws_toCacheEntry : Nat := 100
abbrev f_impl_EqualRegions : Nat := 101
abbrev f_laws_eqCacheEntry : Nat := 102
abbrev f_laws_szAtom : Nat := 103
abbrev f_spec_DominatesLocation : Nat := 104
abbrev f_laws_toAtom : Nat := 105
abbrev f_slices_EqualFunc___impl_Atom___impl_Atom_impl_Atom_impl_Atom_ : Nat := 106
abbrev f_impl_equalAtoms : Nat := 107
abbrev f_impl_IsValidBox : Nat := 108
abbrev f_impl_DominatesLocation : Nat := 109
abbrev f_laws_eqAtom : Nat := 110
abbrev f_spec_IsValidQuery : Nat := 111
abbrev f_spec_l23Step : Nat := 112
abbrev f_spec_IsLocation : Nat := 113
abbrev f_laws_toPlanStep : Nat := 114
abbrev f_impl_stepInfo : Nat := 115
abbrev f_laws_eqPlanStep : Nat := 116
abbrev f_spec_l23First : Nat := 117
abbrev f_impl_copyPlan : Nat := 118
abbrev f_impl_begins : Nat := 119
abbrev f_laws_markIntS : Nat := 121
abbrev f_impl_nameOk : Nat := 122
abbrev f_slices_Contains___int_int_ : Nat := 123
abbrev f_slices_Contains___bool_bool_ : Nat := 124
abbrev f_spec_BoxVolume : Nat := 125
abbrev f_spec_l7Has : Nat := 126
abbrev f_impl_BoxVolume : Nat := 127
abbrev f_impl_differentIndices : Nat := 128
abbrev f_impl_SlackBudget : Nat := 129
abbrev f_slices_Index___int_int_ : Nat := 130
abbrev f_impl_EqualPlans : Nat := 131
abbrev f_impl_EqualBoxes : Nat := 132
abbrev f_slices_Equal___int_int_ : Nat := 133
abbrev f_impl_IsLocation : Nat := 134
abbrev f_spec_l4Name : Nat := 135
abbrev f_spec_l23In : Nat := 136
abbrev f_spec_l7Bits : Nat := 137
abbrev f_impl_variables : Nat := 138
abbrev f_impl_both : Nat := 139
abbrev f_slices_Index___bool_bool_ : Nat := 140
abbrev f_impl_volume : Nat := 141
abbrev f_slices_Equal___impl_PlanStep_impl_PlanStep_ : Nat := 142
abbrev t_int : Nat := 3
abbrev t_bool : Nat := 4
abbrev t_uint8 : Nat := 5
abbrev t_string : Nat := 9
abbrev t_s_impl_CacheEntry : Nat := 27
abbrev t_impl_PlanCache : Nat := 29
abbrev t_s_int : Nat := 35
abbrev t_s_impl_Atom : Nat := 38
abbrev t_impl_Query : Nat := 40
abbrev t_s_impl_PlanStep : Nat := 54
abbrev t_impl_Plan : Nat := 56
abbrev t_impl_Box : Nat := 58
abbrev t_impl_Region : Nat := 73
abbrev t_s_s_int : Nat := 78
abbrev t_s_impl_Plan : Nat := 85
abbrev t_impl_Bouquet : Nat := 87
abbrev t_s_impl_RunNote : Nat := 89
abbrev t_impl_CacheEntry : Nat := 96
abbrev t_s_impl_StepInfo : Nat := 109
abbrev t_impl_StepInfo : Nat := 115
abbrev t_impl_RunNote : Nat := 129
abbrev t_impl_Atom : Nat := 143
abbrev t_impl_PlanStep : Nat := 154
abbrev t_s_bool : Nat := 164
abbrev t_s_uint8 : Nat := 172
end Go.Proofs.Ytdiolobkcblcmaa
