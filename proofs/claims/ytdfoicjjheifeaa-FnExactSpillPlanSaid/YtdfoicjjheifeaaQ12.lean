/-
  PROVED: 'FnExactSpillPlan' returns true for every input, and its arguments read as they did. No condition.
-/
import Derived.Test.YtdfoicjjheifeaaP10
namespace Go.Proofs.Ytdfoicjjheifeaa
open Go.AM
open Go.ChangeShapes Go.WideShapes Go.ChangeAt Go.RowKit
namespace fnExactSpillPlan
set_option maxRecDepth 100000 in
theorem contract (H:Type) (enc:TypeId×Value→H) (W:World) (base:Nat) (args:Array Value) (ds gs:List (DataW H)) (before:List MemPlace)
  (hval:∀ (j:Nat) t v,Try.f3.params[j]?=some t→args[j]?=some v→Value.okWide Try.prog W .any base t v)
  (hW:DataW.Whole enc Try.prog Try.f3.params.toList Rows.fnExactSpillPlanSpec.vars false W args.toList ds gs before) :
  Calls Try.prog 3 args W fun e W'=>∃ v,e=.returned v∧Rows.fnExactSpillPlanSpec.post enc Try.prog Try.f3 false true false false W args v W':=by
 refine law_contract (P:=Try.prog) (f:=3) (fn:=Try.f3) (s:=Rows.fnExactSpillPlanSpec) laidOut (tb:=t_bool) (l:=[(true,[.int .i64,.slice [.str,.slice [.int .i64]]]),(true,[.slice [.int .i64,.int .i64,.int .i64]]),(false,[.int .i64])]) (by kernel_rfl) (by kernel_rfl) (by kernel_rfl) (by kernel_rfl) rfl ?_ ?_ W base args ds gs before hval hW
 ·intro H ds h
  match ds,h with
  | [d0,d1,d2],_=>exact ⟨rfl,rfl,rfl⟩
 ·intro xs h
  obtain ⟨a0,r0,rfl,p0,h⟩:=h
  obtain ⟨x0,rfl,h0⟩:=p0
  obtain ⟨v0,rfl,o0⟩:=Zc.dec _ h0
  obtain ⟨a1,r1,rfl,p1,h⟩:=h
  obtain ⟨x1,rfl,h1⟩:=p1
  obtain ⟨v1,rfl,o1⟩:=Plan.dec _ h1
  obtain ⟨a2,r2,rfl,p2,h⟩:=h
  obtain ⟨x2,rfl,h2⟩:=p2
  obtain ⟨t2,u2,e2,g2,-⟩:=dec_cons h2
  cases e2
  obtain ⟨v2,rfl,o2⟩:=dec_int g2
  cases h
  exact ⟨_,sound (Zh3 v0 v1 v2 o0 o1 o2)⟩
set_option maxRecDepth 100000 in
theorem lifted (os:Os) (started:os.Started) (H:Type) (enc:TypeId×Value→H) :
  ReturnsInHanded {} Try.checked os 3 .any (Rows.fnExactSpillPlanSpec.pre6 enc Try.prog Try.f3 Rows.fnExactSpillPlanRow.domain false) (Rows.fnExactSpillPlanSpec.post enc Try.prog Try.f3 false true false false):=by
 refine returnsInHanded_of_change (C:=Try.checked) own started (by kernel_rfl) Try.func3
  (ChangeSpec.witness6 (enc:=enc) (C:=Try.checked) false ⟨#[],#[.agg #[.int .i64 0,.slice none 0 0],.agg #[.slice none 0 0],.int .i64 0],[]⟩ 8 (by kernel_rfl) (by kernel_rfl) (by kernel_rfl) (by kernel_rfl)) ?_
 intro W base args ds gs before hval hW _ _
 exact contract H enc W base args ds gs before hval hW
theorem k1:(Rows.fnExactSpillPlanRow.inPlace == Try.prog.inPlace 3)=true:=by kernel_rfl
theorem k2:(Rows.fnExactSpillPlanRow.unfollowed == Try.prog.unfollowed 3)=true:=by kernel_rfl
theorem k3:(Rows.fnExactSpillPlanRow.recurses == Try.prog.recurses 3)=true:=by kernel_rfl
theorem k4:(Rows.fnExactSpillPlanRow.named == Try.prog.varsNamed 3)=true:=by kernel_rfl
theorem k5:(Rows.fnExactSpillPlanRow.lifted == Try.prog.liftsFinal)=true:=by kernel_rfl
theorem k6:(Try.prog.make == some Rows.fnExactSpillPlanRow.make)=true:=by kernel_rfl
theorem closed:joinedFacts Try.prog 3 Try.f3 Rows.fnExactSpillPlanSpec Rows.fnExactSpillPlanRow=true:=by
 unfold joinedFacts
 rw [laidOut,k1,k2,k3,k4,k5,k6]
 kernel_rfl
theorem inst:Try.f3.isInstance Try.prog Rows.fnExactSpillPlanRow.origin Rows.fnExactSpillPlanRow.targs:=of_decide_eq_true (by kernel_rfl)
theorem proved:Rows.FnExactSpillPlanSaid :=
 OpenClaim.holds_of_wide 3 Try.f3 rfl rfl rfl rfl rfl rfl rfl ⟨rfl,rfl,rfl,rfl,rfl⟩ rfl rfl rfl rfl rfl (by kernel_rfl) Try.func3 closed
  inst (by unfold Func.isWrapper;first | (rw [if_pos (by decide +kernel)];kernel_rfl) | (rw [if_neg (by decide +kernel)];exact ⟨rfl,rfl⟩))
  (fun os started H enc _=>lifted os started H enc)
end fnExactSpillPlan
end Go.Proofs.Ytdfoicjjheifeaa
