/-
  PROVED: 'FnExactBoundBox' returns true for every input, and its arguments read as they did. No condition.
-/
import Derived.Test.YtnnjbejcffjgfaaGreatChecked
import Derived.Test.YtnnjbejcffjgfaaGreatP28
namespace Go.Proofs.YtnnjbejcffjgfaaGreat
open Go.AM
open Go.ChangeShapes Go.WideShapes Go.ChangeAt Go.RowKit
namespace fnExactBoundBox
set_option maxRecDepth 100000 in
theorem contract(H:Type)(enc:TypeId×Value->H)(W:World)(base:Nat)(args:Array Value)(ds gs:List (DataW H))(before:List MemPlace)
  (hval:∀(j:Nat) t v,Tryz.f6.params[j]?=some t->args[j]?=some v->Value.okWide Tryz.prog W .any base t v)
  (hW:DataW.Whole enc Tryz.prog Tryz.f6.params.toList Rows.fnExactBoundBoxSpec.vars false W args.toList ds gs before) :
  Calls Tryz.prog 6 args W λe W'=>∃v,e=.returned v/\Rows.fnExactBoundBoxSpec.post enc Tryz.prog Tryz.f6 false true false false W args v W':=by
 refine Zca6 (P:=Tryz.prog) (f:=6) (fn:=Tryz.f6) (s:=Rows.fnExactBoundBoxSpec) laidOut (tb:=t_bool) (l:=[(true,[.slice [.str,.int .i64,.slice [.slice [.int .i64]]],.int .i64,.slice [.str,.int .i64,.int .i64,.slice [.slice [.int .i64],.slice [.slice [.int .i64]],.slice [.int .i64]]],.slice [.str,.slice [.int .i64],.int .i64],.slice [.str,.int .i64,.str,.int .i64]]),(true,[.int .i64,.slice [.str,.slice [.int .i64]]])]) (by kernel_rfl) (by kernel_rfl) (by kernel_rfl) (by kernel_rfl) rfl ?_ ?_ W base args ds gs before hval hW
 .intro H ds h
  match ds,h with
  |[d0,d1],_=>exact⟨rfl,rfl,rfl⟩
 .intro xs h;obtain⟨a0,r0,rfl,p0,h⟩:=h;obtain⟨x0,rfl,h0⟩:=p0;obtain⟨v0,rfl,o0⟩:=Zh.dec _ h0;obtain⟨a1,r1,rfl,p1,h⟩:=h;obtain⟨x1,rfl,h1⟩:=p1;obtain⟨v1,rfl,o1⟩:=Zc.dec _ h1;cases h;exact⟨_,sound (Zca7 v0 v1 o0 o1)⟩
set_option maxRecDepth 100000 in
theorem lifted(os:Os)(started:os.Started)(H:Type)(enc:TypeId×Value->H) :
  ReturnsInHanded {} Tryz.checked os 6 .any (Rows.fnExactBoundBoxSpec.pre6 enc Tryz.prog Tryz.f6 Rows.fnExactBoundBoxRow.domain false) (Rows.fnExactBoundBoxSpec.post enc Tryz.prog Tryz.f6 false true false false):=by
 refine returnsInHanded_of_change (C:=Tryz.checked) own started (by kernel_rfl) Tryz.func6
  (ChangeSpec.witness6 (enc:=enc) (C:=Tryz.checked) false ⟨#[],#[.agg #[.slice none 0 0,.int .i64 0,.slice none 0 0,.slice none 0 0,.slice none 0 0],.agg #[.int .i64 0,.slice none 0 0]],[]⟩ 8 (by kernel_rfl) (by kernel_rfl) (by kernel_rfl) (by kernel_rfl)) ?_
 intro W base args ds gs before hval hW _ _;exact contract H enc W base args ds gs before hval hW
theorem k1:(Rows.fnExactBoundBoxRow.inPlace == Tryz.prog.inPlace 6)=true:=by kernel_rfl
theorem k2:(Rows.fnExactBoundBoxRow.unfollowed == Tryz.prog.unfollowed 6)=true:=by kernel_rfl
theorem k3:(Rows.fnExactBoundBoxRow.recurses == Tryz.prog.recurses 6)=true:=by kernel_rfl
theorem k4:(Rows.fnExactBoundBoxRow.named == Tryz.prog.varsNamed 6)=true:=by kernel_rfl
theorem k5:(Rows.fnExactBoundBoxRow.lifted == Tryz.prog.liftsFinal)=true:=by kernel_rfl
theorem k6:(Tryz.prog.make == some Rows.fnExactBoundBoxRow.make)=true:=by kernel_rfl
theorem closed:joinedFacts Tryz.prog 6 Tryz.f6 Rows.fnExactBoundBoxSpec Rows.fnExactBoundBoxRow=true:=by
 unfold joinedFacts;rw[laidOut,k1,k2,k3,k4,k5,k6]
 kernel_rfl
theorem inst:Tryz.f6.isInstance Tryz.prog Rows.fnExactBoundBoxRow.origin Rows.fnExactBoundBoxRow.targs:=of_decide_eq_true (by kernel_rfl)
theorem proved:Rows.FnExactBoundBoxSaid :=
 OpenClaim.holds_of_wide 6 Tryz.f6 rfl rfl rfl rfl rfl rfl rfl ⟨rfl,rfl,rfl,rfl,rfl⟩ rfl rfl rfl rfl rfl (by kernel_rfl) Tryz.func6 closed
  inst (by unfold Func.isWrapper;first|(rw[if_pos (by decide +kernel)];kernel_rfl)|(rw[if_neg (by decide +kernel)];exact⟨rfl,rfl⟩))
  (λos started H enc _=>lifted os started H enc)
end fnExactBoundBox
end Go.Proofs.YtnnjbejcffjgfaaGreat
