/-
  PROVED: 'FnExactSessionUpdate' returns true for every input, and its arguments read as they did. No condition.
-/
import Derived.Test.YthdihnbeifcppaaGreatP42
namespace Go.Proofs.YthdihnbeifcppaaGreat
open Go.AM
open Go.ChangeShapes Go.WideShapes Go.ChangeAt Go.RowKit
namespace fnExactSessionUpdate
set_option maxRecDepth 100000 in
theorem contract(H:Type)(enc:TypeId×Value->H)(W:World)(base:Nat)(args:Array Value)(ds gs:List (DataW H))(before:List MemPlace)
  (hval:∀(j:Nat) t v,Tryz.f3.params[j]?=some t->args[j]?=some v->Value.okWide Tryz.prog W .any base t v)
  (hW:DataW.Whole enc Tryz.prog Tryz.f3.params.toList Rows.fnExactSessionUpdateSpec.vars false W args.toList ds gs before) :
  Calls Tryz.prog 3 args W λe W'=>∃v,e=.returned v/\Rows.fnExactSessionUpdateSpec.post enc Tryz.prog Tryz.f3 false true false false W args v W':=by
 refine Z7U (P:=Tryz.prog) (f:=3) (fn:=Tryz.f3) (s:=Rows.fnExactSessionUpdateSpec) laidOut (tb:=t_bool) (l:=[(true,[.slice [.str,.int .i64,.slice [.slice [.int .i64]]],.int .i64,.slice [.str,.int .i64,.int .i64,.slice [.slice [.int .i64],.slice [.slice [.int .i64]],.slice [.int .i64]]],.slice [.str,.slice [.int .i64],.int .i64],.slice [.str,.int .i64,.str,.int .i64],.int .i64,.int .i64,.int .i64,.int .i64,.int .i64,.slice [.int .i64,.int .i64],.int .i64,.int .i64,.int .i64,.int .i64,.int .i64,.slice [.int .i64,.int .i64],.int .i64,.int .i64,.int .i64,.int .i64,.int .i64,.slice [.int .i64,.int .i64],.int .i64,.int .i64,.int .i64,.int .i64,.int .i64,.slice [.int .i64,.int .i64],.int .i64,.int .i64,.int .i64,.int .i64,.int .i64,.slice [.int .i64,.int .i64],.int .i64,.slice [.int .i64,.slice [.str,.slice [.int .i64]],.slice [.int .i64,.int .i64,.int .i64],.slice [.int .i64],.slice [.int .i64],.int .i64,.int .i64,.int .i64],.int .i64,.int .i64,.int .i64,.int .i64]),(true,[.str,.bool,.slice [.int .i64]])]) (by kernel_rfl) (by kernel_rfl) (by kernel_rfl) (by kernel_rfl) rfl ?_ ?_ W base args ds gs before hval hW
 .intro H ds h
  match ds,h with
  |[d0,d1],_=>exact⟨rfl,rfl,rfl⟩
 .intro xs h;obtain⟨a0,r0,rfl,p0,h⟩:=h;obtain⟨x0,rfl,h0⟩:=p0;obtain⟨v0,rfl,o0⟩:=ZJ.dec _ h0;obtain⟨a1,r1,rfl,p1,h⟩:=h;obtain⟨x1,rfl,h1⟩:=p1;obtain⟨v1,rfl,o1⟩:=ZR.dec _ h1;cases h;exact⟨_,Z7V v0 v1 o0 o1⟩
set_option maxRecDepth 100000 in
theorem lifted(os:Os)(started:os.Started)(H:Type)(enc:TypeId×Value->H) :
  ReturnsInHanded {} Tryz.checked os 3 .any (Rows.fnExactSessionUpdateSpec.pre6 enc Tryz.prog Tryz.f3 Rows.fnExactSessionUpdateRow.domain false) (Rows.fnExactSessionUpdateSpec.post enc Tryz.prog Tryz.f3 false true false false):=by
 refine returnsInHanded_of_change (C:=Tryz.checked) own started (by kernel_rfl) Tryz.func3
  (ChangeSpec.witness6 (enc:=enc) (C:=Tryz.checked) false ⟨#[],#[.agg #[.slice none 0 0,.int .i64 0,.slice none 0 0,.slice none 0 0,.slice none 0 0,.int .i64 0,.int .i64 0,.int .i64 0,.int .i64 0,.int .i64 0,.slice none 0 0,.int .i64 0,.int .i64 0,.int .i64 0,.int .i64 0,.int .i64 0,.slice none 0 0,.int .i64 0,.int .i64 0,.int .i64 0,.int .i64 0,.int .i64 0,.slice none 0 0,.int .i64 0,.int .i64 0,.int .i64 0,.int .i64 0,.int .i64 0,.slice none 0 0,.int .i64 0,.int .i64 0,.int .i64 0,.int .i64 0,.int .i64 0,.slice none 0 0,.int .i64 0,.slice none 0 0,.int .i64 0,.int .i64 0,.int .i64 0,.int .i64 0],.agg #[.string ⟨#[]⟩,.bool false,.slice none 0 0]],[]⟩ 8 (by kernel_rfl) (by kernel_rfl) (by kernel_rfl) (by kernel_rfl)) ?_
 intro W base args ds gs before hval hW _ _;exact contract H enc W base args ds gs before hval hW
theorem k1:(Rows.fnExactSessionUpdateRow.inPlace == Tryz.prog.inPlace 3)=true:=by kernel_rfl
theorem k2:(Rows.fnExactSessionUpdateRow.unfollowed == Tryz.prog.unfollowed 3)=true:=by kernel_rfl
theorem k3:(Rows.fnExactSessionUpdateRow.recurses == Tryz.prog.recurses 3)=true:=by kernel_rfl
theorem k4:(Rows.fnExactSessionUpdateRow.named == Tryz.prog.varsNamed 3)=true:=by kernel_rfl
theorem k5:(Rows.fnExactSessionUpdateRow.lifted == Tryz.prog.liftsFinal)=true:=by kernel_rfl
theorem k6:(Tryz.prog.make == some Rows.fnExactSessionUpdateRow.make)=true:=by kernel_rfl
theorem closed:joinedFacts Tryz.prog 3 Tryz.f3 Rows.fnExactSessionUpdateSpec Rows.fnExactSessionUpdateRow=true:=by
 unfold joinedFacts;rw[laidOut,k1,k2,k3,k4,k5,k6]
 kernel_rfl
theorem inst:Tryz.f3.isInstance Tryz.prog Rows.fnExactSessionUpdateRow.origin Rows.fnExactSessionUpdateRow.targs:=of_decide_eq_true (by kernel_rfl)
theorem proved:Rows.FnExactSessionUpdateSaid :=
 OpenClaim.holds_of_wide 3 Tryz.f3 rfl rfl rfl rfl rfl rfl rfl ⟨rfl,rfl,rfl,rfl,rfl⟩ rfl rfl rfl rfl rfl (by kernel_rfl) Tryz.func3 closed
  inst (by unfold Func.isWrapper;first|(rw[Ya (by decide +kernel)];kernel_rfl)|(rw[Yb (by decide +kernel)];exact⟨rfl,rfl⟩))
  (λos started H enc _=>lifted os started H enc)
end fnExactSessionUpdate
end Go.Proofs.YthdihnbeifcppaaGreat
