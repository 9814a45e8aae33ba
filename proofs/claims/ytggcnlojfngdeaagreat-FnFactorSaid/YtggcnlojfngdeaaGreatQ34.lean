/-
  PROVED: 'FnFactor' returns true for every input, and its arguments read as they did. No condition.
-/
import Derived.Test.YtggcnlojfngdeaaGreatChecked
import Derived.Test.YtggcnlojfngdeaaGreatRows
import Derived.Test.YtggcnlojfngdeaaGreatP34
namespace Go.Proofs.YtggcnlojfngdeaaGreat
open Go.AM
open Go.ChangeShapes Go.WideShapes Go.ChangeAt Go.RowKit
namespace fnFactor
set_option maxRecDepth 100000 in
theorem contract(H:Type)(enc:TypeId×Value->H)(W:World)(base:Nat)(args:Array Value)(ds gs:List (DataW H))(before:List MemPlace)
  (hval:∀(j:Nat) t v,Tryz.f3.params[j]?=some t->args[j]?=some v->Value.okWide Tryz.prog W .any base t v)
  (hW:DataW.Whole enc Tryz.prog Tryz.f3.params.toList Rows.fnFactorSpec.vars false W args.toList ds gs before) :
  Calls Tryz.prog 3 args W λe W'=>∃v,e=.returned v/\Rows.fnFactorSpec.post enc Tryz.prog Tryz.f3 false true false false W args v W':=by
 refine ZBH (P:=Tryz.prog) (f:=3) (fn:=Tryz.f3) (s:=Rows.fnFactorSpec) laidOut (tb:=t_bool) (l:=[(false,[.slice [.int .u8]])]) (by kernel_rfl) (by kernel_rfl) (by kernel_rfl) (by kernel_rfl) rfl ?_ ?_ W base args ds gs before hval hW
 .intro H ds h
  match ds,h with
  |[d0],_=>exact⟨rfl,rfl,rfl⟩
 .intro xs h;obtain⟨a0,r0,rfl,p0,h⟩:=h;obtain⟨x0,rfl,h0⟩:=p0;obtain⟨t0,u0,e0,g0,-⟩:=Z0H h0;cases e0;obtain⟨v0,rfl,o0⟩:=decB g0;cases h;exact⟨_,sound (ZBI v0 o0)⟩
set_option maxRecDepth 100000 in
theorem lifted(os:Os)(started:os.Started)(H:Type)(enc:TypeId×Value->H) :
  ReturnsInHanded {} Tryz.checked os 3 .any (Rows.fnFactorSpec.pre6 enc Tryz.prog Tryz.f3 Rows.fnFactorRow.domain false) (Rows.fnFactorSpec.post enc Tryz.prog Tryz.f3 false true false false):=by
 refine returnsInHanded_of_change (C:=Tryz.checked) own started (by kernel_rfl) Tryz.func3
  (ChangeSpec.witness6 (enc:=enc) (C:=Tryz.checked) false ⟨#[],#[.slice none 0 0],[]⟩ 8 (by kernel_rfl) (by kernel_rfl) (by kernel_rfl) (by kernel_rfl)) ?_
 intro W base args ds gs before hval hW _ _;exact contract H enc W base args ds gs before hval hW
theorem k1:(Rows.fnFactorRow.inPlace == Tryz.prog.inPlace 3)=true:=by kernel_rfl
theorem k2:(Rows.fnFactorRow.unfollowed == Tryz.prog.unfollowed 3)=true:=by kernel_rfl
theorem k3:(Rows.fnFactorRow.recurses == Tryz.prog.recurses 3)=true:=by kernel_rfl
theorem k4:(Rows.fnFactorRow.named == Tryz.prog.varsNamed 3)=true:=by kernel_rfl
theorem k5:(Rows.fnFactorRow.lifted == Tryz.prog.liftsFinal)=true:=by kernel_rfl
theorem k6:(Tryz.prog.make == some Rows.fnFactorRow.make)=true:=by kernel_rfl
theorem k7:mapsRowed Tryz.prog=true:=by kernel_rfl
theorem k8:(Rows.fnFactorRow.loops == (Tryz.f3.params.toList++Rows.fnFactorSpec.plain.varTypes Tryz.prog).any (Tryz.prog.loopsFrom ·))=true:=by kernel_rfl
theorem k9:(Rows.fnFactorRow.plainKeys == Tryz.prog.plainKeys)=true:=by kernel_rfl
theorem ka:Tryz.prog.stopsHeard=true:=by kernel_rfl
theorem kb:Tryz.prog.mayEnter=true:=by kernel_rfl
theorem closed:joinedFacts Tryz.prog 3 Tryz.f3 Rows.fnFactorSpec Rows.fnFactorRow=true:=by
 unfold joinedFacts;rw[laidOut,k1,k2,k3,k4,k5,k6,k7,k8,k9,ka,kb]
 kernel_rfl
theorem inst:Tryz.f3.isInstance Tryz.prog Rows.fnFactorRow.origin Rows.fnFactorRow.targs:=of_decide_eq_true (by kernel_rfl)
theorem proved:Rows.FnFactorSaid :=
 OpenClaim.holds_of_wide 3 Tryz.f3 rfl rfl rfl rfl rfl rfl rfl ⟨rfl,rfl,rfl,rfl,rfl⟩ rfl rfl rfl rfl rfl (by kernel_rfl) Tryz.func3 closed
  inst (by unfold Func.isWrapper;first|(rw[Ya (by decide +kernel)];kernel_rfl)|(rw[Yb (by decide +kernel)];exact⟨rfl,rfl⟩))
  (λos started H enc _=>lifted os started H enc)
end fnFactor
end Go.Proofs.YtggcnlojfngdeaaGreat
