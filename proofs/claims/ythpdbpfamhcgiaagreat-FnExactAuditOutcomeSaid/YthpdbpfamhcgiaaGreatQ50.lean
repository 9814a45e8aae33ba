/-
  PROVED: 'FnExactAuditOutcome' returns true for every input, and its arguments read as they did. No condition.
-/
import Derived.Test.YthpdbpfamhcgiaaGreatP43
namespace Go.Proofs.YthpdbpfamhcgiaaGreat
open Go.AM
open Go.ChangeShapes Go.WideShapes Go.ChangeAt Go.RowKit
namespace fnExactAuditOutcome
set_option maxRecDepth 100000 in
theorem contract(H:Type)(enc:TypeId×Value->H)(W:World)(base:Nat)(args:Array Value)(ds gs:List (DataW H))(before:List MemPlace)
  (hval:∀(j:Nat) t v,Tryz.f3.params[j]?=some t->args[j]?=some v->Value.okWide Tryz.prog W .any base t v)
  (hW:DataW.Whole enc Tryz.prog Tryz.f3.params.toList Rows.fnExactAuditOutcomeSpec.vars false W args.toList ds gs before) :
  Calls Tryz.prog 3 args W λe W'=>∃v,e=.returned v/\Rows.fnExactAuditOutcomeSpec.post enc Tryz.prog Tryz.f3 false true false false W args v W':=by
 refine ZDY (P:=Tryz.prog) (f:=3) (fn:=Tryz.f3) (s:=Rows.fnExactAuditOutcomeSpec) laidOut (tb:=t_bool) (l:=[(true,[.int .i64,.int .i64,.int .i64,.int .i64,.int .i64,.slice [.int .i64,.int .i64],.int .i64,.int .i64,.int .i64,.int .i64,.int .i64,.slice [.int .i64,.int .i64],.int .i64,.int .i64,.int .i64,.int .i64,.int .i64,.slice [.int .i64,.int .i64],.int .i64,.int .i64,.int .i64,.int .i64,.int .i64,.slice [.int .i64,.int .i64],.int .i64,.int .i64,.int .i64,.int .i64,.int .i64,.slice [.int .i64,.int .i64]]),(true,[.slice [.str,.int .i64,.slice [.slice [.int .i64]]],.int .i64,.slice [.str,.int .i64,.int .i64,.slice [.slice [.int .i64],.slice [.slice [.int .i64]],.slice [.int .i64]]],.slice [.str,.slice [.int .i64],.int .i64],.slice [.str,.int .i64,.str,.int .i64]]),(true,[.int .i64,.slice [.str,.slice [.int .i64]]]),(true,[.int .i64,.int .i64,.int .i64,.slice [.int .i64],.slice [.int .i64],.slice [.int .i64],.slice [.slice [.int .i64,.int .i64,.int .i64]],.slice [.slice [.int .i64]]]),(true,[.slice [.int .i64],.slice [.slice [.int .i64]],.int .i64,.slice [.int .i64,.int .i64,.int .i64,.int .i64,.bool],.slice [.int .i64],.slice [.int .i64]])]) (by kernel_rfl) (by kernel_rfl) (by kernel_rfl) (by kernel_rfl) rfl ?_ ?_ W base args ds gs before hval hW
 .intro H ds h
  match ds,h with
  |[d0,d1,d2,d3,d4],_=>exact⟨rfl,rfl,rfl⟩
 .intro xs h;obtain⟨a0,r0,rfl,p0,h⟩:=h;obtain⟨x0,rfl,h0⟩:=p0;obtain⟨v0,rfl,o0⟩:=Zn.dec _ h0;obtain⟨a1,r1,rfl,p1,h⟩:=h;obtain⟨x1,rfl,h1⟩:=p1;obtain⟨v1,rfl,o1⟩:=Xr.dec _ h1;obtain⟨a2,r2,rfl,p2,h⟩:=h;obtain⟨x2,rfl,h2⟩:=p2;obtain⟨v2,rfl,o2⟩:=Zf.dec _ h2;obtain⟨a3,r3,rfl,p3,h⟩:=h;obtain⟨x3,rfl,h3⟩:=p3;obtain⟨v3,rfl,o3⟩:=ZM.dec _ h3;obtain⟨a4,r4,rfl,p4,h⟩:=h;obtain⟨x4,rfl,h4⟩:=p4;obtain⟨v4,rfl,o4⟩:=Wj.dec _ h4;cases h;exact⟨_,sound (ZDZ v0 v1 v2 v3 v4 o0 o1 o2 o3 o4)⟩
set_option maxRecDepth 100000 in
theorem lifted(os:Os)(started:os.Started)(H:Type)(enc:TypeId×Value->H) :
  ReturnsInHanded {} Tryz.checked os 3 .any (Rows.fnExactAuditOutcomeSpec.pre6 enc Tryz.prog Tryz.f3 Rows.fnExactAuditOutcomeRow.domain false) (Rows.fnExactAuditOutcomeSpec.post enc Tryz.prog Tryz.f3 false true false false):=by
 refine returnsInHanded_of_change (C:=Tryz.checked) own started (by kernel_rfl) Tryz.func3
  (ChangeSpec.witness6 (enc:=enc) (C:=Tryz.checked) false ⟨#[],#[.agg #[.int .i64 0,.int .i64 0,.int .i64 0,.int .i64 0,.int .i64 0,.slice none 0 0,.int .i64 0,.int .i64 0,.int .i64 0,.int .i64 0,.int .i64 0,.slice none 0 0,.int .i64 0,.int .i64 0,.int .i64 0,.int .i64 0,.int .i64 0,.slice none 0 0,.int .i64 0,.int .i64 0,.int .i64 0,.int .i64 0,.int .i64 0,.slice none 0 0,.int .i64 0,.int .i64 0,.int .i64 0,.int .i64 0,.int .i64 0,.slice none 0 0],.agg #[.slice none 0 0,.int .i64 0,.slice none 0 0,.slice none 0 0,.slice none 0 0],.agg #[.int .i64 0,.slice none 0 0],.agg #[.int .i64 0,.int .i64 0,.int .i64 0,.slice none 0 0,.slice none 0 0,.slice none 0 0,.slice none 0 0,.slice none 0 0],.agg #[.slice none 0 0,.slice none 0 0,.int .i64 0,.slice none 0 0,.slice none 0 0,.slice none 0 0]],[]⟩ 8 (by kernel_rfl) (by kernel_rfl) (by kernel_rfl) (by kernel_rfl)) ?_
 intro W base args ds gs before hval hW _ _;exact contract H enc W base args ds gs before hval hW
theorem k1:(Rows.fnExactAuditOutcomeRow.inPlace == Tryz.prog.inPlace 3)=true:=by kernel_rfl
theorem k2:(Rows.fnExactAuditOutcomeRow.unfollowed == Tryz.prog.unfollowed 3)=true:=by kernel_rfl
theorem k3:(Rows.fnExactAuditOutcomeRow.recurses == Tryz.prog.recurses 3)=true:=by kernel_rfl
theorem k4:(Rows.fnExactAuditOutcomeRow.named == Tryz.prog.varsNamed 3)=true:=by kernel_rfl
theorem k5:(Rows.fnExactAuditOutcomeRow.lifted == Tryz.prog.liftsFinal)=true:=by kernel_rfl
theorem k6:(Tryz.prog.make == some Rows.fnExactAuditOutcomeRow.make)=true:=by kernel_rfl
theorem k7:mapsRowed Tryz.prog=true:=by kernel_rfl
theorem k8:(Rows.fnExactAuditOutcomeRow.loops == (Tryz.f3.params.toList ++ Rows.fnExactAuditOutcomeSpec.plain.varTypes Tryz.prog).any (Tryz.prog.loopsFrom ·))=true:=by kernel_rfl
theorem k9:(Rows.fnExactAuditOutcomeRow.plainKeys == Tryz.prog.plainKeys)=true:=by kernel_rfl
theorem ka:Tryz.prog.stopsHeard=true:=by kernel_rfl
theorem kb:Tryz.prog.mayEnter=true:=by kernel_rfl
theorem closed:joinedFacts Tryz.prog 3 Tryz.f3 Rows.fnExactAuditOutcomeSpec Rows.fnExactAuditOutcomeRow=true:=by
 unfold joinedFacts;rw[laidOut,k1,k2,k3,k4,k5,k6,k7,k8,k9,ka,kb]
 kernel_rfl
theorem inst:Tryz.f3.isInstance Tryz.prog Rows.fnExactAuditOutcomeRow.origin Rows.fnExactAuditOutcomeRow.targs:=of_decide_eq_true (by kernel_rfl)
theorem proved:Rows.FnExactAuditOutcomeSaid :=
 OpenClaim.holds_of_wide 3 Tryz.f3 rfl rfl rfl rfl rfl rfl rfl ⟨rfl,rfl,rfl,rfl,rfl⟩ rfl rfl rfl rfl rfl (by kernel_rfl) Tryz.func3 closed
  inst (by unfold Func.isWrapper;first|(rw[Ya (by decide +kernel)];kernel_rfl)|(rw[Yb (by decide +kernel)];exact⟨rfl,rfl⟩))
  (λos started H enc _=>lifted os started H enc)
end fnExactAuditOutcome
end Go.Proofs.YthpdbpfamhcgiaaGreat
