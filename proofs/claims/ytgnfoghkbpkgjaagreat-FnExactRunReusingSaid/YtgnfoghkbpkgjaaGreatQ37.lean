/-
  PROVED: 'FnExactRunReusing' returns true for every input, and its arguments read as they did. No condition.
-/
import Derived.Test.YtgnfoghkbpkgjaaGreatChecked
import Derived.Test.YtgnfoghkbpkgjaaGreatP18
namespace Go.Proofs.YtgnfoghkbpkgjaaGreat
open Go.AM
open Go.ChangeShapes Go.WideShapes Go.ChangeAt Go.RowKit
namespace fnExactRunReusing
set_option maxRecDepth 100000 in
theorem contract(H:Type)(enc:TypeId×Value→H)(W:World)(base:Nat)(args:Array Value)(ds gs:List (DataW H))(before:List MemPlace)
  (hval:∀(j:Nat) t v,Tryz.f10.params[j]?=some t→args[j]?=some v→Value.okWide Tryz.prog W .any base t v)
  (hW:DataW.Whole enc Tryz.prog Tryz.f10.params.toList Rows.fnExactRunReusingSpec.vars false W args.toList ds gs before) :
  Calls Tryz.prog 10 args W fun e W'=>∃v,e=.returned v∧Rows.fnExactRunReusingSpec.post enc Tryz.prog Tryz.f10 false true false false W args v W':=by
 refine Zbnn (P:=Tryz.prog) (f:=10) (fn:=Tryz.f10) (s:=Rows.fnExactRunReusingSpec) laidOut (tb:=t_bool) (l:=[(true,[.int .i64,.int .i64,.int .i64,.int .i64,.int .i64,.slice [.int .i64,.int .i64],.int .i64,.int .i64,.int .i64,.int .i64,.int .i64,.slice [.int .i64,.int .i64],.int .i64,.int .i64,.int .i64,.int .i64,.int .i64,.slice [.int .i64,.int .i64],.int .i64,.int .i64,.int .i64,.int .i64,.int .i64,.slice [.int .i64,.int .i64],.int .i64,.int .i64,.int .i64,.int .i64,.int .i64,.slice [.int .i64,.int .i64]]),(true,[.slice [.str,.int .i64,.slice [.slice [.int .i64]]]]),(true,[.int .i64,.slice [.str,.slice [.int .i64]]]),(true,[.slice [.int .i64,.int .i64,.int .i64]]),(false,[.int .i64]),(false,[.slice [.int .i64,.int .i64]])]) (by kernel_rfl) (by kernel_rfl) (by kernel_rfl) (by kernel_rfl) rfl ?_ ?_ W base args ds gs before hval hW
 ·intro H ds h
  match ds,h with
  |[d0,d1,d2,d3,d4,d5],_=>exact⟨rfl,rfl,rfl⟩
 ·intro xs h;obtain⟨a0,r0,rfl,p0,h⟩:=h;obtain⟨x0,rfl,h0⟩:=p0;obtain⟨v0,rfl,o0⟩:=Zi.dec _ h0;obtain⟨a1,r1,rfl,p1,h⟩:=h;obtain⟨x1,rfl,h1⟩:=p1;obtain⟨v1,rfl,o1⟩:=Zl.dec _ h1;obtain⟨a2,r2,rfl,p2,h⟩:=h;obtain⟨x2,rfl,h2⟩:=p2;obtain⟨v2,rfl,o2⟩:=Ze.dec _ h2;obtain⟨a3,r3,rfl,p3,h⟩:=h;obtain⟨x3,rfl,h3⟩:=p3;obtain⟨v3,rfl,o3⟩:=Plan.dec _ h3;obtain⟨a4,r4,rfl,p4,h⟩:=h;obtain⟨x4,rfl,h4⟩:=p4;obtain⟨t4,u4,e4,g4,-⟩:=Zs h4;cases e4;obtain⟨v4,rfl,o4⟩:=Z6 g4;obtain⟨a5,r5,rfl,p5,h⟩:=h;obtain⟨x5,rfl,h5⟩:=p5;obtain⟨t5,u5,e5,g5,-⟩:=Zs h5;cases e5;obtain⟨v5,rfl,o5⟩:=Zd9 Kept.dec g5;cases h;exact⟨_,sound (Zbno v0 v1 v2 v3 v4 v5 o0 o1 o2 o3 o4 o5)⟩
set_option maxRecDepth 100000 in
theorem lifted(os:Os)(started:os.Started)(H:Type)(enc:TypeId×Value→H) :
  ReturnsInHanded {} Tryz.checked os 10 .any (Rows.fnExactRunReusingSpec.pre6 enc Tryz.prog Tryz.f10 Rows.fnExactRunReusingRow.domain false) (Rows.fnExactRunReusingSpec.post enc Tryz.prog Tryz.f10 false true false false):=by
 refine returnsInHanded_of_change (C:=Tryz.checked) own started (by kernel_rfl) Tryz.func10
  (ChangeSpec.witness6 (enc:=enc) (C:=Tryz.checked) false ⟨#[],#[.agg #[.int .i64 0,.int .i64 0,.int .i64 0,.int .i64 0,.int .i64 0,.slice none 0 0,.int .i64 0,.int .i64 0,.int .i64 0,.int .i64 0,.int .i64 0,.slice none 0 0,.int .i64 0,.int .i64 0,.int .i64 0,.int .i64 0,.int .i64 0,.slice none 0 0,.int .i64 0,.int .i64 0,.int .i64 0,.int .i64 0,.int .i64 0,.slice none 0 0,.int .i64 0,.int .i64 0,.int .i64 0,.int .i64 0,.int .i64 0,.slice none 0 0],.agg #[.slice none 0 0],.agg #[.int .i64 0,.slice none 0 0],.agg #[.slice none 0 0],.int .i64 0,.slice none 0 0],[]⟩ 8 (by kernel_rfl) (by kernel_rfl) (by kernel_rfl) (by kernel_rfl)) ?_
 intro W base args ds gs before hval hW _ _;exact contract H enc W base args ds gs before hval hW
theorem k1:(Rows.fnExactRunReusingRow.inPlace == Tryz.prog.inPlace 10)=true:=by kernel_rfl
theorem k2:(Rows.fnExactRunReusingRow.unfollowed == Tryz.prog.unfollowed 10)=true:=by kernel_rfl
theorem k3:(Rows.fnExactRunReusingRow.recurses == Tryz.prog.recurses 10)=true:=by kernel_rfl
theorem k4:(Rows.fnExactRunReusingRow.named == Tryz.prog.varsNamed 10)=true:=by kernel_rfl
theorem k5:(Rows.fnExactRunReusingRow.lifted == Tryz.prog.liftsFinal)=true:=by kernel_rfl
theorem k6:(Tryz.prog.make == some Rows.fnExactRunReusingRow.make)=true:=by kernel_rfl
theorem closed:joinedFacts Tryz.prog 10 Tryz.f10 Rows.fnExactRunReusingSpec Rows.fnExactRunReusingRow=true:=by
 unfold joinedFacts;rw[laidOut,k1,k2,k3,k4,k5,k6]
 kernel_rfl
theorem inst:Tryz.f10.isInstance Tryz.prog Rows.fnExactRunReusingRow.origin Rows.fnExactRunReusingRow.targs:=of_decide_eq_true (by kernel_rfl)
theorem proved:Rows.FnExactRunReusingSaid :=
 OpenClaim.holds_of_wide 10 Tryz.f10 rfl rfl rfl rfl rfl rfl rfl ⟨rfl,rfl,rfl,rfl,rfl⟩ rfl rfl rfl rfl rfl (by kernel_rfl) Tryz.func10 closed
  inst (by unfold Func.isWrapper;first|(rw[if_pos (by decide +kernel)];kernel_rfl)|(rw[if_neg (by decide +kernel)];exact⟨rfl,rfl⟩))
  (fun os started H enc _=>lifted os started H enc)
end fnExactRunReusing
end Go.Proofs.YtgnfoghkbpkgjaaGreat
