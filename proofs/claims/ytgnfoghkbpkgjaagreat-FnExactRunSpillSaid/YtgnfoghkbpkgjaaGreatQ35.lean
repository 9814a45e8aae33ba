/-
  PROVED: 'FnExactRunSpill' returns true for every input, and its arguments read as they did. No condition.
-/
import Derived.Test.YtgnfoghkbpkgjaaGreatChecked
import Derived.Test.YtgnfoghkbpkgjaaGreatP17
namespace Go.Proofs.YtgnfoghkbpkgjaaGreat
open Go.AM
open Go.ChangeShapes Go.WideShapes Go.ChangeAt Go.RowKit
namespace fnExactRunSpill
set_option maxRecDepth 100000 in
theorem contract (H:Type) (enc:TypeId×Value→H) (W:World) (base:Nat) (args:Array Value) (ds gs:List (DataW H)) (before:List MemPlace)
  (hval:∀ (j:Nat) t v,Tryz.f8.params[j]?=some t→args[j]?=some v→Value.okWide Tryz.prog W .any base t v)
  (hW:DataW.Whole enc Tryz.prog Tryz.f8.params.toList Rows.fnExactRunSpillSpec.vars false W args.toList ds gs before) :
  Calls Tryz.prog 8 args W fun e W'=>∃ v,e=.returned v∧Rows.fnExactRunSpillSpec.post enc Tryz.prog Tryz.f8 false true false false W args v W':=by
 refine law_contract (P:=Tryz.prog) (f:=8) (fn:=Tryz.f8) (s:=Rows.fnExactRunSpillSpec) laidOut (tb:=t_bool) (l:=[(true,[.int .i64,.int .i64,.int .i64,.int .i64,.int .i64,.slice [.int .i64,.int .i64],.int .i64,.int .i64,.int .i64,.int .i64,.int .i64,.slice [.int .i64,.int .i64],.int .i64,.int .i64,.int .i64,.int .i64,.int .i64,.slice [.int .i64,.int .i64],.int .i64,.int .i64,.int .i64,.int .i64,.int .i64,.slice [.int .i64,.int .i64],.int .i64,.int .i64,.int .i64,.int .i64,.int .i64,.slice [.int .i64,.int .i64]]),(true,[.slice [.str,.int .i64,.slice [.slice [.int .i64]]]]),(true,[.int .i64,.slice [.str,.slice [.int .i64]]]),(true,[.slice [.int .i64,.int .i64,.int .i64]]),(false,[.int .i64]),(false,[.int .i64])]) (by kernel_rfl) (by kernel_rfl) (by kernel_rfl) (by kernel_rfl) rfl ?_ ?_ W base args ds gs before hval hW
 ·intro H ds h
  match ds,h with
  | [d0,d1,d2,d3,d4,d5],_=>exact ⟨rfl,rfl,rfl⟩
 ·intro xs h;obtain ⟨a0,r0,rfl,p0,h⟩:=h;obtain ⟨x0,rfl,h0⟩:=p0;obtain ⟨v0,rfl,o0⟩:=Zj.dec _ h0;obtain ⟨a1,r1,rfl,p1,h⟩:=h;obtain ⟨x1,rfl,h1⟩:=p1;obtain ⟨v1,rfl,o1⟩:=Zk.dec _ h1;obtain ⟨a2,r2,rfl,p2,h⟩:=h;obtain ⟨x2,rfl,h2⟩:=p2;obtain ⟨v2,rfl,o2⟩:=Zd.dec _ h2;obtain ⟨a3,r3,rfl,p3,h⟩:=h;obtain ⟨x3,rfl,h3⟩:=p3;obtain ⟨v3,rfl,o3⟩:=Plan.dec _ h3;obtain ⟨a4,r4,rfl,p4,h⟩:=h;obtain ⟨x4,rfl,h4⟩:=p4;obtain ⟨t4,u4,e4,g4,-⟩:=dec_cons h4;cases e4;obtain ⟨v4,rfl,o4⟩:=dec_int g4;obtain ⟨a5,r5,rfl,p5,h⟩:=h;obtain ⟨x5,rfl,h5⟩:=p5;obtain ⟨t5,u5,e5,g5,-⟩:=dec_cons h5;cases e5;obtain ⟨v5,rfl,o5⟩:=dec_int g5;cases h;exact ⟨_,sound (Zbcc v0 v1 v2 v3 v4 v5 o0 o1 o2 o3 o4 o5)⟩
set_option maxRecDepth 100000 in
theorem lifted (os:Os) (started:os.Started) (H:Type) (enc:TypeId×Value→H) :
  ReturnsInHanded {} Tryz.checked os 8 .any (Rows.fnExactRunSpillSpec.pre6 enc Tryz.prog Tryz.f8 Rows.fnExactRunSpillRow.domain false) (Rows.fnExactRunSpillSpec.post enc Tryz.prog Tryz.f8 false true false false):=by
 refine returnsInHanded_of_change (C:=Tryz.checked) own started (by kernel_rfl) Tryz.func8
  (ChangeSpec.witness6 (enc:=enc) (C:=Tryz.checked) false ⟨#[],#[.agg #[.int .i64 0,.int .i64 0,.int .i64 0,.int .i64 0,.int .i64 0,.slice none 0 0,.int .i64 0,.int .i64 0,.int .i64 0,.int .i64 0,.int .i64 0,.slice none 0 0,.int .i64 0,.int .i64 0,.int .i64 0,.int .i64 0,.int .i64 0,.slice none 0 0,.int .i64 0,.int .i64 0,.int .i64 0,.int .i64 0,.int .i64 0,.slice none 0 0,.int .i64 0,.int .i64 0,.int .i64 0,.int .i64 0,.int .i64 0,.slice none 0 0],.agg #[.slice none 0 0],.agg #[.int .i64 0,.slice none 0 0],.agg #[.slice none 0 0],.int .i64 0,.int .i64 0],[]⟩ 8 (by kernel_rfl) (by kernel_rfl) (by kernel_rfl) (by kernel_rfl)) ?_
 intro W base args ds gs before hval hW _ _;exact contract H enc W base args ds gs before hval hW
theorem k1:(Rows.fnExactRunSpillRow.inPlace == Tryz.prog.inPlace 8)=true:=by kernel_rfl
theorem k2:(Rows.fnExactRunSpillRow.unfollowed == Tryz.prog.unfollowed 8)=true:=by kernel_rfl
theorem k3:(Rows.fnExactRunSpillRow.recurses == Tryz.prog.recurses 8)=true:=by kernel_rfl
theorem k4:(Rows.fnExactRunSpillRow.named == Tryz.prog.varsNamed 8)=true:=by kernel_rfl
theorem k5:(Rows.fnExactRunSpillRow.lifted == Tryz.prog.liftsFinal)=true:=by kernel_rfl
theorem k6:(Tryz.prog.make == some Rows.fnExactRunSpillRow.make)=true:=by kernel_rfl
theorem closed:joinedFacts Tryz.prog 8 Tryz.f8 Rows.fnExactRunSpillSpec Rows.fnExactRunSpillRow=true:=by
 unfold joinedFacts;rw [laidOut,k1,k2,k3,k4,k5,k6]
 kernel_rfl
theorem inst:Tryz.f8.isInstance Tryz.prog Rows.fnExactRunSpillRow.origin Rows.fnExactRunSpillRow.targs:=of_decide_eq_true (by kernel_rfl)
theorem proved:Rows.FnExactRunSpillSaid :=
 OpenClaim.holds_of_wide 8 Tryz.f8 rfl rfl rfl rfl rfl rfl rfl ⟨rfl,rfl,rfl,rfl,rfl⟩ rfl rfl rfl rfl rfl (by kernel_rfl) Tryz.func8 closed
  inst (by unfold Func.isWrapper;first | (rw [if_pos (by decide +kernel)];kernel_rfl) | (rw [if_neg (by decide +kernel)];exact ⟨rfl,rfl⟩))
  (fun os started H enc _=>lifted os started H enc)
end fnExactRunSpill
end Go.Proofs.YtgnfoghkbpkgjaaGreat
