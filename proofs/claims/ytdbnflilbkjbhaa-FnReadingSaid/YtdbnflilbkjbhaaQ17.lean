/-
  PROVED: 'FnReading' returns true for every input, and its arguments read as they did. No condition.
-/
import Derived.Test.YtdbnflilbkjbhaaChecked
import Derived.Test.YtdbnflilbkjbhaaP19
namespace Go.Proofs.Ytdbnflilbkjbhaa
open Go.AM
open Go.ChangeShapes Go.WideShapes Go.ChangeAt Go.RowKit
namespace fnReading
set_option maxRecDepth 100000 in
theorem contract(H:Type)(enc:TypeId×Value->H)(W:World)(base:Nat)(args:Array Value)(ds gs:List (DataW H))(before:List MemPlace)
  (hval:∀(j:Nat) t v,Try.f3.params[j]?=some t->args[j]?=some v->Value.okWide Try.prog W .any base t v)
  (hW:DataW.Whole enc Try.prog Try.f3.params.toList Rows.fnReadingSpec.vars false W args.toList ds gs before) :
  Calls Try.prog 3 args W λe W'=>∃v,e=.returned v/\Rows.fnReadingSpec.post enc Try.prog Try.f3 false true false false W args v W':=by
 refine Z22 (P:=Try.prog) (f:=3) (fn:=Try.f3) (s:=Rows.fnReadingSpec) laidOut (tb:=t_bool) (l:=[(false,[.slice [.int .u8]])]) (by kernel_rfl) (by kernel_rfl) (by kernel_rfl) (by kernel_rfl) rfl ?_ ?_ W base args ds gs before hval hW
 .intro H ds h
  match ds,h with
  |[d0],_=>exact⟨rfl,rfl,rfl⟩
 .intro xs h;obtain⟨a0,r0,rfl,p0,h⟩:=h;obtain⟨x0,rfl,h0⟩:=p0;obtain⟨t0,u0,e0,g0,-⟩:=Ztj h0;cases e0;obtain⟨v0,rfl,o0⟩:=decB g0;cases h;exact⟨_,sound (Z23 v0 o0)⟩
set_option maxRecDepth 100000 in
theorem lifted(os:Os)(started:os.Started)(H:Type)(enc:TypeId×Value->H) :
  ReturnsInHanded {} Try.checked os 3 .any (Rows.fnReadingSpec.pre6 enc Try.prog Try.f3 Rows.fnReadingRow.domain false) (Rows.fnReadingSpec.post enc Try.prog Try.f3 false true false false):=by
 refine returnsInHanded_of_change (C:=Try.checked) own started (by kernel_rfl) Try.func3
  (ChangeSpec.witness6 (enc:=enc) (C:=Try.checked) false ⟨#[],#[.slice none 0 0],[]⟩ 8 (by kernel_rfl) (by kernel_rfl) (by kernel_rfl) (by kernel_rfl)) ?_
 intro W base args ds gs before hval hW _ _;exact contract H enc W base args ds gs before hval hW
theorem k1:(Rows.fnReadingRow.inPlace == Try.prog.inPlace 3)=true:=by kernel_rfl
theorem k2:(Rows.fnReadingRow.unfollowed == Try.prog.unfollowed 3)=true:=by kernel_rfl
theorem k3:(Rows.fnReadingRow.recurses == Try.prog.recurses 3)=true:=by kernel_rfl
theorem k4:(Rows.fnReadingRow.named == Try.prog.varsNamed 3)=true:=by kernel_rfl
theorem k5:(Rows.fnReadingRow.lifted == Try.prog.liftsFinal)=true:=by kernel_rfl
theorem k6:(Try.prog.make == some Rows.fnReadingRow.make)=true:=by kernel_rfl
theorem closed:joinedFacts Try.prog 3 Try.f3 Rows.fnReadingSpec Rows.fnReadingRow=true:=by
 unfold joinedFacts;rw[laidOut,k1,k2,k3,k4,k5,k6]
 kernel_rfl
theorem inst:Try.f3.isInstance Try.prog Rows.fnReadingRow.origin Rows.fnReadingRow.targs:=of_decide_eq_true (by kernel_rfl)
theorem proved:Rows.FnReadingSaid :=
 OpenClaim.holds_of_wide 3 Try.f3 rfl rfl rfl rfl rfl rfl rfl ⟨rfl,rfl,rfl,rfl,rfl⟩ rfl rfl rfl rfl rfl (by kernel_rfl) Try.func3 closed
  inst (by unfold Func.isWrapper;first|(rw[if_pos (by decide +kernel)];kernel_rfl)|(rw[if_neg (by decide +kernel)];exact⟨rfl,rfl⟩))
  (λos started H enc _=>lifted os started H enc)
end fnReading
end Go.Proofs.Ytdbnflilbkjbhaa
