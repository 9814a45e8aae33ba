/-
  PROVED: 'FnCache' returns true for every input, and its arguments read as they did. No condition.
-/
import Derived.Test.YtcfaekfjkeobhaaGreatChecked
import Derived.Test.YtcfaekfjkeobhaaGreatP26
import Derived.Test.YtcfaekfjkeobhaaGreatP27
namespace Go.Proofs.YtcfaekfjkeobhaaGreat
open Go.AM
open Go.ChangeShapes Go.WideShapes Go.ChangeAt Go.RowKit
namespace fnCache
set_option maxRecDepth 100000 in
theorem contract(H:Type)(enc:TypeId×Value->H)(W:World)(base:Nat)(args:Array Value)(ds gs:List (DataW H))(before:List MemPlace)
  (hval:∀(j:Nat) t v,Tryz.f4.params[j]?=some t->args[j]?=some v->Value.okWide Tryz.prog W .any base t v)
  (hW:DataW.Whole enc Tryz.prog Tryz.f4.params.toList Rows.fnCacheSpec.vars false W args.toList ds gs before) :
  Calls Tryz.prog 4 args W λe W'=>∃v,e=.returned v/\Rows.fnCacheSpec.post enc Tryz.prog Tryz.f4 false true false false W args v W':=by
 refine Zboc (P:=Tryz.prog) (f:=4) (fn:=Tryz.f4) (s:=Rows.fnCacheSpec) laidOut (tb:=t_bool) (l:=[(false,[.slice [.int .u8]])]) (by kernel_rfl) (by kernel_rfl) (by kernel_rfl) (by kernel_rfl) rfl ?_ ?_ W base args ds gs before hval hW
 .intro H ds h
  match ds,h with
  |[d0],_=>exact⟨rfl,rfl,rfl⟩
 .intro xs h;obtain⟨a0,r0,rfl,p0,h⟩:=h;obtain⟨x0,rfl,h0⟩:=p0;obtain⟨t0,u0,e0,g0,-⟩:=Z8a h0;cases e0;obtain⟨v0,rfl,o0⟩:=decB g0;cases h;exact⟨_,sound (lawCache v0 o0)⟩
set_option maxRecDepth 100000 in
theorem lifted(os:Os)(started:os.Started)(H:Type)(enc:TypeId×Value->H) :
  ReturnsInHanded {} Tryz.checked os 4 .any (Rows.fnCacheSpec.pre6 enc Tryz.prog Tryz.f4 Rows.fnCacheRow.domain false) (Rows.fnCacheSpec.post enc Tryz.prog Tryz.f4 false true false false):=by
 refine returnsInHanded_of_change (C:=Tryz.checked) own started (by kernel_rfl) Tryz.func4
  (ChangeSpec.witness6 (enc:=enc) (C:=Tryz.checked) false ⟨#[],#[.slice none 0 0],[]⟩ 8 (by kernel_rfl) (by kernel_rfl) (by kernel_rfl) (by kernel_rfl)) ?_
 intro W base args ds gs before hval hW _ _;exact contract H enc W base args ds gs before hval hW
theorem k1:(Rows.fnCacheRow.inPlace == Tryz.prog.inPlace 4)=true:=by kernel_rfl
theorem k2:(Rows.fnCacheRow.unfollowed == Tryz.prog.unfollowed 4)=true:=by kernel_rfl
theorem k3:(Rows.fnCacheRow.recurses == Tryz.prog.recurses 4)=true:=by kernel_rfl
theorem k4:(Rows.fnCacheRow.named == Tryz.prog.varsNamed 4)=true:=by kernel_rfl
theorem k5:(Rows.fnCacheRow.lifted == Tryz.prog.liftsFinal)=true:=by kernel_rfl
theorem k6:(Tryz.prog.make == some Rows.fnCacheRow.make)=true:=by kernel_rfl
theorem closed:joinedFacts Tryz.prog 4 Tryz.f4 Rows.fnCacheSpec Rows.fnCacheRow=true:=by
 unfold joinedFacts;rw[laidOut,k1,k2,k3,k4,k5,k6]
 kernel_rfl
theorem inst:Tryz.f4.isInstance Tryz.prog Rows.fnCacheRow.origin Rows.fnCacheRow.targs:=of_decide_eq_true (by kernel_rfl)
theorem proved:Rows.FnCacheSaid :=
 OpenClaim.holds_of_wide 4 Tryz.f4 rfl rfl rfl rfl rfl rfl rfl ⟨rfl,rfl,rfl,rfl,rfl⟩ rfl rfl rfl rfl rfl (by kernel_rfl) Tryz.func4 closed
  inst (by unfold Func.isWrapper;first|(rw[if_pos (by decide +kernel)];kernel_rfl)|(rw[if_neg (by decide +kernel)];exact⟨rfl,rfl⟩))
  (λos started H enc _=>lifted os started H enc)
end fnCache
end Go.Proofs.YtcfaekfjkeobhaaGreat
