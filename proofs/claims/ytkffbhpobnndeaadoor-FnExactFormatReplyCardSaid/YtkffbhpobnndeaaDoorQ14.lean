/-
  PROVED: 'FnExactFormatReply' returns true for every input, and its arguments read as they did. No condition.
-/
import Derived.LaidMore
import Derived.Lay
import Derived.MakeChecks
import Derived.SevenTiedAt
import Derived.Stop.LaidErr
import Derived.Test.YtkffbhpobnndeaaDoorCards
import Derived.Test.YtkffbhpobnndeaaDoorTie
import Derived.Test.YtkffbhpobnndeaaDoorP5
namespace Go.Proofs.YtkffbhpobnndeaaDoor
open Go.AM
open Go.ChangeShapes Go.WideShapes Go.ChangeAt Go.RowKit
namespace fnExactFormatReply
theorem tabW_of{W:World}(h:laidMetH Tryd.prog Rows.fnExactFormatReplyRow.laid W):TabW W.heap.size W:=by
 rw[MakeChecks.laidMetH_plain _ _ _ (by kernel_rfl)]at h;have h2:laidMet Tryd.prog [("internal/strconv.uint64pow10",Rows.laid_internal_strconv_uint64pow10)] W:=laidMet.tail (laidMet.tail h);have e:(Rows.laid_internal_strconv_uint64pow10:DataW Unit)=Lib.tabData .u64 Lib.pow10Tab:=by kernel_rfl
 rw[e]at h2;have h3:Lib.TabIs Tryd.prog W "internal/strconv.uint64pow10" .u64 Lib.pow10Tab:=Lib.tabIs_of_head (g:=0) (t:=78) (e:=69) (n:=20) gTab (by kernel_rfl) (by kernel_rfl) (by kernel_rfl) (by kernel_rfl) (by kernel_rfl) h2;unfold Lib.TabIs World.var? at h3;rw[gTab,Option.bind_some]at h3
 cases hh:W.heap[0]? with
 |none=>rw[hh]at h3;cases h3
 |some o =>
  rw[hh]at h3
  cases o with
  |cells cs e fz =>
   have h4:cs=tabArr:=by rw[Ziu];exact Option.some.inj h3
   subst h4
   exact⟨(Y7.1 hh).1,e,fz,hh⟩
  |_=>cases h3
set_option maxRecDepth 100000 in
theorem contract(H:Type)(enc:TypeId×Value→H)(W:World)(hT:TabW W.heap.size W)(base:Nat)(args:Array Value)(ds gs:List (DataW H))(before:List MemPlace)
  (hval:∀(j:Nat) t v,Tryd.f3.params[j]?=some t→args[j]?=some v→Value.okWide Tryd.prog W .any base t v)
  (hW:DataW.Whole enc Tryd.prog Tryd.f3.params.toList Rows.fnExactFormatReplySpec.vars false W args.toList ds gs before) :
  Calls Tryd.prog 3 args W fun e W'=>∃v,e=.returned v∧Rows.fnExactFormatReplySpec.post enc Tryd.prog Tryd.f3 false true false false W args v W':=by
 refine Zng (P:=Tryd.prog) (f:=3) (fn:=Tryd.f3) (s:=Rows.fnExactFormatReplySpec) laidOut (tb:=t_bool) (l:=[(true,[.int .i64,.int .i64,.int .i64,.slice [.int .i64],.slice [.slice [.int .i64]]])]) (by kernel_rfl) (by kernel_rfl) (by kernel_rfl) (by kernel_rfl) rfl ?_ ?_ W hT base args ds gs before hval hW
 ·intro H ds h
  match ds,h with
  |[d0],_=>exact⟨rfl,rfl,rfl⟩
 ·intro xs h;obtain⟨a0,r0,rfl,p0,h⟩:=h;obtain⟨x0,rfl,h0⟩:=p0;obtain⟨v0,rfl,o0⟩:=Zm.dec _ h0;cases h;exact⟨_,sound (Znh v0 o0)⟩
set_option maxRecDepth 100000 in
theorem lifted(os:Os)(started:os.Started)(H:Type)(enc:TypeId×Value→H) :
  ReturnsInHanded {} Tryd.checked os 3 .any (fun w args=>(Rows.fnExactFormatReplySpec.pre enc Tryd.prog Tryd.f3 Rows.fnExactFormatReplyRow.domain false w args∧laidMetH Tryd.prog Rows.fnExactFormatReplyRow.laid w)∧sizedMet enc Tryd.prog Tryd.f3 (OpenSpec.ofChange Rows.fnExactFormatReplySpec) false w args)
   (Rows.fnExactFormatReplySpec.post enc Tryd.prog Tryd.f3 false true false false):=by
 refine returnsInHanded_of_change_and (C:=Tryd.checked) (X:=fun w _=>laidMetH Tryd.prog Rows.fnExactFormatReplyRow.laid w) (fun _ _ _ hh h=>h.of_heap hh) own started (by kernel_rfl) Tryd.func3
  (ChangeSpec.witness_shaped (enc:=enc) (C:=Tryd.checked) (os:=os) (X:=fun w _=>laidMetH Tryd.prog Rows.fnExactFormatReplyRow.laid w) false (World.laidAll Tryd.prog os Rows.fnExactFormatReplyRow.laid) #[.agg #[.int .i64 0,.int .i64 0,.int .i64 0,.slice none 0 0,.slice none 0 0]] 8 (World.laidAll_os _ _ _)
   (World.shaped_of_ZipB (by kernel_rfl) (by kernel_rfl)) (by kernel_rfl) (by kernel_rfl) (by kernel_rfl)
   (by rw[MakeChecks.laidMetH_plain _ _ _ (by kernel_rfl)];exact laidMet_laidAll _ (by kernel_rfl) (by kernel_rfl))) ?_
 intro W base args ds gs before hval hW _ _ hL _;exact contract H enc W (tabW_of hL) base args ds gs before hval hW
theorem k1:(Rows.fnExactFormatReplyRow.inPlace == Tryd.prog.inPlace 3)=true:=by kernel_rfl
theorem k2:(Rows.fnExactFormatReplyRow.unfollowed == Tryd.prog.unfollowed 3)=true:=by kernel_rfl
theorem k3:(Rows.fnExactFormatReplyRow.recurses == Tryd.prog.recurses 3)=true:=by kernel_rfl
theorem k4:(Rows.fnExactFormatReplyRow.named == Tryd.prog.varsNamed 3)=true:=by kernel_rfl
theorem k5:(Rows.fnExactFormatReplyRow.lifted == Tryd.prog.liftsFinal)=true:=by kernel_rfl
theorem k6:(Tryd.prog.make == some Rows.fnExactFormatReplyRow.make)=true:=by kernel_rfl
theorem closed:joinedFacts Tryd.prog 3 Tryd.f3 Rows.fnExactFormatReplySpec Rows.fnExactFormatReplyRow=true:=by
 unfold joinedFacts;rw[laidOut,k1,k2,k3,k4,k5,k6]
 kernel_rfl
theorem inst:Tryd.f3.isInstance Tryd.prog Rows.fnExactFormatReplyRow.origin Rows.fnExactFormatReplyRow.targs:=of_decide_eq_true (by kernel_rfl)
theorem row_proved:Rows.FnExactFormatReplySaid :=
 OpenClaim.holds_of_wide 3 Tryd.f3 rfl rfl rfl rfl rfl rfl rfl ⟨rfl,rfl,rfl,rfl,rfl⟩ rfl rfl rfl rfl rfl (by kernel_rfl) Tryd.func3 closed
  inst (by unfold Func.isWrapper;first|(rw[if_pos (by decide +kernel)];kernel_rfl)|(rw[if_neg (by decide +kernel)];exact⟨rfl,rfl⟩))
  (fun os started H enc _=>lifted os started H enc)
theorem proved:Rows.FnExactFormatReplyCardSaid :=
 Claim7.holds_tied_plain_at .later [] [.data,.data,.data] true (true,"f0fd1f8032c8a09f65d5836f144bd181b945b55ed0899f59f0a776e5f4189477") false row_proved (fun _ h=>by cases h) (by kernel_rfl) (fun _ h=>by cases h) fnExactFormatReply_row_tie rfl ⟨rfl,rfl⟩ (by kernel_rfl) rfl
  (fun f fn hf hfn=>by
   obtain rfl:f=3:=Option.some.inj ((show Tryd.prog.funcNamed "loop.example/g01921/laws.FnExactFormatReply"=some 3 by kernel_rfl).symm.trans hf) |>.symm;obtain rfl:fn=Tryd.f3:=(Option.some.inj (Tryd.func3.symm.trans hfn)).symm
   exact⟨by kernel_rfl,fun j t ht=>by
    have hall:(Tryd.f3.params.all fun u=>!Tryd.prog.wantsStandIn u)=true:=by kernel_rfl
    obtain⟨hj,rfl⟩:=Y7.1 ht;have:=(Array.all_eq_true.1 hall) j hj
    exact(Bool.not_not _).symm.trans (congrArg not this)⟩)
  (by kernel_rfl)
end fnExactFormatReply
end Go.Proofs.YtkffbhpobnndeaaDoor
