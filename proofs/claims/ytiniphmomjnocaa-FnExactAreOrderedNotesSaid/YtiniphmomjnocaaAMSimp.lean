/-
  THE ABSTRACT MACHINE: what simp knows of it.
-/
import Derived.Test.YtiniphmomjnocaaAMLive
import Derived.Test.YtiniphmomjnocaaAMList
import Derived.Laws.Strings
namespace Go.AM

attribute [simp] Ev_skip Ev_reg Ev_drw Ev_seq Ev_cond Ev_block Ev_exit Ev_ret EvO_nil EvO_cons EvS_some EvD_nil' EvD_cons EvF_some EvC_bool EvX_fin_n EvX_fin_r EvX_seq_n EvX_seq_x EvX_seq_r EvX_blk_n EvX_blk_x EvX_blk_r
  EvX_loopL_n Ev_loopL EvX_loop_x EvX_loop_r
attribute [simp] opE runE runV runD guardE skipE callA callB mcallB mcallI pcallB pcallI dcallE opF runF runFD guardF finE subIds subH subA bk backU rootsE rootNow frefs resAV resAll resOne evalOp ev lk put upd stB cellsOf setCells setT toT toTs kill nodupB unT tEq eqAs isNilAV lenAV natOf parts elems bparts loadT loadA
  srcOf bnd frzT frzTs frz1 frz1s frz frzs ren rens renB refs refss refsB rst scrub scrubE reach idx refsE renE closedB canon shift newU scalAV scalAVs frB frR noOwn canonR initE scalar flat footOf reach1 opdsOf opdSlots

/-! ### what two numbers give -/

def orI (a b : Int) : Int := IntKind.wrap .i64 ((BitVec.ofInt 64 a ||| BitVec.ofInt 64 b).toNat)
def andI (a b : Int) : Int := IntKind.wrap .i64 ((BitVec.ofInt 64 a &&& BitVec.ofInt 64 b).toNat)
def xorI (a b : Int) : Int := IntKind.wrap .i64 ((BitVec.ofInt 64 a ^^^ BitVec.ofInt 64 b).toNat)
def andNotI (a b : Int) : Int := IntKind.wrap .i64 ((BitVec.ofInt 64 a &&& ~~~ BitVec.ofInt 64 b).toNat)
def shlI (a b : Int) : Int := IntKind.wrap .i64 (a * 2 ^ (min b.toNat 64))
def shrI (a b : Int) : Int := a.fdiv (2 ^ (min b.toNat 64))
@[simp] theorem bin_or (a b : Int) : binT .or (.int .i64 a) (.int .i64 b) = some (.int .i64 (orI a b)) := by unfold binT; exact if_pos rfl
@[simp] theorem bin_and (a b : Int) : binT .and (.int .i64 a) (.int .i64 b) = some (.int .i64 (andI a b)) := by unfold binT; exact if_pos rfl
@[simp] theorem bin_xor (a b : Int) : binT .xor (.int .i64 a) (.int .i64 b) = some (.int .i64 (xorI a b)) := by unfold binT; exact if_pos rfl
@[simp] theorem bin_andNot (a b : Int) : binT .andNot (.int .i64 a) (.int .i64 b) = some (.int .i64 (andNotI a b)) := by unfold binT; exact if_pos rfl
@[simp] theorem bin_shl (a b : Int) (k : IntKind) : binT .shl (.int .i64 a) (.int k b) = if b < 0 then none else some (.int .i64 (shlI a b)) := by simp [binT, shlI, IntKind.bits]
@[simp] theorem bin_shr (a b : Int) (k : IntKind) : binT .shr (.int .i64 a) (.int k b) = if b < 0 then none else some (.int .i64 (shrI a b)) := by simp [binT, shrI, IntKind.bits]
@[simp] theorem bin_add (k : IntKind) (a b : Int) : binT .add (.int k a) (.int k b) = some (.int k (k.wrap (a + b))) := by simp [binT]
@[simp] theorem bin_sub (k : IntKind) (a b : Int) : binT .sub (.int k a) (.int k b) = some (.int k (k.wrap (a - b))) := by simp [binT]
@[simp] theorem bin_mul (k : IntKind) (a b : Int) : binT .mul (.int k a) (.int k b) = some (.int k (k.wrap (a * b))) := by simp [binT]
@[simp] theorem bin_quo (k : IntKind) (a b : Int) : binT .quo (.int k a) (.int k b) = if b = 0 then none else some (.int k (k.wrap (a.tdiv b))) := by simp [binT]
@[simp] theorem bin_rem (k : IntKind) (a b : Int) : binT .rem (.int k a) (.int k b) = if b = 0 then none else some (.int k (a.tmod b)) := by simp [binT]
@[simp] theorem bin_eql (k : IntKind) (a b : Int) : binT .eql (.int k a) (.int k b) = some (.bool (a == b)) := by simp [binT]
@[simp] theorem bin_neq (k : IntKind) (a b : Int) : binT .neq (.int k a) (.int k b) = some (.bool (a != b)) := by simp [binT]
@[simp] theorem bin_lss (k : IntKind) (a b : Int) : binT .lss (.int k a) (.int k b) = some (.bool (a < b)) := by simp [binT]
@[simp] theorem bin_leq (k : IntKind) (a b : Int) : binT .leq (.int k a) (.int k b) = some (.bool (a ≤ b)) := by simp [binT]
@[simp] theorem bin_gtr (k : IntKind) (a b : Int) : binT .gtr (.int k a) (.int k b) = some (.bool (a > b)) := by simp [binT]
@[simp] theorem bin_geq (k : IntKind) (a b : Int) : binT .geq (.int k a) (.int k b) = some (.bool (a ≥ b)) := by simp [binT]
@[simp] theorem bin_sadd (a b : ByteArray) : binT .add (.str a) (.str b) = if a.size + b.size ≤ 9223372036854775807 then some (.str (a ++ b)) else none := rfl
@[simp] theorem bin_seql (a b : ByteArray) : binT .eql (.str a) (.str b) = some (.bool (a.toList == b.toList)) := rfl
@[simp] theorem bin_sneq (a b : ByteArray) : binT .neq (.str a) (.str b) = some (.bool (!(a.toList == b.toList))) := rfl
@[simp] theorem bin_slss (a b : ByteArray) : binT .lss (.str a) (.str b) = some (.bool (Op.bytesLess a.toList b.toList)) := rfl
@[simp] theorem bin_sleq (a b : ByteArray) : binT .leq (.str a) (.str b) = some (.bool (Op.bytesLess a.toList b.toList || a.toList == b.toList)) := rfl
@[simp] theorem bin_sgtr (a b : ByteArray) : binT .gtr (.str a) (.str b) = some (.bool (!(Op.bytesLess a.toList b.toList || a.toList == b.toList))) := rfl
@[simp] theorem bin_sgeq (a b : ByteArray) : binT .geq (.str a) (.str b) = some (.bool (!Op.bytesLess a.toList b.toList)) := rfl

@[simp] theorem gt_zero (x : Blk) (h : List Blk) : gt (x :: h) 0 = x := rfl
@[simp] theorem gt_succ (x : Blk) (h : List Blk) (n : Nat) : gt (x :: h) (n + 1) = gt h n := rfl

@[simp] theorem str_inj (a b : ByteArray) : a.toList = b.toList ↔ a = b := by
  rw [ByteArray.toList_eq, ByteArray.toList_eq]
  exact ⟨fun h => ByteArray.ext (Array.toList_inj.1 h), fun h => by rw [h]⟩

@[simp] theorem int_beq (a b : Int) : (a == b) = decide (a = b) := by
  by_cases h : a = b <;> simp [h]
@[simp] theorem int_bne (a b : Int) : (a != b) = !decide (a = b) := by
  by_cases h : a = b <;> simp [h]
@[simp] theorem str_beq (a b : ByteArray) : (a.toList == b.toList) = decide (a = b) := by
  by_cases h : a = b
  · simp [h]
  · have : ¬ a.toList = b.toList := fun hc => h ((str_inj a b).1 hc)
    simp [h, this]

@[simp] theorem rn0 (h : List Blk) (e : Env) : (List.range 0).map (rootNow h e) = [] := rfl
@[simp] theorem rn1 (h : List Blk) (e : Env) : (List.range 1).map (rootNow h e) = [rootNow h e 0] := rfl
@[simp] theorem rn2 (h : List Blk) (e : Env) : (List.range 2).map (rootNow h e) = [rootNow h e 0, rootNow h e 1] := rfl
@[simp] theorem rn3 (h : List Blk) (e : Env) : (List.range 3).map (rootNow h e) = [rootNow h e 0, rootNow h e 1, rootNow h e 2] := rfl
@[simp] theorem rn4 (h : List Blk) (e : Env) : (List.range 4).map (rootNow h e) = [rootNow h e 0, rootNow h e 1, rootNow h e 2, rootNow h e 3] := rfl
@[simp] theorem rn5 (h : List Blk) (e : Env) : (List.range 5).map (rootNow h e) = [rootNow h e 0, rootNow h e 1, rootNow h e 2, rootNow h e 3, rootNow h e 4] := rfl

theorem down {Q : Nat → Prop} (n : Nat) (h0 : Q n) (hs : ∀ i, i < n → Q (i + 1) → Q i) : ∀ i, i ≤ n → Q i := by
  intro i hi
  obtain ⟨k, rfl⟩ : ∃ k, n = i + k := ⟨n - i, by omega⟩
  induction k generalizing i with
  | zero => exact h0
  | succ k ih => exact hs i (by omega) (ih (i + 1) (by rw [show i + 1 + k = i + (k + 1) by omega]; exact h0) (by intro j hj; exact hs j (by omega)) (by omega))

abbrev I (n : Int) : AV := .t (.int .i64 n)
abbrev Bo (b : Bool) : AV := .t (.bool b)
abbrev L (sz : Nat) (es : List (List T)) : AV := .t (.lst sz es)

end Go.AM
