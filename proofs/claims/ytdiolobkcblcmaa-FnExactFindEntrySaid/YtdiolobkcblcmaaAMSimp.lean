/-
  THE ABSTRACT MACHINE: what simp knows of it.
-/
import Derived.Test.YtdiolobkcblcmaaAMLive
import Derived.Test.YtdiolobkcblcmaaAMList
import Derived.Laws.Strings
namespace Go.AM

attribute [simp] Ev_skip Ev_reg Ev_drw Ev_seq Ev_cond Ev_block Ev_exit Ev_ret EvO_nil EvO_cons EvS_some EvD_nil' EvD_cons EvF_some EvC_bool EvX_fin_n EvX_fin_r EvX_seq_n EvX_seq_x EvX_seq_r EvX_blk_n EvX_blk_x EvX_blk_r
  EvX_loopL_n Ev_loopL EvX_loop_x EvX_loop_r
attribute [simp] opE runE runV runD guardE skipE callA callB mcallB mcallI pcallB pcallI dcallE opF runF runFD guardF finE subIds subH subA bk backU rootsE rootNow frefs resAV resAll resOne evalOp ev lk put upd stB cellsOf setCells setT toT toTs kill nodupB binT unT tEq eqAs isNilAV lenAV natOf parts elems bparts loadT loadA
  srcOf bnd frzT frzTs frz1 frz1s frz frzs ren rens renB refs refss refsB rst scrub scrubE reach idx refsE renE closedB canon shift newU scalAV scalAVs frB frR noOwn canonR initE scalar flat footOf reach1 opdsOf opdSlots

@[simp] theorem gt_zero (x : Blk) (h : List Blk) : gt (x :: h) 0 = x := rfl
@[simp] theorem gt_succ (x : Blk) (h : List Blk) (n : Nat) : gt (x :: h) (n + 1) = gt h n := rfl

@[simp] theorem str_inj (a b : ByteArray) : a.toList = b.toList ↔ a = b := by
  rw [ByteArray.toList_eq, ByteArray.toList_eq]
  exact ⟨fun h => ByteArray.ext (Array.toList_inj.1 h), fun h => by rw [h]⟩

@[simp] theorem int_beq (a b : Int) : (a == b) = decide (a = b) := by
  by_cases h : a = b <;> simp [h]
@[simp] theorem int_bne (a b : Int) : (a != b) = !decide (a = b) := by
  by_cases h : a = b <;> simp [h]
@[simp] theorem str_beq (a b : ByteArray) : (a.toList == b.toList) = decide (a = b) := by
  by_cases h : a = b
  · simp [h]
  · have : ¬ a.toList = b.toList := fun hc => h ((str_inj a b).1 hc)
    simp [h, this]

@[simp] theorem rn0 (h : List Blk) (e : Env) : (List.range 0).map (rootNow h e) = [] := rfl
@[simp] theorem rn1 (h : List Blk) (e : Env) : (List.range 1).map (rootNow h e) = [rootNow h e 0] := rfl
@[simp] theorem rn2 (h : List Blk) (e : Env) : (List.range 2).map (rootNow h e) = [rootNow h e 0, rootNow h e 1] := rfl
@[simp] theorem rn3 (h : List Blk) (e : Env) : (List.range 3).map (rootNow h e) = [rootNow h e 0, rootNow h e 1, rootNow h e 2] := rfl
@[simp] theorem rn4 (h : List Blk) (e : Env) : (List.range 4).map (rootNow h e) = [rootNow h e 0, rootNow h e 1, rootNow h e 2, rootNow h e 3] := rfl
@[simp] theorem rn5 (h : List Blk) (e : Env) : (List.range 5).map (rootNow h e) = [rootNow h e 0, rootNow h e 1, rootNow h e 2, rootNow h e 3, rootNow h e 4] := rfl

theorem down {Q : Nat → Prop} (n : Nat) (h0 : Q n) (hs : ∀ i, i < n → Q (i + 1) → Q i) : ∀ i, i ≤ n → Q i := by
  intro i hi
  obtain ⟨k, rfl⟩ : ∃ k, n = i + k := ⟨n - i, by omega⟩
  induction k generalizing i with
  | zero => exact h0
  | succ k ih => exact hs i (by omega) (ih (i + 1) (by rw [show i + 1 + k = i + (k + 1) by omega]; exact h0) (by intro j hj; exact hs j (by omega)) (by omega))

abbrev I (n : Int) : AV := .t (.int .i64 n)
abbrev Bo (b : Bool) : AV := .t (.bool b)
abbrev L (sz : Nat) (es : List (List T)) : AV := .t (.lst sz es)

end Go.AM
