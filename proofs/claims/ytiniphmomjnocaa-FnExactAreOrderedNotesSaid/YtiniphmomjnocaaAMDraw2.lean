/-
  THE ABSTRACT MACHINE: a region whose order is drawn: the proof.
-/
import Derived.Test.YtiniphmomjnocaaAMDraw
namespace Go.AM
open Go.RowKit (Below)
section
variable {P : Program} {N : Par} {base : Nat} {w0 : World} {nt : Nat} {ts : List (Array Value)} {inl : List Nat}

theorem mapO_get {α β : Type} {f : α → Option β} : ∀ {l : List α} {os : List β}, mapO f l = some os → ∀ {i : Nat} {o : α}, l[i]? = some o → ∃ m, os[i]? = some m ∧ f o = some m
  | [], _, _, _, _, h => by simp at h
  | x :: l, os, hm, i, o, h => by
    obtain ⟨m, ms, h1, h2, rfl⟩ := mapO_cons hm
    cases i with
    | zero => simp at h; subst h; exact ⟨m, rfl, h1⟩
    | succ i =>
      obtain ⟨m', h3, h4⟩ := mapO_get h2 (i := i) (o := o) (by simpa using h)
      exact ⟨m', by simpa using h3, h4⟩

theorem backB_spec : ∀ {bs : List (List Nat)} {k : Nat}, backB bs k = true → ∀ {j : Nat} {b : List Nat}, bs[j]? = some b → ∀ i ∈ b, i < k + j
  | [], _, _, _, _, h => by simp at h
  | x :: bs, k, hb, j, b, h => by
    simp only [backB, Bool.and_eq_true, List.all_eq_true, decide_eq_true_eq] at hb
    intro i hi
    cases j with
    | zero => simp at h; subst h; exact hb.1 i hi
    | succ j => have := backB_spec hb.2 (j := j) (b := b) (by simpa using h) i hi; omega

theorem set_getD {listed : Array Bool} {i j : Nat} (hi : i < listed.size) : (listed.setIfInBounds i true).getD j false = (listed.getD j false || decide (j = i)) := by
  simp only [Array.getD_eq_getD_getElem?, Array.getElem?_setIfInBounds]
  by_cases h : i = j
  · subst h; simp [hi]
  · have : ¬ j = i := fun e => h e.symm
    simp [h, this]

variable {ops : Array Oper} {os : List MO} {tr : List Tr} {s0 : S} {Qc : Exit → Act → World → Prop}

/-- the blocks that stand for nothing yet -/
def domD (tr : List Tr) (s0 : S) (L : Nat → Bool) (b : Nat) : Prop := s0.h.length ≤ b ∧ ∀ j t, tr[j]? = some t → L j = true → b ∉ t.u.map Prod.fst

theorem all_listed (hback : backB (ops.toList.map bindsOn) 0 = true) {listed : Array Bool} (hsz : listed.size = ops.size) (hr : Region.ready .any ops listed = []) : ∀ j, j < ops.size → listed.getD j false = true := by
  intro j
  induction j using Nat.strongRecOn with
  | ind j ih =>
    intro hj
    cases hc : listed.getD j false with
    | true => rfl
    | false =>
      exfalso
      have hmem : j ∈ Region.ready .any ops listed := by
        unfold Region.ready
        refine List.mem_filter.2 ⟨List.mem_range.2 hj, ?_⟩
        have h1 : listed.getD j true = false := by
          rw [Array.getD_eq_getD_getElem?] at hc ⊢
          have : j < listed.size := by omega
          simp [this] at hc ⊢
          exact hc
        have h2 : ops[j]? = some ops[j] := by simp [hj]
        rw [h1, h2]
        simp only [Bool.not_false, Bool.true_and, Option.map_some, Option.getD_some]
        rw [Array.all_eq_true_iff_forall_mem]
        intro e he
        cases hb : Region.binds .any e with
        | false => rfl
        | true =>
          simp only [Bool.not_true, Bool.false_or]
          have hin : e.on ∈ bindsOn ops[j] := by
            unfold bindsOn
            refine List.mem_filterMap.2 ⟨e, by simpa using he, by simp [hb]⟩
          have hlt := backB_spec hback (j := j) (b := bindsOn ops[j]) (by simp [hj]) e.on hin
          exact ih e.on (by omega) (by omega)
      rw [hr] at hmem
      cases hmem

theorem drw_fin {K : S → Prop} (hQ : ∀ s a w ρ, K s → RelS N base w0 nt ts ρ s a w → Qc .normal a w) (hlen : tr.length = ops.size) (hK : K (foldS (fun _ => true) 0 tr s0)) {listed : Array Bool} (hall : ∀ j, j < ops.size → listed.getD j false = true)
    {ρ : Map} {a : Act} {w : World} (hS : RelD N base w0 nt ts (domD tr s0 (listed.getD · false)) ρ (foldS (listed.getD · false) 0 tr s0) a w) : Qc .normal a w := by
  have hj : ∀ (j : Nat) (t : Tr), tr[j]? = some t → listed.getD (0 + j) false = true := by
    intro j t h
    rw [Nat.zero_add]
    refine hall j ?_
    by_cases hx : j < tr.length
    · omega
    · rw [List.getElem?_eq_none (by omega)] at h; cases h
  have h1 := hS.congr (s' := foldS (fun _ => true) 0 tr s0) (D' := domD tr s0 (listed.getD · false)) (fun r => foldS_lk r tr 0 _ _ (fun j t h _ => hj j t h) rfl) (fun b => foldS_gt b tr 0 _ _ (fun j t h _ => hj j t h) rfl) (by rw [foldS_stk, foldS_stk]) (fun _ h => h)
  refine hQ _ a w ρ hK ⟨h1.rel, h1.env, h1.stk, ?_, h1.defers, h1.size, h1.below, h1.kn, h1.fz⟩
  intro b hb
  have hl := foldS_len (L := fun _ => true) tr 0 s0
  refine h1.dom b ⟨by omega, ?_⟩
  intro j t h _ hin
  have := hl.2 j t h rfl b hin
  omega

theorem drw_any (hos : mapO (compO P inl nt ops) ops.toList = some os) (hback : backB (ops.toList.map bindsOn) 0 = true) (hst : Steps (Sound P) os tr s0) (hord : ordOK (ops.toList.map bindsOn) (tr.map (·.foot)) = true)
    {K : S → Prop} (hQ : ∀ s a w ρ, K s → RelS N base w0 nt ts ρ s a w → Qc .normal a w) (hK : K (foldS (fun _ => true) 0 tr s0)) :
    ∀ (fuel : Nat) (listed : Array Bool) (a : Act) (w : World) (ρ : Map), listed.size = ops.size → listed.toList.count false ≤ fuel →
      (∀ j b, (ops.toList.map bindsOn)[j]? = some b → listed.getD j false = true → ∀ i ∈ b, listed.getD i false = true) →
      RelD N base w0 nt ts (domD tr s0 (listed.getD · false)) ρ (foldS (listed.getD · false) 0 tr s0) a w → wpAny P .any ops Qc fuel listed a w := by
  obtain ⟨hl1, hat⟩ := steps_at os tr s0 0 hst
  have hlen : tr.length = ops.size := by rw [hl1, mapO_len hos]; simp
  have hdst : ∀ (j : Nat) (t : Tr), tr[j]? = some t → (∀ r, t.dst = some r → r ∈ t.foot.ws) ∧ t.u.map Prod.fst = t.foot.wb := by
    intro j t h
    have hj : j < os.length := by
      by_cases hx : j < tr.length
      · omega
      · rw [List.getElem?_eq_none (by omega)] at h; cases h
    obtain ⟨t', h1, h2, h3, _⟩ := hat j os[j] (by simp [hj])
    rw [h] at h1
    cases h1
    rw [h3]
    exact ⟨fun r hr => by simp [footOf, ← h2, hr], rfl⟩
  intro fuel
  induction fuel with
  | zero =>
    intro listed a w ρ hsz hc hcl hS
    have hall : ∀ j, j < ops.size → listed.getD j false = true := by
      intro j hj
      cases hx : listed.getD j false with
      | true => rfl
      | false =>
        exfalso
        have : false ∈ listed.toList := by
          rw [Array.getD_eq_getD_getElem?] at hx
          have hj' : j < listed.size := by omega
          simp [hj'] at hx
          rw [← hx]
          exact Array.getElem_mem_toList hj'
        have := List.count_pos_iff.2 this
        omega
    refine ⟨?_, drw_fin hQ hlen hK hall hS⟩
    unfold Region.ready
    refine List.filter_eq_nil_iff.2 ?_
    intro i hi
    have hi' := List.mem_range.1 hi
    have h1 := hall i hi'
    have h2 : listed.getD i true = true := by
      rw [Array.getD_eq_getD_getElem?] at h1 ⊢
      have : i < listed.size := by omega
      simp [this] at h1 ⊢
      exact h1
    simp [h2]
  | succ fuel ih =>
    intro listed a w ρ hsz hc hcl hS
    refine ⟨fun hr => drw_fin hQ hlen hK (all_listed hback hsz hr) hS, ?_⟩
    intro i hi
    unfold Region.ready at hi
    obtain ⟨hir, hcond⟩ := List.mem_filter.1 hi
    have hin : i < ops.size := List.mem_range.1 hir
    have hil : i < listed.size := by omega
    have hops : ops[i]? = some ops[i] := by simp [hin]
    rw [hops] at hcond
    simp only [Option.map_some, Option.getD_some, Bool.and_eq_true, Bool.not_eq_true', Array.all_eq_true_iff_forall_mem] at hcond
    obtain ⟨hLt, haft⟩ := hcond
    have hLi : listed.getD i false = false := by
      rw [Array.getD_eq_getD_getElem?] at hLt ⊢
      simp [hil] at hLt ⊢
      exact hLt
    have hbef : ∀ j ∈ bindsOn ops[i], listed.getD j false = true := by
      intro j hj
      unfold bindsOn at hj
      obtain ⟨e, he, hj⟩ := List.mem_filterMap.1 hj
      have h1 := haft e (by simpa using he)
      split at hj
      · rename_i hb; cases hj; simpa [hb] using h1
      · cases hj
    -- the operation
    obtain ⟨m, hm, hcm⟩ := mapO_get hos (i := i) (o := ops[i]) (by simp [hin])
    obtain ⟨hk, hmd, hd, hguard⟩ := compO_spec hcm
    obtain ⟨t, ht, htd, htf, hstep⟩ := hat i m hm
    -- the new list
    have hcl' : ∀ (j : Nat) (b : List Nat), (ops.toList.map bindsOn)[j]? = some b → (listed.setIfInBounds i true).getD j false = true → ∀ x ∈ b, (listed.setIfInBounds i true).getD x false = true := by
      intro j b hb hj x hx
      rw [set_getD hil] at hj ⊢
      by_cases hji : j = i
      · subst hji
        have : b = bindsOn ops[j] := by simp [hin] at hb; exact hb.symm
        subst this
        rw [hbef x hx]; rfl
      · simp only [hji, decide_false, Bool.or_false] at hj
        rw [hcl j b hb hj x hx]; rfl
    -- who is in conflict
    have low : ∀ (j : Nat) (t' : Tr), tr[j]? = some t' → j < i → conflict t'.foot t.foot = true → listed.getD j false = true := by
      intro j t' hj hlt hcf
      obtain ⟨c, h1, h2⟩ := ordOK_spec hord (i := j) (j := i) (f := t'.foot) (g := t.foot) (by simp [hj]) (by simp [ht]) hlt hcf
      have h3 := closure_closed (L := fun j => (listed.setIfInBounds i true).getD j false) (ops.toList.map bindsOn) [] (fun j b hb hL => hcl' j b hb (by simpa using hL)) (by simp) i c h1 (by simp only [set_getD hil, decide_true, Bool.or_true]) j h2
      simp only [set_getD hil] at h3
      have : ¬ j = i := by omega
      simpa [this] using h3
    have high : ∀ (j : Nat) (t' : Tr), tr[j]? = some t' → i < j → conflict t.foot t'.foot = true → listed.getD j false = true → False := by
      intro j t' hj hlt hcf hL
      obtain ⟨c, h1, h2⟩ := ordOK_spec hord (i := i) (j := j) (f := t.foot) (g := t'.foot) (by simp [ht]) (by simp [hj]) hlt hcf
      have h3 := closure_closed (L := fun j => listed.getD j false) (ops.toList.map bindsOn) [] (fun j b hb hL => hcl j b hb (by simpa using hL)) (by simp) j c h1 hL i h2
      simp only [hLi] at h3
      cases h3
    -- what it looks at stands as in the text's order
    have hlk : ∀ r ∈ t.foot.rs, lk r (foldS (fun j => decide (j < 0 + i)) 0 tr s0).env = lk r (foldS (listed.getD · false) 0 tr s0).env := by
      intro r hr
      refine foldS_lk r tr 0 _ _ (fun j t' hj hd' => ?_) rfl
      have hw := (hdst j t' hj).1 r hd'
      rcases Nat.lt_trichotomy j i with hlt | rfl | hgt
      · rw [Nat.zero_add, Nat.zero_add, low j t' hj hlt (by simp [conflict, mem_meets hw (List.mem_append_left t.foot.ws hr)])]
        simpa using hlt
      · rw [Nat.zero_add, hLi]; simp
      · rw [Nat.zero_add, Nat.zero_add]
        cases hx : listed.getD j false with
        | true => exact (high j t' hj hgt (by simp [conflict, mem_meets hw hr]) hx).elim
        | false => simp; omega
    have hgt' : ∀ b ∈ t.foot.rb, gt (foldS (fun j => decide (j < 0 + i)) 0 tr s0).h b = gt (foldS (listed.getD · false) 0 tr s0).h b := by
      intro b hb
      refine foldS_gt b tr 0 _ _ (fun j t' hj hd' => ?_) rfl
      have hw : b ∈ t'.foot.wb := by rw [← (hdst j t' hj).2]; exact hd'
      rcases Nat.lt_trichotomy j i with hlt | rfl | hgt
      · rw [Nat.zero_add, Nat.zero_add, low j t' hj hlt (by simp [conflict, mem_meets hw (List.mem_append_left t.foot.wb hb)])]
        simpa using hlt
      · rw [Nat.zero_add, hLi]; simp
      · rw [Nat.zero_add, Nat.zero_add]
        cases hx : listed.getD j false with
        | true => exact (high j t' hj hgt (by simp [conflict, mem_meets hw hb]) hx).elim
        | false => simp; omega
    have hLfun : (fun j => (listed.setIfInBounds i true).getD j false) = (fun j => listed.getD j false || decide (j = i)) := by
      funext j; exact set_getD hil
    have hins := foldS_ins (L := fun j => listed.getD j false) (i := i) (t := t) hLi tr 0 s0 ⟨i, by omega, ht⟩
    have hcount : (listed.setIfInBounds i true).toList.count false ≤ fuel := by
      rw [Array.toList_setIfInBounds, List.count_set (by simpa using hil)]
      have hx : listed.toList[i]'(by simpa using hil) = false := by
        rw [Array.getD_eq_getD_getElem?] at hLi
        simpa [hil] using hLi
      rw [hx]
      simp
      have : 0 < listed.toList.count false := List.count_pos_iff.2 (by rw [← hx]; exact List.getElem_mem _)
      simp at this hc
      omega
    -- the state behind it
    have next : ∀ a' w' ρ', RelD N base w0 nt ts (domD tr s0 fun j => listed.getD j false || decide (j = i)) ρ' (appT t (foldS (listed.getD · false) 0 tr s0)) a' w' → wpAny P .any ops Qc fuel (listed.setIfInBounds i true) a' w' := by
      intro a' w' ρ' hR
      refine ih _ a' w' ρ' (by simpa using hsz) hcount hcl' ?_
      rw [hLfun]
      refine hR.congr (fun r => (hins.1 ?_ r).symm) (fun b => (hins.2 ?_ b).symm) (by rw [foldS_stk]; exact foldS_stk tr 0 s0) (fun _ h => h)
      · intro r hr j t' hj hlt hL hd'
        rw [Nat.zero_add] at hlt hL
        exact high j t' hj hlt (by simp [conflict, mem_meets ((hdst i t ht).1 r hr) (List.mem_append_right t'.foot.rs ((hdst j t' hj).1 r hd'))]) hL
      · intro b hb j t' hj hlt hL hd'
        rw [Nat.zero_add] at hlt hL
        have hb1 : b ∈ t.foot.wb := by rw [← (hdst i t ht).2]; exact hb
        have hb2 : b ∈ t'.foot.wb := by rw [← (hdst j t' hj).2]; exact hd'
        exact high j t' hj hlt (by simp [conflict, mem_meets hb1 (List.mem_append_right t'.foot.rb hb2)]) hL
    have hrs : ∀ x ∈ opdsOf m.op, ∀ r ∈ opdSlots x, r ∈ t.foot.rs := by
      intro x hx r hr
      rw [htf]
      simp only [footOf]
      exact List.mem_append_left _ (List.mem_flatMap.2 ⟨x, hx, hr⟩)
    have hgs : ∀ g b, m.guard = some (g, b) → g ∈ t.foot.rs := by
      intro g b hg
      rw [htf]
      simp only [footOf, hg]
      exact List.mem_append_right _ (by simp)
    have he : ∀ x ∈ opdsOf m.op, ev (foldS (fun j => decide (j < 0 + i)) 0 tr s0).env x = ev (foldS (listed.getD · false) 0 tr s0).env x := by
      intro x hx
      cases x with
      | c v => rfl
      | s r => exact hlk r (hrs _ hx r (by simp [opdSlots]))
    have hh : ∀ b ∈ reach1 (foldS (fun j => decide (j < 0 + i)) 0 tr s0).h (frefs m.op (foldS (fun j => decide (j < 0 + i)) 0 tr s0).env), gt (foldS (fun j => decide (j < 0 + i)) 0 tr s0).h b = gt (foldS (listed.getD · false) 0 tr s0).h b := by
      intro b hb
      refine hgt' b ?_
      rw [htf]
      exact hb
    have hlI := foldS_len (L := fun j => decide (j < 0 + i)) tr 0 s0
    have hlT := foldS_len (L := fun _ => true) tr 0 s0
    have hu : ∀ b, b ∈ t.u.map Prod.fst → (foldS (fun j => decide (j < 0 + i)) 0 tr s0).h.length ≤ b → ρ b = none := by
      intro b hb hle
      refine hS.dom b ⟨by omega, ?_⟩
      intro j t' hj hL hin'
      have hw : b ∈ t'.foot.wb := by rw [← (hdst j t' hj).2]; exact hin'
      have hb' : b ∈ t.foot.wb := by rw [← (hdst i t ht).2]; exact hb
      rcases Nat.lt_trichotomy j i with hlt | rfl | hgt
      · have := hlI.2 j t' hj (by simpa using hlt) b hin'
        omega
      · simp only [hLi] at hL; cases hL
      · exact high j t' hj hgt (by simp [conflict, mem_meets hb' (List.mem_append_right t'.foot.rb hw)]) hL
    have hDnew : ∀ b, domD tr s0 (fun j => listed.getD j false || decide (j = i)) b → domD tr s0 (listed.getD · false) b ∧ b ∉ t.u.map Prod.fst := by
      intro b hb
      refine ⟨⟨hb.1, fun j t' hj hL => hb.2 j t' hj (by simp only at hL ⊢; rw [hL]; rfl)⟩, hb.2 i t ht (by simp)⟩
    have hrun : opR (Sound P) (foldS (fun j => decide (j < 0 + i)) 0 tr s0).h (foldS (fun j => decide (j < 0 + i)) 0 tr s0).h.length (foldS (fun j => decide (j < 0 + i)) 0 tr s0).env m.op t.v t.u →
        (ops[i]).wp P a w (wpAny P .any ops Qc fuel (listed.setIfInBounds i true)) Qc := by
      intro hop
      have hop' := opR_frame he hh hop
      have fin : ∀ val w' ρ', After N base ρ (foldS (listed.getD · false) 0 tr s0).h w t.v t.u val w' ρ' → wpAny P .any ops Qc fuel (listed.setIfInBounds i true) (a.put (ops[i]).dst val) w' := by
        intro val w' ρ' hA
        refine next _ _ ρ' ?_
        have := hS.after hA (d := (ops[i]).dst) hd hDnew
        rw [← hmd, ← htd] at this ⊢
        exact this
      by_cases hcall : isC m.op
      · exact opR_sound hk hS.env hS.rel (.inl hcall) hu hop' fin
      · by_cases hnx : (foldS (fun j => decide (j < 0 + i)) 0 tr s0).h.length ∈ t.u.map Prod.fst
        · exact opR_sound hk hS.env hS.rel (.inr (hu _ hnx (Nat.le_refl _))) hu hop' fin
        · have hM : opR (Sound P) (foldS (listed.getD · false) 0 tr s0).h (foldS (fun _ => true) 0 tr s0).h.length (foldS (listed.getD · false) 0 tr s0).env m.op t.v t.u := by
            cases hmop : m.op with
            | call f args => rw [hmop] at hcall; exact absurd trivial hcall
            | icall f args => rw [hmop] at hcall; exact absurd trivial hcall
            | pcall f args => rw [hmop] at hcall; exact absurd trivial hcall
            | dcall f args => rw [hmop] at hcall; exact absurd trivial hcall
            | _ => rw [hmop] at hop'; exact evalOp_nx hop' hnx _
          refine opR_sound hk hS.env hS.rel (nx := (foldS (fun _ => true) 0 tr s0).h.length) (.inr ?_) ?_ hM fin
          · refine hS.dom _ ⟨hlT.1, ?_⟩
            intro j t' hj _ hin'
            have := hlT.2 j t' hj rfl _ hin'
            omega
          · intro b hb hle
            have := hlT.2 i t ht rfl b hb
            omega
    have hskip : t.v = .tup [] → t.u = [] → wpAny P .any ops Qc fuel (listed.setIfInBounds i true) (a.put (ops[i]).dst undef) w := by
      intro hv hu0
      refine next _ _ ρ ?_
      have := (hS.skip (d := (ops[i]).dst) hd).congr (D' := domD tr s0 fun j => listed.getD j false || decide (j = i)) (s' := appT t (foldS (listed.getD · false) 0 tr s0)) (fun r => by rw [← hmd, ← htd]; simp [appT, hv]) (fun b => by simp [appT, hu0, upd]) rfl (fun b hb => (hDnew b hb).1)
      exact this
    unfold wpOp
    rw [hops]
    simp only
    rcases hguard with ⟨hg1, hg2⟩ | ⟨j, b, d, hg1, hg2, hg3⟩
    · simp only [Region.wanted, hg1, if_true]
      rcases hstep with ⟨_, hop⟩ | ⟨⟨g, b, hg, _⟩, _, _⟩
      · exact .inl (hrun hop)
      · rw [hg2] at hg; cases hg
    · have hw := wanted_of hS.env hg1 hg2
      have hlkd := hlk d (hgs d b hg3)
      rcases hstep with ⟨hgr, hop⟩ | ⟨⟨g, b', hg, hsk⟩, hv, hu0⟩
      · rcases hgr with hgn | ⟨g, b', hg, hb'⟩
        · rw [hg3] at hgn; cases hgn
        · rw [hg3] at hg
          cases hg
          rw [hlkd] at hb'
          rw [hw.1 b hb']
          simp only [decide_true, if_true]
          exact .inl (hrun hop)
      · rw [hg3] at hg
        cases hg
        rw [hlkd] at hsk
        rcases hsk with hsk | ⟨c, hc', hne⟩
        · rw [hw.2 hsk]
          simp only [Bool.false_eq_true, if_false]
          exact hskip hv hu0
        · rw [hw.1 c hc']
          simp only [hne, decide_false, Bool.false_eq_true, if_false]
          exact hskip hv hu0

theorem RelS.drew {ρ : Map} {s : S} {a : Act} {w : World} (hS : RelS N base w0 nt ts ρ s a w) : RelS N base w0 nt ts ρ s a { w with drawn := w.drawn + 1 } := by
  have hk : Keeps ρ w (Free N ρ s.h) ρ { w with drawn := w.drawn + 1 } (Free N ρ s.h) := ⟨fun _ r h => ⟨r, h, rfl⟩, fun _ _ h => ⟨h, rfl⟩⟩
  have hb : Below base w { w with drawn := w.drawn + 1 } := ⟨rfl, rfl, rfl, Nat.le_refl _, fun _ _ => rfl⟩
  obtain ⟨R, hE, hst, hdom, hdf, hsz, hB, hkn, hfz⟩ := hS
  obtain ⟨h1, h2, h0, h3, h4, h5⟩ := R
  refine ⟨⟨h1, h2, h0, ?_, h4, h5⟩, fun s => (hE s).keep hk, hst.keep hk, hdom, hdf, hsz, hB.trans hb, hkn, hfz⟩
  intro b hne
  obtain ⟨r, q1, q2⟩ := h3 b hne
  exact ⟨r, q1, q2.keep hk fun _ _ => rfl⟩

theorem drw_sound {Γ : Ctr} (hΓ : Γ = Sound P) {ops : Array Oper} {os : List MO} (hos : mapO (compO P inl nt ops) ops.toList = some os) (hback : backB (ops.toList.map bindsOn) 0 = true) (hmix : P.follows .mixedOrders = true)
    {Qc : Exit → Act → World → Prop} {K : S → Prop} (hQ : ∀ s a w ρ, K s → RelS N base w0 nt ts ρ s a w → Qc .normal a w) {id : Nat} {s : S} {a : Act} {w : World} {ρ : Map}
    (hW : drwW Γ os s [] fun feet s' => ordOK (ops.toList.map bindsOn) feet = true ∧ K s') (hS : RelS N base w0 nt ts ρ s a w) : (Code.region id ops true).wp P Qc a w := by
  obtain ⟨tr, hst, hord, hK⟩ := drwW_steps os s [] _ 0 hW
  rw [hΓ] at hst
  rw [List.nil_append] at hord
  refine wp_region_any hmix ?_
  have hD := hS.drew
  have hf : ∀ j, (Array.replicate ops.size false).getD j false = false := by
    intro j
    rw [Array.getD_eq_getD_getElem?]
    by_cases h : j < ops.size <;> simp [h]
  have hfun : (fun j => (Array.replicate ops.size false).getD j false) = fun _ => false := funext hf
  refine drw_any hos hback hst hord hQ hK ops.size _ a _ ρ (by simp) ?_ ?_ ?_
  · simp
  · intro j b _ h
    rw [hf] at h; cases h
  · rw [hfun, foldS_none tr 0 s (fun _ _ => rfl)]
    exact ⟨hD.rel, hD.env, hD.stk, fun b hb => hD.dom b hb.1, hD.defers, hD.size, hD.below, hD.kn, hD.fz⟩
end
end Go.AM
