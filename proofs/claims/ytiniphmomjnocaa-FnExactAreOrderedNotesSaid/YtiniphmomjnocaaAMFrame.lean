/-
  THE ABSTRACT MACHINE: what an operation looks at: its operands, and the blocks that these name.
-/
import Derived.Test.YtiniphmomjnocaaAMCode
namespace Go.AM

theorem refss_append (xs ys : List AV) : refss (xs ++ ys) = refss xs ++ refss ys := by
  induction xs with
  | nil => rfl
  | cons x xs ih => simp [refss, ih]

theorem refss_mem {v : AV} {vs : List AV} (h : v ∈ vs) {b : Nat} (hb : b ∈ refs v) : b ∈ refss vs := by
  induction vs with
  | nil => cases h
  | cons x xs ih =>
    simp only [refss, List.mem_append]
    rcases List.mem_cons.1 h with rfl | h
    · exact .inl hb
    · exact .inr (ih h)

theorem refss_mem_inv {vs : List AV} {b : Nat} (h : b ∈ refss vs) : ∃ v ∈ vs, b ∈ refs v := by
  induction vs with
  | nil => simp [refss] at h
  | cons x xs ih =>
    simp only [refss, List.mem_append] at h
    rcases h with h | h
    · exact ⟨x, by simp, h⟩
    · obtain ⟨v, h1, h2⟩ := ih h; exact ⟨v, by simp [h1], h2⟩

section
variable {h h' : List Blk} {e e' : Env}

theorem cellsOf_refs {v : AV} {vs : List AV} (hc : cellsOf v = some vs) : refss vs = refs v := by
  cases v <;> simp [cellsOf] at hc <;> subst hc <;> simp [refss, refs]

theorem toT_frame {v : AV} (hh : ∀ b ∈ refs v, gt h b = gt h' b) : toT h v = toT h' v := by
  cases v <;> simp [toT]
  rename_i b
  rw [hh b (by simp [refs])]

theorem toTs_frame {vs : List AV} (hh : ∀ b ∈ refss vs, gt h b = gt h' b) : toTs h vs = toTs h' vs := by
  induction vs with
  | nil => rfl
  | cons v vs ih =>
    simp only [toTs]
    rw [toT_frame (fun b hb => hh b (by simp [refss, hb])), ih (fun b hb => hh b (by simp [refss, hb]))]

theorem frzT_frame {v : AV} (hh : ∀ b ∈ refs v, gt h b = gt h' b) : frzT h v = frzT h' v := by
  cases v <;> simp [frzT]
  rename_i b
  rw [hh b (by simp [refs])]

theorem frzTs_frame {vs : List AV} (hh : ∀ b ∈ refss vs, gt h b = gt h' b) : frzTs h vs = frzTs h' vs := by
  induction vs with
  | nil => rfl
  | cons v vs ih =>
    simp only [frzTs]
    rw [frzT_frame (fun b hb => hh b (by simp [refss, hb])), ih (fun b hb => hh b (by simp [refss, hb]))]

theorem reach1_l {h : List Blk} {rs : List Nat} {b : Nat} (hb : b ∈ rs) : b ∈ reach1 h rs := List.mem_append_left _ (List.mem_append_left _ hb)
theorem reach1_m {h : List Blk} {rs : List Nat} {b c : Nat} (hb : b ∈ rs) (hc : c ∈ refsB (gt h b)) : c ∈ reach1 h rs := List.mem_append_left _ (List.mem_append_right _ (List.mem_flatMap.2 ⟨b, hb, hc⟩))
theorem reach1_r {h : List Blk} {rs : List Nat} {b : Nat} (hb : b ∈ reach h 200 rs []) : b ∈ reach1 h rs := List.mem_append_right _ hb

theorem reach_acc {h : List Blk} : ∀ (n : Nat) (todo acc : List Nat), ∀ b ∈ acc, b ∈ reach h n todo acc
  | 0, _, _, b, hb => by simpa [reach] using hb
  | n + 1, [], acc, b, hb => by simpa [reach] using hb
  | n + 1, c :: todo, acc, b, hb => by
    simp only [reach]
    split
    · exact reach_acc n _ _ b hb
    · exact reach_acc n _ _ b (by simp [hb])

/-- agreement on these and on what they refer to -/
def Agree (h h' : List Blk) (rs : List Nat) : Prop := ∀ b ∈ rs, gt h b = gt h' b ∧ ∀ c ∈ refsB (gt h b), gt h c = gt h' c

theorem agree_of {h h' : List Blk} {rs : List Nat} (hh : ∀ b ∈ reach1 h rs, gt h b = gt h' b) : Agree h h' rs := fun b hb => ⟨hh b (reach1_l hb), fun c hc => hh c (reach1_m hb hc)⟩
theorem Agree.sub {h h' : List Blk} {rs rs' : List Nat} (hh : Agree h h' rs) (hs : ∀ b ∈ rs', b ∈ rs) : Agree h h' rs' := fun b hb => hh b (hs b hb)

theorem reach_frame {h h' : List Blk} : ∀ (n : Nat) (todo acc : List Nat), (∀ b ∈ reach h n todo acc, gt h b = gt h' b) → reach h' n todo acc = reach h n todo acc
  | 0, _, _, _ => rfl
  | n + 1, [], acc, _ => rfl
  | n + 1, c :: todo, acc, hh => by
    simp only [reach] at hh ⊢
    split
    · rename_i hc; rw [if_pos hc] at hh; exact reach_frame n todo acc hh
    · rename_i hc
      rw [if_neg hc] at hh
      have : gt h c = gt h' c := hh c (reach_acc n _ _ c (by simp))
      rw [← this]
      exact reach_frame n _ _ hh

theorem frz1_frame {v : AV} (hh : Agree h h' (refs v)) : frz1 h v = frz1 h' v := by
  cases v <;> simp only [frz1]
  · rename_i cs
    rw [frzTs_frame fun b hb => (hh b (by simpa [refs] using hb)).1]
  · rename_i b off
    obtain ⟨hb, hc⟩ := hh b (by simp [refs])
    rw [← hb]
    cases hg : gt h b with
    | box cs => simp only; rw [frzTs_frame fun c hc' => hc c (by rw [hg]; exact hc')]
    | _ => rfl
  · rename_i b; rw [(hh b (by simp [refs])).1]

theorem frz1s_frame {vs : List AV} (hh : Agree h h' (refss vs)) : frz1s h vs = frz1s h' vs := by
  induction vs with
  | nil => rfl
  | cons v vs ih =>
    simp only [frz1s]
    rw [frz1_frame (hh.sub fun c hc => by simp [refss, hc]), ih (hh.sub fun c hc => by simp [refss, hc])]

theorem frz_frame {v : AV} (hh : Agree h h' (refs v)) : frz h v = frz h' v := by
  by_cases hx : ∃ g cs, v = .fn g cs
  · obtain ⟨g, cs, rfl⟩ := hx
    simp only [frz]
    rw [frz1s_frame (hh.sub fun c hc => by simpa [refs] using hc)]
  · have e : ∀ h, frz h v = frz1 h v := by
      intro h
      cases v <;> first | rfl | exact absurd ⟨_, _, rfl⟩ hx
    rw [e, e, frz1_frame hh]

theorem frzs_frame {vs : List AV} (hh : Agree h h' (refss vs)) : frzs h vs = frzs h' vs := by
  induction vs with
  | nil => rfl
  | cons v vs ih =>
    simp only [frzs]
    rw [frz_frame (hh.sub fun c hc => by simp [refss, hc]), ih (hh.sub fun c hc => by simp [refss, hc])]

/-- a call that hands over roots looks at what hangs on its arguments alone -/
theorem sub_frame {vs : List AV} (hh : ∀ b ∈ reach h 200 (refss vs) [], gt h b = gt h' b) : subIds h' vs = subIds h vs ∧ subH h' (subIds h vs) = subH h (subIds h vs) ∧ closedB h' (subIds h vs) (refss vs) = closedB h (subIds h vs) (refss vs) := by
  refine ⟨reach_frame 200 _ _ hh, ?_, ?_⟩
  · unfold subH
    exact List.map_congr_left fun b hb => by rw [hh b hb]
  · unfold closedB
    congr 1
    rw [Bool.eq_iff_iff, List.all_eq_true, List.all_eq_true]
    constructor
    · intro q b hb; rw [hh b hb]; exact q b hb
    · intro q b hb; rw [← hh b hb]; exact q b hb

theorem parts_frame {cs : List AV} {ps : List (Nat × Nat × Opd)} (he : ∀ p ∈ ps, ev e p.2.2 = ev e' p.2.2) : parts e cs ps = parts e' cs ps := by
  induction ps generalizing cs with
  | nil => rfl
  | cons p ps ih =>
    obtain ⟨o, n, x⟩ := p
    have h1 := he (o, n, x) (by simp)
    simp only at h1
    have h2 := fun cs => ih (cs := cs) (fun p hp => he p (by simp [hp]))
    simp only [parts, h1, h2]

theorem bparts_frame {cs : List AV} {ps : List (Nat × Opd)} (he : ∀ p ∈ ps, ev e p.2 = ev e' p.2) : bparts e cs ps = bparts e' cs ps := by
  induction ps generalizing cs with
  | nil => rfl
  | cons p ps ih =>
    obtain ⟨n, x⟩ := p
    have h1 := he (n, x) (by simp)
    simp only at h1
    have h2 := fun cs => ih (cs := cs) (fun p hp => he p (by simp [hp]))
    simp only [bparts, h1, h2]

theorem elems_frame {sz : Nat} {es : List (List T)} {ps : List (Nat × Opd)} (he : ∀ p ∈ ps, ev e p.2 = ev e' p.2) (hh : ∀ p ∈ ps, ∀ b ∈ refs (ev e p.2), gt h b = gt h' b) : elems h e sz es ps = elems h' e' sz es ps := by
  induction ps generalizing es with
  | nil => rfl
  | cons p ps ih =>
    obtain ⟨n, x⟩ := p
    have h1 := he (n, x) (by simp)
    have h3 := hh (n, x) (by simp)
    simp only at h1 h3
    have h2 := fun es => ih (es := es) (fun p hp => he p (by simp [hp])) (fun p hp => hh p (by simp [hp]))
    simp only [elems, h2, ← h1]
    cases hc : cellsOf (ev e x) with
    | none => rfl
    | some vs =>
      simp only
      rw [toTs_frame (h := h) (h' := h') (fun b hb => h3 b (by rw [← cellsOf_refs hc]; exact hb))]

theorem lenAV_frame {st : Bool} {v : AV} (hh : ∀ b ∈ refs v, gt h b = gt h' b) : lenAV h st v = lenAV h' st v := by
  cases v with
  | own b => cases st <;> simp only [lenAV]; rw [hh b (by simp [refs])]
  | t x => cases st <;> cases x <;> rfl
  | _ => cases st <;> rfl

theorem isNilAV_frame {st : Bool} {v : AV} (hh : ∀ b ∈ refs v, gt h b = gt h' b) : isNilAV h st v = isNilAV h' st v := by
  cases v with
  | own b => cases st <;> simp only [isNilAV]; rw [hh b (by simp [refs])]
  | t x => cases st <;> cases x <;> first | rfl | (rename_i es; cases es <;> rfl)
  | _ => cases st <;> rfl

theorem srcOf_frame {sz : Nat} {mv : Bool} {v : AV} (hh : ∀ b ∈ refs v, gt h b = gt h' b) : srcOf h sz mv v = srcOf h' sz mv v := by
  cases v with
  | own b => simp only [srcOf]; rw [hh b (by simp [refs])]
  | t x => cases x <;> rfl
  | _ => rfl

theorem bnd_frame {d : Nat} {o : Option Opd} (he : ∀ x, o = some x → ev e x = ev e' x) : bnd e d o = bnd e' d o := by
  cases o with
  | none => rfl
  | some x => simp [bnd, he x rfl]

/-- THE FRAME -/
theorem evalOp_frame {nx : Nat} {k : MOp} (he : ∀ x ∈ opdsOf k, ev e x = ev e' x) (hh : ∀ x ∈ opdsOf k, ∀ b ∈ refs (ev e x), gt h b = gt h' b) : evalOp h nx e k = evalOp h' nx e' k := by
  cases k with
  | mov x => simp [evalOp, he x (by simp [opdsOf])]
  | pick c a b => simp [evalOp, he c (by simp [opdsOf]), he a (by simp [opdsOf]), he b (by simp [opdsOf])]
  | alloc zs => rfl
  | box x => simp [evalOp, he x (by simp [opdsOf])]
  | build zs ps =>
    simp only [evalOp]
    rw [parts_frame (fun p hp => he p.2.2 (by simp only [opdsOf, List.mem_map]; exact ⟨p, hp, rfl⟩))]
  | bslice el sz n zs ps =>
    simp only [evalOp]
    rw [elems_frame (fun p hp => he p.2 (by simp only [opdsOf, List.mem_map]; exact ⟨p, hp, rfl⟩)) (fun p hp => hh p.2 (by simp only [opdsOf, List.mem_map]; exact ⟨p, hp, rfl⟩))]
  | bptrs n ps =>
    simp only [evalOp]
    rw [bparts_frame (fun p hp => he p.2 (by simp only [opdsOf, List.mem_map]; exact ⟨p, hp, rfl⟩))]
  | load n x =>
    have h1 := he x (by simp [opdsOf])
    have h2 := hh x (by simp [opdsOf])
    simp only [evalOp, ← h1]
    cases hx : ev e x <;> simp only
    · rw [h2 _ (by rw [hx]; simp [refs])]
    · rw [h2 _ (by rw [hx]; simp [refs])]
  | store n x v =>
    have h1 := he x (by simp [opdsOf])
    have h2 := hh x (by simp [opdsOf])
    have h3 := he v (by simp [opdsOf])
    have h4 := hh v (by simp [opdsOf])
    simp only [evalOp, ← h1, ← h3]
    cases hc : cellsOf (ev e v) with
    | none => rfl
    | some vs =>
      simp only
      rw [toTs_frame (h := h) (h' := h') (fun b hb => h4 b (by rw [← cellsOf_refs hc]; exact hb))]
      cases hx : ev e x <;> simp only
      · rw [h2 _ (by rw [hx]; simp [refs])]
      · rw [h2 _ (by rw [hx]; simp [refs])]
  | nilchk x => simp [evalOp, he x (by simp [opdsOf])]
  | bin op x y => simp [evalOp, he x (by simp [opdsOf]), he y (by simp [opdsOf])]
  | beq n x y => simp [evalOp, he x (by simp [opdsOf]), he y (by simp [opdsOf])]
  | aeq n ks x y => simp [evalOp, he x (by simp [opdsOf]), he y (by simp [opdsOf])]
  | nileq n sl x =>
    simp only [evalOp, ← he x (by simp [opdsOf])]
    rw [isNilAV_frame (hh x (by simp [opdsOf]))]
  | mm m x y => simp [evalOp, he x (by simp [opdsOf]), he y (by simp [opdsOf])]
  | un op x => simp [evalOp, he x (by simp [opdsOf])]
  | conv k x => simp [evalOp, he x (by simp [opdsOf])]
  | mkfn f caps =>
    simp only [evalOp]
    rw [List.map_congr_left (fun x hx => he x (by simpa [opdsOf] using hx))]
  | mkslice el sz bytes zs l c => simp [evalOp, he l (by simp [opdsOf]), he c (by simp [opdsOf])]
  | slice sz x lo hi =>
    have h1 := he x (by simp [opdsOf])
    have h2 : ∀ d, bnd e d lo = bnd e' d lo := fun d => bnd_frame fun y hy => he y (by subst hy; simp [opdsOf])
    have h3 : ∀ d, bnd e d hi = bnd e' d hi := fun d => bnd_frame fun y hy => he y (by subst hy; simp [opdsOf])
    have h4 := hh x (by simp [opdsOf])
    simp only [evalOp, ← h1, h2, h3]
    cases hx : ev e x with
    | own b => cases sz <;> simp only [h4 b (by rw [hx]; simp [refs])]
    | t x => cases sz <;> cases x <;> rfl
    | _ => cases sz <;> rfl
  | faddr off x => simp [evalOp, he x (by simp [opdsOf])]
  | field off n x => simp [evalOp, he x (by simp [opdsOf])]
  | iaddr sz x i =>
    have h1 := he x (by simp [opdsOf])
    have h2 := hh x (by simp [opdsOf])
    have h3 := he i (by simp [opdsOf])
    simp only [evalOp, ← h1, ← h3]
    cases hx : ev e x with
    | own b => simp only; rw [h2 b (by rw [hx]; simp [refs])]
    | t x => cases x <;> rfl
    | _ => rfl
  | index x i => simp [evalOp, he x (by simp [opdsOf]), he i (by simp [opdsOf])]
  | ext x i => simp [evalOp, he x (by simp [opdsOf])]
  | len st x =>
    simp only [evalOp, ← he x (by simp [opdsOf])]
    rw [lenAV_frame (hh x (by simp [opdsOf]))]
  | append el sz bytes mv x y =>
    have h1 := he x (by simp [opdsOf])
    have h2 := hh x (by simp [opdsOf])
    have h3 := he y (by simp [opdsOf])
    have h4 := hh y (by simp [opdsOf])
    simp only [evalOp, ← h1, ← h3]
    rw [srcOf_frame h4]
    cases hx : ev e x with
    | own b => simp only; rw [h2 b (by rw [hx]; simp [refs])]
    | t x => cases x <;> rfl
    | _ => rfl
  | call f args => rfl
  | icall f args => rfl
  | pcall f args => rfl
  | dcall f args => rfl

theorem kill_fst (ks : List Nat) : (kill ks).map Prod.fst = ks := by
  induction ks with
  | nil => rfl
  | cons k ks ih => simpa [kill] using ih

/-- an operation that makes no block does not look at the new number -/
theorem evalOp_nx {nx : Nat} {k : MOp} {v : AV} {u : List (Nat × Blk)} (hev : evalOp h nx e k = some (v, u)) (hn : nx ∉ u.map Prod.fst) (nx' : Nat) : evalOp h nx' e k = some (v, u) := by
  cases k <;> try exact hev
  case alloc zs => simp [evalOp] at hev; obtain ⟨_, rfl⟩ := hev; simp at hn
  case box x =>
    simp only [evalOp] at hev ⊢
    split at hev
    · cases hev; simp at hn
    · cases hev
  case bslice el sz n zs ps =>
    simp only [evalOp] at hev ⊢
    repeat' split at hev
    all_goals first
      | (cases hev; done)
      | (cases hev; simp at hn)
  case bptrs n ps =>
    simp only [evalOp] at hev ⊢
    repeat' split at hev
    all_goals first
      | (cases hev; done)
      | (cases hev; simp at hn)
  case mkslice el sz bytes zs l c =>
    simp only [evalOp] at hev ⊢
    repeat' split at hev
    all_goals first
      | (cases hev; done)
      | (cases hev; simp at hn)
  case slice sz x lo hi =>
    simp only [evalOp] at hev ⊢
    cases hb : bnd e 0 lo with
    | none => simp only [hb] at hev; cases hev
    | some l =>
      simp only [hb] at hev ⊢
      cases sz with
      | none =>
        cases hx : ev e x with
        | t x => simp only [hx] at hev ⊢; cases x <;> exact hev
        | _ => simp only [hx] at hev; cases hev
      | some sz =>
        cases hx : ev e x with
        | own b =>
          simp only [hx] at hev
          repeat' split at hev
          all_goals first
            | (cases hev; done)
            | (cases hev; simp at hn)
        | t x => simp only [hx] at hev ⊢; cases x <;> exact hev
        | _ => simp only [hx] at hev; cases hev
  case append el sz bytes mv x y =>
    simp only [evalOp] at hev ⊢
    repeat' split at hev
    all_goals first
      | (cases hev; done)
      | (cases hev; simp at hn)
end
end Go.AM
