/-
  THE ABSTRACT MACHINE: every operation that is no call is sound: the whole.
-/
import Derived.Test.YtiniphmomjnocaaAMOps7
namespace Go.AM
open Go.RowKit (Below)

section
variable {P : Program} {N : Par} {base : Nat} {ρ : Map} {h : List Blk} {w w' : World} {F : Nat → Prop} {e : Env} {a : Act}

theorem ok_load (R : Rel N base ρ h w) {t : TypeId} {n : Option Nat} (hn : loadN P t = some n) {x : AV} {xv : Value} {v : AV} {u : List (Nat × Blk)}
    (hv : (match x with
    | .ptr b off => match gt h b with
      | .box cs => (loadA cs off n).map (·, ([] : List (Nat × Blk)))
      | _ => none
    | .eptr b i sz off => match gt h b with
      | .arr _ sz' _ es => if sz = sz' then (match es[i]? with
        | some cs => (loadT cs off n).map (·, [])
        | none => none) else none
      | _ => none
    | .iptr cs off => (loadT cs off n).map (·, [])
    | _ => none) = some (v, u)) (hx : RV ρ w (Free N ρ h) x xv) :
    OpOK P N base ρ h w (do pure (.value (← Instr.loadAt t xv))) v u := by
  cases hx with
  | @ptr b off g r hr hrv =>
    simp only at hv
    split at hv
    · rename_i cs hb
      obtain ⟨v', hv', he⟩ := Option.map_eq_some_iff.1 hv
      cases he
      obtain ⟨r', h1, h2⟩ := R.blk b (by rw [hb]; intro hc; cases hc)
      rw [hr] at h1
      cases h1
      rw [hb] at h2
      obtain ⟨g', c, te, hv2, _, hh, hcs, hone⟩ := h2
      rw [hrv] at hv2
      cases hv2
      obtain ⟨val, h3, h4⟩ := loadA_sound (P := P) hn hh hcs hone hv'
      exact .same R (by simp [Instr.loadAt, Instr.sureAddr, h3]) h4
    · cases hv
  | @eptr b i sz off g m cap r hr hrv =>
    simp only at hv
    split at hv
    · rename_i el sz' fr es hb
      split at hv
      · rename_i hse
        subst hse
        split at hv
        · rename_i cs hcs
          obtain ⟨v', hv', he⟩ := Option.map_eq_some_iff.1 hv
          cases he
          obtain ⟨r', h1, h2⟩ := R.blk b (by rw [hb]; intro hc; cases hc)
          rw [hr] at h1
          cases h1
          rw [hb] at h2
          obtain ⟨xs, ho, hsz, hl, ht, hf, _⟩ := h2
          rcases ho.2 with ⟨hv2, _⟩ | ⟨g', cap', cur, hv2, _, hh, _, _, _, htake⟩
          · rw [hrv] at hv2; cases hv2
          · rw [hrv] at hv2
            cases hv2
            obtain ⟨fq, h3, h4⟩ := ht.elem hl hcs
            have hcl : cs.length = sz := hl cs (List.mem_of_getElem? hcs)
            have hlt : i < es.length := (List.getElem?_eq_some_iff.1 hcs).1
            have hmul : i * sz + sz ≤ es.length * sz := by
              have := Nat.mul_le_mul_right sz (show i + 1 ≤ es.length from hlt)
              rwa [Nat.add_mul, Nat.one_mul] at this
            rw [← htake, List.drop_take, List.take_take, Nat.min_eq_left (by omega)] at h3
            obtain ⟨val, h5, h6⟩ := loadT_sound (P := P) (ρ := ρ) (F := Free N ρ h) hn hh h3 (fun g hg => hf g (h4 g hg)) hv'
            exact .same R (by simp [Instr.loadAt, Instr.sureAddr, h5]) h6
        · cases hv
      · cases hv
    · cases hv
  | @iptr cs off g o c te fz fp hg hF hc hf =>
    simp only at hv
    obtain ⟨v', hv', he⟩ := Option.map_eq_some_iff.1 hv
    cases he
    obtain ⟨val, h5, h6⟩ := loadT_sound (P := P) (ρ := ρ) (F := Free N ρ h) hn hg hc hf hv'
    exact .same R (by simp [Instr.loadAt, Instr.sureAddr, h5]) h6
  | _ => simp at hv

theorem ok_store (R : Rel N base ρ h w) {t : TypeId} {i : TypeInfo} (hi : P.info? t = some i) {x y : AV} {xv yv : Value} (hy : RV ρ w (Free N ρ h) y yv) {v : AV} {u : List (Nat × Blk)}
    (hv : (match cellsOf y with
    | some vs => if vs.length = i.size then (match x with
      | .ptr b off => match gt h b with
        | .box cs => if off + i.size ≤ cs.length then some (.top, [(b, .box (setCells cs off vs))]) else none
        | _ => none
      | .eptr b j sz off => match gt h b with
        | .arr el sz' fr es => match es[j]?, toTs h vs with
          | some cs, some (ts, f, ks) =>
            if off + i.size ≤ cs.length ∧ nodupB (b :: ks) ∧ sz = sz' then some (.top, kill ks ++ [(b, .arr el sz' (fr && f) (es.set j (setT cs off ts)))]) else none
          | _, _ => none
        | _ => none
      | _ => none) else none
    | none => none) = some (v, u)) (hx : RV ρ w (Free N ρ h) x xv) :
    OpOK P N base ρ h w (do Instr.storeAt t xv yv; pure .skip) v u := by
  split at hv
  · rename_i vs hvs
    split at hv
    · rename_i hl
      split at hv
      · rename_i b off
        split at hv
        · rename_i cs hb
          split at hv
          · rename_i hle
            cases hv
            exact ok_storeBox R hb rfl hx hvs hy hi hl hle
          · cases hv
        · cases hv
      · rename_i b j sz off
        split at hv
        · rename_i el sz' fr es hb
          split at hv
          · rename_i cs ts f ks hcs hts
            split at hv
            · rename_i hcond
              cases hv
              exact ok_storeElem R hb hcs hx hcond.2.2 hvs hy hts hi hl hcond.1 hcond.2.1
            · cases hv
          · cases hv
        · cases hv
      · cases hv
    · cases hv
  · cases hv

theorem ok_slice (R : Rel N base ρ h w) {nx : Nat} (hn : ρ nx = none) (hE : RelEnv ρ w (Free N ρ h) e a.tmps) {t : TypeId} {x : AV} {xv : Value} {lo hi : Option Operand} {lo' hi' : Option Opd}
    (hlo : (match lo with | none => some none | some o => (opd o).map some) = some lo') (hhi : (match hi with | none => some none | some o => (opd o).map some) = some hi') {sz : Option Nat}
    {v : AV} {u : List (Nat × Blk)}
    (hv : (match bnd e 0 lo' with
    | none => none
    | some l => match sz, x with
      | none, .t (.str s) => match bnd e s.size hi' with
        | some r => if l ≤ r ∧ r ≤ s.size then some (AV.t (.str (s.extract l r)), ([] : List (Nat × Blk))) else none
        | none => none
      | some sz, .t (.lst sz' es) => match bnd e es.length hi' with
        | some r => if l ≤ r ∧ r ≤ es.length ∧ sz' = sz then some (.t (.lst sz ((es.take r).drop l)), []) else none
        | none => none
      | some sz, .own b => match gt h b with
        | .arr el sz' fr es => match bnd e es.length hi' with
          | some r => if l = 0 ∧ r ≤ es.length ∧ sz' = sz then some (.own nx, kill [b] ++ [(nx, .arr el sz fr (es.take r))]) else none
          | none => none
        | _ => none
      | _, _ => none) = some (v, u))
    (hsz : (match P.underlying t with | some .string => some none | some (.slice e) => (P.info? e).map fun i => some i.size | _ => none) = some sz) (hx : RV ρ w (Free N ρ h) x xv) :
    OpOK P N base ρ h w (do pure (.value (← Instr.sliceAt t xv (lo.map a.eval) (hi.map a.eval) ((none : Option Operand).map a.eval)))) v u := by
  split at hv
  · cases hv
  · rename_i l hl
    split at hv
    · rename_i s
      split at hv
      · rename_i r hr
        split at hv
        · rename_i hc
          cases hv
          cases hx.str_inv
          have hu : P.underlying t = some .string := by
            revert hsz
            split
            · intro; assumption
            · intro h1; obtain ⟨_, _, h2⟩ := Option.map_eq_some_iff.1 h1; cases h2
            · intro h1; cases h1
          have hb := run_sliceBounds (P := P) hE hlo hhi (len := s.size) (cap := s.size) hl hr hc.1 hc.2 false
          exact .same R (by simp [Instr.sliceAt, Instr.slice, run_underlying hu, hb]) (.str_mk _)
        · cases hv
      · cases hv
    · rename_i sz' sz2 es
      split at hv
      · rename_i r hr
        split at hv
        · rename_i hc
          obtain ⟨hc1, hc2, rfl⟩ := hc
          cases hv
          obtain ⟨el, i, hu, hi', rfl⟩ : ∃ el i, P.underlying t = some (.slice el) ∧ P.info? el = some i ∧ sz2 = i.size := by
            revert hsz
            split
            · intro h1; cases h1
            · rename_i el hu
              intro h1
              obtain ⟨i, h2, h3⟩ := Option.map_eq_some_iff.1 h1
              cases h3
              exact ⟨el, i, hu, h2, rfl⟩
            · intro h1; cases h1
          cases hx with
          | t hT hf =>
            cases hT with
            | lst0 _ ad cap =>
              simp at hc2
              subst hc2
              obtain rfl : l = 0 := by omega
              have hb := run_sliceBounds (P := P) hE hlo hhi (len := 0) (cap := cap) hl hr (Nat.le_refl _) (Nat.zero_le _) true
              refine .same R (val := .slice (if cap = 0 then ad else ad.map (·.add (0 * i.size))) 0 cap) (by simp [Instr.sliceAt, Instr.slice, run_underlying hu, hb, sizeOf, typeInfo, hi']) ?_
              simp only [List.take_nil, List.drop_nil]
              exact .t (.lst0 _ _ _) (by intro g hg; cases hg)
            | @lst _ _ g off cap c te fz fp' hne hsz' hcap hg hlen hcc =>
              have hb := run_sliceBounds (P := P) hE hlo hhi (len := es.length) (cap := cap) hl hr hc1 (by omega) true
              by_cases hemp : l = r
              · subst hemp
                have he : (es.take l).drop l = [] := by simp
                rw [he]
                refine .same R (val := .slice (if cap = l then some ⟨g, off, none⟩ else some ((⟨g, off, none⟩ : Addr).add (l * i.size))) 0 (cap - l)) (by simp [Instr.sliceAt, Instr.slice, run_underlying hu, hb, sizeOf, typeInfo, hi']) ?_
                exact .t (.lst0 _ _ _) (by intro g hg; cases hg)
              · have hne' : cap ≠ l := by omega
                obtain ⟨fq, h3, h4⟩ := hcc.mid hlen hc1 hc2
                have hlen' : ((es.take r).drop l).length = r - l := by simp; omega
                refine .same R (val := .slice (some ⟨g, off + l * i.size, none⟩) (r - l) (cap - l)) (by simp [Instr.sliceAt, Instr.slice, run_underlying hu, hb, sizeOf, typeInfo, hi', hne', addr_add]) ?_
                have hT2 : TR w (.lst i.size ((es.take r).drop l)) (.slice (some ⟨g, off + l * i.size, none⟩) ((es.take r).drop l).length (cap - l)) (g :: fq) := by
                  refine .lst (c := c) (e := te) (fz := fz) ?_ hsz' (by omega) hg (fun x hx => hlen x (List.mem_of_mem_take (List.mem_of_mem_drop hx))) ?_
                  · intro hnil; rw [hnil] at hlen'; simp at hlen'; omega
                  · rw [hlen']
                    have hm : (r - l) * i.size ≤ es.length * i.size - l * i.size := by
                      rw [← Nat.sub_mul]
                      exact Nat.mul_le_mul_right _ (by omega)
                    have e3 : List.take ((r - l) * i.size) (List.drop (l * i.size) (List.take (es.length * i.size) (List.drop off c.toList))) = List.take ((r - l) * i.size) (List.drop (off + l * i.size) c.toList) := by
                      rw [List.drop_take, List.take_take, List.drop_drop, Nat.min_eq_left hm]
                    rw [e3] at h3
                    exact h3
                rw [hlen'] at hT2
                exact .t hT2 (by
                  intro g' hg'
                  cases hg' with
                  | head => exact hf _ (by simp)
                  | tail _ hg' => exact hf g' (by simp [h4 g' hg']))
        · cases hv
      · cases hv
    · rename_i sz2 b
      split at hv
      · rename_i el sz' fr es hgb
        split at hv
        · rename_i r hr
          split at hv
          · rename_i hc
            obtain ⟨rfl, hc2, rfl⟩ := hc
            cases hv
            obtain ⟨el', i, hu, hi', rfl⟩ : ∃ el i, P.underlying t = some (.slice el) ∧ P.info? el = some i ∧ sz' = i.size := by
              revert hsz
              split
              · intro h1; cases h1
              · rename_i el hu
                intro h1
                obtain ⟨i, h2, h3⟩ := Option.map_eq_some_iff.1 h1
                cases h3
                exact ⟨el, i, hu, h2, rfl⟩
              · intro h1; cases h1
            have hd : gt h b ≠ .dead := by rw [hgb]; intro hc; cases hc
            obtain ⟨rt, hrt, hB⟩ := R.blk b hd
            rw [hgb] at hB
            obtain ⟨xs, ho, hsz0, hl1, ht1, hf1, hfr1⟩ := hB
            cases hx with
            | @own _ r2 hr2 hone =>
              rw [hrt] at hr2
              cases hr2
              have hfb : fr = true → isFresh (gt h b) = true := fun hft => by rw [hgb]; exact hft
              have e1 : es.flatten = (es.take r).flatten ++ (es.drop r).flatten := by rw [← List.flatten_append, List.take_append_drop]
              rw [e1] at ht1
              obtain ⟨fa, fb, hfp, h3, _⟩ := ht1.split
              have hfl : (es.take r).flatten.length = r * i.size := by
                rw [flatten_len fun x hx => hl1 x (List.mem_of_mem_take hx)]
                simp
                rw [Nat.min_eq_left hc2]
              rw [hfl] at h3
              have hlr : (es.take r).length = r := by simp; omega
              have hsub : ∀ g ∈ fa, g ∈ rt.fp := fun g hg => by rw [hfp]; simp [hg]
              have fin : ∀ vv, (Instr.sliceAt t rt.v (lo.map a.eval) (hi.map a.eval) ((none : Option Operand).map a.eval)).run P w = .ok vv w → w.ownsRow base el i.size vv r (xs.take (r * i.size)) → (∀ g, blkOf vv = some g → blkOf rt.v = some g) →
                  OpOK P N base ρ h w (do pure (.value (← Instr.sliceAt t rt.v (lo.map a.eval) (hi.map a.eval) ((none : Option Operand).map a.eval)))) (.own nx) (kill [b] ++ [(nx, .arr el i.size fr (es.take r))]) := by
                intro vv hrun hown hblk
                have := ok_arr (P := P) R hn (s := (do pure (.value (← Instr.sliceAt t rt.v (lo.map a.eval) (hi.map a.eval) ((none : Option Operand).map a.eval))))) (vv := vv) (w' := w) (by simp at hrun; simp [hrun]) (row := none)
                  ⟨rfl, rfl, rfl, Nat.le_refl _, fun _ _ _ => rfl⟩ hsz0 (es1 := es.take r) (es2 := []) (xs1 := xs.take (r * i.size)) (xs2 := []) (fp1 := fa) (fp2 := []) (fr1 := fr) (f := true) (kd := [b]) (ks := [])
                  (by simpa [hlr] using hown) (fun x hx => hl1 x (List.mem_of_mem_take hx)) (by simp) h3 .nil (Took.nil _) List.nodup_nil (fun g hg => hf1 g (hsub g hg))
                  (fun hft => ⟨by have := (hfr1 hft).1; rw [hfp] at this; exact (List.nodup_append.1 this).1, fun g hg => (hfr1 hft).2 g (hsub g hg)⟩)
                  (by intro hft g hg d rd hdk hrd hfd hgd; exact hdk (by rw [← R.apart b d rt rd g hrt hrd (hfb hft) hfd (hsub g hg) hgd]; simp))
                  (by intro _ _ _ k hk; cases hk) (by intro g hg; cases hg) (by intro g hg; exact .inr ⟨b, by simp, rt, hrt, hd, hblk g hg⟩) (by intro g k hk; cases hk)
                simpa using this
              rcases ho.2 with ⟨hv, hz⟩ | ⟨g, cap, cur, hv, hbg, hg, hcap, hmx, hcs, htake⟩
              · have he : es = [] := List.eq_nil_of_length_eq_zero hz
                subst he
                simp at hc2
                subst hc2
                have hb := run_sliceBounds (P := P) hE hlo hhi (len := 0) (cap := 0) hl hr (Nat.le_refl _) (Nat.le_refl _) true
                refine fin (.slice none 0 0) ?_ ⟨by simp, .inl ⟨rfl, rfl⟩⟩ (by intro g hg; cases hg)
                rw [hv]
                simp [Instr.sliceAt, Instr.slice, run_underlying hu, hb, sizeOf, typeInfo, hi']
              · have hb := run_sliceBounds (P := P) hE hlo hhi (len := es.length) (cap := cap) hl hr (Nat.zero_le _) (by omega) true
                refine fin (.slice (some ⟨g, 0, none⟩) r cap) ?_ ⟨?_, .inr ⟨g, cap, cur, rfl, hbg, hg, by omega, hmx, hcs, ?_⟩⟩ (by intro g' hg'; rw [hv]; exact hg')
                · rw [hv]
                  simp [Instr.sliceAt, Instr.slice, run_underlying hu, hb, sizeOf, typeInfo, hi', addr_add]
                · rw [List.length_take, ho.1, Nat.min_eq_left (Nat.mul_le_mul_right _ hc2)]
                · rw [← htake, List.take_take, Nat.min_eq_left (Nat.mul_le_mul_right _ hc2)]
          · cases hv
        · cases hv
      · cases hv
    · cases hv

theorem fieldOf_spec {t : TypeId} {f off : Nat} {ut : TypeId} (hf : fieldOf P t f = some (off, ut)) :
    ∃ fs fd i, P.underlying t = some (.struct fs) ∧ fs[f]? = some fd ∧ P.info? fd.type = some i ∧ i.size ≠ 0 ∧ fd.offset = off ∧ fd.type = ut := by
  unfold fieldOf at hf
  split at hf
  · rename_i fs hu
    split at hf
    · rename_i fd hfd
      split at hf
      · rename_i i hi
        split at hf
        · cases hf
        · rename_i hs
          cases hf
          exact ⟨fs, fd, i, hu, hfd, hi, hs, rfl, rfl⟩
      · cases hf
    · cases hf
  · cases hf

theorem ok_faddr (R : Rel N base ρ h w) {t : TypeId} {f off : Nat} {ut : TypeId} (hf : fieldOf P t f = some (off, ut)) {x : AV} {xv : Value} {v : AV} {u : List (Nat × Blk)}
    (hv : (match x with
    | .ptr b o => some (AV.ptr b (o + off), ([] : List (Nat × Blk)))
    | .eptr b i sz o => some (.eptr b i sz (o + off), [])
    | .iptr cs o => some (.iptr cs (o + off), [])
    | _ => none) = some (v, u)) (hx : RV ρ w (Free N ρ h) x xv) :
    OpOK P N base ρ h w (do pure (.value (← Instr.fieldAt t xv f))) v u := by
  obtain ⟨fs, fd, i, hu, hfd, hi, hs, rfl, _⟩ := fieldOf_spec hf
  have key : ∀ g o, xv = .pointer (some ⟨g, o, none⟩) → ((do pure (.value (← Instr.fieldAt t xv f))) : Sem Next).run P w = .ok (.value (.pointer (some ⟨g, o + fd.offset, none⟩))) w := by
    intro g o hxv
    subst hxv
    simp [Instr.fieldAt, run_underlying hu, hfd, Instr.sureAddr, fieldPlace, sizeOf, typeInfo, hi, hs, addr_add]
  cases hx with
  | ptr hr hrv => simp at hv; obtain ⟨rfl, rfl⟩ := hv; exact .same R (key _ _ rfl) (.ptr hr hrv)
  | eptr hr hrv => simp at hv; obtain ⟨rfl, rfl⟩ := hv; refine .same R (key _ _ rfl) ?_; rw [Nat.add_assoc]; exact .eptr hr hrv
  | iptr hg hF hc hff => simp at hv; obtain ⟨rfl, rfl⟩ := hv; refine .same R (key _ _ rfl) ?_; rw [Nat.add_assoc]; exact .iptr hg hF hc hff
  | _ => simp at hv

theorem ok_field (R : Rel N base ρ h w) {t : TypeId} {f off : Nat} {ut : TypeId} (hf : fieldOf P t f = some (off, ut)) {n : Option Nat} (hn : loadN P ut = some n) {cs : List AV} {xv : Value} (hx : RV ρ w (Free N ρ h) (.agg cs) xv) {v : AV}
    (hv : loadA cs off n = some v) : OpOK P N base ρ h w (do pure (.value (← Instr.field t xv f))) v [] := by
  obtain ⟨fs, fd, i, hu, hfd, hi, hs, rfl, rfl⟩ := fieldOf_spec hf
  cases hx with
  | @agg _ c hc h1 =>
    have hag := run_isAgg (P := P) hn w
    cases n with
    | none =>
      obtain ⟨val, h2, h3⟩ := hc.at hv
      have h2' : c[fd.offset]? = some val := by simpa using h2
      exact .same R (by simp [Instr.field, run_underlying hu, hfd, asAgg, part, hag, h2']) h3
    | some k =>
      simp only [loadA] at hv
      split at hv
      · rename_i hle
        cases hv
        obtain ⟨i', hi', hk⟩ := loadN_size hn
        rw [hi] at hi'
        cases hi'
        subst hk
        refine .same R (val := .agg (c.extract fd.offset (fd.offset + i.size))) (by simp [Instr.field, run_underlying hu, hfd, asAgg, part, hag, sizeOf, typeInfo, hi]) ?_
        have e : (c.extract fd.offset (fd.offset + i.size)).toList = (c.toList.drop fd.offset).take i.size := by
          rw [Array.toList_extract, List.extract_eq_take_drop]
          simp
        refine .agg (by rw [e]; exact (hc.drop _).take _) ?_
        rw [e]
        intro x hx
        exact h1 x (List.mem_of_mem_drop (List.mem_of_mem_take hx))
      · cases hv

end
end Go.AM
