/-
  THE ABSTRACT MACHINE: each operation is sound, third part: rows of data.
-/
import Derived.Test.YtiniphmomjnocaaAMOps2
namespace Go.AM
open Go.RowKit (Below)

section
variable {P : Program} {N : Par} {base : Nat} {ρ : Map} {h : List Blk} {w w' : World} {F : Nat → Prop} {e : Env} {a : Act}

theorem nodupB_iff {l : List Nat} : nodupB l = true ↔ l.Nodup := by
  induction l with
  | nil => simp [nodupB]
  | cons x l ih => simp [nodupB, ih]

/-- what is known of trees that took in the roots 'ks' -/
structure Took (N : Par) (base : Nat) (ρ : Map) (h : List Blk) (ks : List Nat) (fp : List Nat) (f : Bool) : Prop where
  free : ∀ g ∈ fp, Free N ρ h g ∨ ∃ k ∈ ks, Owner ρ h k g
  fresh : f = true → ∀ g ∈ fp, N.f g ∧ ∃ k ∈ ks, ∃ r, ρ k = some r ∧ isFresh (gt h k) = true ∧ (blkOf r.v = some g ∨ g ∈ r.fp)
  nodup : f = true → ks.Nodup → fp.Nodup

theorem fresh_live {x : Blk} (hx : isFresh x = true) : x ≠ .dead := by intro hc; rw [hc] at hx; cases hx

theorem Rel.free_fp (R : Rel N base ρ h w) {k : Nat} {r : Root} (hr : ρ k = some r) (hf : isFresh (gt h k) = true) : ∀ g ∈ r.fp, Free N ρ h g := by
  obtain ⟨r', h1, h2⟩ := R.blk k (fresh_live hf)
  rw [hr] at h1
  cases h1
  cases hx : gt h k with
  | dead => rw [hx] at hf; cases hf
  | box cs => rw [hx] at hf; cases hf
  | arr e sz fr es =>
    rw [hx] at h2
    obtain ⟨xs, _, _, _, _, h6, _⟩ := h2
    exact h6

theorem Took.nil (f : Bool) : Took N base ρ h [] [] f := ⟨(by intro g hg; cases hg), (by intro _ g hg; cases hg), fun _ _ => List.nodup_nil⟩

theorem Took.append (R : Rel N base ρ h w) {ks ls fp fq : List Nat} {f g : Bool} (A : Took N base ρ h ks fp f) (B : Took N base ρ h ls fq g) : Took N base ρ h (ks ++ ls) (fp ++ fq) (f && g) := by
  refine ⟨?_, ?_, ?_⟩
  · intro x hx
    rcases List.mem_append.1 hx with hx | hx
    · exact (A.free x hx).imp id fun ⟨k, hk, ho⟩ => ⟨k, by simp [hk], ho⟩
    · exact (B.free x hx).imp id fun ⟨k, hk, ho⟩ => ⟨k, by simp [hk], ho⟩
  · intro hf x hx
    simp only [Bool.and_eq_true] at hf
    rcases List.mem_append.1 hx with hx | hx
    · obtain ⟨h1, k, hk, h2⟩ := A.fresh hf.1 x hx; exact ⟨h1, k, by simp [hk], h2⟩
    · obtain ⟨h1, k, hk, h2⟩ := B.fresh hf.2 x hx; exact ⟨h1, k, by simp [hk], h2⟩
  · intro hf hn
    simp only [Bool.and_eq_true] at hf
    rw [List.nodup_append] at hn ⊢
    refine ⟨A.nodup hf.1 hn.1, B.nodup hf.2 hn.2.1, ?_⟩
    intro x hx y hy hxy
    subst hxy
    obtain ⟨_, k, hk, r, h1, h2, h3⟩ := A.fresh hf.1 x hx
    obtain ⟨_, l, hl, s, h4, h5, h6⟩ := B.fresh hf.2 x hy
    refine hn.2.2 k hk l hl ?_
    rcases h3 with h3 | h3 <;> rcases h6 with h6 | h6
    · exact R.inj k l r s x h1 h4 (fresh_live h2) (fresh_live h5) h3 h6
    · exact absurd h3 ((R.free_fp h4 h5 x h6).2 k r h1 (fresh_live h2))
    · exact absurd h6 ((R.free_fp h1 h2 x h3).2 l s h4 (fresh_live h5))
    · exact R.apart k l r s x h1 h4 h2 h5 h3 h6

theorem own_TR (R : Rel N base ρ h w) {b : Nat} {r : Root} (hr : ρ b = some r) {el sz : Nat} {fr : Bool} {es : List (List T)} (hb : gt h b = .arr el sz fr es) :
    ∃ fp, TR w (.lst sz es) r.v fp ∧ Took N base ρ h [b] fp fr ∧ ∀ g ∈ fp, blkOf r.v = some g ∨ g ∈ r.fp := by
  have hd : gt h b ≠ .dead := by rw [hb]; intro hc; cases hc
  obtain ⟨r', h1, h2⟩ := R.blk b hd
  rw [hr] at h1
  cases h1
  have h2' := h2
  rw [hb] at h2
  obtain ⟨xs, ho, hsz, hl, ht, hf, hfr⟩ := h2
  by_cases hne : es = []
  · subst hne
    refine ⟨[], ?_, ⟨(by intro g hg; cases hg), (by intro _ g hg; cases hg), fun _ _ => List.nodup_nil⟩, (by intro g hg; cases hg)⟩
    rcases ho.2 with ⟨hv, _⟩ | ⟨g, cap, cur, hv, _⟩
    · rw [hv]; exact .lst0 _ _ _
    · rw [hv]; exact .lst0 _ _ _
  · rcases ho.2 with ⟨hv, hz⟩ | ⟨g, cap, cur, hv, hbg, hg, hcap, _, hcs, htake⟩
    · exact absurd (List.eq_nil_of_length_eq_zero hz) hne
    · have hblk : blkOf r.v = some g := by rw [hv]; rfl
      refine ⟨g :: r.fp, ?_, ⟨?_, ?_, ?_⟩, ?_⟩
      · rw [hv]
        refine .lst hne hsz hcap hg hl ?_
        rw [List.drop_zero, htake]
        exact ht
      · intro x hx
        cases hx with
        | head => exact .inr ⟨b, by simp, r, hr, hd, hblk⟩
        | tail _ hx => exact .inl (hf x hx)
      · intro hft x hx
        cases hx with
        | head => exact ⟨(R.hO b r g hr hd hblk).2, b, by simp, r, hr, by rw [hb]; exact hft, .inl hblk⟩
        | tail _ hx => exact ⟨(hfr hft).2 x hx, b, by simp, r, hr, by rw [hb]; exact hft, .inr hx⟩
      · intro hft _
        refine List.nodup_cons.2 ⟨fun hx => ?_, (hfr hft).1⟩
        exact (hf g hx).2 b r hr hd hblk
      · intro x hx
        cases hx with
        | head => exact .inl hblk
        | tail _ hx => exact .inr hx

theorem toT_rel (R : Rel N base ρ h w) {v : AV} {x : T} {f : Bool} {ks : List Nat} {val : Value} (ht : toT h v = some (x, f, ks)) (hv : RV ρ w (Free N ρ h) v val) :
    ∃ fp, TR w x val fp ∧ Took N base ρ h ks fp f := by
  cases hv with
  | t hT hf =>
    simp [toT] at ht
    obtain ⟨rfl, rfl, rfl⟩ := ht
    refine ⟨_, hT, ⟨fun g hg => .inl (hf g hg), fun hs => ?_, fun hs _ => ?_⟩⟩
    · cases hT <;> first | (intro g hg; cases hg; done) | simp [scalar] at hs
    · cases hT <;> first | exact List.nodup_nil | simp [scalar] at hs
  | @own b r hr h1 =>
    simp only [toT] at ht
    split at ht
    · rename_i el sz fr es hb
      simp at ht
      obtain ⟨rfl, rfl, rfl⟩ := ht
      obtain ⟨fp, h2, h3, _⟩ := own_TR R hr hb
      exact ⟨fp, h2, h3⟩
    · cases ht
  | _ => simp [toT] at ht

theorem toTs_rel (R : Rel N base ρ h w) {vs : List AV} {xs : List T} {f : Bool} {ks : List Nat} {vals : List Value} (ht : toTs h vs = some (xs, f, ks)) (hv : RVs ρ w (Free N ρ h) vs vals) :
    ∃ fp, TRs w xs vals fp ∧ Took N base ρ h ks fp f := by
  induction vs generalizing xs f ks vals with
  | nil => simp [toTs] at ht; obtain ⟨rfl, rfl, rfl⟩ := ht; cases hv; exact ⟨[], .nil, .nil _⟩
  | cons v vs ih =>
    cases hv with
    | cons hv hvs =>
      simp only [toTs] at ht
      split at ht
      · rename_i x f1 k1 xs1 f2 k2 h1 h2
        simp at ht
        obtain ⟨rfl, rfl, rfl⟩ := ht
        obtain ⟨fp, h3, h4⟩ := toT_rel R h1 hv
        obtain ⟨fq, h5, h6⟩ := ih h2 hvs
        exact ⟨fp ++ fq, .cons h3 h5, h4.append R h6⟩
      · cases ht

theorem toTs_len {vs : List AV} {xs : List T} {f : Bool} {ks : List Nat} (ht : toTs h vs = some (xs, f, ks)) : xs.length = vs.length := by
  induction vs generalizing xs f ks with
  | nil => simp [toTs] at ht; obtain ⟨rfl, _⟩ := ht; rfl
  | cons v vs ih =>
    simp only [toTs] at ht
    split at ht
    · rename_i x f1 k1 xs1 f2 k2 h1 h2
      simp at ht
      obtain ⟨rfl, _⟩ := ht
      simp [ih h2]
    · cases ht

/-- what was taken in is free behind the step -/
theorem took_after (R : Rel N base ρ h w) {ks ks' fp : List Nat} {f : Bool} (A : Took N base ρ h ks fp f) {n : Nat} {r : Root} {x : Blk} {row : Option Nat}
    (hk : Keeps ρ w (Free N ρ h) (updM ρ n r) w' (Free N (updM ρ n r) (upd h (kill ks' ++ [(n, x)])))) (hg : w.grownBy w' row) (hsub : ∀ k ∈ ks, k ∈ ks')
    (hrow : ∀ g k, k ∈ ks → Owner ρ h k g → row ≠ some g ∧ blkOf r.v ≠ some g) (hlt : ∀ g ∈ fp, g < w.heap.size) :
    ∀ g ∈ fp, Free N (updM ρ n r) (upd h (kill ks' ++ [(n, x)])) g ∧ w'.heap[g]? = w.heap[g]? := by
  intro g hgf
  rcases A.free g hgf with h1 | ⟨k, hks, ho⟩
  · exact hk.free g (hlt g hgf) h1
  · obtain ⟨h2, h3⟩ := hrow g k hks ho
    refine ⟨⟨?_, ?_⟩, hg.block g (hlt g hgf) (fun e => h2 e.symm)⟩
    · obtain ⟨rk, hk1, hk2, hk3⟩ := ho
      exact (R.hO _ rk g hk1 hk2 hk3).1
    intro b rb hrb hd he
    rw [gt_put] at hd
    by_cases hb : b = n
    · subst hb
      simp [updM] at hrb
      subst hrb
      exact h3 he
    · simp [updM, hb] at hrb
      simp [hb] at hd
      obtain ⟨rk, hk1, hk2, hk3⟩ := ho
      have := R.inj b k rb rk g hrb hk1 hd.2 hk2 he hk3
      subst this
      exact hd.1 (hsub _ hks)

/-- disjoint from the other fresh roots -/
theorem took_apart (R : Rel N base ρ h w) {ks fp : List Nat} {f : Bool} (A : Took N base ρ h ks fp f) (hf : f = true) {ks' : List Nat} (hsub : ∀ k ∈ ks, k ∈ ks') {g d : Nat} {rd : Root} (hg : g ∈ fp) (hd : d ∉ ks')
    (hr : ρ d = some rd) (hfd : isFresh (gt h d) = true) : g ∉ rd.fp := by
  intro hgd
  obtain ⟨_, k, hk, r, h1, h2, h3⟩ := A.fresh hf g hg
  rcases h3 with h3 | h3
  · exact (R.free_fp hr hfd g hgd).2 k r h1 (fresh_live h2) h3
  · exact hd (R.apart k d r rd g h1 hr h2 hfd h3 hgd ▸ hsub k hk)

/-- a store into an element of a row of one's own -/
theorem ok_storeElem (R : Rel N base ρ h w) {b i sz' off el sz : Nat} {fr : Bool} {es : List (List T)} (hb : gt h b = .arr el sz fr es) {cs : List T} (hi : es[i]? = some cs) {v : AV} {vs : List AV} {px val : Value}
    (hpx : RV ρ w (Free N ρ h) (.eptr b i sz' off) px) (hsz' : sz' = sz) (hc : cellsOf v = some vs) (hv : RV ρ w (Free N ρ h) v val) {ts : List T} {f : Bool} {ks : List Nat} (ht : toTs h vs = some (ts, f, ks))
    {t : TypeId} {inf : TypeInfo} (hinf : P.info? t = some inf) (hl : vs.length = inf.size) (hle : off + inf.size ≤ cs.length) (hnd : nodupB (b :: ks) = true) :
    OpOK P N base ρ h w (do Instr.storeAt t px val; pure .skip) .top (kill ks ++ [(b, .arr el sz (fr && f) (es.set i (setT cs off ts)))]) := by
  subst hsz'
  rw [nodupB_iff, List.nodup_cons] at hnd
  have hd : gt h b ≠ .dead := by rw [hb]; intro hc; cases hc
  obtain ⟨r, hr, hB⟩ := R.blk b hd
  rw [hb] at hB
  obtain ⟨xs, ho, hsz, hlen, htr, hfree, hfr⟩ := hB
  cases hpx with
  | @eptr _ _ _ _ g n cap r2 hr2 hrv =>
    rw [hr] at hr2
    cases hr2
    rcases ho.2 with ⟨hv0, hz⟩ | ⟨g', cap', cur, hv', hbg, hg, hcap, hcm, hcs, htake⟩
    · rw [hrv] at hv0; cases hv0
    · rw [hrv] at hv'
      cases hv'
      obtain ⟨hvs, hone⟩ := cellsOf_rel hc hv
      obtain ⟨fq, htq, hT⟩ := toTs_rel R ht hvs
      have htl := toTs_len ht
      have hvl := hvs.length
      simp only [Array.length_toList] at hvl
      have hcsl : cs.length = sz' := hlen cs (List.mem_of_getElem? hi)
      have hilt : i < es.length := (List.getElem?_eq_some_iff.1 hi).1
      have hmul : i * sz' + sz' ≤ es.length * sz' := by
        have := Nat.mul_le_mul_right sz' (show i + 1 ≤ es.length from hilt)
        rwa [Nat.add_mul, Nat.one_mul] at this
      have hmul2 : es.length * sz' ≤ cap * sz' := Nat.mul_le_mul_right _ hcap
      have hblk : blkOf r.v = some g := by rw [hrv]; rfl
      have hrun := run_storeVar (P := P) hinf hg (o := i * sz' + off) (val := val) (by omega) (by omega) hone
      have hfl := set_flatten (ts := ts) (off := off) hi (by omega)
      rw [hfl.1] at htr
      obtain ⟨fa, fb, fc, hfp, hnew⟩ := htr.splice htq
      rw [← hfl.2] at hnew
      have hAl : ((es.take i).flatten ++ cs.take off).length = i * sz' + off := by
        rw [List.length_append, flatten_len fun x hx => hlen x (List.mem_of_mem_take hx)]
        simp
        rw [Nat.min_eq_left (by omega), Nat.min_eq_left (by omega)]
      have hBl : ((cs.drop off).take ts.length).length = inf.size := by simp; omega
      rw [hAl, hBl] at hnew
      have hxl : xs.length = es.length * sz' := ho.1
      have hlt1 := htr.lt
      have hlt2 := htq.lt
      have hgx : ∀ g ∈ fa ++ fq ++ fc, g ∈ r.fp ∨ g ∈ fq := by
        intro x hx
        simp only [List.mem_append] at hx
        rcases hx with (hx | hx) | hx
        · exact .inl (by rw [hfp]; simp [hx])
        · exact .inr hx
        · exact .inl (by rw [hfp]; simp [hx])
      have hset : ∀ x ∈ es.set i (setT cs off ts), x.length = sz' := by
        intro x hx
        rcases List.mem_or_eq_of_mem_set hx with hx | hx
        · exact hlen x hx
        · subst hx; simp [setT]; omega
      have hp := put_rel R (n := b) (ks := ks) (x := .arr el sz' (fr && f) (es.set i (setT cs off ts))) (r := ⟨r.v, fa ++ fq ++ fc⟩) (row := some g)
        (w' := w.setRow g (cur.toList.take (i * sz' + off) ++ val.cells.toList ++ cur.toList.drop (i * sz' + off + inf.size)).toArray)
        (by intro r0 h0; rw [hr] at h0; cases h0; rfl) (grownBy_setRow w g _)
        (by intro g' hg'; cases hg'; exact ⟨b, .inr rfl, r, hr, hd, hblk⟩)
        (by intro g' hg'; exact .inr ⟨b, .inr rfl, r, hr, hd, hg'⟩)
        (fun hk => by
          have hta := took_after R hT hk (grownBy_setRow w g _) (fun k hk => hk) (by
            intro g' k hk' ho'
            have hne : g' ≠ g := by
              intro he
              subst he
              obtain ⟨rk, h1, h2, h3⟩ := ho'
              exact hnd.1 (R.inj b k r rk g' hr h1 hd h2 hblk h3 ▸ hk')
            exact ⟨fun he => hne (by cases he; rfl), fun he => hne (by rw [hblk] at he; cases he; rfl)⟩) hlt2
          have hall : ∀ g' ∈ fa ++ fq ++ fc, Free N (updM ρ b ⟨r.v, fa ++ fq ++ fc⟩) (upd h (kill ks ++ [(b, .arr el sz' (fr && f) (es.set i (setT cs off ts)))])) g' ∧
              (w.setRow g (cur.toList.take (i * sz' + off) ++ val.cells.toList ++ cur.toList.drop (i * sz' + off + inf.size)).toArray).heap[g']? = w.heap[g']? := by
            intro g' hg'
            rcases hgx g' hg' with h1 | h1
            · exact hk.free g' (hlt1 g' h1) (hfree g' h1)
            · exact hta g' h1
          refine ⟨xs.take (i * sz' + off) ++ val.cells.toList ++ xs.drop (i * sz' + off + inf.size), ⟨?_, .inr ⟨g, cap, _, hrv ▸ (by simp), hbg, setRow_heap w g cur _ el _ hg, by simpa using hcap, hcm, ?_, ?_⟩⟩, hsz, hset, ?_, fun g' hg' => (hall g' hg').1, ?_⟩
          · simp only [List.length_append, List.length_take, List.length_drop, Array.length_toList, List.length_set]
            omega
          · simp only [List.size_toArray, List.length_append, List.length_take, List.length_drop, Array.length_toList]
            omega
          · rw [← htake]
            simp only [List.length_set]
            have e1 : (cur.toList.take (es.length * sz')).take (i * sz' + off) = cur.toList.take (i * sz' + off) := by rw [List.take_take]; congr 1; omega
            rw [e1]
            have hl1 : (cur.toList.take (i * sz' + off) ++ val.cells.toList).length = i * sz' + off + inf.size := by simp; omega
            rw [List.take_append, hl1, List.take_of_length_le (by omega), List.drop_take]
          · exact hnew.frame fun g' hg' => (hall g' hg').2
          · intro hfrf
            simp only [Bool.and_eq_true] at hfrf
            have h1 := (hfr hfrf.1)
            have h2 := hT.nodup hfrf.2 hnd.2
            constructor
            · rw [hfp] at h1
              have h3 := h1.1
              have hdis : ∀ x, x ∈ fq → x ∉ r.fp := by
                intro x hx hx'
                obtain ⟨_, k, hk', rk, h4, h5, h6⟩ := hT.fresh hfrf.2 x hx
                have hfb : isFresh (gt h b) = true := by rw [hb]; exact hfrf.1
                rcases h6 with h6 | h6
                · exact (R.free_fp hr hfb x hx').2 k rk h4 (fresh_live h5) h6
                · exact hnd.1 (R.apart b k r rk x hr h4 hfb h5 hx' h6 ▸ hk')
              rw [hfp] at hdis
              rw [List.nodup_append, List.nodup_append] at h3 ⊢
              refine ⟨⟨h3.1.1, h2, ?_⟩, h3.2.1, ?_⟩
              · intro x hx y hy hxy; subst hxy; exact hdis x hy (by simp [hx])
              · intro x hx y hy hxy
                subst hxy
                rcases List.mem_append.1 hx with hx | hx
                · exact h3.2.2 x (by simp [hx]) x hy rfl
                · exact hdis x hx (by simp [hy])
            · intro x hx
              rcases hgx x hx with hx | hx
              · exact h1.2 x hx
              · exact (hT.fresh hfrf.2 x hx).1)
        (by
          intro hff x hx d rd hdk hdn hrd hfd
          simp only [isFresh, Bool.and_eq_true] at hff
          rcases hgx x hx with hx | hx
          · intro hx'
            exact hdn (R.apart b d r rd x hr hrd (by rw [hb]; exact hff.1) hfd hx hx' ▸ rfl)
          · exact took_apart R hT hff.2 (fun k hk => hk) hx hdk hrd hfd)
      refine ⟨undef, _, updM ρ b ⟨r.v, fa ++ fq ++ fc⟩, .inr ⟨by simp [Instr.storeAt, Instr.sureAddr, hrun], rfl⟩, .top _, hp.1, hp.2.1, ?_, Below.setRow hbg _, hp.2.2⟩
      intro b' hb'
      simp at hb'
      simp [updM, hb'.2]

end
end Go.AM
