/-
  THE ABSTRACT MACHINE: each operation is sound, fourth part: new rows, append.
-/
import Derived.Test.YtiniphmomjnocaaAMOps3
namespace Go.AM
open Go.RowKit (Below)

section
variable {P : Program} {N : Par} {base : Nat} {ρ : Map} {h : List Blk} {w w' : World} {F : Nat → Prop} {e : Env} {a : Act}

theorem ownsRow_one {v : Value} {el sz n : Nat} {xs : List Value} (ho : w.ownsRow base el sz v n xs) : v.oneCell' = true := by
  rcases ho.2 with ⟨hv, _⟩ | ⟨g, cap, cur, hv, _⟩ <;> rw [hv] <;> rfl

/-- a new root that holds a row of data: what the old root 'kd' (if any) held, and what was taken in -/
theorem ok_arr (R : Rel N base ρ h w) {nx : Nat} (hn : ρ nx = none) {s : Sem Next} {vv : Value} (hs : s.run P w = .ok (.value vv) w') {row : Option Nat} (hg : w.grownBy w' row)
    {el sz : Nat} (hsz : 0 < sz) {es1 es2 : List (List T)} {xs1 xs2 : List Value} {fp1 fp2 : List Nat} {fr1 f : Bool} {kd ks : List Nat}
    (hown : w'.ownsRow base el sz vv (es1.length + es2.length) (xs1 ++ xs2)) (hl1 : ∀ x ∈ es1, x.length = sz) (hl2 : ∀ x ∈ es2, x.length = sz)
    (ht1 : TRs w es1.flatten xs1 fp1) (ht2 : TRs w es2.flatten xs2 fp2) (hT : Took N base ρ h ks fp2 f) (hnd : ks.Nodup)
    (hD1 : ∀ g ∈ fp1, Free N ρ h g) (hD2 : fr1 = true → fp1.Nodup ∧ ∀ g ∈ fp1, N.f g)
    (hD3 : fr1 = true → ∀ g ∈ fp1, ∀ d rd, d ∉ kd ++ ks → ρ d = some rd → isFresh (gt h d) = true → g ∉ rd.fp)
    (hD4 : fr1 = true → ∀ g ∈ fp1, ∀ k ∈ ks, ∀ rk, ρ k = some rk → isFresh (gt h k) = true → g ∉ rk.fp)
    (hrow : ∀ g, row = some g → ∃ b ∈ kd, Owner ρ h b g) (hblk : ∀ g, blkOf vv = some g → w.heap.size ≤ g ∨ ∃ b ∈ kd, Owner ρ h b g)
    (hap : ∀ g k, k ∈ ks → Owner ρ h k g → ¬ ∃ b ∈ kd, Owner ρ h b g) :
    OpOK P N base ρ h w s (.own nx) (kill (kd ++ ks) ++ [(nx, .arr el sz (fr1 && f) (es1 ++ es2))]) := by
  have hlt1 := ht1.lt
  have hlt2 := ht2.lt
  have hp := put_rel R (n := nx) (ks := kd ++ ks) (x := .arr el sz (fr1 && f) (es1 ++ es2)) (r := ⟨vv, fp1 ++ fp2⟩) (row := row) (w' := w')
    (by intro r0 h0; rw [hn] at h0; cases h0) hg
    (by intro g hg'; obtain ⟨b, hb, ho⟩ := hrow g hg'; exact ⟨b, .inl (by simp [hb]), ho⟩)
    (by intro g hg'; exact (hblk g hg').imp id fun ⟨b, hb, ho⟩ => ⟨b, .inl (by simp [hb]), ho⟩)
    (fun hk => by
      have hta := took_after R hT hk hg (fun k hk => by simp [hk]) (by
        intro g k hk' ho
        refine ⟨fun he => hap g k hk' ho (hrow g he), fun he => ?_⟩
        rcases hblk g he with h1 | h1
        · obtain ⟨rk, h2, h3, h4⟩ := ho
          have := (R.lt h2 h3 h4).2
          omega
        · exact hap g k hk' ho h1) hlt2
      have hall : ∀ g ∈ fp1 ++ fp2, Free N (updM ρ nx ⟨vv, fp1 ++ fp2⟩) (upd h (kill (kd ++ ks) ++ [(nx, .arr el sz (fr1 && f) (es1 ++ es2))])) g ∧ w'.heap[g]? = w.heap[g]? := by
        intro g hg'
        rcases List.mem_append.1 hg' with h1 | h1
        · exact hk.free g (hlt1 g h1) (hD1 g h1)
        · exact hta g h1
      refine ⟨xs1 ++ xs2, by simpa using hown, hsz, ?_, ?_, fun g hg' => (hall g hg').1, ?_⟩
      · intro x hx
        rcases List.mem_append.1 hx with hx | hx
        · exact hl1 x hx
        · exact hl2 x hx
      · rw [List.flatten_append]
        exact (ht1.append ht2).frame fun g hg' => (hall g hg').2
      · intro hff
        simp only [Bool.and_eq_true] at hff
        obtain ⟨h1, h2⟩ := hD2 hff.1
        refine ⟨List.nodup_append.2 ⟨h1, hT.nodup hff.2 hnd, ?_⟩, ?_⟩
        · intro x hx y hy hxy
          subst hxy
          obtain ⟨_, k, hk', rk, h4, h5, h6⟩ := hT.fresh hff.2 x hy
          rcases h6 with h6 | h6
          · exact (hD1 x hx).2 k rk h4 (fresh_live h5) h6
          · exact hD4 hff.1 x hx k hk' rk h4 h5 h6
        · intro x hx
          rcases List.mem_append.1 hx with hx | hx
          · exact h2 x hx
          · exact (hT.fresh hff.2 x hx).1)
    (by
      intro hff x hx d rd hdk _ hrd hfd
      simp only [isFresh, Bool.and_eq_true] at hff
      rcases List.mem_append.1 hx with hx | hx
      · exact hD3 hff.1 x hx d rd hdk hrd hfd
      · exact took_apart R hT hff.2 (fun k hk => by simp [hk]) hx hdk hrd hfd)
  refine ⟨vv, w', updM ρ nx ⟨vv, fp1 ++ fp2⟩, .inl hs, .own (r := ⟨vv, fp1 ++ fp2⟩) (by simp [updM]) (ownsRow_one hown), hp.1, hp.2.1, ?_, ?_, hp.2.2⟩
  · intro b hb
    simp at hb
    simp [updM, hb.2]
  · refine (Below.refl _ _).grown hg R.hb fun k hk => ?_
    obtain ⟨b, _, rb, h1, h2, h3⟩ := hrow k hk
    exact (R.lt h1 h2 h3).1

/-- append of nothing -/
theorem run_append_zero {t ty el : TypeId} {i : TypeInfo} (ht : P.underlying t = some (.slice el)) (hi : P.info? el = some i) (ba : Option Addr) (n cap : Nat) (hle : n ≤ cap) (b2 : Option Addr) (c2 : Nat) :
    (Builtin.append_ #[t, t] ty #[.slice ba n cap, .slice b2 0 c2]).run P w = .ok (.slice ba n cap) w := by
  cases ba <;> cases b2 <;> simp [Builtin.append_, run_underlying ht, sizeOf, typeInfo, hi, Builtin.lenOf, hle, Builtin.firstCells, loadCells, loadCellsFrom, storeCells]

theorem append_run {t ty el : TypeId} {i : TypeInfo} {z : Value} (ht : P.underlying t = some (.slice el)) (hi : P.info? el = some i) (hz : i.zero = some z) (hzs : z.cells.size = i.size)
    {v : Value} {n : Nat} {xs : List Value} (hown : w.ownsRow base el i.size v n xs) {b2 : Option Addr} {m c2 : Nat} {news : List Value} (hl : news.length = m * i.size)
    (hsrc : m = 0 ∨ ∃ ad, b2 = some ad ∧ ∀ j u, news[j]? = some u → w.cell? (ad.add j) = some u) (h1 : ∀ u ∈ news, u.oneCell' = true)
    (h63 : n + m ≤ 140737488355328) (hbytes : (n + m) * i.bytes ≤ 140737488355328) (hbase : base ≤ w.heap.size) :
    ∃ v' w' row, (Builtin.append_ #[t, t] ty #[v, .slice b2 m c2]).run P w = .ok v' w' ∧ w'.ownsRow base el i.size v' (n + m) (xs ++ news) ∧ w.grownBy w' row ∧ (∀ g, row = some g → blkOf v = some g) ∧
      (∀ g, blkOf v' = some g → w.heap.size ≤ g ∨ blkOf v = some g) := by
  have hmax : n + m ≤ maxLen := by simp only [maxLen]; omega
  rcases hsrc with rfl | ⟨ad, rfl, hnews⟩
  · have hnil : news = [] := List.eq_nil_of_length_eq_zero (by simpa using hl)
    subst hnil
    refine ⟨v, w, none, ?_, by simpa using hown, ⟨rfl, rfl, rfl, Nat.le_refl _, fun _ _ _ => rfl⟩, (by intro g hg; cases hg), fun g hg => .inr hg⟩
    rcases hown.2 with ⟨hv, hn⟩ | ⟨g, cap, cur, hv, _, _, hcap, _⟩
    · subst hn; rw [hv]; exact run_append_zero ht hi none 0 0 (Nat.le_refl _) b2 c2
    · rw [hv]; exact run_append_zero ht hi _ n cap hcap b2 c2
  · have hlen : (xs ++ news).length = (n + m) * i.size := by rw [List.length_append, hown.1, hl, Nat.add_mul]
    by_cases hm : m = 0
    · subst hm
      have hnil : news = [] := List.eq_nil_of_length_eq_zero (by simpa using hl)
      subst hnil
      refine ⟨v, w, none, ?_, by simpa using hown, ⟨rfl, rfl, rfl, Nat.le_refl _, fun _ _ _ => rfl⟩, (by intro g hg; cases hg), fun g hg => .inr hg⟩
      rcases hown.2 with ⟨hv, hn⟩ | ⟨g, cap, cur, hv, _, _, hcap, _⟩
      · subst hn; rw [hv]; exact run_append_zero ht hi none 0 0 (Nat.le_refl _) _ c2
      · rw [hv]; exact run_append_zero ht hi _ n cap hcap _ c2
    · have grown : ∀ (old : Nat), old < n + m →
          (w.drew.alloc (.cells (xs.toArray ++ news.toArray ++ Builtin.zeroCells z.cells (grownCap w (n + m) old el - (n + m))) el)).ownsRow base el i.size
            (.slice (some ⟨w.heap.size, 0, none⟩) (n + m) (grownCap w (n + m) old el)) (n + m) (xs ++ news) ∧
          w.grownBy (w.drew.alloc (.cells (xs.toArray ++ news.toArray ++ Builtin.zeroCells z.cells (grownCap w (n + m) old el - (n + m))) el)) none := by
        intro old ho
        have hge := grownCap_ge w (n + m) old el
        have hcm : grownCap w (n + m) old el ≤ maxLen := grownCap_le_maxLen w (n + m) old el hmax
        refine ⟨⟨hlen, .inr ⟨w.heap.size, _, _, rfl, hbase, heap_alloc_new w.drew _, hge, hcm, ?_, ?_⟩⟩, ⟨rfl, rfl, rfl, by simp, fun k hk _ => Go.RowKit.Below.heap_alloc w.drew _ k hk⟩⟩
        · simp only [Array.size_append, List.size_toArray, size_zeroCells, hzs, hown.1, hl, ← Nat.add_mul]
          congr 1
          omega
        · simp only [Array.toList_append, List.append_assoc]
          rw [← List.append_assoc, ← hlen]
          exact List.take_left
      rcases hown.2 with ⟨rfl, rfl⟩ | ⟨g, cap, cur, rfl, hbg, hg, hnc, hcm, hcs, htake⟩
      · have hx : xs = [] := List.eq_nil_of_length_eq_zero (by simpa using hown.1)
        subst hx
        have hr := run_append_nil (P := P) w t ty el i z ht hi hz ad m c2 news hl hnews (by omega) (by omega) (by have hb := hbytes; simp only [Nat.zero_add] at hb; omega)
        have hgr := grown 0 (by omega)
        simp only [Nat.zero_add, List.nil_append, Array.empty_append] at hgr ⊢
        exact ⟨_, _, none, hr, hgr.1, hgr.2, (by intro g hg; cases hg), by intro g hg; simp [blkOf] at hg; exact .inl (by omega)⟩
      · by_cases hroom : n + m ≤ cap
        · have hfit : n * i.size + news.length ≤ cur.size := by rw [hl, hcs, ← Nat.add_mul]; exact Nat.mul_le_mul_right _ hroom
          have hr := run_append_room (P := P) w t ty el i ht hi g n cap cur hg ad m c2 news hl hnews h1 hroom hfit
          refine ⟨_, _, some g, hr, ⟨hlen, .inr ⟨g, cap, _, rfl, hbg, setRow_heap w g cur _ el _ hg, hroom, hcm, ?_, ?_⟩⟩, grownBy_setRow w g _, (by intro g' hg'; cases hg'; rfl), fun g' hg' => .inr hg'⟩
          · simp only [List.size_toArray, List.length_append, List.length_take, List.length_drop, Array.length_toList]
            omega
          · rw [htake, ← hlen]
            exact List.take_left
        · have holds : ∀ j u, xs[j]? = some u → w.cell? ((⟨g, 0, none⟩ : Addr).add j) = some u := hown.cells (g := g) rfl
          have hr := run_append_grow (P := P) w t ty el i z ht hi hz ⟨g, 0, none⟩ n cap xs hown.1 holds ad m c2 news hl hnews (by omega) (by omega) (growslice_fits (by omega) hbytes)
          have hgr := grown cap (by omega)
          exact ⟨_, _, none, hr, hgr.1, hgr.2, (by intro g' hg'; cases hg'), by intro g' hg'; simp [blkOf] at hg'; exact .inl (by omega)⟩

/-- what a source of an append gives -/
theorem src_rel (R : Rel N base ρ h w) {sz : Nat} {mv : Bool} {v : AV} {ys : List (List T)} {f : Bool} {ks : List Nat} {val : Value} (hsz : 0 < sz) (hs : srcOf h sz mv v = some (ys, f, ks)) (hv : RV ρ w (Free N ρ h) v val) :
    ∃ b2 c2 news fp, val = .slice b2 ys.length c2 ∧ news.length = ys.length * sz ∧ (ys.length = 0 ∨ ∃ ad, b2 = some ad ∧ ∀ j u, news[j]? = some u → w.cell? (ad.add j) = some u) ∧
      TRs w ys.flatten news fp ∧ (∀ x ∈ ys, x.length = sz) ∧ Took N base ρ h ks fp f ∧ ks.Nodup ∧ (∀ k ∈ ks, v = .own k) := by
  cases hv with
  | @t x val fp hT hf =>
    cases hT with
    | nil =>
      simp [srcOf] at hs
      obtain ⟨rfl, rfl, rfl⟩ := hs
      exact ⟨none, 0, [], [], rfl, by simp, .inl rfl, .nil, by simp, .nil _, List.nodup_nil, by simp⟩
    | lst0 sz' ad cap =>
      simp [srcOf] at hs
      obtain ⟨rfl, rfl, rfl, rfl⟩ := hs
      exact ⟨ad, cap, [], [], rfl, by simp, .inl rfl, .nil, by simp, .nil _, List.nodup_nil, by simp⟩
    | @lst sz' es g off cap c te fz fp' hne hsz' hcap hg hlen hc =>
      simp [srcOf] at hs
      obtain ⟨rfl, rfl, rfl, rfl⟩ := hs
      refine ⟨_, cap, _, fp', rfl, ?_, .inr ⟨_, rfl, fun j u hj => cell_seg hg hj⟩, hc, hlen, ⟨fun g' hg' => .inl (hf g' (by simp [hg'])), fun hfl => ?_, fun hfl _ => ?_⟩, List.nodup_nil, by simp⟩
      · rw [← hc.length, flatten_len hlen]
      · have : fp' = [] := hc.flat (by
          simp only [AM.flat, List.all_eq_true] at hfl ⊢
          intro y hy
          obtain ⟨x, hx, hy⟩ := List.mem_flatten.1 hy
          exact hfl x hx y hy)
        subst this
        intro g hg; cases hg
      · have : fp' = [] := hc.flat (by
          simp only [AM.flat, List.all_eq_true] at hfl ⊢
          intro y hy
          obtain ⟨x, hx, hy⟩ := List.mem_flatten.1 hy
          exact hfl x hx y hy)
        subst this
        exact List.nodup_nil
    | _ => simp [srcOf] at hs
  | @own b r hr h1 =>
    simp only [srcOf] at hs
    split at hs
    · rename_i el sz' fr es hb
      split at hs
      · rename_i hse
        subst hse
        have hd : gt h b ≠ .dead := by rw [hb]; intro hc; cases hc
        obtain ⟨r', h2, h3⟩ := R.blk b hd
        rw [hr] at h2
        cases h2
        rw [hb] at h3
        obtain ⟨xs, ho, _, hl, ht, hf, hfr⟩ := h3
        have hval : ∃ b2 c2, r.v = .slice b2 es.length c2 ∧ (es.length = 0 ∨ ∃ ad, b2 = some ad ∧ ∀ j u, xs[j]? = some u → w.cell? (ad.add j) = some u) := by
          rcases ho.2 with ⟨hv, hz⟩ | ⟨g, cap, cur, hv, hbg, hg, hcap, _, hcs, htake⟩
          · exact ⟨none, 0, by rw [hv, hz], .inl hz⟩
          · exact ⟨some ⟨g, 0, none⟩, cap, hv, .inr ⟨_, rfl, ho.cells (g := g) (by rw [hv]; rfl)⟩⟩
        obtain ⟨b2, c2, hv2, hsrc⟩ := hval
        split at hs
        · simp at hs
          obtain ⟨rfl, rfl, rfl⟩ := hs
          refine ⟨b2, c2, xs, r.fp, hv2, ho.1, hsrc, ht, hl, ⟨fun g hg => .inl (hf g hg), fun hft g hg => ⟨(hfr hft).2 g hg, b, by simp, r, hr, by rw [hb]; exact hft, .inr hg⟩, fun hft _ => (hfr hft).1⟩, by simp, by simp⟩
        · simp at hs
          obtain ⟨rfl, rfl, rfl⟩ := hs
          have hfl' : AM.flat es = true → r.fp = [] := fun hfl => ht.flat (by
            simp only [AM.flat, List.all_eq_true] at hfl ⊢
            intro y hy
            obtain ⟨x, hx, hy⟩ := List.mem_flatten.1 hy
            exact hfl x hx y hy)
          refine ⟨b2, c2, xs, r.fp, hv2, ho.1, hsrc, ht, hl, ⟨fun g hg => .inl (hf g hg), fun hft => ?_, fun hft _ => ?_⟩, List.nodup_nil, by simp⟩
          · rw [hfl' hft]; intro g hg; cases hg
          · rw [hfl' hft]; exact List.nodup_nil
      · cases hs
    · cases hs
  | _ => simp [srcOf] at hs

end
end Go.AM
