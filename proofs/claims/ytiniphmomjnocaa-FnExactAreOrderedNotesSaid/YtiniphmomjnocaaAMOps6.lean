/-
  THE ABSTRACT MACHINE: each operation is sound, sixth part: all of them.
-/
import Derived.Test.YtiniphmomjnocaaAMOps5
import Derived.Laws.StructEq
import Derived.Laws.Small
namespace Go.AM
open Go.RowKit (Below)

section
variable {P : Program} {N : Par} {base : Nat} {ρ : Map} {h : List Blk} {w w' : World} {F : Nat → Prop} {e : Env} {a : Act}

theorem addr_add' (g o n : Nat) : (⟨g, o, none⟩ : Addr).add n = ⟨g, o + n, none⟩ := addr_add g o n

theorem ok_iaddr (R : Rel N base ρ h w) {t el : TypeId} {i : TypeInfo} (hu : P.underlying t = some (.slice el)) (hi : P.info? el = some i) {x : AV} {xv : Value} {k : IntKind} {n : Int} (h0 : 0 ≤ n) {v : AV} {u : List (Nat × Blk)}
    (hv : (match x with
      | .t (.lst sz' es) => if sz' = i.size then (match es[n.toNat]? with
        | some cs => some (AV.iptr cs 0, ([] : List (Nat × Blk)))
        | none => none) else none
      | .own b => match gt h b with
        | .arr _ sz' _ es => if sz' = i.size ∧ n.toNat < es.length then some (.eptr b n.toNat i.size 0, []) else none
        | _ => none
      | .bsl b m => if i.size = 1 ∧ n.toNat < m then some (.ptr b n.toNat, []) else none
      | _ => none) = some (v, u)) (hx : RV ρ w (Free N ρ h) x xv) :
    OpOK P N base ρ h w (do pure (.value (← Instr.indexAt t xv (.int k n)))) v u := by
  have key : ∀ (ad : Addr) (len cap : Nat), xv = .slice (some ad) len cap → n.toNat < len → ((do pure (.value (← Instr.indexAt t xv (.int k n)))) : Sem Next).run P w = .ok (.value (.pointer (some (ad.add (n.toNat * i.size))))) w := by
    intro ad len cap hxv hlt
    subst hxv
    have h1 : n < (len : Int) := by omega
    simp [Instr.indexAt, asIntOf, run_underlying hu, h0, h1, sizeOf, typeInfo, hi]
  cases hx with
  | @t x val fp hT hf =>
    cases hT with
    | @lst sz' es g off cap c te fz fp' hne hsz' hcap hg hlen hc =>
      simp only at hv
      split at hv
      · rename_i hse
        subst hse
        split at hv
        · rename_i cs hcs
          cases hv
          have hlt : n.toNat < es.length := (List.getElem?_eq_some_iff.1 hcs).1
          obtain ⟨fq, h1, h2⟩ := hc.elem hlen hcs
          refine .same R (key _ _ _ rfl hlt) ?_
          rw [addr_add]
          refine RV.iptr (o := off + n.toNat * i.size) (off := 0) (fp := fq) hg (hf g (by simp)) ?_ fun g' hg' => hf g' (by simp [h2 g' hg'])
          have hcl : cs.length = i.size := hlen cs (List.mem_of_getElem? hcs)
          rw [List.drop_take, List.take_take, List.drop_drop] at h1
          have hmul : n.toNat * i.size + i.size ≤ es.length * i.size := by
            have := Nat.mul_le_mul_right i.size (show n.toNat + 1 ≤ es.length from hlt)
            rwa [Nat.add_mul, Nat.one_mul] at this
          rw [Nat.min_eq_left (by omega)] at h1
          exact h1
        · cases hv
      · cases hv
    | lst0 sz' ad cap => simp at hv
    | _ => simp at hv
  | @own b r hr hone =>
    simp only at hv
    split at hv
    · rename_i el' sz' fr es hb
      split at hv
      · rename_i hcond
        cases hv
        have hd : gt h b ≠ .dead := by rw [hb]; intro hc; cases hc
        obtain ⟨r', h1, h2⟩ := R.blk b hd
        rw [hr] at h1
        cases h1
        rw [hb] at h2
        obtain ⟨xs, ho, _⟩ := h2
        rcases ho.2 with ⟨hv, hz⟩ | ⟨g, cap, cur, hv, _⟩
        · omega
        · refine .same R (key _ _ _ hv hcond.2) ?_
          rw [addr_add, Nat.zero_add]
          exact RV.eptr (off := 0) hr hv
      · cases hv
    · cases hv
  | @bsl b m g r hr hrv =>
    simp only at hv
    split at hv
    · rename_i hcond
      cases hv
      refine .same R (key _ _ _ rfl hcond.2) ?_
      rw [addr_add, hcond.1, Nat.mul_one, Nat.zero_add]
      exact .ptr hr hrv
    · cases hv
  | _ => simp at hv

/-- a stretch of elements -/
theorem TRs.mid {es : List (List T)} {xs : List Value} {fp : List Nat} {sz : Nat} (hc : TRs w es.flatten xs fp) (hl : ∀ x ∈ es, x.length = sz) {l r : Nat} (hlr : l ≤ r) (hr : r ≤ es.length) :
    ∃ fq, TRs w ((es.take r).drop l).flatten ((xs.drop (l * sz)).take ((r - l) * sz)) fq ∧ ∀ g ∈ fq, g ∈ fp := by
  have e : es = es.take l ++ ((es.take r).drop l ++ es.drop r) := by
    have h1 : (es.take r).drop l ++ es.drop r = es.drop l := by
      rw [List.drop_take]
      have h2 : es.drop r = (es.drop l).drop (r - l) := by rw [List.drop_drop]; congr 1; omega
      rw [h2, List.take_append_drop]
    rw [h1, List.take_append_drop]
  rw [e, List.flatten_append, List.flatten_append] at hc
  obtain ⟨fa, fb, rfl, _, h2⟩ := hc.split
  obtain ⟨fc, fd, rfl, h3, _⟩ := h2.split
  have hl1 : (es.take l).flatten.length = l * sz := by
    rw [flatten_len fun x hx => hl x (List.mem_of_mem_take hx)]
    simp
    rw [Nat.min_eq_left (by omega)]
  have hl2 : ((es.take r).drop l).flatten.length = (r - l) * sz := by
    rw [flatten_len fun x hx => hl x (List.mem_of_mem_take (List.mem_of_mem_drop hx))]
    simp
    rw [Nat.min_eq_left (by omega)]
  rw [hl1, hl2] at h3
  exact ⟨fc, h3, fun g hg => by simp [hg]⟩

theorem bnd_some (hE : RelEnv ρ w F e a.tmps) {d : Nat} {o : Option Operand} {o' : Option Opd} (ho : (match o with | none => some none | some o => (opd o).map some) = some o') {r : Nat} (hb : bnd e d o' = some r) :
    (o = none ∧ r = d) ∨ ∃ x k n, o = some x ∧ a.eval x = .int k n ∧ 0 ≤ n ∧ r = n.toNat := by
  cases o with
  | none => cases ho; simp [bnd] at hb; exact .inl ⟨rfl, hb.symm⟩
  | some x =>
    obtain ⟨y, hy, rfl⟩ := Option.map_eq_some_iff.1 ho
    simp only [bnd] at hb
    split at hb
    · rename_i k n hn
      have hr := opd_rel hE hy
      rw [hn] at hr
      simp only [natOf] at hb
      split at hb
      · rename_i h0
        cases hb
        exact .inr ⟨x, k, n, rfl, hr.int_inv, h0, rfl⟩
      · cases hb
    · cases hb

theorem run_sliceBound {k : IntKind} {n : Int} {y : Nat} {code : BoundsCode} (h0 : 0 ≤ n) (h1 : n.toNat ≤ y) : (Instr.sliceBound (.int k n) y code).run P w = .ok n.toNat w := by
  have h2 : n ≤ (y : Int) := by omega
  simp [Instr.sliceBound, asIntOf, h0, h2]

theorem run_sliceBounds (hE : RelEnv ρ w F e a.tmps) {lo hi : Option Operand} {lo' hi' : Option Opd} (hlo : (match lo with | none => some none | some o => (opd o).map some) = some lo')
    (hhi : (match hi with | none => some none | some o => (opd o).map some) = some hi') {len cap l r : Nat} (hl : bnd e 0 lo' = some l) (hr : bnd e len hi' = some r) (hlr : l ≤ r) (hrc : r ≤ cap) (isS : Bool) :
    (Instr.sliceBounds isS len cap (lo.map a.eval) (hi.map a.eval) none).run P w = .ok (l, r, cap) w := by
  rcases bnd_some hE hlo hl with ⟨rfl, rfl⟩ | ⟨x, k, n, rfl, hx, h0, rfl⟩ <;> rcases bnd_some hE hhi hr with ⟨rfl, rfl⟩ | ⟨y, k', n', rfl, hy, h0', rfl⟩
  · simp [Instr.sliceBounds]
  · simp [Instr.sliceBounds, hy, run_sliceBound h0' hrc]
  · simp [Instr.sliceBounds, hx, run_sliceBound h0 hlr]
  · simp [Instr.sliceBounds, hx, hy, run_sliceBound h0 hlr, run_sliceBound h0' hrc]

theorem okEq_field {fs : List Field} {j : Nat} {ks : List Nat} (hk : okEq P fs j = some ks) : ∀ (d : Nat) (xs ys : List AV) (vx vy : Array Value), RVs ρ w F xs (vx.toList.drop j) → RVs ρ w F ys (vy.toList.drop j) →
    ∀ r, eqAs ks xs ys = some r → (Op.eqFields (d + 1) vx vy fs).run P w = .ok r w := by
  induction fs generalizing j ks with
  | nil =>
    intro d xs ys vx vy hx hy r hr
    cases hk
    cases xs <;> cases ys <;> simp [eqAs] at hr
    subst hr
    simp [Op.eqFields]
  | cons f fs ih =>
    intro d xs ys vx vy hx hy r hr
    simp only [okEq] at hk
    split at hk
    · rename_i hcond
      obtain ⟨hname, hoff⟩ := hcond
      split at hk
      · rename_i k ks' hty hrest
        cases hk
        cases xs with
        | nil => simp [eqAs] at hr
        | cons x xs =>
          cases ys with
          | nil => cases x <;> simp [eqAs] at hr
          | cons y ys =>
            obtain ⟨a1, hx0, hxa⟩ := hx.at (i := 0) (a := x) rfl
            obtain ⟨b1, hy0, hyb⟩ := hy.at (i := 0) (a := y) rfl
            have hxd : RVs ρ w F xs (vx.toList.drop (j + 1)) := by have := hx.drop 1; simpa [List.drop_drop] using this
            have hyd : RVs ρ w F ys (vy.toList.drop (j + 1)) := by have := hy.drop 1; simpa [List.drop_drop] using this
            have hx1 : vx[j]? = some a1 := by simpa using hx0
            have hy1 : vy[j]? = some b1 := by simpa using hy0
            cases x <;> try (simp [eqAs] at hr; done)
            rename_i ta
            cases y <;> try (simp [eqAs] at hr; done)
            rename_i tb
            simp only [eqAs] at hr
            split at hr
            · rename_i r1 r2 h1 h2
              cases hr
              have hrec := ih hrest d xs ys vx vy hxd hyd r2 h2
              have hpx : ∀ (v : Array Value) (c : Value), v[j]? = some c → (part f.type v f.offset).run P w = .ok c w := by
                intro v c hv
                have hag : (isAgg f.type).run P w = .ok false w := by
                  cases hu : P.underlying f.type with
                  | none => rw [hu] at hty; cases hty
                  | some dd => simp only [isAgg, Sem.run_bind, run_underlying hu, Result.andThen_ok]; rw [hu] at hty; cases dd <;> first | rfl | simp at hty
                simp [part, hag, hoff, hv]
              have heq : (Op.equalIn (d + 1) f.type a1 b1).run P w = .ok r1 w := by
                split at hty
                · rename_i hu
                  cases hty
                  cases ta <;> cases tb <;> simp [tEq] at h1
                  subst h1
                  rw [hxa.bool_inv, hyb.bool_inv]
                  exact run_equalIn_bool' w d f.type _ _ hu
                · rename_i k' hu
                  cases hty
                  cases ta <;> cases tb <;> simp [tEq] at h1
                  obtain ⟨rfl, rfl⟩ := h1
                  rw [hxa.int_inv, hyb.int_inv]
                  exact run_equalIn_int w d f.type _ k' _ _ hu
                · rename_i hu
                  cases hty
                  cases ta <;> cases tb <;> simp [tEq] at h1
                  subst h1
                  rw [hxa.str_inv, hyb.str_inv]
                  exact run_equalIn_string w d f.type _ _ hu
                · cases hty
              simp only [Op.eqFields, hname, ne_eq, not_false_eq_true, if_true, Sem.run_bind, hpx vx a1 hx1, hpx vy b1 hy1, Result.andThen_ok, heq]
              cases r1
              · simp
              · simpa using hrec
            · cases hr
      · cases hk
    · cases hk

end
end Go.AM
