/-
  THE ABSTRACT MACHINE: a law's contract, from one 'Sound' for all arguments of the parameters' shapes.
-/
import Derived.Test.YtiniphmomjnocaaAMLaw
namespace Go.AM
open Go.RowKit (Below)
open Go.ChangeShapes Go.WideShapes Go.ChangeAt Go.RowKit

def ParOK : Bool × List CSh → AV → Prop
  | (true, shs), a => ∃ xs, a = .agg (xs.map .t) ∧ HasShs shs xs
  | (false, shs), a => ∃ x, a = .t x ∧ HasShs shs [x]

def ParsOK : List (Bool × List CSh) → List AV → Prop
  | [], as => as = []
  | p :: ps, as => ∃ a as', as = a :: as' ∧ ParOK p a ∧ ParsOK ps as'

def parSh (P : Program) (t : TypeId) : Option (Bool × List CSh) := match cellSh P 16 t with
  | some cs => match P.underlying t with
    | some (.struct _) => some (true, cs)
    | some (.array _ _) => none
    | some _ => some (false, cs)
    | none => none
  | none => none

def parsSh (P : Program) : List TypeId → Option (List (Bool × List CSh))
  | [] => some []
  | t :: ts => match parSh P t with
    | some p => match parsSh P ts with
      | some ps => some (p :: ps)
      | none => none
    | none => none

/-- every parameter's type reads -/
def parsOK (P : Program) (ts : List TypeId) : Bool := ts.all fun t => P.readableRec t && decide (t < P.types.size)

section
variable {H : Type} {enc : TypeId × Value → H} {P : Program} {w : World} {sp : Nat → Bool} {held : Bool}

theorem TRs.rvs {ts : List T} {vs : List Value} {fp : List Nat} (h : TRs w ts vs fp) : RVs noMap w (fun _ => True) (ts.map .t) vs := by
  induction ts generalizing vs fp with
  | nil => cases h; exact .nil
  | cons t ts ih => cases h with | cons h hs => exact .cons (.t h fun _ _ => trivial) (ih hs)

theorem par_arg {t : TypeId} {v : Value} {d : DataW H} {ps : List MemPlace} {base : Nat} (h : DataW.Trod enc P w 0 sp held t v d ps) (hok : Value.okWide P w .any base t v) {p : Bool × List CSh} (hp : parSh P t = some p) :
    ∃ a, RV noMap w (fun _ => True) a v ∧ ParOK p a := by
  obtain ⟨fuel, h⟩ := h
  unfold parSh at hp
  split at hp
  · rename_i cs hcs
    obtain ⟨ts, fp, h1, h2⟩ := trod_tree fuel t _ d ps h 16 cs hcs
    split at hp
    · rename_i fs hu
      cases hp
      obtain ⟨c, rfl, _⟩ := okWide_struct hu hok
      refine ⟨.agg (ts.map .t), .agg h1.rvs h1.one, ts, rfl, h2⟩
    · cases hp
    · rename_i dd hns hna hu
      cases hp
      have hone : cs.length = 1 := by
        unfold cellSh at hcs
        rw [hu] at hcs
        cases dd <;> simp at hcs
        · subst hcs; rfl
        · subst hcs; rfl
        · subst hcs; rfl
        · split at hcs
          · split at hcs
            · cases hcs; rfl
            · cases hcs
          · cases hcs
        · exact absurd rfl (hns _)
      match ts, h2, h1 with
      | [], h2, h1 => have := h2.len; simp at this; omega
      | [x], h2, h1 =>
        have hv : v.cells.toList = [v] := by
          unfold cellSh at hcs
          rw [hu] at hcs
          cases dd <;> simp at hcs
          · obtain ⟨_, rfl⟩ := okWide_bool hu hok; rfl
          · obtain ⟨_, rfl⟩ := okWide_int hu hok; rfl
          · obtain ⟨_, rfl⟩ := okWide_string hu hok; rfl
          · obtain ⟨_, _, _, rfl⟩ := okWide_slice hu hok; rfl
          · exact absurd rfl (hns _)
        rw [hv] at h1
        cases h1 with | cons h hs =>
        exact ⟨.t x, .t h fun _ _ => trivial, x, rfl, h2⟩
      | _ :: _ :: _, h2, h1 => have := h2.len; simp at this; omega
    · cases hp
  · cases hp

theorem pars_args {base : Nat} : ∀ (ts : List TypeId) (vs : List Value) (ds : List (DataW H)) (ps : List MemPlace), DataW.TrodAll enc P w 0 sp held ts vs ds ps →
    (∀ (j : Nat) t v, ts[j]? = some t → vs[j]? = some v → Value.okWide P w .any base t v) → ∀ l, parsSh P ts = some l → ∃ as, RVs noMap w (fun _ => True) as vs ∧ ParsOK l as
  | [], [], [], _, _, _, l, hl => by cases hl; exact ⟨[], .nil, rfl⟩
  | t :: ts, v :: vs, d :: ds, _, ⟨p, q, h1, h2, _⟩, hok, l, hl => by
    unfold parsSh at hl
    split at hl
    · rename_i p1 hp1
      split at hl
      · rename_i ps1 hps1
        cases hl
        obtain ⟨a, ha, hpa⟩ := par_arg h1 (hok 0 t v rfl rfl) hp1
        obtain ⟨as, has, hpas⟩ := pars_args ts vs ds q h2 (fun j t v h h' => hok (j + 1) t v (by simpa using h) (by simpa using h')) ps1 hps1
        exact ⟨a :: as, .cons ha has, a, as, rfl, hpa, hpas⟩
      · cases hl
    · cases hl

theorem below_trodAll (hl : laidOutB P = true) {W W' : World} (hb : Below W.heap.size W W') : ∀ (ts : List TypeId) (vs : List Value) (ds : List (DataW H)) (ps : List MemPlace), parsOK P ts = true → DataW.TrodAll enc P W 0 (fun _ => true) true ts vs ds ps →
    (∀ x ∈ ps, x.block < W.heap.size) → DataW.TrodAll enc P W' 0 (fun b => decide (b < W.heap.size)) true ts vs ds ps
  | [], [], [], _, _, h, _ => h
  | t :: ts, v :: vs, d :: ds, _, hr, ⟨p, q, h1, h2, e⟩, hlt => by
    subst e
    simp only [parsOK, List.all_cons, Bool.and_eq_true, decide_eq_true_eq] at hr
    exact ⟨p, q, Below.trod hl hr.1.1 hr.1.2 h1 hb (fun x hx => hlt x (List.mem_append_left _ hx)), below_trodAll hl hb ts vs ds q hr.2 h2 (fun x hx => hlt x (List.mem_append_right _ hx)), rfl⟩

theorem trodAll_len : ∀ (ts : List TypeId) (vs : List Value) (ds : List (DataW H)) (ps : List MemPlace), DataW.TrodAll enc P w 0 sp held ts vs ds ps → ds.length = ts.length
  | [], [], [], _, _ => rfl
  | _ :: ts, _ :: vs, _ :: ds, _, ⟨_, q, _, h2, _⟩ => by simp [trodAll_len ts vs ds q h2]

/-- A LAW's CONTRACT -/
theorem law_contract (hl : laidOutB P = true) {f : Nat} {fn : Func} {s : ChangeSpec} {tb : TypeId} {l : List (Bool × List CSh)} (hrd : parsOK P fn.params.toList = true) (hsh : parsSh P fn.params.toList = some l)
    (hres : fn.resultTypes = #[tb]) (htb : P.underlying tb = some .bool) (hvars : s.vars = [])
    (hfn : ∀ (H : Type) (ds : List (DataW H)), ds.length = fn.params.toList.length → (s.fn H ds).results = [.lit (.bool true)] ∧ (s.fn H ds).args = ds ∧ (s.fn H ds).vars = [])
    (hS : ∀ as, ParsOK l as → ∃ hr, Sound P f as [] (.t (.bool true)) hr)
    (W : World) (base : Nat) (args : Array Value) (ds gs : List (DataW H)) (before : List MemPlace)
    (hval : ∀ (j : Nat) t v, fn.params[j]? = some t → args[j]? = some v → Value.okWide P W .any base t v)
    (hW : DataW.Whole enc P fn.params.toList s.vars false W args.toList ds gs before) :
    Calls P f args W fun e W' => ∃ v, e = .returned v ∧ s.post enc P fn false true false false W args v W' := by
  have hW' := hW
  obtain ⟨p, q, hA, hV, rfl, hfz, hnd⟩ := hW
  have hV0 := hV
  rw [hvars] at hV
  obtain ⟨rfl, rfl⟩ : gs = [] ∧ q = [] := by
    cases gs with
    | nil => exact ⟨rfl, hV⟩
    | cons _ _ => exact hV.elim
  obtain ⟨as, hRV, hP⟩ := pars_args fn.params.toList args.toList ds p hA (fun j t v h h' => hval j t v (by simpa using h) (by simpa using h')) l hsh
  obtain ⟨hr, hC⟩ := hS as hP
  refine (hC.data W (fun _ => True) args hRV).mono fun e W' ⟨v, ρ, he, hB, _, hv, _⟩ => ?_
  subst he
  obtain ⟨h1, h2, h3⟩ := hfn H (ds ++ []) (by rw [List.append_nil]; exact trodAll_len _ _ _ _ hA)
  cases hv with | t h _ =>
  cases h
  have hlt := hW'.lt
  refine ⟨_, rfl, ds, [], p ++ [], [], p, [], hW', ?_, ?_, ?_, hB.frame _, (by intro h; cases h)⟩
  · rw [h1, hres]
    exact trodAll_cons_mk (p := []) (p' := []) (shut_bool htb _) trodAll_mk0
  · rw [h2, List.append_nil]
    exact below_trodAll hl hB _ _ _ _ hrd hA (fun x hx => hlt x (by simpa using hx))
  · rw [h3, hvars]; rfl

end
end Go.AM
