import PyProof.Rows.All
import Wide.All
import OpenK.AllK
import Wide.FinOn
import HandS.ForMost
import HandS.Exc
import HandS.ExcOwn
import HandS.ExcInit
import HandS.ExcField
import HandS.TryMany
import HandS.Defaults
import HandS.More
import HandS.Wide
import HandS.Gcd
import HandS.IsInst
import HandS.Deep
import HandS.Small
import HandS.Rev
import HandS.Iter
import HandS.WordsExc
import HandS.EndBits
import HandS.Walk
import PySem.Challenge.RW_consol_k52_whole_entitlements_sum
set_option autoImplicit false
namespace Mth
/-! ## fractions: pairs of natural numbers -/
abbrev Fr := Nat × Nat
def mk (p q : Nat) : Fr := (p / Nat.gcd p q, q / Nat.gcd p q)
def ad (x y : Fr) : Fr := mk (x.1 * y.2 + y.1 * x.2) (x.2 * y.2)
def tm (x y : Fr) : Fr := mk (x.1 * y.1) (x.2 * y.2)
def Can (x : Fr) : Prop := 0 < x.2 ∧ Nat.gcd x.1 x.2 = 1

theorem mk_spec (p q : Nat) (hq : 0 < q) : ∃ g, 0 < g ∧ p = g * (mk p q).1 ∧ q = g * (mk p q).2 ∧ Nat.gcd (mk p q).1 (mk p q).2 = 1 ∧ 0 < (mk p q).2 := by
  have hg : 0 < Nat.gcd p q := Nat.gcd_pos_of_pos_right p hq
  refine ⟨Nat.gcd p q, hg, ?_, ?_, ?_, ?_⟩
  · exact (Nat.mul_div_cancel' (Nat.gcd_dvd_left p q)).symm
  · exact (Nat.mul_div_cancel' (Nat.gcd_dvd_right p q)).symm
  · exact Nat.gcd_div_gcd_div_gcd_of_pos_right hq
  · exact Nat.div_pos (Nat.le_of_dvd hq (Nat.gcd_dvd_right p q)) hg
theorem mk_can {p q : Nat} (hq : 0 < q) : Can (mk p q) := by
  obtain ⟨g, _, _, _, h1, h2⟩ := mk_spec p q hq
  exact ⟨h2, h1⟩
theorem mk_of_can {x : Fr} (h : Can x) : mk x.1 x.2 = x := by
  unfold mk
  rw [h.2, Nat.div_one, Nat.div_one]
theorem mk_scale (c p q : Nat) (hc : 0 < c) : mk (c * p) (c * q) = mk p q := by
  unfold mk
  rw [Nat.gcd_mul_left, Nat.mul_div_mul_left _ _ hc, Nat.mul_div_mul_left _ _ hc]
theorem mk_eq {p q p' q' : Nat} (hq : 0 < q) (hq' : 0 < q') (h : p * q' = p' * q) : mk p q = mk p' q' := by
  rw [← mk_scale q' p q hq', ← mk_scale q p' q' hq]
  rw [Nat.mul_comm q' p, h, Nat.mul_comm p' q, Nat.mul_comm q' q]
theorem mk_le {p q : Nat} : (mk p q).1 ≤ p ∧ (mk p q).2 ≤ q := ⟨Nat.div_le_self _ _, Nat.div_le_self _ _⟩
theorem ad_mk {a b c d : Nat} (hc : 0 < c) (hd : 0 < d) : ad (mk a c) (mk b d) = mk (a * d + b * c) (c * d) := by
  obtain ⟨g, hg, e1, e2, _, e3⟩ := mk_spec a c hc
  obtain ⟨k, hk, f1, f2, _, f3⟩ := mk_spec b d hd
  unfold ad
  generalize (mk a c).1 = a' at *
  generalize (mk a c).2 = c' at *
  generalize (mk b d).1 = b' at *
  generalize (mk b d).2 = d' at *
  subst e1 e2 f1 f2
  have z : g * a' * (k * d') + k * b' * (g * c') = (g * k) * (a' * d' + b' * c') := by
    rw [Nat.mul_add]
    congr 1
    · simp only [Nat.mul_assoc, Nat.mul_left_comm, Nat.mul_comm]
    · simp only [Nat.mul_assoc, Nat.mul_left_comm, Nat.mul_comm]
  have z2 : g * c' * (k * d') = (g * k) * (c' * d') := by
    simp only [Nat.mul_assoc, Nat.mul_left_comm, Nat.mul_comm]
  rw [z, z2, mk_scale _ _ _ (Nat.mul_pos hg hk)]
theorem ad_mk1 {a b c : Nat} (hc : 0 < c) : ad (mk a c) (mk b c) = mk (a + b) c := by
  rw [ad_mk hc hc, ← Nat.add_mul, Nat.mul_comm (a + b) c, mk_scale _ _ _ hc]
theorem tm_mk {a c : Nat} {x : Fr} (hx : 0 < x.2) (hc : 0 < c) : tm x (mk a c) = mk (x.1 * a) (x.2 * c) := by
  obtain ⟨g, hg, e1, e2, _, e3⟩ := mk_spec a c hc
  unfold tm
  generalize (mk a c).1 = a' at *
  generalize (mk a c).2 = c' at *
  subst e1 e2
  rw [Nat.mul_left_comm x.1 g a', Nat.mul_left_comm x.2 g c', mk_scale _ _ _ hg]
theorem mk_zero {q : Nat} (hq : 0 < q) : mk 0 q = (0, 1) := by
  unfold mk
  rw [Nat.gcd_zero_left, Nat.zero_div, Nat.div_self hq]
theorem can_zero : Can (0, 1) := ⟨by decide, by decide⟩
theorem ad_zero {x : Fr} (h : Can x) : ad (0, 1) x = x := by
  unfold ad
  show mk (0 * x.2 + x.1 * 1) (1 * x.2) = x
  rw [Nat.zero_mul, Nat.zero_add, Nat.mul_one, Nat.one_mul, mk_of_can h]
theorem ad_can {x y : Fr} (hx : 0 < x.2) (hy : 0 < y.2) : Can (ad x y) := mk_can (Nat.mul_pos hx hy)
theorem tm_can {x y : Fr} (hx : 0 < x.2) (hy : 0 < y.2) : Can (tm x y) := mk_can (Nat.mul_pos hx hy)

/-! ## Euclid's turns -/
structure Eu (p q i a b : Nat) : Prop where
  g : Nat.gcd a b = Nat.gcd p q
  le : b ≤ q
  pos : 0 < a ∨ 0 < b
  sm : 1 ≤ i → b < a ∧ a ≤ q ∧ a * b * 2 ^ (i - 1) ≤ q * q
theorem Eu.start {p q : Nat} (hq : 0 < q) : Eu p q 0 p q := ⟨rfl, Nat.le_refl _, .inr hq, fun h => absurd h (by decide)⟩
theorem Eu.turn {p q i a b : Nat} (e : Eu p q i a b) (hb : b ≠ 0) : Eu p q (i + 1) b (a % b) := by
  have hb' : 0 < b := Nat.pos_of_ne_zero hb
  have hm : a % b < b := Nat.mod_lt _ hb'
  refine ⟨?_, ?_, .inl hb', fun _ => ⟨hm, e.le, ?_⟩⟩
  · rw [← e.g, Nat.gcd_comm b (a % b), ← Nat.gcd_rec, Nat.gcd_comm]
  · exact Nat.le_trans (Nat.le_of_lt hm) e.le
  · show b * (a % b) * 2 ^ i ≤ q * q
    cases i with
    | zero =>
      rw [Nat.pow_zero, Nat.mul_one]
      exact Nat.mul_le_mul e.le (Nat.le_trans (Nat.le_of_lt hm) e.le)
    | succ j =>
      obtain ⟨h1, _, h2⟩ := e.sm (Nat.succ_le_succ (Nat.zero_le j))
      have h2' : a * b * 2 ^ j ≤ q * q := h2
      have h3 : 2 * (a % b) ≤ a := by
        have := Nat.div_add_mod a b
        have h4 : 1 ≤ a / b := (Nat.le_div_iff_mul_le hb').mpr (by omega)
        have h5 : b * 1 ≤ b * (a / b) := Nat.mul_le_mul_left b h4
        omega
      have h6 : b * (a % b) * 2 ^ (j + 1) = b * (2 * (a % b)) * 2 ^ j := by
        rw [Nat.pow_succ]
        simp only [Nat.mul_assoc, Nat.mul_left_comm, Nat.mul_comm]
      rw [h6]
      refine Nat.le_trans (Nat.mul_le_mul_right _ (Nat.mul_le_mul_left b h3)) ?_
      rw [Nat.mul_comm b a]
      exact h2'
theorem Eu.done {p q i a : Nat} (e : Eu p q i a 0) : a = Nat.gcd p q := by
  rw [← e.g, Nat.gcd_zero_right]
theorem Eu.last {p q a b : Nat} (hq : q < 2 ^ 2400) (e : Eu p q 5000 a b) : b = 0 := by
  obtain ⟨h1, _, h2⟩ := e.sm (by decide)
  rcases Nat.eq_zero_or_pos b with h | h
  · exact h
  · exfalso
    have ha : 0 < a := Nat.lt_trans h h1
    have h3 : 1 ≤ a * b := Nat.mul_pos ha h
    have h4 : 2 ^ (5000 - 1) ≤ q * q := Nat.le_trans (Nat.le_mul_of_pos_left _ h3) h2
    have h5 : q * q < 2 ^ 2400 * 2 ^ 2400 := Nat.mul_lt_mul'' hq hq
    rw [← Nat.pow_add] at h5
    have h6 : (2 : Nat) ^ (2400 + 2400) ≤ 2 ^ (5000 - 1) := Nat.pow_le_pow_right (by decide) (by decide)
    exact absurd (Nat.lt_of_le_of_lt h4 h5) (Nat.not_lt.mpr h6)
end Mth

set_option autoImplicit false
namespace Mth
/-! ## accounts as rows -/
structure Row (α : Type) where
  name : α
  under : Option α
  nom : Bool
  units : Nat
section
variable {α : Type} [DecidableEq α]
def names (st : List (Row α)) : List α := st.map (·.name)
def find (st : List (Row α)) (n : α) : Option (Row α) := st.find? fun r => decide (r.name = n)
def und (st : List (Row α)) (n : α) : Option α := (find st n).bind (·.under)
/-- the nominees above, the outermost first; at most k of them -/
def chain (st : List (Row α)) : Nat → Option α → List α
  | 0, _ => []
  | _ + 1, none => []
  | k + 1, some u => chain st k (und st u) ++ [u]
def above (st : List (Row α)) (n : α) : List α := chain st 5 (und st n)
def unitsSum (st : List (Row α)) (p : Row α → Bool) : Nat := ((st.filter p).map (·.units)).sum
def held (st : List (Row α)) (r : Row α) : Nat := if r.nom = true then unitsSum st (fun o => decide (r.name ∈ above st o.name)) else r.units
def setU (st : List (Row α)) (n : α) (v : Nat) : List (Row α) := st.map fun r => if r.name = n then { r with units := v } else r

theorem find_mem {st : List (Row α)} {n : α} {r : Row α} (h : find st n = some r) : r ∈ st ∧ r.name = n :=
  ⟨List.mem_of_find?_eq_some h, of_decide_eq_true (by have := List.find?_some h; exact this)⟩
theorem find_none {st : List (Row α)} {n : α} : find st n = none ↔ n ∉ names st := by
  unfold find names
  rw [List.find?_eq_none]
  constructor
  · intro h m
    obtain ⟨r, hr, e⟩ := List.mem_map.mp m
    exact h r hr (decide_eq_true e)
  · intro h r hr e
    exact h (List.mem_map.mpr ⟨r, hr, of_decide_eq_true e⟩)
theorem find_ex {st : List (Row α)} {n : α} (h : n ∈ names st) : ∃ r, find st n = some r := by
  cases e : find st n with
  | none => exact absurd h (find_none.mp e)
  | some r => exact ⟨r, rfl⟩
theorem find_of_mem : ∀ {st : List (Row α)} {r : Row α}, (names st).Nodup → r ∈ st → find st r.name = some r
  | [], _, _, h => by cases h
  | q :: l, r, nd, h => by
    have nd' : q.name ∉ names l ∧ (names l).Nodup := List.nodup_cons.mp nd
    show List.find? _ (q :: l) = some r
    rw [List.find?_cons]
    rcases List.mem_cons.mp h with e | h
    · subst e
      simp
    · have ne : ¬ q.name = r.name := fun z => nd'.1 (z ▸ List.mem_map.mpr ⟨r, h, rfl⟩)
      rw [decide_eq_false ne]
      exact find_of_mem nd'.2 h
theorem find_snoc {st : List (Row α)} {n : α} {r : Row α} (h : r.name ∉ names st) : find (st ++ [r]) n = if r.name = n then some r else find st n := by
  unfold find
  rw [List.find?_append]
  by_cases e : r.name = n
  · rw [if_pos e]
    have : List.find? (fun q : Row α => decide (q.name = n)) st = none := find_none.mpr (e ▸ h)
    rw [this]
    simp [e]
  · rw [if_neg e]
    simp [e]
theorem find_old {st : List (Row α)} {n : α} {r : Row α} (h : r.name ∉ names st) (hn : n ∈ names st) : find (st ++ [r]) n = find st n := by
  rw [find_snoc h, if_neg]
  intro e
  exact h (e ▸ hn)
theorem und_old {st : List (Row α)} {n : α} {r : Row α} (h : r.name ∉ names st) (hn : n ∈ names st) : und (st ++ [r]) n = und st n := by
  unfold und
  rw [find_old h hn]
theorem names_snoc (st : List (Row α)) (r : Row α) : names (st ++ [r]) = names st ++ [r.name] := by
  unfold names
  rw [List.map_append]
  rfl

/-- every account stands under a nominee that was opened before it, at most three deep -/
inductive Shape : List (Row α) → Prop
  | one (n : α) (u : Nat) : Shape [⟨n, none, false, u⟩]
  | snoc {st : List (Row α)} {r : Row α} : Shape st → r.name ∉ names st → (∀ u, r.under = some u → ∃ q, find st u = some q ∧ q.nom = true ∧ (above st u).length < 3) → Shape (st ++ [r])

theorem Shape.nd {st : List (Row α)} (h : Shape st) : (names st).Nodup := by
  induction h with
  | one n u => exact List.nodup_cons.mpr ⟨List.not_mem_nil, List.nodup_nil⟩
  | @snoc st r _ h1 _ ih =>
    rw [names_snoc]
    rw [List.nodup_append]
    refine ⟨ih, List.nodup_cons.mpr ⟨List.not_mem_nil, List.nodup_nil⟩, fun a ha b hb e => ?_⟩
    rw [List.mem_singleton.mp hb] at e
    exact h1 (e ▸ ha)
theorem Shape.closed {st : List (Row α)} (h : Shape st) : ∀ n u, und st n = some u → ∃ q, find st u = some q ∧ q.nom = true := by
  induction h with
  | one n u =>
    intro m x e
    unfold und find at e
    rw [List.find?_cons] at e
    split at e
    · cases e
    · cases e
  | @snoc st r hs h1 h2 ih =>
    intro m x e
    unfold und at e
    rw [find_snoc h1] at e
    have up : ∀ {y q}, find st y = some q → find (st ++ [r]) y = some q := fun {y q} z => by
      have hm := find_mem z
      rw [find_old h1 (List.mem_map.mpr ⟨q, hm.1, hm.2⟩), z]
    by_cases em : r.name = m
    · rw [if_pos em] at e
      obtain ⟨q, hq, hn, _⟩ := h2 x e
      exact ⟨q, up hq, hn⟩
    · rw [if_neg em] at e
      obtain ⟨q, hq, hn⟩ := ih m x e
      exact ⟨q, up hq, hn⟩
theorem chain_none (st : List (Row α)) (k : Nat) : chain st k none = [] := by cases k <;> rfl
theorem chain_old {st : List (Row α)} {r : Row α} (hs : Shape st) (h1 : r.name ∉ names st) : ∀ (k : Nat) (o : Option α), (∀ u, o = some u → u ∈ names st) → chain (st ++ [r]) k o = chain st k o
  | 0, _, _ => rfl
  | k + 1, none, _ => rfl
  | k + 1, some u, h => by
    show chain (st ++ [r]) k (und (st ++ [r]) u) ++ [u] = chain st k (und st u) ++ [u]
    rw [und_old h1 (h u rfl), chain_old hs h1 k (und st u) fun x e => ?_]
    obtain ⟨q, hq, _⟩ := hs.closed u x e
    have hm := find_mem hq
    exact List.mem_map.mpr ⟨q, hm.1, hm.2⟩
theorem mem_of_und {st : List (Row α)} (hs : Shape st) {n u : α} (e : und st n = some u) : u ∈ names st := by
  obtain ⟨q, hq, _⟩ := hs.closed n u e
  have hm := find_mem hq
  exact List.mem_map.mpr ⟨q, hm.1, hm.2⟩
theorem above_old {st : List (Row α)} {r : Row α} (hs : Shape st) (h1 : r.name ∉ names st) {n : α} (hn : n ∈ names st) : above (st ++ [r]) n = above st n := by
  unfold above
  rw [und_old h1 hn]
  exact chain_old hs h1 5 _ fun u e => mem_of_und hs e
/-- where a chain is shorter than its fuel, one more makes no difference -/
theorem chain_more {st : List (Row α)} : ∀ (k : Nat) (o : Option α), (chain st k o).length < k → chain st (k + 1) o = chain st k o
  | 0, _, h => by cases h
  | k + 1, none, _ => rfl
  | k + 1, some u, h => by
    show chain st (k + 1) (und st u) ++ [u] = chain st k (und st u) ++ [u]
    rw [chain_more k (und st u)]
    have : (chain st k (und st u) ++ [u]).length < k + 1 := h
    rw [List.length_append] at this
    exact Nat.lt_of_succ_lt_succ this
theorem chain_less {st : List (Row α)} : ∀ (k : Nat) (o : Option α), (chain st (k + 1) o).length < k → chain st k o = chain st (k + 1) o
  | 0, _, h => by cases h
  | k + 1, none, _ => rfl
  | k + 1, some u, h => by
    show chain st k (und st u) ++ [u] = chain st (k + 1) (und st u) ++ [u]
    rw [chain_less k (und st u)]
    have : (chain st (k + 1) (und st u) ++ [u]).length < k + 1 := h
    rw [List.length_append] at this
    exact Nat.lt_of_succ_lt_succ this
theorem above_new {st : List (Row α)} {r : Row α} (hs : Shape st) (h1 : r.name ∉ names st) : above (st ++ [r]) r.name = chain st 5 r.under ∨ ∃ u, r.under = some u ∧ u ∉ names st := by
  have e : und (st ++ [r]) r.name = r.under := by
    unfold und
    rw [find_snoc h1, if_pos rfl]
    rfl
  by_cases h : ∀ u, r.under = some u → u ∈ names st
  · refine .inl ?_
    unfold above
    rw [e, chain_old hs h1 5 _ h]
  · refine .inr ?_
    refine Classical.byContradiction fun hn => h fun u hu => ?_
    exact Classical.byContradiction fun hm => hn ⟨u, hu, hm⟩
/-- what stands above a new account under u -/
theorem above_under {st : List (Row α)} {r : Row α} {u : α} (hs : Shape st) (h1 : r.name ∉ names st) (hu : r.under = some u) (hm : u ∈ names st) (hl : (above st u).length < 3) : above (st ++ [r]) r.name = above st u ++ [u] := by
  rcases above_new hs h1 with e | ⟨x, e1, e2⟩
  · rw [e, hu]
    show chain st 4 (und st u) ++ [u] = chain st 5 (und st u) ++ [u]
    rw [chain_less 4 (und st u) (Nat.lt_of_lt_of_le hl (by decide))]
  · rw [hu] at e1
    cases e1
    exact absurd hm e2
theorem above_root {st : List (Row α)} {r : Row α} (hs : Shape st) (h1 : r.name ∉ names st) (hu : r.under = none) : above (st ++ [r]) r.name = [] := by
  rcases above_new hs h1 with e | ⟨x, e1, e2⟩
  · rw [e, hu]
    rfl
  · rw [hu] at e1
    cases e1
theorem Shape.le3 {st : List (Row α)} (h : Shape st) : ∀ n ∈ names st, (above st n).length ≤ 3 := by
  induction h with
  | one m u =>
    intro n hn
    have e : n = m := List.mem_singleton.mp hn
    subst e
    unfold above und find
    rw [List.find?_cons]
    simp [chain]
  | @snoc st r hs h1 h2 ih =>
    intro n hn
    rw [names_snoc] at hn
    rcases List.mem_append.mp hn with hn | hn
    · rw [above_old hs h1 hn]
      exact ih n hn
    · rw [List.mem_singleton.mp hn]
      cases hu : r.under with
      | none =>
        rw [above_root hs h1 hu]
        exact Nat.zero_le _
      | some u =>
        obtain ⟨q, hq, _, hl⟩ := h2 u hu
        have hm := find_mem hq
        rw [above_under hs h1 hu (List.mem_map.mpr ⟨q, hm.1, hm.2⟩) hl, List.length_append]
        show _ + 1 ≤ 3
        omega
/-- what stands above are nominees of the list -/
theorem Shape.aboveNom {st : List (Row α)} (h : Shape st) : ∀ k o, (∀ u, o = some u → ∃ q, find st u = some q ∧ q.nom = true) → ∀ x ∈ chain st k o, ∃ q, find st x = some q ∧ q.nom = true
  | 0, _, _, _, hx => by cases hx
  | k + 1, none, _, _, hx => by cases hx
  | k + 1, some u, ho, x, hx => by
    have hx : x ∈ chain st k (und st u) ++ [u] := hx
    rcases List.mem_append.mp hx with hx | hx
    · exact h.aboveNom k (und st u) (fun y e => h.closed u y e) x hx
    · rw [List.mem_singleton.mp hx]
      exact ho u rfl
theorem Shape.nomAbove {st : List (Row α)} (h : Shape st) {n x : α} (hx : x ∈ above st n) : ∃ q, find st x = some q ∧ q.nom = true :=
  h.aboveNom 5 (und st n) (fun u e => h.closed n u e) x hx

/-! ### sums over the tree -/
/-- all that stands at x or beneath it -/
def at_ (st : List (Row α)) (x : α) : Nat := unitsSum st fun o => decide (x ∈ above st o.name ∨ x = o.name)
theorem us_nil (p : Row α → Bool) : unitsSum [] p = 0 := rfl
theorem us_cons (r : Row α) (st : List (Row α)) (p : Row α → Bool) : unitsSum (r :: st) p = (if p r = true then r.units else 0) + unitsSum st p := by
  unfold unitsSum
  rw [List.filter_cons]
  split
  · rw [List.map_cons, List.sum_cons]
  · rw [Nat.zero_add]
theorem us_app (a b : List (Row α)) (p : Row α → Bool) : unitsSum (a ++ b) p = unitsSum a p + unitsSum b p := by
  unfold unitsSum
  rw [List.filter_append, List.map_append, List.sum_append]
theorem us_congr : ∀ {st : List (Row α)} {p q : Row α → Bool}, (∀ r ∈ st, p r = q r ∨ r.units = 0) → unitsSum st p = unitsSum st q
  | [], _, _, _ => rfl
  | r :: l, p, q, h => by
    rw [us_cons, us_cons, us_congr (st := l) fun x hx => h x (List.mem_cons_of_mem _ hx)]
    congr 1
    rcases h r (List.mem_cons_self) with e | e
    · rw [e]
    · rw [e]
      simp
theorem us_snoc (st : List (Row α)) (r : Row α) (p : Row α → Bool) : unitsSum (st ++ [r]) p = unitsSum st p + if p r = true then r.units else 0 := by
  rw [us_app, us_cons, us_nil, Nat.add_zero]
theorem us_false : ∀ st : List (Row α), unitsSum st (fun _ => false) = 0
  | [] => rfl
  | r :: l => by
    rw [us_cons, us_false l]
    rfl
def NomZ (st : List (Row α)) : Prop := ∀ r ∈ st, r.nom = true → r.units = 0
theorem held_at {st : List (Row α)} (hs : Shape st) (hz : NomZ st) {r : Row α} (hr : r ∈ st) : held st r = at_ st r.name := by
  unfold held at_
  have fr := find_of_mem hs.nd hr
  by_cases hn : r.nom = true
  · rw [if_pos hn]
    refine us_congr fun o ho => ?_
    by_cases e : r.name = o.name
    · refine .inr ?_
      have := find_of_mem hs.nd ho
      rw [← e, fr] at this
      cases this
      exact hz r hr hn
    · refine .inl ?_
      have : (r.name ∈ above st o.name ∨ r.name = o.name) ↔ r.name ∈ above st o.name := ⟨fun h => h.resolve_right e, .inl⟩
      rw [decide_eq_decide]
      exact this.symm
  · rw [if_neg hn]
    have h1 : unitsSum st (fun o => decide (r.name ∈ above st o.name ∨ r.name = o.name)) = unitsSum st fun o => decide (r.name = o.name) := by
      refine us_congr fun o ho => .inl ?_
      rw [decide_eq_decide]
      refine ⟨fun h => h.resolve_left fun hx => ?_, .inr⟩
      obtain ⟨q, hq, hqn⟩ := hs.nomAbove hx
      rw [fr] at hq
      cases hq
      exact hn hqn
    rw [h1]
    have key : ∀ {l : List (Row α)}, (names l).Nodup → r ∈ l → unitsSum l (fun o => decide (r.name = o.name)) = r.units := by
      intro l
      induction l with
      | nil => intro _ h; cases h
      | cons q l ih =>
        intro nd h
        have nd' : q.name ∉ names l ∧ (names l).Nodup := List.nodup_cons.mp nd
        rw [us_cons]
        rcases List.mem_cons.mp h with e | h
        · subst e
          have z : unitsSum l (fun o => decide (r.name = o.name)) = unitsSum l fun _ => false := us_congr fun o ho => .inl (decide_eq_false fun e => nd'.1 (e ▸ List.mem_map.mpr ⟨o, ho, rfl⟩))
          rw [z, if_pos (decide_eq_true rfl), us_false]
          rfl
        · have ne : ¬ r.name = q.name := fun e => nd'.1 (e ▸ List.mem_map.mpr ⟨r, h, rfl⟩)
          rw [ih nd'.2 h, if_neg (by simpa using ne), Nat.zero_add]
    exact (key hs.nd hr).symm
/-- the sum over a part of the list -/
def hsum (st : List (Row α)) (l : List (Row α)) (p : Row α → Bool) : Nat := ((l.filter p).map fun c => at_ st c.name).sum
theorem hsum_cons (st : List (Row α)) (r : Row α) (l : List (Row α)) (p : Row α → Bool) : hsum st (r :: l) p = (if p r = true then at_ st r.name else 0) + hsum st l p := by
  unfold hsum
  rw [List.filter_cons]
  split
  · rw [List.map_cons, List.sum_cons]
  · rw [Nat.zero_add]
theorem hsum_app (st a b : List (Row α)) (p : Row α → Bool) : hsum st (a ++ b) p = hsum st a p + hsum st b p := by
  unfold hsum
  rw [List.filter_append, List.map_append, List.sum_append]
/-- how many accounts of l that p chooses stand on the way xs -/
def cnt (l : List (Row α)) (p : Row α → Bool) (xs : List α) : Nat := (l.filter fun c => p c && decide (c.name ∈ xs)).length
theorem cnt_cons (r : Row α) (l : List (Row α)) (p : Row α → Bool) (xs : List α) : cnt (r :: l) p xs = (if (p r && decide (r.name ∈ xs)) = true then 1 else 0) + cnt l p xs := by
  unfold cnt
  rw [List.filter_cons]
  split
  · rw [List.length_cons, Nat.add_comm]
  · rw [Nat.zero_add]
theorem cnt_app (a b : List (Row α)) (p : Row α → Bool) (xs : List α) : cnt (a ++ b) p xs = cnt a p xs + cnt b p xs := by
  unfold cnt
  rw [List.filter_append, List.length_append]
theorem at_snoc {st : List (Row α)} {r : Row α} (hs : Shape st) (h1 : r.name ∉ names st) (x : α) : at_ (st ++ [r]) x = at_ st x + if x ∈ above (st ++ [r]) r.name ++ [r.name] then r.units else 0 := by
  unfold at_
  rw [us_snoc]
  congr 1
  · refine us_congr fun o ho => .inl ?_
    rw [above_old hs h1 (List.mem_map.mpr ⟨o, ho, rfl⟩)]
  · have : (x ∈ above (st ++ [r]) r.name ∨ x = r.name) ↔ x ∈ above (st ++ [r]) r.name ++ [r.name] := by simp
    simp only [decide_eq_true_eq, this]
theorem hsum_snoc {st : List (Row α)} {r : Row α} (hs : Shape st) (h1 : r.name ∉ names st) (p : Row α → Bool) : ∀ l : List (Row α), hsum (st ++ [r]) l p = hsum st l p + r.units * cnt l p (above (st ++ [r]) r.name ++ [r.name])
  | [] => by simp [hsum, cnt]
  | c :: l => by
    rw [hsum_cons, hsum_cons, cnt_cons, hsum_snoc hs h1 p l, at_snoc hs h1, Nat.mul_add]
    by_cases hp : p c = true
    · by_cases hx : c.name ∈ above (st ++ [r]) r.name ++ [r.name]
      · simp [hp, hx]
        omega
      · simp [hp, hx]
        omega
    · simp [hp]
/-- a nominee that nothing has opened yet is above nobody -/
theorem fresh_at {st : List (Row α)} (hs : Shape st) {x : α} (h : x ∉ names st) : at_ st x = 0 := by
  unfold at_
  have : unitsSum st (fun o => decide (x ∈ above st o.name ∨ x = o.name)) = unitsSum st fun _ => false := us_congr fun o ho => .inl (decide_eq_false fun z => by
    rcases z with z | z
    · obtain ⟨q, hq, _⟩ := hs.nomAbove z
      have hm := find_mem hq
      exact h (List.mem_map.mpr ⟨q, hm.1, hm.2⟩)
    · exact h (z ▸ List.mem_map.mpr ⟨o, ho, rfl⟩))
  rw [this, us_false]
theorem cnt_fresh {l : List (Row α)} {p : Row α → Bool} {xs : List α} {x : α} (h : x ∉ names l) : cnt l p (xs ++ [x]) = cnt l p xs := by
  unfold cnt
  congr 1
  refine List.filter_congr fun c hc => ?_
  have : c.name ≠ x := fun e => h (e ▸ List.mem_map.mpr ⟨c, hc, rfl⟩)
  simp [this]
theorem above_names {st : List (Row α)} (hs : Shape st) {n x : α} (hx : x ∈ above st n) : x ∈ names st := by
  obtain ⟨q, hq, _⟩ := hs.nomAbove hx
  have hm := find_mem hq
  exact List.mem_map.mpr ⟨q, hm.1, hm.2⟩
theorem one_of_find {st : List (Row α)} {n : α} {q : Row α} (h : find st n = some q) : n ∈ names st := by
  have hm := find_mem h
  exact List.mem_map.mpr ⟨q, hm.1, hm.2⟩
/-- on the way to an account stands exactly one child of each nominee above it, and one under none -/
theorem cnt_way {st : List (Row α)} (hs : Shape st) : ∀ n ∈ names st, n ∉ above st n ∧ (∀ u, cnt st (fun c => decide (c.under = some u)) (above st n ++ [n]) = if u ∈ above st n then 1 else 0) ∧ cnt st (fun c => decide (c.under = none)) (above st n ++ [n]) = 1 := by
  induction hs with
  | one m u =>
    intro n hn
    have e : n = m := List.mem_singleton.mp hn
    subst e
    have e : above [(⟨n, none, false, u⟩ : Row α)] n = [] := by
      unfold above und find
      rw [List.find?_cons]
      simp [chain]
    rw [e]
    refine ⟨List.not_mem_nil, fun x => ?_, ?_⟩
    · simp [cnt]
    · simp [cnt]
  | @snoc st r hs h1 h2 ih =>
    intro n hn
    rw [names_snoc] at hn
    have old : ∀ (p : Row α → Bool) (xs : List α), (∀ x ∈ xs, x ∈ names st) → cnt (st ++ [r]) p xs = cnt st p xs := fun p xs hx => by
      rw [cnt_app]
      have : cnt [r] p xs = 0 := by
        have : ¬ r.name ∈ xs := fun z => h1 (hx _ z)
        simp [cnt, this]
      rw [this, Nat.add_zero]
    rcases List.mem_append.mp hn with hn | hn
    · rw [above_old hs h1 hn]
      obtain ⟨a, b, c⟩ := ih n hn
      have hx : ∀ x ∈ above st n ++ [n], x ∈ names st := fun x hx => by
        rcases List.mem_append.mp hx with hx | hx
        · exact above_names hs hx
        · rw [List.mem_singleton.mp hx]
          exact hn
      refine ⟨a, fun u => ?_, ?_⟩
      · rw [old _ _ hx]
        exact b u
      · rw [old _ _ hx]
        exact c
    · rw [List.mem_singleton.mp hn]
      have new : ∀ (p : Row α → Bool) (xs : List α), cnt (st ++ [r]) p (xs ++ [r.name]) = cnt st p xs + if p r = true then 1 else 0 := fun p xs => by
        rw [cnt_app, cnt_fresh h1]
        congr 1
        simp [cnt, List.filter_cons]
        split <;> rfl
      cases hu : r.under with
      | none =>
        rw [above_root hs h1 hu]
        refine ⟨List.not_mem_nil, fun u => ?_, ?_⟩
        · rw [new, hu]
          simp [cnt]
        · rw [new, hu]
          simp [cnt]
      | some y =>
        obtain ⟨q, hq, _, hl⟩ := h2 y hu
        have hy := one_of_find hq
        rw [above_under hs h1 hu hy hl]
        obtain ⟨a, b, c⟩ := ih y hy
        refine ⟨fun z => ?_, fun u => ?_, ?_⟩
        · rcases List.mem_append.mp z with z | z
          · exact h1 (above_names hs z)
          · exact h1 (List.mem_singleton.mp z ▸ hy)
        · rw [new, b u, hu]
          by_cases e : y = u
          · subst e
            simp [a]
          · have e' : ¬ u = y := fun z => e z.symm
            simp [e, e']
        · rw [new, c, hu]
          simp
theorem kids {st : List (Row α)} (hs : Shape st) : (∀ u, hsum st st (fun c => decide (c.under = some u)) = unitsSum st fun o => decide (u ∈ above st o.name)) ∧ hsum st st (fun c => decide (c.under = none)) = unitsSum st fun _ => true := by
  induction hs with
  | one m u =>
    refine ⟨fun x => ?_, ?_⟩
    · have e : above [(⟨m, none, false, u⟩ : Row α)] m = [] := by
        unfold above und find
        rw [List.find?_cons]
        simp [chain]
      rw [us_cons]
      simp [hsum, e, us_nil]
    · have e : above [(⟨m, none, false, u⟩ : Row α)] m = [] := by
        unfold above und find
        rw [List.find?_cons]
        simp [chain]
      simp [hsum, at_, unitsSum]
  | @snoc st r hs h1 h2 ih =>
    have w := cnt_way (Shape.snoc hs h1 h2) r.name (by rw [names_snoc]; simp)
    have step : ∀ p : Row α → Bool, hsum (st ++ [r]) (st ++ [r]) p = hsum st st p + r.units * cnt (st ++ [r]) p (above (st ++ [r]) r.name ++ [r.name]) := fun p => by
      rw [hsum_snoc hs h1, hsum_app]
      have : hsum st [r] p = 0 := by
        rw [hsum_cons, fresh_at hs h1]
        simp [hsum]
      rw [this, Nat.add_zero]
    refine ⟨fun u => ?_, ?_⟩
    · rw [step, ih.1 u, w.2.1 u, us_snoc]
      congr 1
      · refine us_congr fun o ho => .inl ?_
        rw [above_old hs h1 (List.mem_map.mpr ⟨o, ho, rfl⟩)]
      · by_cases e : u ∈ above (st ++ [r]) r.name
        · simp [e]
        · simp [e]
    · rw [step, ih.2, w.2.2, us_snoc, Nat.mul_one]
      simp
end
end Mth

set_option autoImplicit false
namespace Mth
/-! ## what the deeds do -/
inductive Err (α : Type) where
  | dup (n : α) | unk (n : α) | nomi (n : α) | hold (n : α) | few (n : α) (h : Nat) | deep | units
section
variable {α : Type} [DecidableEq α]
def openM (st : List (Row α)) (n : α) (u : Option α) (nom : Bool) : Except (Err α) (List (Row α)) :=
  match find st n with
  | some _ => .error (.dup n)
  | none => match u with
    | none => .ok (st ++ [⟨n, none, nom, 0⟩])
    | some x => match find st x with
      | none => .error (.unk x)
      | some q => if q.nom = false then .error (.nomi x) else if 3 ≤ (above st x).length then .error .deep else .ok (st ++ [⟨n, some x, nom, 0⟩])
def moveM (st : List (Row α)) (s t : α) (k : Nat) : Except (Err α) (List (Row α)) :=
  match find st s with
  | none => .error (.unk s)
  | some a => match find st t with
    | none => .error (.unk t)
    | some b => if a.nom = true then .error (.hold s) else if b.nom = true then .error (.hold t) else if k < 1 ∨ s = t then .error .units
      else if a.units < k then .error (.few s a.units) else .ok (setU (setU st s (a.units - k)) t (b.units + k))

/-! ### a row's units set -/
theorem names_setU (st : List (Row α)) (n : α) (v : Nat) : names (setU st n v) = names st := by
  unfold names setU
  rw [List.map_map]
  refine List.map_congr_left fun r _ => ?_
  show (if r.name = n then { r with units := v } else r).name = r.name
  split <;> rfl
def rowU (n : α) (v : Nat) (r : Row α) : Row α := if r.name = n then { r with units := v } else r
theorem rowU_name (n : α) (v : Nat) (r : Row α) : (rowU n v r).name = r.name := by unfold rowU; split <;> rfl
theorem rowU_under (n : α) (v : Nat) (r : Row α) : (rowU n v r).under = r.under := by unfold rowU; split <;> rfl
theorem rowU_nom (n : α) (v : Nat) (r : Row α) : (rowU n v r).nom = r.nom := by unfold rowU; split <;> rfl
theorem find_setU (st : List (Row α)) (n m : α) (v : Nat) : find (setU st n v) m = (find st m).map (rowU n v) := by
  unfold find setU
  rw [List.find?_map]
  have : (fun r : Row α => decide (r.name = m)) ∘ (fun r => if r.name = n then { r with units := v } else r) = fun r => decide (r.name = m) := by
    funext r
    show decide ((rowU n v r).name = m) = decide (r.name = m)
    rw [rowU_name]
  rw [this]
  rfl
theorem und_setU (st : List (Row α)) (n m : α) (v : Nat) : und (setU st n v) m = und st m := by
  unfold und
  rw [find_setU]
  cases find st m with
  | none => rfl
  | some r => exact rowU_under n v r
theorem chain_setU (st : List (Row α)) (n : α) (v : Nat) : ∀ (k : Nat) (o : Option α), chain (setU st n v) k o = chain st k o
  | 0, _ => rfl
  | _ + 1, none => rfl
  | k + 1, some u => by
    show chain (setU st n v) k (und (setU st n v) u) ++ [u] = chain st k (und st u) ++ [u]
    rw [und_setU, chain_setU st n v k]
theorem above_setU (st : List (Row α)) (n m : α) (v : Nat) : above (setU st n v) m = above st m := by
  unfold above
  rw [und_setU, chain_setU]
theorem Shape.setU {st : List (Row α)} (h : Shape st) (n : α) (v : Nat) : Shape (setU st n v) := by
  induction h with
  | one m u =>
    show Shape [rowU n v ⟨m, none, false, u⟩]
    unfold rowU
    split
    · exact Shape.one m v
    · exact Shape.one m u
  | @snoc st r hs h1 h2 ih =>
    have e : Mth.setU (st ++ [r]) n v = Mth.setU st n v ++ [rowU n v r] := by
      unfold Mth.setU rowU
      rw [List.map_append]
      rfl
    rw [e]
    refine Shape.snoc ih (by rw [rowU_name, names_setU]; exact h1) fun u hu => ?_
    rw [rowU_under] at hu
    obtain ⟨q, hq, hn, hl⟩ := h2 u hu
    refine ⟨rowU n v q, by rw [find_setU, hq]; rfl, by rw [rowU_nom]; exact hn, by rw [above_setU]; exact hl⟩
theorem sum_setU_no : ∀ {st : List (Row α)} {n : α} {v : Nat}, n ∉ names st → setU st n v = st
  | [], _, _, _ => rfl
  | r :: l, n, v, h => by
    have h1 : ¬ r.name = n := fun e => h (e ▸ List.mem_cons_self)
    have h2 : n ∉ names l := fun m => h (List.mem_cons_of_mem _ m)
    show rowU n v r :: setU l n v = r :: l
    rw [sum_setU_no h2]
    unfold rowU
    rw [if_neg h1]
theorem sum_setU : ∀ {st : List (Row α)} {n : α} {v : Nat} {r : Row α}, (names st).Nodup → find st n = some r → unitsSum (setU st n v) (fun _ => true) + r.units = unitsSum st (fun _ => true) + v
  | [], _, _, _, _, h => by cases h
  | q :: l, n, v, r, nd, h => by
    have nd' : q.name ∉ names l ∧ (names l).Nodup := List.nodup_cons.mp nd
    show unitsSum (rowU n v q :: setU l n v) _ + _ = _
    rw [us_cons, us_cons]
    by_cases e : q.name = n
    · have : find (q :: l) n = some q := by
        unfold find
        rw [List.find?_cons]
        simp [e]
      rw [this] at h
      cases h
      rw [sum_setU_no (e ▸ nd'.1)]
      unfold rowU
      rw [if_pos e]
      show (if true = true then v else 0) + unitsSum l _ + q.units = (if true = true then q.units else 0) + unitsSum l _ + v
      rw [if_pos rfl, if_pos rfl]
      omega
    · have : find (q :: l) n = find l n := by
        unfold find
        rw [List.find?_cons]
        simp [e]
      rw [this] at h
      have ih := sum_setU (v := v) nd'.2 h
      unfold rowU
      rw [if_neg e]
      show (if true = true then q.units else 0) + unitsSum (setU l n v) _ + r.units = (if true = true then q.units else 0) + unitsSum l _ + v
      rw [if_pos rfl]
      omega
theorem NomZ.setU {st : List (Row α)} (h : NomZ st) {n : α} {v : Nat} (hs : (names st).Nodup) (hn : ∀ r, find st n = some r → r.nom = false) : NomZ (setU st n v) := by
  intro r hr e
  obtain ⟨q, hq, eq⟩ := List.mem_map.mp hr
  have eq : rowU n v q = r := eq
  subst eq
  rw [rowU_nom] at e
  by_cases hm : q.name = n
  · have := hn q (hm ▸ find_of_mem hs hq)
    rw [e] at this
    cases this
  · unfold rowU
    rw [if_neg hm]
    exact h q hq e

/-! ### what always holds -/
structure Good (root : α) (tot : Nat) (st : List (Row α)) : Prop where
  sh : Shape st
  nz : NomZ st
  sum : unitsSum st (fun _ => true) = tot
  rt : ∃ r, find st root = some r ∧ r.nom = false
def Extd (st st' : List (Row α)) : Prop := ∀ n r, find st n = some r → ∃ r', find st' n = some r' ∧ r'.nom = r.nom
theorem Extd.refl (st : List (Row α)) : Extd st st := fun _ r h => ⟨r, h, rfl⟩
theorem Extd.trans {a b c : List (Row α)} (x : Extd a b) (y : Extd b c) : Extd a c := fun n r h => by
  obtain ⟨r1, h1, e1⟩ := x n r h
  obtain ⟨r2, h2, e2⟩ := y n r1 h1
  exact ⟨r2, h2, e2.trans e1⟩
theorem Good.start {root : α} {tot : Nat} : Good root tot [⟨root, none, false, tot⟩] := by
  refine ⟨Shape.one root tot, fun r hr e => ?_, ?_, ⟨⟨root, none, false, tot⟩, ?_, rfl⟩⟩
  · rw [List.mem_singleton.mp hr] at e
    cases e
  · rw [us_cons, us_nil]
    simp
  · unfold find
    rw [List.find?_cons]
    simp
theorem good_snoc {root : α} {tot : Nat} {st : List (Row α)} (g : Good root tot st) {n : α} {u : Option α} {nom : Bool} (hn : find st n = none) (hu : ∀ x, u = some x → ∃ q, find st x = some q ∧ q.nom = true ∧ (above st x).length < 3) :
    Good root tot (st ++ [⟨n, u, nom, 0⟩]) ∧ Extd st (st ++ [⟨n, u, nom, 0⟩]) := by
  have h1 : (⟨n, u, nom, 0⟩ : Row α).name ∉ names st := find_none.mp hn
  have ex : Extd st (st ++ [⟨n, u, nom, 0⟩]) := fun m r h => ⟨r, by rw [find_old h1 (one_of_find h)]; exact h, rfl⟩
  refine ⟨⟨Shape.snoc g.sh h1 hu, fun r hr e => ?_, ?_, ?_⟩, ex⟩
  · rcases List.mem_append.mp hr with hr | hr
    · exact g.nz r hr e
    · rw [List.mem_singleton.mp hr]
  · rw [us_snoc, g.sum]
    simp
  · obtain ⟨r, hr, e⟩ := g.rt
    obtain ⟨r', hr', e'⟩ := ex root r hr
    exact ⟨r', hr', e'.trans e⟩
theorem good_open {root : α} {tot : Nat} {st st' : List (Row α)} (g : Good root tot st) {n : α} {u : Option α} {nom : Bool} (h : openM st n u nom = .ok st') : Good root tot st' ∧ Extd st st' ∧ find st n = none ∧ st' = st ++ [⟨n, u, nom, 0⟩] ∧
    ∀ x, u = some x → ∃ q, find st x = some q ∧ q.nom = true ∧ (above st x).length < 3 := by
  unfold openM at h
  split at h
  · cases h
  · rename_i hn
    cases u with
    | none =>
      cases h
      have := good_snoc g hn (u := none) (nom := nom) (fun x e => by cases e)
      exact ⟨this.1, this.2, hn, rfl, fun x e => by cases e⟩
    | some x =>
      simp only at h
      split at h
      · cases h
      · rename_i q hq
        split at h
        · cases h
        · rename_i hnm
          split at h
          · cases h
          · rename_i hl
            cases h
            have hx : ∀ y, some x = some y → ∃ q, find st y = some q ∧ q.nom = true ∧ (above st y).length < 3 := fun y e => by
              cases e
              exact ⟨q, hq, by simpa using hnm, by omega⟩
            have := good_snoc g hn (u := some x) (nom := nom) hx
            exact ⟨this.1, this.2, hn, rfl, hx⟩
theorem extd_setU (st : List (Row α)) (n : α) (v : Nat) : Extd st (setU st n v) := fun m r h => ⟨rowU n v r, by rw [find_setU, h]; rfl, rowU_nom n v r⟩
theorem move_ok {st st' : List (Row α)} {s t : α} {k : Nat} (h : moveM st s t k = .ok st') : ∃ a b, find st s = some a ∧ find st t = some b ∧ a.nom = false ∧ b.nom = false ∧ 1 ≤ k ∧ s ≠ t ∧ k ≤ a.units ∧ st' = setU (setU st s (a.units - k)) t (b.units + k) := by
  unfold moveM at h
  split at h
  · cases h
  · rename_i a ha
    split at h
    · cases h
    · rename_i b hb
      split at h
      · cases h
      · rename_i h1
        split at h
        · cases h
        · rename_i h2
          split at h
          · cases h
          · rename_i h3
            split at h
            · cases h
            · rename_i h4
              cases h
              exact ⟨a, b, ha, hb, by simpa using h1, by simpa using h2, by omega, fun e => h3 (.inr e), by omega, rfl⟩
theorem good_move {root : α} {tot : Nat} {st st' : List (Row α)} (g : Good root tot st) {s t : α} {k : Nat} (h : moveM st s t k = .ok st') : Good root tot st' ∧ Extd st st' := by
  obtain ⟨a, b, ha, hb, na, nb, hk, hst, hu, rfl⟩ := move_ok h
  have ex : Extd st (setU (setU st s (a.units - k)) t (b.units + k)) := (extd_setU st s _).trans (extd_setU _ t _)
  have hb' : find (setU st s (a.units - k)) t = some b := by
    rw [find_setU, hb]
    have : b.name ≠ s := fun e => hst (e.symm.trans (find_mem hb).2)
    show some (rowU _ _ b) = some b
    unfold rowU
    rw [if_neg this]
  refine ⟨⟨(g.sh.setU s _).setU t _, ?_, ?_, ?_⟩, ex⟩
  · refine (g.nz.setU g.sh.nd fun r hr => ?_).setU (by rw [names_setU]; exact g.sh.nd) fun r hr => ?_
    · rw [ha] at hr
      cases hr
      exact na
    · rw [hb'] at hr
      cases hr
      exact nb
  · have e1 := sum_setU (v := a.units - k) g.sh.nd ha
    have e2 := sum_setU (v := b.units + k) (by rw [names_setU]; exact g.sh.nd) hb'
    rw [g.sum] at e1
    omega
  · obtain ⟨r, hr, e⟩ := g.rt
    obtain ⟨r', hr', e'⟩ := ex root r hr
    exact ⟨r', hr', e'.trans e⟩
theorem len_move {st st' : List (Row α)} {s t : α} {k : Nat} (h : moveM st s t k = .ok st') : st'.length = st.length := by
  obtain ⟨a, b, _, _, _, _, _, _, _, rfl⟩ := move_ok h
  unfold setU
  rw [List.length_map, List.length_map]

/-! ## what is passed -/
def pass (st : List (Row α)) (tot : Nat) (a : Fr) : List (α × Fr) := (st.filter fun r => decide (0 < held st r)).map fun r => (r.name, tm a (mk (held st r) tot))
def got (rows : List (α × Fr)) (n : α) : Fr := match rows.find? (fun r => decide (r.1 = n)) with
  | some r => r.2
  | none => (0, 1)
/-- the sum of what is held where p holds of the row -/
def hs (st : List (Row α)) (p : Row α → Bool) : Nat := ((st.filter p).map (held st)).sum
theorem hs_pos : ∀ (st l : List (Row α)) (p : Row α → Bool), ((l.filter fun r => decide (0 < held st r) && p r).map (held st)).sum = ((l.filter p).map (held st)).sum
  | _, [], _ => rfl
  | st, r :: l, p => by
    have ih := hs_pos st l p
    rw [List.filter_cons, List.filter_cons]
    by_cases h : 0 < held st r
    · by_cases hp : p r = true
      · simp only [h, hp, decide_true, Bool.and_self, if_true, List.map_cons, List.sum_cons, ih]
      · simp only [hp, Bool.and_false, Bool.false_eq_true, if_false, ih]
    · have z : held st r = 0 := by omega
      by_cases hp : p r = true
      · simp only [hp, if_true, List.map_cons, List.sum_cons, z, Nat.zero_add, ← ih, Nat.lt_irrefl, decide_false, Bool.false_and, Bool.false_eq_true, if_false]
      · simp only [hp, Bool.and_false, Bool.false_eq_true, if_false, ih]
theorem hs_hsum {st : List (Row α)} (h : Shape st) (hz : NomZ st) (p : Row α → Bool) : hs st p = hsum st st p := by
  unfold hs hsum
  congr 1
  refine List.map_congr_left fun r hr => held_at h hz (List.mem_filter.mp hr).1
theorem hs_root {root : α} {tot : Nat} {st : List (Row α)} (g : Good root tot st) : hs st (fun c => decide (c.under = none)) = tot := by
  rw [hs_hsum g.sh g.nz, (kids g.sh).2, g.sum]
theorem hs_kids {root : α} {tot : Nat} {st : List (Row α)} (g : Good root tot st) {r : Row α} (hr : r ∈ st) (hn : r.nom = true) : hs st (fun c => decide (c.under = some r.name)) = held st r := by
  rw [hs_hsum g.sh g.nz, (kids g.sh).1]
  unfold held
  rw [if_pos hn]
theorem hs_holders {root : α} {tot : Nat} {st : List (Row α)} (g : Good root tot st) : hs st (fun c => !c.nom) = tot := by
  rw [← g.sum]
  unfold hs unitsSum
  have key : ∀ l : List (Row α), (∀ r ∈ l, r.nom = true → r.units = 0) → ((l.filter fun c => !c.nom).map (held st)).sum = ((l.filter fun _ => true).map (·.units)).sum := by
    intro l
    induction l with
    | nil => intro _; rfl
    | cons r l ih =>
      intro h
      have ih := ih fun x hx => h x (List.mem_cons_of_mem _ hx)
      rw [List.filter_cons, List.filter_cons]
      by_cases hn : r.nom = true
      · simp only [hn, Bool.not_true, Bool.false_eq_true, if_false, if_true, List.map_cons, List.sum_cons, h r List.mem_cons_self hn, Nat.zero_add, ih]
      · have hn' : r.nom = false := by simpa using hn
        have hh : held st r = r.units := by
          unfold held
          rw [if_neg hn]
        simp only [hn', Bool.not_false, if_true, List.map_cons, List.sum_cons, hh, ih]
  exact key st g.nz
theorem held_le {root : α} {tot : Nat} {st : List (Row α)} (g : Good root tot st) {r : Row α} (hr : r ∈ st) : held st r ≤ tot := by
  rw [held_at g.sh g.nz hr, ← g.sum]
  unfold at_ unitsSum
  have : ∀ (l : List (Row α)) (p : Row α → Bool), ((l.filter p).map (·.units)).sum ≤ ((l.filter fun _ => true).map (·.units)).sum := by
    intro l p
    induction l with
    | nil => exact Nat.le_refl _
    | cons x l ih =>
      rw [List.filter_cons, List.filter_cons]
      by_cases hp : p x = true
      · simp only [hp, if_true, List.map_cons, List.sum_cons]
        omega
      · simp only [hp, Bool.false_eq_true, if_false, if_true, List.map_cons, List.sum_cons]
        omega
  exact this st _
theorem hs_le {root : α} {tot : Nat} {st : List (Row α)} (g : Good root tot st) (p : Row α → Bool) : hs st p ≤ st.length * tot := by
  unfold hs
  have : ∀ l : List (Row α), (∀ r ∈ l, held st r ≤ tot) → ((l.filter p).map (held st)).sum ≤ l.length * tot := by
    intro l
    induction l with
    | nil => intro _; exact Nat.zero_le _
    | cons x l ih =>
      intro h
      have ih := ih fun y hy => h y (List.mem_cons_of_mem _ hy)
      have hx := h x List.mem_cons_self
      rw [List.filter_cons, List.length_cons, Nat.succ_mul]
      split
      · rw [List.map_cons, List.sum_cons]
        omega
      · omega
  exact this st fun r hr => held_le g hr
/-- rows chosen by their name -/
theorem pass_filter (st : List (Row α)) (tot : Nat) (a : Fr) (p : α → Bool) : (pass st tot a).filter (fun r => p r.1) = (st.filter fun r => decide (0 < held st r) && p r.name).map fun r => (r.name, tm a (mk (held st r) tot)) := by
  unfold pass
  rw [List.filter_map, List.filter_filter]
  congr 1
  refine List.filter_congr fun r _ => ?_
  show (p r.name && decide (0 < held st r)) = _
  rw [Bool.and_comm]
theorem pass_vals {st : List (Row α)} {tot : Nat} {a : Fr} (ht : 0 < tot) (ha : 0 < a.2) (p : α → Bool) :
    ((pass st tot a).filter (fun r => p r.1)).map (·.2) = ((st.filter fun r => decide (0 < held st r) && p r.name).map fun r => a.1 * held st r).map fun h => mk h (a.2 * tot) := by
  rw [pass_filter, List.map_map, List.map_map]
  refine List.map_congr_left fun r _ => ?_
  show tm a (mk (held st r) tot) = mk (a.1 * held st r) (a.2 * tot)
  exact tm_mk ha ht
theorem pass_sum (st : List (Row α)) (a : Fr) (p : α → Bool) : ((st.filter fun r => decide (0 < held st r) && p r.name).map fun r => a.1 * held st r).sum = a.1 * hs st (fun r => p r.name) := by
  unfold hs
  rw [← hs_pos st st (fun r => p r.name)]
  generalize (st.filter fun r => decide (0 < held st r) && p r.name) = l
  induction l with
  | nil => rfl
  | cons r l ih =>
    rw [List.map_cons, List.map_cons, List.sum_cons, List.sum_cons, ih, Nat.mul_add]
theorem got_pass {root : α} {tot : Nat} {st : List (Row α)} (g : Good root tot st) (ht : 0 < tot) {a : Fr} (ha : 0 < a.2) {r : Row α} (hr : r ∈ st) : got (pass st tot a) r.name = mk (a.1 * held st r) (a.2 * tot) := by
  unfold got pass
  rw [List.find?_map, List.find?_filter]
  have e : (st.find? fun q => decide (decide (0 < held st q) = true ∧ ((fun x : α × Fr => decide (x.1 = r.name)) ∘ fun r => (r.name, tm a (mk (held st r) tot))) q = true)) = if 0 < held st r then some r else none := by
    have fr := find_of_mem g.sh.nd hr
    have key : ∀ l : List (Row α), (names l).Nodup → r ∈ l → (l.find? fun q => decide (0 < held st q) && decide (q.name = r.name)) = if 0 < held st r then some r else none := by
      intro l
      induction l with
      | nil => intro _ h; cases h
      | cons q l ih =>
        intro nd h
        have nd' : q.name ∉ names l ∧ (names l).Nodup := List.nodup_cons.mp nd
        rw [List.find?_cons]
        rcases List.mem_cons.mp h with e | h
        · subst e
          by_cases hp : 0 < held st r
          · simp [hp]
          · simp only [hp, decide_false, Bool.false_and, if_false]
            rw [List.find?_eq_none]
            intro x hx
            have : ¬ x.name = r.name := fun e => nd'.1 (e ▸ List.mem_map.mpr ⟨x, hx, rfl⟩)
            simp [this]
        · have ne : ¬ q.name = r.name := fun e => nd'.1 (e ▸ List.mem_map.mpr ⟨r, h, rfl⟩)
          simp only [ne, decide_false, Bool.and_false]
          exact ih nd'.2 h
    have e2 : (fun q : Row α => decide (decide (0 < held st q) = true ∧ ((fun x : α × Fr => decide (x.1 = r.name)) ∘ fun r => (r.name, tm a (mk (held st r) tot))) q = true)) = fun q => decide (0 < held st q) && decide (q.name = r.name) := by
      funext q
      simp [Bool.decide_and]
    rw [e2]
    exact key st g.sh.nd hr
  rw [e]
  by_cases hp : 0 < held st r
  · rw [if_pos hp]
    show tm a (mk (held st r) tot) = _
    exact tm_mk ha ht
  · rw [if_neg hp]
    have z : held st r = 0 := by omega
    show (0, 1) = _
    rw [z, Nat.mul_zero, mk_zero (Nat.mul_pos ha ht)]
theorem got_add {root : α} {tot : Nat} {st : List (Row α)} (g : Good root tot st) (ht : 0 < tot) {a b : Fr} (ha : 0 < a.2) (hb : 0 < b.2) {r : Row α} (hr : r ∈ st) :
    ad (got (pass st tot a) r.name) (got (pass st tot b) r.name) = tm (ad a b) (mk (held st r) tot) := by
  have hq : 0 < a.2 * b.2 := Nat.mul_pos ha hb
  rw [got_pass g ht ha hr, got_pass g ht hb hr, ad_mk (Nat.mul_pos ha ht) (Nat.mul_pos hb ht), tm_mk (ad_can ha hb).1 ht]
  unfold ad
  obtain ⟨c, hc, e1, e2, _, e3⟩ := mk_spec (a.1 * b.2 + b.1 * a.2) (a.2 * b.2) hq
  refine mk_eq (Nat.mul_pos (Nat.mul_pos ha ht) (Nat.mul_pos hb ht)) (Nat.mul_pos e3 ht) ?_
  generalize (mk (a.1 * b.2 + b.1 * a.2) (a.2 * b.2)).1 = P at *
  generalize (mk (a.1 * b.2 + b.1 * a.2) (a.2 * b.2)).2 = Q at *
  generalize held st r = h
  have l1 : a.1 * h * (b.2 * tot) + b.1 * h * (a.2 * tot) = (a.1 * b.2 + b.1 * a.2) * (h * tot) := by
    rw [Nat.add_mul]
    congr 1 <;> simp only [Nat.mul_assoc, Nat.mul_left_comm, Nat.mul_comm]
  have l2 : a.2 * tot * (b.2 * tot) = a.2 * b.2 * (tot * tot) := by
    simp only [Nat.mul_assoc, Nat.mul_left_comm, Nat.mul_comm]
  rw [l1, l2, e1, e2]
  simp only [Nat.mul_assoc, Nat.mul_left_comm, Nat.mul_comm]
theorem sum_whole {tot : Nat} {a : Fr} (ht : 0 < tot) (ha : Can a) : mk (a.1 * tot) (a.2 * tot) = a := by
  rw [Nat.mul_comm a.1, Nat.mul_comm a.2, mk_scale _ _ _ ht, mk_of_can ha]
end
end Mth

set_option Elab.async false
set_option maxRecDepth 100000
set_option maxHeartbeats 4000000
namespace Xtra
open PySem PySem.Spec PyProof.Rows L2
/-! ### products of any size that stands here -/
def CMulB (i j : Int) : Prop := i.natAbs.log2 + j.natAbs.log2 < 100000000
theorem CMulB.ok {i j : Int} (h : CMulB i j) : IntMulOk i j := by
  have b : ∀ x : Int, Builtin.Int.intBits x ≤ x.natAbs.log2 + 1 := fun x => by
    unfold Builtin.Int.intBits
    split <;> omega
  have h1 := b i
  have h2 := b j
  have h3 : i.natAbs.log2 + j.natAbs.log2 < 100000000 := h
  have e : bitsLine = 134217728 := by decide
  unfold IntMulOk
  intro z
  rw [Bool.and_eq_true] at z
  have z2 := z.2
  unfold Builtin.Int.intTooBig at z2
  have z3 := of_decide_eq_true z2
  rw [e] at z3
  omega
section
variable {X : Cx}
theorem op_mulB : OpR X (binaryOp .Mult) (rI CMulB fun i j => .int (i * j)) := opI fun _ _ _ _ _ _ _ hc q => mul_int q hc.ok
end

/-! ### X(), an own exception class without own __init__ -/
section
variable {X : Cx} {C : Addr} {bmB : List Value} {B newId initId : String}
theorem pmk_own0 {x : Str} {p pos : Pos} (F : ExcBaseFacts B newId initId bmB) (q : PySem.W.excIn X.K C bmB newId = true) (gC : X.mg x = some (.ref C)) (kC : PySem.W.keepIn X.K (.ref C) = true) (r : Raises X (.ref C)) (hg : Gl X x)
    (hdb : (x == ("__debug__" : Str)) = false := by decide) : PMk X (.Call (.Name x p) [] [] pos) (fun _ H Q => Q (.ref C) none H) := by
  intro pins s σ H Q I h
  refine wpAny_Call_Name_kw (ld_glob I hg gC ?_ hdb)
  refine PySem.W.callWith_K0 I.kIn kC ?_
  obtain ⟨bm, N, nm, qn, bs, hdct, sn, sub, ab, col, dd, k0, k1, k2, k3, k5, mN, hC, hN, hni, T⟩ := exc_obj I.kIn q
  refine wpAny_call_exc_subT F T hC hN hni (fun h' e hm => ?_) (by show 0 ≤ sizeLine; rw [sizeLine_eq]; omega)
  exact mk_of I hm r h (I.hok.gone hm.new)
end

/-! ### several clauses, each with a name -/
def bWipe (i : Nat) (D : Ends) : Ends := { nx := fun σ' H' => D.nx (σ'.set i none) H', rt := D.rt, bk := fun σ' H' => D.bk (σ'.set i none) H', ct := fun σ' H' => D.ct (σ'.set i none) H' }
def wManyAs (K : PySem.W.Frag) (i : Nat) (Wout : WX) (D : Ends) : List (Value × (Addr → Value → Option Addr → TS)) → WX
  | [] => Wout
  | (c, ts) :: r => fun cls d σ H => ∃ b, PySem.W.exmOne K cls c = some b ∧ (b = true → ∀ a, H a = none → ts a cls d (bWipe i D) (σ.set i (some (.ref a))) H) ∧ (b = false → wManyAs K i Wout D r cls d σ H)
inductive HdsAs (X : Cx) (n : Str) : List ExceptHandler → List (Value × (Addr → Value → Option Addr → TS)) → Prop
  | nil : HdsAs X n [] []
  | cons {x : Str} {c : Value} {ts : Addr → Value → Option Addr → TS} {b₀ : Stmt} {suite : List Stmt} {np pos' : Pos} {hds : List ExceptHandler} {l : List (Value × (Addr → Value → Option Addr → TS))} (hc : Names X x c)
      (hsu : ∀ (a : Addr) (oe : Obj) (cls : Value) (d : Option Addr) (pn : List (Addr × Obj)), Zc cls d oe → (∃ vs, oe.data = .fields vs) → PSs (X.suite a ((a, oe) :: pn)) (b₀ :: suite) (ts a cls d)) (r : HdsAs X n hds l) :
      HdsAs X n (.ExceptHandler (some (.Name x np)) (some n) (b₀ :: suite) pos' :: hds) ((c, ts) :: l)
section
variable {X : Cx} {body : List Stmt} {h₀ : ExceptHandler} {hds : List ExceptHandler} {l : List (Value × (Addr → Value → Option Addr → TS))} {pos : Pos} {tb : WX → TS} {Wout : WX} {n : Str} {i : Nat}
theorem ps_try_manyAs (hs : X.stack = X.env :: X.outer) (hf : X.env.frame = some X.env.locals) (hN : X.N.Nodup) (hi : X.N[i]? = some n) (hln : X.env.kindOf n = some .local) (tk : Takes X Wout)
    (hb : ∀ (W : WX) (pn : List (Addr × Obj)) (xe : Value → Shared → Prop), Takes (X.tr pn xe) W → PassesOwn (model X.prog X.w) X.A X.env xe → PSs (X.tr pn xe) body (tb W))
    (hh : HdsAs X n (h₀ :: hds) l) : PS X (.Try body (h₀ :: hds) [] [] pos) (fun D σ H => tb (wManyAs X.K i Wout D l) D σ H) := by
  refine ⟨fun pins s σ H D I h => ?_⟩
  have ok := I.ok
  have hfr : X.A.frames = some (X.env :: X.outer) := by rw [ok.frames, hs]
  have hloc : Loc X.env.scope n := .inl hln
  refine wpAny_Try_except ?_
  refine wpAny_mono ((hb (wManyAs X.K i Wout D l) (X.pn ++ pins) (fun e s₁ => wpAny (model X.prog X.w) X.A (noteFrame e X.env) (fun _ s₂ => wpAny (model X.prog X.w) X.A (setFlight e none) (fun _ s₃ =>
    wpAny (model X.prog X.w) X.A (handleBy e X.env (h₀ :: hds)) (SP X pins D) X.xe s₃) X.xe s₂) X.xe s₁) (fun u s' xx => ?_) PassesOwn.looking).run [] s σ H D (I.toTry _) h) (fun f s1 hsp => ?_) (fun e s1 he => he)
  · obtain ⟨a, B, sI, pins', σ', H', cls, d, rfl, J', nb, up, sky, na, os, ag, w⟩ := xx
    have J : Inv X pins σ' H' sI := J'.ofTry ok
    have sky' : Sky B (X.env :: X.outer) a (Zc cls d) X.env.locals s'.heap := by rw [← hs]; exact sky
    show wpAny (model X.prog X.w) X.A (noteFrame (.ref a) X.env) _ _ _
    refine Sky.land Zc.steady hfr hf sky' fun h3 fl3 up3 => ?_
    have J3 : Inv X pins σ' H' { s' with heap := h3 } := J.landed nb fl3.1 (up.trans up3) os ag
    obtain ⟨oe3, vs3, he3, hz3, hd3⟩ := fl3.there
    have notFr : ∀ {h : Heap} {o : Obj} {vs : Array Value}, h.FunFrames B (X.env :: X.outer) → h.get? a = some o → o.data = .fields vs → a ∉ frs (X.env :: X.outer) := fun {h o vs} ff e dd hm => by
      obtain ⟨_, o', e', hnf⟩ := ff.mem hm
      rw [e] at e'; cases e'
      exact hnf _ dd
    have nfr := notFr fl3.2.2.1 he3 hd3
    have nL : a ≠ X.env.locals := fun z => nfr (List.mem_filterMap.mpr ⟨X.env, List.mem_cons_self, by rw [hf, z]⟩)
    have nF : a ∉ X.fs := fun hm => by
      obtain ⟨e, he, q⟩ := List.mem_filterMap.mp hm
      exact nfr (List.mem_filterMap.mpr ⟨e, List.mem_cons_of_mem _ he, q⟩)
    have S3 := J3.suite he3 hd3 na nL nF
    have go : ∀ {hds' : List ExceptHandler} {l' : List (Value × (Addr → Value → Option Addr → TS))}, HdsAs X n hds' l' → wManyAs X.K i Wout D l' cls d σ' H' →
        wpAny (model X.prog X.w) X.A (handleBy (.ref a) X.env hds') (SP X pins D) X.xe { s' with heap := h3 } := by
      intro hds' l' hk
      induction hk with
      | nil =>
        intro w
        refine wpAny_handleBy_nil ?_
        obtain ⟨k1, k2, k3, oe, vs, T, oT, ts', he, hz, hd, h1, hr⟩ := id fl3
        unfold PySem.passOn
        refine wpAny_bind (wpAny_field he hd h1 ?_)
        rw [if_neg (show ¬ ((Value.ref T == Value.none) = true) from by simp)]
        have fin : wpAny (model X.prog X.w) X.A (setFlight (.ref a) X.env.frame) (fun _ s4 => wpAny (model X.prog X.w) X.A (throw (.ref a) : Sem Flow) (SP X pins D) X.xe s4) X.xe { s' with heap := h3 } := by
          rw [hf]
          refine HandSPX.setFlight_upZ fl3 fun h4 hh4 up4 => wpAny_throw (tk _ _ ?_)
          exact ⟨a, B, sI, pins, σ', H', cls, d, rfl, J, nb, (up.trans up3).trans up4, .inr (.inr (by rw [hs]; exact hh4)), na, os, ag, w⟩
        first
          | exact wpAny_bind (wpAny_pure (wpAny_bind fin))
          | exact wpAny_bind fin
      | @cons x c ts b₀ suite np pos' hds2 l2 hc hsu r ih =>
        intro w
        obtain ⟨b, hb1, hyes, hno⟩ := w
        refine wpAny_handleBy_cons (codeAny_handlers_test ?_) (by intro q; cases q)
        have LT : PySem.W.Looks (model X.prog X.w) h3 (typeOf (.ref a)) cls := fun A Q E s k q => wpAny_typeOf_ref (k _ _ he3) (by rw [hz3.1]; exact q)
        have LM := PySem.W.exm_one (M := model X.prog X.w) (J3.kIn) LT hb1
        have test : ∀ {Q : Value → Shared → Prop} {E : Value → Shared → Prop}, Q c { s' with heap := h3 } → wpAny (model X.prog X.w) (X.A.mark (some (.ref a))) (eval (.Name x np) X.env) Q E { s' with heap := h3 } := fun {Q E} q => by
          obtain ⟨hg, hdbg, hm | ⟨hm, hv, hnn⟩⟩ := hc
          · exact ld_glob (X := X.suite a ((a, oe3) :: (X.pn ++ pins))) S3 hg hm q hdbg
          · exact ld_blt (X := X.suite a ((a, oe3) :: (X.pn ++ pins))) S3 hg hm hv q hnn hdbg
        refine test (LM.here ?_)
        cases b with
        | true =>
          refine codeAny_handlers_suite_as ?_
          refine HandSPX.lands_againZ fl3 fun h4 fl4 up4 => ?_
          have J4 : Inv X pins σ' H' { s' with heap := h4 } := J.landed nb fl4.1 ((up.trans up3).trans up4) os ag
          obtain ⟨oe4, vs4, he4, hz4, hd4⟩ := fl4.there
          have S4 := J4.suite he4 hd4 na nL nF
          refine store_ok (X := X.suite a ((a, oe4) :: (X.pn ++ pins))) (v := .ref a) S4 hN hi hloc rfl (fun s5 S5 => ?_) (.inr hln)
          refine wpAny_mono ((hsu a oe4 cls d (X.pn ++ pins) hz4 ⟨_, hd4⟩).run [] s5 _ H' _ S5 (hyes rfl a na)) (fun f s6 hsp => ?_) (fun _ _ z => False.elim z)
          have end_ : ∀ {σ6 : L2.St} {H6 : Hp} {Q : Shared → Prop}, Inv (X.suite a ((a, oe4) :: (X.pn ++ pins))) [] σ6 H6 s6 → (∀ s7, Inv X pins (σ6.set i none) H6 s7 → Q s7) →
              wpAny (model X.prog X.w) X.A (do bindName X.env n .none; unbindBehindTheSuite X.env n pos') (fun _ s7 => Q s7) X.xe s6 := fun {σ6 H6 Q} S6 hq => gone_ok (S6.unsuite ok) hN hi hln hq
          cases f with
          | next =>
            obtain ⟨σ6, H6, S6, q6⟩ := hsp
            exact end_ S6 fun s7 J7 => ⟨_, _, J7, q6⟩
          | brk =>
            obtain ⟨σ6, H6, S6, q6⟩ := hsp
            exact end_ S6 fun s7 J7 => ⟨_, _, J7, q6⟩
          | cont =>
            obtain ⟨σ6, H6, S6, q6⟩ := hsp
            exact end_ S6 fun s7 J7 => ⟨_, _, J7, q6⟩
          | ret u =>
            obtain ⟨v6, σ6, H6, S6, r6, q6⟩ := hsp
            exact end_ S6 fun s7 J7 => ⟨_, _, _, J7, r6, q6⟩
        | false =>
          show wpAny _ X.A (handleBy (.ref a) X.env hds2) _ _ _
          exact ih (hno rfl)
    exact go hh w
  · cases f with
    | next =>
      obtain ⟨σ', H', J', q⟩ := hsp
      exact wpAny_execs_nil ⟨σ', H', J'.ofTry ok, q⟩
    | brk =>
      obtain ⟨σ', H', J', q⟩ := hsp
      exact ⟨σ', H', J'.ofTry ok, q⟩
    | cont =>
      obtain ⟨σ', H', J', q⟩ := hsp
      exact ⟨σ', H', J'.ofTry ok, q⟩
    | ret u =>
      obtain ⟨v, σ', H', J', r, q⟩ := hsp
      exact ⟨v, σ', H', J'.ofTry ok, r, q⟩
end

/-! ### a method's call whose exception is wished for at the slots -/
section
variable {X : Cx} {CX : CXT} {k nn : Nat} {f C : Addr} {fd : FuncData} {ps ks : List Str} {sp : Sp} {E : L2.St → XK} {m : Str} {pos apos : Pos} {e o : Expr} {es : List Expr} {kws : List Keyword} {ta : TE} {t tk : TA} {g : List Value → List Value → List Value} {gV : List V → List V → List V}
def tMethZ (C : Addr) (m : Str) (sp : Sp) (E : L2.St → XK) (ta : TE) (t : TA) : TE := fun σ H Q => ta σ H fun x H1 => ∃ a dx fs, x = .ref a ∧ H1 a = some (.ins C dx fs) ∧ fs.lookup m = none ∧ t σ H1 fun vs H2 => sp (x :: vs) H2 Q (E σ)
theorem pe_methZ {pl : Sem Bool} (he : PE X o ta) (c : Cls X.K C) (hm : Meth X.K C m f) (F : FnOk X.prog X.w X.K X.mg X.base CX k f fd ps sp) (hr : Room k X.A) (hb : Binds X.K fd ps []) (hx : ∀ σ, PassesAt CX X σ (E σ)) (ha : PA X (e :: es) t)
    (hst : starEach (e :: es) X.env = (false, eval e X.env) :: starEach es X.env := by rfl) (hpl : (backTo pos (starEach es X.env)).any (·.1) = false := by rfl)
    (ht : eval (.Call (.Attribute o m apos) (e :: es) [] pos) X.env = (do
      let ov ← eval o X.env
      standAt apos.atName
      let (f, first) ← holding [ov] (getMethod ov m pl)
      callWith pos f first (backTo pos (starEach (e :: es) X.env)) (backToKw pos (keywordEach [] X.env))) := by rfl) :
    PE X (.Call (.Attribute o m apos) (e :: es) [] pos) (tMethZ C m sp E ta t) := by
  refine ⟨fun pins s σ H Q I h => ?_⟩
  refine PySem.W.methodCall_KW (pl := pl) (thn (he.run pins s σ H _ I h) fun u s1 ⟨x, H1, I1, rx, a, dx, fs, ex, ea, l, q⟩ => ?_) ht
  subst ex
  obtain rfl : u = Value.ref a := rx
  refine getmeth_ok I1 ea c hm l ?_
  refine PySem.W.callWith_K (first := [.ref a]) (h₀ := X.base) I.ok.mod.kin hm.kp (thn (ha.run pos pins s1 σ H1 _ I1 q) fun us s2 ⟨vs, H2, I2, r, q2⟩ => ⟨I2.kIn, ?_⟩) hst hpl
  exact run_fnS (us := .ref a :: us) (vs := .ref a :: vs) F hr hb (hx σ) I2 (.cons rfl r) q2
def tMethKZ (C : Addr) (m : Str) (n mm : Nat) (sp : Sp) (gV : List V → List V → List V) (E : L2.St → XK) (ta : TE) (t tk : TA) : TE := fun σ H Q => ta σ H fun x H1 => ∃ a dx fs, x = .ref a ∧ H1 a = some (.ins C dx fs) ∧ fs.lookup m = none ∧
  t σ H1 fun vs H2 => tk σ H2 fun zs H3 => (x :: vs).length = n ∧ zs.length = mm ∧ sp (gV (x :: vs) zs) H3 Q (E σ)
theorem pe_methKZ {pl : Sem Bool} (he : PE X o ta) (c : Cls X.K C) (hm : Meth X.K C m f) (F : FnOk X.prog X.w X.K X.mg X.base CX k f fd ps sp) (hr : Room k X.A) (hb : KBn X.K fd ps nn ks g gV) (hx : ∀ σ, PassesAt CX X σ (E σ)) (ha : PA X (e :: es) t) (hkw : PK X kws tk)
    (hall : (backToKw pos (keywordEach kws X.env)).all (·.1.isSome) = true := by rfl) (hks : (backToKw pos (keywordEach kws X.env)).filterMap (·.1) = ks := by rfl)
    (hst : starEach (e :: es) X.env = (false, eval e X.env) :: starEach es X.env := by rfl)
    (hpl : ((backTo pos (starEach (e :: es) X.env)).any (·.1) || (backToKw pos (keywordEach kws X.env)).any (·.1.isNone)) = false := by rfl)
    (ht : eval (.Call (.Attribute o m apos) (e :: es) kws pos) X.env = (do
      let ov ← eval o X.env
      standAt apos.atName
      let (f, first) ← holding [ov] (getMethod ov m pl)
      callWith pos f first (backTo pos (starEach (e :: es) X.env)) (backToKw pos (keywordEach kws X.env))) := by rfl) :
    PE X (.Call (.Attribute o m apos) (e :: es) kws pos) (tMethKZ C m nn ks.length sp gV E ta t tk) := by
  refine ⟨fun pins s σ H Q I h => ?_⟩
  refine PySem.W.methodCall_KW (pl := pl) (thn (he.run pins s σ H _ I h) fun u s1 ⟨x, H1, I1, rx, a, dx, fs, ex, ea, l, q⟩ => ?_) ht
  subst ex
  obtain rfl : u = Value.ref a := rx
  refine getmeth_ok I1 ea c hm l ?_
  refine PySem.W.callWith_KW (first := [.ref a]) (h₀ := X.base) I.ok.mod.kin hm.kp hall (thn (ha.run pos pins s1 σ H1 _ I1 q) fun us s2 ⟨vs, H2, I2, r, q2⟩ => ?_) hpl hst
  refine thn (hkw.run pos pins s2 σ H2 _ I2 q2) fun ws s3 ⟨zs, H3, I3, rz, l1, l2, q3⟩ => ⟨I3.kIn, ?_⟩
  rw [hks]
  have r2 := hb.rel (Paired.cons (show RelV (.ref a) (Value.ref a) from rfl) r) rz
  refine wpAny_call (codeAny_mono (F.run X.A X.stack s3 H3 ⟨.ref a :: us, ks.zip ws⟩ (g (.ref a :: us) ws) (gV (.ref a :: vs) zs) Q (E σ) hr I3.env0 (hb.to s3 (.ref a :: us) ws I3.kIn ((Paired.length (Paired.cons (show RelV (.ref a) (Value.ref a) from rfl) r)).symm.trans l1) (rz.length.symm.trans l2)) r2 q3) fun r s' hq => ?_)
  cases r with
  | error e => exact (hx σ) pins H3 s3 e s' I3 hq
  | ok fl =>
    cases fl with
    | ret u => exact I3.after hq
    | next => exact False.elim hq
    | brk => exact False.elim hq
    | cont => exact False.elim hq
end
end Xtra

set_option Elab.async false
set_option maxRecDepth 100000
set_option maxHeartbeats 4000000
set_option autoImplicit false
namespace My
open PySem L2 Xtra
abbrev KF := PySem.W.Frag
abbrev Row := Mth.Row Str
abbrev Fr := Mth.Fr
/-! ### the text by places -/
def top (i : Nat) : Stmt := PySem.Challenge.pw_consol_k52_whole_entitlements_sum.main.body.getD i (.Pass ⟨0, 0, 0, 0⟩)
/-! ### data that stands still -/
mutual
inductive Dt (H : Hp) : V → PyData → Prop
  | non : Dt H .non .none
  | bl (b : Bool) : Dt H (.bl b) (.bool b)
  | int (i : Int) : Dt H (.int i) (.int i)
  | str (x : Str) : Dt H (.str x) (.str x)
  | lst {a : Addr} {xs : List V} {ds : List PyData} : H a = some (.lst xs) → DtAll H xs ds → Dt H (.ref a) (.list ds)
  | tup {a : Addr} {xs : List V} {ds : List PyData} : H a = some (.tup xs) → DtAll H xs ds → Dt H (.ref a) (.tuple ds)
inductive DtAll (H : Hp) : List V → List PyData → Prop
  | nil : DtAll H [] []
  | cons {v : V} {vs : List V} {d : PyData} {ds : List PyData} : Dt H v d → DtAll H vs ds → DtAll H (v :: vs) (d :: ds)
end
section
variable {H H' : Hp}
mutual
theorem Dt.mono (e : Same H H') : ∀ (d : PyData) (v : V), Dt H v d → Dt H' v d
  | .none, _, h => by cases h; exact .non
  | .bool _, _, h => by cases h; exact .bl _
  | .int _, _, h => by cases h; exact .int _
  | .str _, _, h => by cases h; exact .str _
  | .list ds, _, h => by
    cases h with
    | lst ha hx => exact .lst (e _ _ ha) (DtAll.mono e ds _ hx)
  | .tuple ds, _, h => by
    cases h with
    | tup ha hx => exact .tup (e _ _ ha) (DtAll.mono e ds _ hx)
  | .dict _, _, h => by cases h
theorem DtAll.mono (e : Same H H') : ∀ (ds : List PyData) (vs : List V), DtAll H vs ds → DtAll H' vs ds
  | [], _, h => by cases h; exact .nil
  | d :: ds, _, h => by
    cases h with
    | cons h1 h2 => exact .cons (Dt.mono e d _ h1) (DtAll.mono e ds _ h2)
end
mutual
theorem Dt.dp (K : KF) : ∀ (d : PyData) (v : V), Dt H v d → Dp K H v d
  | .none, _, h => by cases h; exact .non
  | .bool _, _, h => by cases h; exact .bl _
  | .int _, _, h => by cases h; exact .int _
  | .str _, _, h => by cases h; exact .str _
  | .list ds, _, h => by
    cases h with
    | lst ha hx => exact .lst (SqL.of ha) (DtAll.dp K ds _ hx)
  | .tuple ds, _, h => by
    cases h with
    | tup ha hx => exact .tup (SqT.of ha) (DtAll.dp K ds _ hx)
  | .dict _, _, h => by cases h
theorem DtAll.dp (K : KF) : ∀ (ds : List PyData) (vs : List V), DtAll H vs ds → DpAll K H vs ds
  | [], _, h => by cases h; exact .nil
  | d :: ds, _, h => by
    cases h with
    | cons h1 h2 => exact .cons (Dt.dp K d _ h1) (DtAll.dp K ds _ h2)
end
theorem DtAll.len : ∀ {ds : List PyData} {vs : List V}, DtAll H vs ds → vs.length = ds.length
  | [], _, h => by cases h; rfl
  | _ :: ds, _, h => by
    cases h with
    | cons _ h2 => rw [List.length_cons, List.length_cons, DtAll.len h2]
theorem DtAll.get : ∀ {ds : List PyData} {vs : List V} {i : Nat} {v : V}, DtAll H vs ds → vs[i]? = some v → ∃ d, ds[i]? = some d ∧ Dt H v d
  | [], _, _, _, h, e => by cases h; cases e
  | d :: ds, _, 0, v, h, e => by
    cases h with
    | cons h1 _ => cases e; exact ⟨d, rfl, h1⟩
  | d :: ds, _, i + 1, v, h, e => by
    cases h with
    | cons _ h2 => exact DtAll.get (i := i) h2 e
theorem DtAll.snoc : ∀ {ds : List PyData} {vs : List V} {d : PyData} {v : V}, DtAll H vs ds → Dt H v d → DtAll H (vs ++ [v]) (ds ++ [d])
  | [], _, _, _, h, q => by cases h; exact .cons q .nil
  | _ :: ds, _, _, _, h, q => by
    cases h with
    | cons h1 h2 => exact .cons h1 (DtAll.snoc h2 q)
theorem DtAll.strs : ∀ l : List Str, DtAll H (l.map V.str) (l.map PyData.str)
  | [] => .nil
  | x :: l => .cons (.str x) (DtAll.strs l)
end
theorem Same.new {H : Hp} {p : Addr} {o : HO} (h : H p = none) : Same H (upd H p o) := fun b u e => by
  rw [upd_ne (ne_of_none e h)]
  exact e
theorem upd_self {H : Hp} {p : Addr} {o : HO} (h : H p = some o) : upd H p o = H := by
  funext b
  by_cases e : b = p
  · rw [e, upd_same, h]
  · rw [upd_ne e]
/-- what a pure def hands back: some data, all else as it was -/
def RetD (d : PyData) (H : Hp) (Q : VK) : Prop := ∀ v H', Same H H' → Dt H' v d → Q v H'
def RetV (v : V) (H : Hp) (Q : VK) : Prop := ∀ H', Same H H' → Q v H'
theorem RetD.back {d : PyData} {H H1 : Hp} {Q : VK} (k : RetD d H Q) (e : Same H H1) : RetD d H1 Q := fun v H' e' q => k v H' (e.trans e') q
theorem RetV.back {v : V} {H H1 : Hp} {Q : VK} (k : RetV v H Q) (e : Same H H1) : RetV v H1 Q := fun H' e' => k H' (e.trans e')
def frD (x : Fr) : PyData := .tuple [.int x.1, .int x.2]
def rowsD (rows : List (Str × Fr)) : PyData := .list (rows.map fun r => .tuple [.str r.1, frD r.2])
theorem frD_at {H : Hp} {v : V} {x : Fr} (h : Dt H v (frD x)) : ∃ p, v = .ref p ∧ H p = some (.tup [.int x.1, .int x.2]) := by
  cases h with
  | @tup a xs _ ha hx =>
    cases hx with
    | cons h1 h2 =>
      cases h1
      cases h2 with
      | cons h3 h4 =>
        cases h3
        cases h4
        exact ⟨a, rfl, ha⟩
theorem frD_of {H : Hp} {p : Addr} {x : Fr} (h : H p = some (.tup [.int x.1, .int x.2])) : Dt H (.ref p) (frD x) := .tup h (.cons (.int _) (.cons (.int _) .nil))

/-! ### the accounts in the heap -/
def uV : Option Str → V
  | none => .non
  | some s => .str s
def rowV (r : Row) : List V := [.str r.name, uV r.under, .bl r.nom, .int (r.units : Int)]
def accF (r : Row) : List (Str × V) := [("name", .str r.name), ("under", uV r.under), ("nominee", .bl r.nom), ("units", .int (r.units : Int))]
def holF (tot : Nat) (aK aN : Addr) : List (Str × V) := [("issuer", .str "state"), ("units", .int (tot : Int)), ("known", .ref aK), ("notes", .ref aN)]
def natsV (l : List Nat) : List V := l.map fun n : Nat => V.int (n : Int)
/-- the objects at as stand for the rows st -/
structure Reps (R : HO → Row → Prop) (H : Hp) (as : List Addr) (st : List Row) : Prop where
  len : as.length = st.length
  at_ : ∀ (i : Nat) (a : Addr) (r : Row), as[i]? = some a → st[i]? = some r → ∃ o, H a = some o ∧ R o r
def Ix (as : List Addr) (st : List Row) (n : Str) (a : Addr) (r : Row) : Prop := ∃ i : Nat, as[i]? = some a ∧ st[i]? = some r ∧ r.name = n
section
variable {R : HO → Row → Prop} {H H' : Hp} {as : List Addr} {st : List Row}
theorem Reps.keep (h : Reps R H as st) (k : ∀ a ∈ as, ∀ o, H a = some o → H' a = some o) : Reps R H' as st := ⟨h.len, fun i a r ha hr => by
  obtain ⟨o, ho, hR⟩ := h.at_ i a r ha hr
  exact ⟨o, k a (List.mem_of_getElem? ha) o ho, hR⟩⟩
theorem Reps.same (h : Reps R H as st) (e : Same H H') : Reps R H' as st := h.keep fun _ _ o q => e _ o q
theorem Reps.mem (h : Reps R H as st) {a : Addr} (ha : a ∈ as) : ∃ o r, r ∈ st ∧ H a = some o ∧ R o r := by
  obtain ⟨i, hi, e⟩ := List.getElem_of_mem ha
  have ha' : as[i]? = some a := by rw [List.getElem?_eq_getElem hi, e]
  have hi' : i < st.length := h.len ▸ hi
  obtain ⟨o, ho, hR⟩ := h.at_ i a st[i] ha' (List.getElem?_eq_getElem hi')
  exact ⟨o, st[i], List.getElem_mem hi', ho, hR⟩
theorem Reps.ix (h : Reps R H as st) {n : Str} {a : Addr} {r : Row} (x : Ix as st n a r) : ∃ o, H a = some o ∧ R o r := by
  obtain ⟨i, h1, h2, _⟩ := x
  exact h.at_ i a r h1 h2
theorem Ix.mem {n : Str} {a : Addr} {r : Row} (x : Ix as st n a r) : a ∈ as := by
  obtain ⟨i, h1, _, _⟩ := x
  exact List.mem_of_getElem? h1
theorem Ix.find {n : Str} {a : Addr} {r : Row} (x : Ix as st n a r) (nd : (Mth.names st).Nodup) : Mth.find st n = some r := by
  obtain ⟨i, _, h2, e⟩ := x
  rw [← e]
  exact Mth.find_of_mem nd (List.mem_of_getElem? h2)
theorem Reps.find (h : Reps R H as st) {n : Str} {r : Row} (f : Mth.find st n = some r) : ∃ a, Ix as st n a r := by
  obtain ⟨hm, hn⟩ := Mth.find_mem f
  obtain ⟨i, hi, e⟩ := List.getElem_of_mem hm
  have hi' : i < as.length := h.len ▸ hi
  exact ⟨as[i], i, List.getElem?_eq_getElem hi', by rw [List.getElem?_eq_getElem hi, e], hn⟩
theorem nd_name {st : List Row} (nd : (Mth.names st).Nodup) {i j : Nat} {a b : Row} (hi : st[i]? = some a) (hj : st[j]? = some b) (e : a.name = b.name) : i = j := by
  refine nd_ix nd (i := i) (j := j) (x := a.name) ?_ ?_
  · unfold Mth.names
    rw [List.getElem?_map, hi]
    rfl
  · unfold Mth.names
    rw [List.getElem?_map, hj, e]
    rfl
theorem get_setU {st : List Row} {n : Str} {v i : Nat} : (Mth.setU st n v)[i]? = (st[i]?).map (Mth.rowU n v) := by
  unfold Mth.setU
  rw [List.getElem?_map]
  rfl
/-- one object is changed to the row with other units -/
theorem Reps.upd (h : Reps R H as st) (na : as.Nodup) (nd : (Mth.names st).Nodup) {n : Str} {a : Addr} {r : Row} {v : Nat} {o : HO} (x : Ix as st n a r) (ho : R o { r with units := v }) : Reps R (L2.upd H a o) as (Mth.setU st n v) := by
  obtain ⟨i, h1, h2, e⟩ := x
  refine ⟨by unfold Mth.setU; rw [List.length_map]; exact h.len, fun j b q hb hq => ?_⟩
  rw [get_setU] at hq
  cases hj : st[j]? with
  | none =>
    rw [hj] at hq
    cases hq
  | some q0 =>
    rw [hj] at hq
    cases hq
    by_cases ej : j = i
    · subst ej
      rw [h1] at hb
      cases hb
      rw [h2] at hj
      cases hj
      refine ⟨o, upd_same, ?_⟩
      unfold Mth.rowU
      rw [if_pos e]
      exact ho
    · have hne : b ≠ a := fun z => ej (nd_ix na hb (z ▸ h1))
      have hnn : ¬ q0.name = n := fun z => ej (nd_name nd hj h2 (z.trans e.symm))
      obtain ⟨o', ho', hR⟩ := h.at_ j b q0 hb hj
      refine ⟨o', by rw [upd_ne hne]; exact ho', ?_⟩
      unfold Mth.rowU
      rw [if_neg hnn]
      exact hR
theorem Ix.setU {s t : Str} {v : Nat} {b : Addr} {r : Row} (x : Ix as st t b r) (h : s ≠ t) : Ix as (Mth.setU st s v) t b r := by
  obtain ⟨i, h1, h2, e⟩ := x
  refine ⟨i, h1, ?_, e⟩
  rw [get_setU, h2]
  show some (Mth.rowU s v r) = some r
  unfold Mth.rowU
  rw [if_neg fun z => h (z.symm.trans e)]
theorem Reps.snoc (h : Reps R H as st) (k : ∀ a ∈ as, ∀ o, H a = some o → H' a = some o) {p : Addr} {o : HO} {r : Row} (hp : H' p = some o) (ho : R o r) : Reps R H' (as ++ [p]) (st ++ [r]) := by
  refine ⟨by rw [List.length_append, List.length_append, h.len]; rfl, fun i a q ha hq => ?_⟩
  by_cases hi : i < as.length
  · rw [List.getElem?_append_left hi] at ha
    rw [List.getElem?_append_left (h.len ▸ hi)] at hq
    exact (h.keep k).at_ i a q ha hq
  · rw [List.getElem?_append_right (by omega)] at ha
    rw [List.getElem?_append_right (by have := h.len; omega)] at hq
    have h0 : i - as.length = 0 := by
      have := (List.getElem?_eq_some_iff.mp ha).1
      simp at this
      omega
    have h1 : i - st.length = 0 := by have := h.len; omega
    rw [h0] at ha
    rw [h1] at hq
    cases ha
    cases hq
    exact ⟨o, hp, ho⟩
end
/-- the law's own rows -/
def rowR (o : HO) (r : Row) : Prop := o = .lst (rowV r)
structure LawAt (H : Hp) (aS aR : Addr) (rs : List Addr) (st : List Row) (tot : Nat) : Prop where
  sa : H aS = some (.lst [.ref aR, .int (tot : Int)])
  ra : H aR = some (.lst (rs.map V.ref))
  rp : Reps rowR H rs st
  nd : rs.Nodup
  sr : aS ≠ aR
  sn : aS ∉ rs
  rn : aR ∉ rs
theorem LawAt.keep {H H' : Hp} {aS aR : Addr} {rs : List Addr} {st : List Row} {tot : Nat} (h : LawAt H aS aR rs st tot) (k : ∀ a xs, H a = some (.lst xs) → (a = aS ∨ a = aR ∨ a ∈ rs) → H' a = some (.lst xs)) : LawAt H' aS aR rs st tot := by
  refine ⟨k _ _ h.sa (.inl rfl), k _ _ h.ra (.inr (.inl rfl)), h.rp.keep fun a ha o ho => ?_, h.nd, h.sr, h.sn, h.rn⟩
  obtain ⟨o', r, _, ho', hR⟩ := h.rp.mem ha
  rw [ho] at ho'
  cases ho'
  have hR : o = .lst (rowV r) := hR
  subst hR
  exact k _ _ ho (.inr (.inr ha))
theorem LawAt.same {H H' : Hp} {aS aR : Addr} {rs : List Addr} {st : List Row} {tot : Nat} (h : LawAt H aS aR rs st tot) (e : Same H H') : LawAt H' aS aR rs st tot := h.keep fun _ _ q _ => e _ _ q
/-- the program's accounts -/
def accR (CA : Addr) (o : HO) (r : Row) : Prop := ∃ dx, o = .ins CA dx (accF r)
def kvs (as : List Addr) (st : List Row) : List (Key × V) := (st.zip as).map fun p => ((Sum.inr p.1.name : Key), V.ref p.2)
structure HolR (CA CH : Addr) (H : Hp) (aH aK aN : Addr) (as : List Addr) (st : List Row) (tot : Nat) : Prop where
  ob : ∃ dx, H aH = some (.ins CH dx (holF tot aK aN))
  kn : Rd H aK (.dK (kvs as st))
  ac : Reps (accR CA) H as st
  nd : as.Nodup
  hn : aH ∉ as
theorem HolR.keep {CA CH : Addr} {H H' : Hp} {aH aK aN : Addr} {as : List Addr} {st : List Row} {tot : Nat} (h : HolR CA CH H aH aK aN as st tot) (k : ∀ a C dx fs, H a = some (.ins C dx fs) → H' a = some (.ins C dx fs)) (kn : Rd H' aK (.dK (kvs as st))) :
    HolR CA CH H' aH aK aN as st tot := by
  obtain ⟨dx, ho⟩ := h.ob
  refine ⟨⟨dx, k _ _ _ _ ho⟩, kn, h.ac.keep fun a ha o ho => ?_, h.nd, h.hn⟩
  obtain ⟨o', r, _, ho', hR⟩ := h.ac.mem ha
  rw [ho] at ho'
  cases ho'
  obtain ⟨dy, rfl⟩ := hR
  exact k _ _ _ _ ho
theorem Rd.same {H H' : Hp} {a : Addr} {u : HO} (e : Same H H') (h : Rd H a u) : Rd H' a u := by
  rcases h with h | ⟨o, h⟩
  · exact .inl (e _ _ h)
  · exact .inr ⟨o, e _ _ h⟩
theorem HolR.same {CA CH : Addr} {H H' : Hp} {aH aK aN : Addr} {as : List Addr} {st : List Row} {tot : Nat} (h : HolR CA CH H aH aK aN as st tot) (e : Same H H') : HolR CA CH H' aH aK aN as st tot :=
  h.keep (fun _ _ _ _ q => e _ _ q) (Rd.same e h.kn)
structure HolAt (CA CH : Addr) (H : Hp) (aH aK aN : Addr) (as : List Addr) (st : List Row) (tot : Nat) (nt : List (Key × V)) : Prop where
  r : HolR CA CH H aH aK aN as st tot
  k : H aK = some (.dK (kvs as st))
  n : H aN = some (.dK nt)
  kn : aK ≠ aN
theorem HolAt.same {CA CH : Addr} {H H' : Hp} {aH aK aN : Addr} {as : List Addr} {st : List Row} {tot : Nat} {nt : List (Key × V)} (h : HolAt CA CH H aH aK aN as st tot nt) (e : Same H H') : HolAt CA CH H' aH aK aN as st tot nt :=
  ⟨h.r.same e, e _ _ h.k, e _ _ h.n, h.kn⟩
theorem HolAt.keep {CA CH : Addr} {H H' : Hp} {aH aK aN : Addr} {as : List Addr} {st : List Row} {tot : Nat} {nt : List (Key × V)} (h : HolAt CA CH H aH aK aN as st tot nt) (e : ∀ a o, (∀ xs, o ≠ .lst xs) → H a = some o → H' a = some o) : HolAt CA CH H' aH aK aN as st tot nt :=
  ⟨h.r.keep (fun _ _ _ _ q => e _ _ (fun _ z => by cases z) q) (.inl (e _ _ (fun _ z => by cases z) h.k)), e _ _ (fun _ z => by cases z) h.k, e _ _ (fun _ z => by cases z) h.n, h.kn⟩

/-! ### the dict of the accounts -/
theorem kvs_snoc {as : List Addr} {st : List Row} (hl : as.length = st.length) (a : Addr) (r : Row) : kvs (as ++ [a]) (st ++ [r]) = kvs as st ++ [((Sum.inr r.name : Key), V.ref a)] := by
  unfold kvs
  rw [List.zip_append hl.symm, List.map_append]
  rfl
theorem kvs_setU : ∀ (as : List Addr) (st : List Row) (n : Str) (v : Nat), kvs as (Mth.setU st n v) = kvs as st
  | _, [], _, _ => rfl
  | [], _ :: _, _, _ => by simp [kvs]
  | a :: as, r :: st, n, v => by
    have ih := kvs_setU as st n v
    show ((Sum.inr (Mth.rowU n v r).name : Key), V.ref a) :: kvs as (Mth.setU st n v) = ((Sum.inr r.name : Key), V.ref a) :: kvs as st
    rw [ih, Mth.rowU_name]
theorem valV_kvs_none : ∀ {as : List Addr} {st : List Row} {n : Str}, Mth.find st n = none → valV (kvs as st) (Sum.inr n : Key) = none
  | _, [], _, _ => rfl
  | [], _ :: _, _, _ => by simp [kvs, valV]
  | a :: as, r :: st, n, h => by
    have h' : n ∉ r.name :: Mth.names st := Mth.find_none.mp h
    have h1 : ¬ (Sum.inr r.name : Key) = Sum.inr n := fun e => h' ((Sum.inr.inj e) ▸ List.mem_cons_self)
    show valV (((Sum.inr r.name : Key), V.ref a) :: kvs as st) (Sum.inr n : Key) = none
    rw [valV_neg h1]
    exact valV_kvs_none (Mth.find_none.mpr fun m => h' (List.mem_cons_of_mem _ m))
theorem valV_kvs_some : ∀ {as : List Addr} {st : List Row} {n : Str} {r : Row}, as.length = st.length → Mth.find st n = some r → ∃ a, Ix as st n a r ∧ valV (kvs as st) (Sum.inr n : Key) = some (.ref a)
  | _, [], _, _, _, h => by cases h
  | [], _ :: _, _, _, hl, _ => by cases hl
  | a :: as, q :: st, n, r, hl, h => by
    by_cases e : q.name = n
    · have : Mth.find (q :: st) n = some q := by
        unfold Mth.find
        rw [List.find?_cons]
        simp [e]
      rw [this] at h
      cases h
      refine ⟨a, ⟨0, rfl, rfl, e⟩, ?_⟩
      show valV (((Sum.inr q.name : Key), V.ref a) :: kvs as st) (Sum.inr n : Key) = _
      rw [valV_pos (show (Sum.inr q.name : Key) = Sum.inr n by rw [e])]
    · have : Mth.find (q :: st) n = Mth.find st n := by
        unfold Mth.find
        rw [List.find?_cons]
        simp [e]
      rw [this] at h
      obtain ⟨b, ⟨i, h1, h2, h3⟩, hv⟩ := valV_kvs_some (as := as) (st := st) (Nat.succ.inj hl) h
      refine ⟨b, ⟨i + 1, h1, h2, h3⟩, ?_⟩
      show valV (((Sum.inr q.name : Key), V.ref a) :: kvs as st) (Sum.inr n : Key) = _
      rw [valV_neg (show ¬ (Sum.inr q.name : Key) = Sum.inr n from fun z => e (Sum.inr.inj z))]
      exact hv
theorem kvs_len {as : List Addr} {st : List Row} (hl : as.length = st.length) : (kvs as st).length = st.length := by
  unfold kvs
  rw [List.length_map, List.length_zip, hl, Nat.min_self]

/-! ### fields -/
theorem acc_name (r : Row) : (accF r).lookup ("name" : Str) = some (.str r.name) := by kernel_rfl
theorem acc_under (r : Row) : (accF r).lookup ("under" : Str) = some (uV r.under) := by kernel_rfl
theorem acc_nom (r : Row) : (accF r).lookup ("nominee" : Str) = some (.bl r.nom) := by kernel_rfl
theorem acc_units (r : Row) : (accF r).lookup ("units" : Str) = some (.int (r.units : Int)) := by kernel_rfl
theorem acc_put (r : Row) (v : Nat) : putF ("units" : Str) (.int (v : Int)) (accF r) = accF { r with units := v } := by kernel_rfl
theorem hol_issuer (tot : Nat) (aK aN : Addr) : (holF tot aK aN).lookup ("issuer" : Str) = some (.str "state") := by kernel_rfl
theorem hol_units (tot : Nat) (aK aN : Addr) : (holF tot aK aN).lookup ("units" : Str) = some (.int (tot : Int)) := by kernel_rfl
theorem hol_known (tot : Nat) (aK aN : Addr) : (holF tot aK aN).lookup ("known" : Str) = some (.ref aK) := by kernel_rfl
theorem hol_notes (tot : Nat) (aK aN : Addr) : (holF tot aK aN).lookup ("notes" : Str) = some (.ref aN) := by kernel_rfl
theorem hol_no (tot : Nat) (aK aN : Addr) {m : Str} (h : ([("issuer" : Str), "units", "known", "notes"] : List Str).contains m = false) : (holF tot aK aN).lookup m = none := by
  unfold holF
  simp only [List.contains_cons, List.contains_nil, Bool.or_false, Bool.or_eq_false_iff] at h
  obtain ⟨h1, h2, h3, h4⟩ := h
  simp only [List.lookup, h1, h2, h3, h4]

/-! ### defs of the text by name -/
structure GF (P : Program) (w : World) (K : KF) (mg : Str → Option Value) (base : Heap) (CX : CXT) (k : Nat) (x : Str) (ps : List Str) (sp : Sp) where
  f : Addr
  fd : FuncData
  F : FnOk P w K mg base CX k f fd ps sp
  m : mg x = some (.ref f)
  kp : PySem.W.keepIn K (.ref f) = true
  b : Binds K fd ps []
structure GM (P : Program) (w : World) (K : KF) (mg : Str → Option Value) (base : Heap) (CX : CXT) (k : Nat) (C : Addr) (x : Str) (ps : List Str) (sp : Sp) where
  f : Addr
  fd : FuncData
  F : FnOk P w K mg base CX k f fd ps sp
  m : Meth K C x f
  b : Binds K fd ps []
/-- an expression that is never reached -/
def tNvE : TE := fun _ _ _ => False
theorem pe_never {X : Cx} {e : Expr} : PE X e tNvE := ⟨fun _ _ _ _ _ _ h => h.elim⟩
/-- the names that are still built in -/
structure Blt (mg : Str → Option Value) : Prop where
  len : mg "len" = none
  int : mg "int" = none
  abs : mg "abs" = none
  range : mg "range" = none
  list : mg "list" = none
  reversed : mg "reversed" = none
  isinstance : mg "isinstance" = none
  tuple : mg "tuple" = none
  bool : mg "bool" = none
  str : mg "str" = none
  sum : mg "sum" = none
  min : mg "min" = none
  max : mg "max" = none
theorem small {n : Nat} (h : n ≤ 1000000) : n ≤ sizeLine := Nat.le_trans h (by decide)
theorem small' {n : Nat} (h : n ≤ 1000000) : n < sizeLine := Nat.lt_of_le_of_lt h (by decide)
end My

set_option Elab.async false
set_option maxRecDepth 100000
set_option maxHeartbeats 4000000
set_option autoImplicit false
namespace My
open PySem L2 Xtra
theorem bt_len : bootBuiltins "len" = some (.builtin "len") := by decide +kernel
theorem bt_int : bootBuiltins "int" = some (.type "int") := by decide +kernel
theorem bt_abs : bootBuiltins "abs" = some (.builtin "abs") := by decide +kernel
theorem bt_sum : bootBuiltins "sum" = some (.builtin "sum") := by decide +kernel
theorem bt_min : bootBuiltins "min" = some (.builtin "min") := by decide +kernel
theorem bt_max : bootBuiltins "max" = some (.builtin "max") := by decide +kernel
theorem bt_isi : bootBuiltins "isinstance" = some (.builtin "isinstance") := by decide +kernel
theorem bt_tuple : bootBuiltins "tuple" = some (.type "tuple") := by decide +kernel
theorem bt_list : bootBuiltins "list" = some (.type "list") := by decide +kernel
theorem bt_bool : bootBuiltins "bool" = some (.type "bool") := by decide +kernel
theorem bt_str : bootBuiltins "str" = some (.type "str") := by decide +kernel
abbrev sTake : Stmt := top 23
abbrev sMake : Stmt := top 24
abbrev sAdd : Stmt := top 25
abbrev sTimes : Stmt := top 26
/-! ### _law_take -/
def spTake : Sp := fun vs H Q _ => ∃ (a : Addr) (b : Nat) (ds : List Nat), vs = [.ref a, .int (b : Int)] ∧ H a = some (.lst (natsV ds)) ∧ 0 < b ∧ ∀ (n : Nat) (ds' : List Nat), n < b → Q (.int (n : Int)) (upd H a (.lst (natsV ds')))
section
variable {P : Program} {w : World} {K : KF} {mg : Str → Option Value} {base : Heap}
theorem scTake : FnScope ["_law_draws_here", "_law_bound"] ["_law_draws_here", "_law_bound"] (defScope sTake) := ⟨rfl, rfl, rfl, by decide +kernel, rfl, by decide +kernel, by decide +kernel⟩
theorem ok_take {f : Addr} {fd : FuncData} (F : Fun K "_law_take" "_law_take" sTake f fd) (B : Blt mg) : FnOk P w K mg base CX0 1 f fd ["_law_draws_here", "_law_bound"] spTake := by
  refine F.ok scTake (fun vs H Q E h => ?_) (fun cdv A outer s H vs Q E hr h => ?_)
  · obtain ⟨a, b, ds, rfl, _⟩ := h
    rfl
  · obtain ⟨a, b, ds, rfl, ha, hb, k⟩ := h
    refine ⟨_, pss_cons (ps_if (pt_cmpR op_eq (pe_callB call_len_seq (by rfl) B.len bt_len (pa_cons (pv 0) pa_nil)) pe_int (nomark _)) (pss_one (ps_ret pe_int)) pss_nil)
      (pss_one (ps_ret (pe_op op_modN (pe_callTy call_int1 (by rfl) B.int bt_int (pa_cons (pe_bm0 PySem.F.plainAttrs_list PySem.F.slot_list_pop PySem.F.type_list_pop mt_pop (pv 0)) pa_nil)) (pv 1)))), ?_⟩
    refine ⟨_, rfl, a, _, rfl, .inl (SqL.of ha), rfl, _, rfl, ?_⟩
    refine ite2 (fun e => ?_) (fun e => ?_)
    · have e1 := of_decide_eq_true e
      have hl : ds = [] := by
        have : ((natsV ds).length : Int) = 0 := by injection e1
        unfold natsV at this
        rw [List.length_map] at this
        exact List.eq_nil_of_length_eq_zero (by omega)
      subst hl
      have := k 0 [] hb
      rw [upd_self ha] at this
      exact this
    · have hl : ds ≠ [] := fun z => e (by subst z; rfl)
      have e3 : ds = ds.dropLast ++ [ds.getLast hl] := (List.dropLast_concat_getLast hl).symm
      generalize ds.getLast hl = d at e3
      generalize ds.dropLast = ds' at e3
      subst e3
      have eV : natsV (ds' ++ [d]) = natsV ds' ++ [V.int (d : Int)] := by
        unfold natsV
        rw [List.map_append]
        rfl
      rw [eV] at ha
      refine ⟨_, rfl, .inl ⟨rfl, _, SqL.of ha⟩, a, _, V.int (d : Int), rfl, rfl, ha, ?_, ?_⟩
      · rw [List.length_append]
        show (natsV ds' ++ [V.int (d : Int)])[(natsV ds').length + 1 - 1]? = _
        rw [Nat.add_sub_cancel, List.getElem?_append_right (Nat.le_refl _), Nat.sub_self]
        rfl
      · refine .inl ⟨_, rfl, _, rfl, _, _, rfl, rfl, by omega, ?_⟩
        have e4 : (d : Int).fmod (b : Int) = ((d % b : Nat) : Int) := by
          rw [Int.fmod_eq_emod_of_nonneg _ (by omega)]
          rfl
        show Q (.int ((d : Int).fmod (b : Int))) _
        rw [e4, List.dropLast_concat]
        exact k (d % b) ds' (Nat.mod_lt _ hb)
/-! ### _law_make -/
def spMake : Sp := fun vs H Q _ => ∃ (p q : Nat), vs = [.int (p : Int), .int (q : Int)] ∧ 0 < q ∧ q < 2 ^ 2400 ∧ RetD (frD (Mth.mk p q)) H Q
theorem scMake : FnScope ["_law_p", "_law_q", "_law_a", "_law_b", "_law_k", "_law_rest"] ["_law_p", "_law_q"] (defScope sMake) := ⟨rfl, rfl, rfl, by decide +kernel, rfl, by decide +kernel, by decide +kernel⟩
theorem nat_fmod (a b : Nat) : (a : Int).fmod (b : Int) = ((a % b : Nat) : Int) := by
  rw [Int.fmod_eq_emod_of_nonneg _ (by omega)]
  rfl
theorem ok_make {f : Addr} {fd : FuncData} (F : Fun K "_law_make" "_law_make" sMake f fd) (B : Blt mg) : FnOk P w K mg base CX0 1 f fd ["_law_p", "_law_q"] spMake := by
  refine F.ok scMake (fun vs H Q E h => ?_) (fun cdv A outer s H vs Q E hr h => ?_)
  · obtain ⟨p, q, rfl, _⟩ := h
    rfl
  · obtain ⟨p, q, rfl, hq, hq2, k⟩ := h
    refine ⟨_, pss_cons (ps_set (i := 2) scMake.nd rfl (.inl rfl) (pe_callB call_abs (by rfl) B.abs bt_abs (pa_cons (pv 0) pa_nil)))
      (pss_cons (ps_set (i := 3) scMake.nd rfl (.inl rfl) (pv 1))
      (pss_cons (ps_for PassesOwn.never rfl (pi_range1 rfl B.range (pa_cons pe_int pa_nil)) (pg_name (i := 4) scMake.nd rfl (.inl rfl))
        (pss_cons (ps_if (pt_cmpR op_eq (pv 3) pe_int (nomark _)) (pss_one ps_break) pss_nil)
        (pss_cons (ps_set (i := 5) scMake.nd rfl (.inl rfl) (pe_op op_modN (pe_callTy call_int1 (by rfl) B.int bt_int (pa_cons (pv 2) pa_nil)) (pv 3)))
        (pss_cons (ps_set (i := 2) scMake.nd rfl (.inl rfl) (pv 3))
        (pss_one (ps_set (i := 3) scMake.nd rfl (.inl rfl) (pv 5)))))))
      (pss_one (ps_ret (pe_tup (pa_cons (pe_op op_fdivW (pv 0) (pv 2)) (pa_cons (pe_op op_fdivW (pv 1) (pv 2)) pa_nil))))))), ?_⟩
    refine ⟨_, rfl, _, rfl, _, rfl, 5000, rfl, by decide, by decide, ?_⟩
    have ep : (if (p : Int) < 0 then -(p : Int) else (p : Int)) = (p : Int) := if_neg (by omega)
    have fin : ∀ (a : Nat) (k4 k5 : Option V), a = Nat.gcd p q →
        tRet (tTup (tCons (tOp (rI CDivW fun i j => .int (i / j)) (tVar 0) (tVar 2)) (tCons (tOp (rI CDivW fun i j => .int (i / j)) (tVar 1) (tVar 2)) tNil))) { nx := fun _ H' => Q .non H', rt := Q }
          [some (.int (p : Int)), some (.int (q : Int)), some (.int (a : Int)), some (.int 0), k4, k5] H := by
      intro a k4 k5 ha
      have hg : 0 < a := ha ▸ Nat.gcd_pos_of_pos_right p hq
      have hg2 : a < 2 ^ 2400 := Nat.lt_of_le_of_lt (ha ▸ Nat.gcd_le_right p hq) hq2
      have hd : ∀ i : Int, CDivW i (a : Int) := fun i => wide_div (b := 2400) (by omega) (by rw [Int.natAbs_natCast]; exact hg2) (by decide) (by decide)
      refine ⟨_, rfl, _, rfl, _, _, rfl, rfl, hd _, _, rfl, _, rfl, _, _, rfl, rfl, hd _, (by show 2 ≤ sizeLine; decide), fun t ht => ?_⟩
      refine k _ _ (Same.new ht) (frD_of ?_)
      rw [upd_same]
      show some (HO.tup [V.int ((p : Int) / (a : Int)), V.int ((q : Int) / (a : Int))]) = _
      unfold Mth.mk
      rw [← ha]
      rfl
    refine for_range (n := 5000) (fun i σ H' => H' = H ∧ ∃ (a b : Nat) (k4 k5 : Option V), σ = [some (.int (p : Int)), some (.int (q : Int)), some (.int (a : Int)), some (.int (b : Int)), k4, k5] ∧ Mth.Eu p q i a b)
      ⟨rfl, p, q, none, none, by rw [ep]; rfl, Mth.Eu.start hq⟩ ?_ ?_
    · rintro i σ H' hi ⟨rfl, a, b, k4, k5, rfl, eu⟩
      refine ⟨_, rfl, rfl, _, rfl, ?_⟩
      refine ite2 (fun e => ?_) (fun e => ?_)
      · have e1 := of_decide_eq_true e
        have hb : b = 0 := by
          have : (b : Int) = 0 := by injection e1
          omega
        subst hb
        exact fin a _ _ eu.done
      · have hb : b ≠ 0 := fun z => e (by subst z; rfl)
        refine ⟨_, rfl, .inl ⟨_, rfl, _, rfl, _, _, rfl, rfl, by omega, ?_⟩⟩
        exact ⟨_, rfl, _, rfl, rfl, b, a % b, _, _, by rw [← nat_fmod]; rfl, eu.turn hb⟩
    · rintro σ H' ⟨rfl, a, b, k4, k5, rfl, eu⟩
      have hb := eu.last hq2
      subst hb
      exact fin a _ _ eu.done
end
end My

set_option Elab.async false
set_option maxRecDepth 100000
set_option maxHeartbeats 4000000
set_option autoImplicit false
namespace My
open PySem L2 Xtra
abbrev sFraction : Stmt := top 15
abbrev sPTimes : Stmt := top 16
def Bd (x : Fr) : Prop := x.1 < 2 ^ 1000 ∧ 0 < x.2 ∧ x.2 < 2 ^ 1000
theorem mulB {a b : Nat} (ha : a < 2 ^ 1000) (hb : b < 2 ^ 1000) : CMulB (a : Int) (b : Int) := by
  have x : Nat.log2 a < 1000 := PySem.Flt.log2_lt_of (by decide) ha
  have y : Nat.log2 b < 1000 := PySem.Flt.log2_lt_of (by decide) hb
  unfold CMulB
  rw [Int.natAbs_natCast, Int.natAbs_natCast]
  omega
theorem mul_lt {a b : Nat} (ha : a < 2 ^ 1000) (hb : b < 2 ^ 1000) : a * b < 2 ^ 2400 := by
  have h := Nat.mul_lt_mul'' ha hb
  rw [← Nat.pow_add] at h
  exact Nat.lt_of_lt_of_le h (Nat.pow_le_pow_right (by decide) (by decide))
/-- two fractions are handed in -/
def sp2 (g : Fr → Fr → Fr) : Sp := fun vs H Q _ => ∃ (v u : V) (x y : Fr), vs = [v, u] ∧ Dt H v (frD x) ∧ Dt H u (frD y) ∧ Bd x ∧ Bd y ∧ RetD (frD (g x y)) H Q
section
variable {P : Program} {w : World} {K : KF} {mg : Str → Option Value} {base : Heap}
theorem scAdd : FnScope ["_law_a", "_law_b"] ["_law_a", "_law_b"] (defScope sAdd) := ⟨rfl, rfl, rfl, by decide +kernel, rfl, by decide +kernel, by decide +kernel⟩
theorem ok_add {f : Addr} {fd : FuncData} (F : Fun K "_law_add" "_law_add" sAdd f fd) (G : GF P w K mg base CX0 1 "_law_make" ["_law_p", "_law_q"] spMake) : FnOk P w K mg base CX0 2 f fd ["_law_a", "_law_b"] (sp2 Mth.ad) := by
  refine F.ok scAdd (fun vs H Q E h => ?_) (fun cdv A outer s H vs Q E hr h => ?_)
  · obtain ⟨v, u, x, y, rfl, _⟩ := h
    rfl
  · obtain ⟨v, u, x, y, rfl, hx, hy, bx, bY, k⟩ := h
    obtain ⟨p, rfl, hp⟩ := frD_at hx
    obtain ⟨q, rfl, hq⟩ := frD_at hy
    refine ⟨_, pss_one (ps_ret (pe_call G.F hr (by rfl) G.m G.kp G.b .nil pass0 (pa_cons (pe_op op_add (pe_op op_mulB (pe_ix ix_tup (pv 0) pe_int (fun _ _ => rfl)) (pe_ix ix_tup (pv 1) pe_int (fun _ _ => rfl))) (pe_op op_mulB (pe_ix ix_tup (pv 1) pe_int (fun _ _ => rfl)) (pe_ix ix_tup (pv 0) pe_int (fun _ _ => rfl))))
      (pa_cons (pe_op op_mulB (pe_ix ix_tup (pv 0) pe_int (fun _ _ => rfl)) (pe_ix ix_tup (pv 1) pe_int (fun _ _ => rfl))) pa_nil)))), ?_⟩
    refine ⟨_, rfl, p, _, _, _, rfl, rfl, SqT.of hp, rfl, _, rfl, q, _, _, _, rfl, rfl, SqT.of hq, rfl, _, _, rfl, rfl, mulB bx.1 bY.2.2, ?_⟩
    refine ⟨_, rfl, q, _, _, _, rfl, rfl, SqT.of hq, rfl, _, rfl, p, _, _, _, rfl, rfl, SqT.of hp, rfl, _, _, rfl, rfl, mulB bY.1 bx.2.2, ?_⟩
    refine ⟨_, _, rfl, rfl, _, rfl, p, _, _, _, rfl, rfl, SqT.of hp, rfl, _, rfl, q, _, _, _, rfl, rfl, SqT.of hq, rfl, _, _, rfl, rfl, mulB bx.2.2 bY.2.2, ?_⟩
    refine ⟨x.1 * y.2 + y.1 * x.2, x.2 * y.2, ?_, Nat.mul_pos bx.2.1 bY.2.1, mul_lt bx.2.2 bY.2.2, k⟩
    show [V.int ((x.1 : Int) * (y.2 : Int) + (y.1 : Int) * (x.2 : Int)), V.int ((x.2 : Int) * (y.2 : Int))] = [V.int ((x.1 * y.2 + y.1 * x.2 : Nat) : Int), V.int ((x.2 * y.2 : Nat) : Int)]
    rw [Int.natCast_add, Int.natCast_mul, Int.natCast_mul, Int.natCast_mul]
theorem scTimes : FnScope ["_law_a", "_law_b"] ["_law_a", "_law_b"] (defScope sTimes) := ⟨rfl, rfl, rfl, by decide +kernel, rfl, by decide +kernel, by decide +kernel⟩
theorem ok_times {f : Addr} {fd : FuncData} (F : Fun K "_law_times" "_law_times" sTimes f fd) (G : GF P w K mg base CX0 1 "_law_make" ["_law_p", "_law_q"] spMake) : FnOk P w K mg base CX0 2 f fd ["_law_a", "_law_b"] (sp2 Mth.tm) := by
  refine F.ok scTimes (fun vs H Q E h => ?_) (fun cdv A outer s H vs Q E hr h => ?_)
  · obtain ⟨v, u, x, y, rfl, _⟩ := h
    rfl
  · obtain ⟨v, u, x, y, rfl, hx, hy, bx, bY, k⟩ := h
    obtain ⟨p, rfl, hp⟩ := frD_at hx
    obtain ⟨q, rfl, hq⟩ := frD_at hy
    refine ⟨_, pss_one (ps_ret (pe_call G.F hr (by rfl) G.m G.kp G.b .nil pass0 (pa_cons (pe_op op_mulB (pe_ix ix_tup (pv 0) pe_int (fun _ _ => rfl)) (pe_ix ix_tup (pv 1) pe_int (fun _ _ => rfl)))
      (pa_cons (pe_op op_mulB (pe_ix ix_tup (pv 0) pe_int (fun _ _ => rfl)) (pe_ix ix_tup (pv 1) pe_int (fun _ _ => rfl))) pa_nil)))), ?_⟩
    refine ⟨_, rfl, p, _, _, _, rfl, rfl, SqT.of hp, rfl, _, rfl, q, _, _, _, rfl, rfl, SqT.of hq, rfl, _, _, rfl, rfl, mulB bx.1 bY.1, ?_⟩
    refine ⟨_, rfl, p, _, _, _, rfl, rfl, SqT.of hp, rfl, _, rfl, q, _, _, _, rfl, rfl, SqT.of hq, rfl, _, _, rfl, rfl, mulB bx.2.2 bY.2.2, ?_⟩
    refine ⟨x.1 * y.1, x.2 * y.2, ?_, Nat.mul_pos bx.2.1 bY.2.1, mul_lt bx.2.2 bY.2.2, k⟩
    show [V.int ((x.1 : Int) * (y.1 : Int)), V.int ((x.2 : Int) * (y.2 : Int))] = [V.int ((x.1 * y.1 : Nat) : Int), V.int ((x.2 * y.2 : Nat) : Int)]
    rw [Int.natCast_mul, Int.natCast_mul]
/-! ### the program's own fraction, times -/
def spFraction : Sp := spMake
theorem scFraction : FnScope ["p", "q", "common"] ["p", "q"] (defScope sFraction) := ⟨rfl, rfl, rfl, by decide +kernel, rfl, by decide +kernel, by decide +kernel⟩
theorem ok_fraction {f : Addr} {fd : FuncData} (F : FunD K "fraction" "fraction" (defArgs sFraction) (defBody sFraction) (defScope sFraction) [.int 1] [] f fd) (mG : mg "gcd" = some (.builtin "math.gcd")) : FnOk P w K mg base CX0 1 f fd ["p", "q"] spFraction := by
  refine F.ok scFraction (fun vs H Q E h => ?_) (fun cdv A outer s H vs Q E hr h => ?_)
  · obtain ⟨p, q, rfl, _⟩ := h
    rfl
  · obtain ⟨p, q, rfl, hq, hq2, k⟩ := h
    refine ⟨_, PSs.nox (pss_cons (ps_if (pt_cmpR op_eq (pv 1) pe_int (nomark _)) (pss_one ps_never) pss_nil)
      (pss_cons (ps_set (i := 2) scFraction.nd rfl (.inl rfl) (pe_callBfun cr_gcd (by rfl) mG (pa_cons (pv 0) (pa_cons (pv 1) pa_nil))))
      (pss_cons (ps_if (pt_cmpR op_gt (pv 1) pe_int (nomark _)) (pss_one (ps_ret (pe_tup (pa_cons (pe_op op_fdivW (pv 0) (pv 2)) (pa_cons (pe_op op_fdivW (pv 1) (pv 2)) pa_nil))))) pss_nil)
      (pss_one ps_never)))), ?_⟩
    refine ⟨_, rfl, rfl, _, rfl, ?_⟩
    refine ite2 (fun e => ?_) (fun e => ?_)
    · have e1 := of_decide_eq_true e
      have : (q : Int) = 0 := by injection e1
      omega
    refine ⟨_, rfl, _, rfl, _, _, rfl, ?_⟩
    refine ⟨_, rfl, _, _, rfl, rfl, _, rfl, ?_⟩
    refine ite2 (fun e => ?_) (fun e => ?_)
    · have hg : 0 < Nat.gcd p q := Nat.gcd_pos_of_pos_right p hq
      have hg2 : Nat.gcd p q < 2 ^ 2400 := Nat.lt_of_le_of_lt (Nat.gcd_le_right p hq) hq2
      have eg : ((Nat.gcd (p : Int).natAbs (q : Int).natAbs : Nat) : Int) = ((Nat.gcd p q : Nat) : Int) := rfl
      have hd : ∀ i : Int, CDivW i ((Nat.gcd (p : Int).natAbs (q : Int).natAbs : Nat) : Int) := fun i => by
        rw [eg]
        exact wide_div (b := 2400) (by omega) (by rw [Int.natAbs_natCast]; exact hg2) (by decide) (by decide)
      refine ⟨_, rfl, _, rfl, _, _, rfl, rfl, hd _, _, rfl, _, rfl, _, _, rfl, rfl, hd _, (by show 2 ≤ sizeLine; decide), fun t ht => ?_⟩
      refine k _ _ (Same.new ht) (frD_of ?_)
      rw [upd_same]
      show some (HO.tup [V.int ((p : Int) / ((Nat.gcd (p : Int).natAbs (q : Int).natAbs : Nat) : Int)), V.int ((q : Int) / ((Nat.gcd (p : Int).natAbs (q : Int).natAbs : Nat) : Int))]) = _
      rw [eg]
      rfl
    · exact absurd (decide_eq_true (show (0 : Int) < (q : Int) by omega)) e
theorem scPTimes : FnScope ["a", "b"] ["a", "b"] (defScope sPTimes) := ⟨rfl, rfl, rfl, by decide +kernel, rfl, by decide +kernel, by decide +kernel⟩
theorem ok_ptimes {f : Addr} {fd : FuncData} (F : Fun K "times" "times" sPTimes f fd) (G : GF P w K mg base CX0 1 "fraction" ["p", "q"] spFraction) : FnOk P w K mg base CX0 2 f fd ["a", "b"] (sp2 Mth.tm) := by
  refine F.ok scPTimes (fun vs H Q E h => ?_) (fun cdv A outer s H vs Q E hr h => ?_)
  · obtain ⟨v, u, x, y, rfl, _⟩ := h
    rfl
  · obtain ⟨v, u, x, y, rfl, hx, hy, bx, bY, k⟩ := h
    obtain ⟨p, rfl, hp⟩ := frD_at hx
    obtain ⟨q, rfl, hq⟩ := frD_at hy
    refine ⟨_, pss_one (ps_ret (pe_call G.F hr (by rfl) G.m G.kp G.b .nil pass0 (pa_cons (pe_op op_mulB (pe_ix ix_tup (pv 0) pe_int (fun _ _ => rfl)) (pe_ix ix_tup (pv 1) pe_int (fun _ _ => rfl)))
      (pa_cons (pe_op op_mulB (pe_ix ix_tup (pv 0) pe_int (fun _ _ => rfl)) (pe_ix ix_tup (pv 1) pe_int (fun _ _ => rfl))) pa_nil)))), ?_⟩
    refine ⟨_, rfl, p, _, _, _, rfl, rfl, SqT.of hp, rfl, _, rfl, q, _, _, _, rfl, rfl, SqT.of hq, rfl, _, _, rfl, rfl, mulB bx.1 bY.1, ?_⟩
    refine ⟨_, rfl, p, _, _, _, rfl, rfl, SqT.of hp, rfl, _, rfl, q, _, _, _, rfl, rfl, SqT.of hq, rfl, _, _, rfl, rfl, mulB bx.2.2 bY.2.2, ?_⟩
    refine ⟨x.1 * y.1, x.2 * y.2, ?_, Nat.mul_pos bx.2.1 bY.2.1, mul_lt bx.2.2 bY.2.2, k⟩
    show [V.int ((x.1 : Int) * (y.1 : Int)), V.int ((x.2 : Int) * (y.2 : Int))] = [V.int ((x.1 * y.1 : Nat) : Int), V.int ((x.2 * y.2 : Nat) : Int)]
    rw [Int.natCast_mul, Int.natCast_mul]
end
end My

set_option Elab.async false
set_option maxRecDepth 100000
set_option maxHeartbeats 4000000
set_option autoImplicit false
namespace My
open PySem L2 Xtra
abbrev sAccount : Stmt := top 29
abbrev sAboveL : Stmt := top 30
abbrev sHeldL : Stmt := top 31
theorem row_at {H : Hp} {rs : List Addr} {st : List Row} (h : Reps rowR H rs st) {i : Nat} {y : V} (hy : (rs.map V.ref)[i]? = some y) : ∃ a r, y = .ref a ∧ rs[i]? = some a ∧ st[i]? = some r ∧ H a = some (.lst (rowV r)) := by
  rw [List.getElem?_map] at hy
  cases e : rs[i]? with
  | none =>
    rw [e] at hy
    cases hy
  | some a =>
    rw [e] at hy
    cases hy
    have hi : i < rs.length := (List.getElem?_eq_some_iff.mp e).1
    have hi' : i < st.length := h.len ▸ hi
    obtain ⟨o, ho, hR⟩ := h.at_ i a st[i] e (List.getElem?_eq_getElem hi')
    have hR : o = .lst (rowV st[i]) := hR
    subst hR
    exact ⟨a, st[i], rfl, rfl, List.getElem?_eq_getElem hi', ho⟩
theorem LawAt.row {H : Hp} {aS aR : Addr} {rs : List Addr} {st : List Row} {tot : Nat} (L : LawAt H aS aR rs st tot) {n : Str} {a : Addr} {r : Row} (x : Ix rs st n a r) : H a = some (.lst (rowV r)) := by
  obtain ⟨o, ho, hR⟩ := L.rp.ix x
  have hR : o = .lst (rowV r) := hR
  subst hR
  exact ho
section
variable {P : Program} {w : World} {K : KF} {mg : Str → Option Value} {base : Heap}
/-! ### _law_account -/
def spAccount : Sp := fun vs H Q _ => ∃ (aS aR : Addr) (rs : List Addr) (st : List Row) (tot : Nat) (n : Str), vs = [.ref aS, .str n] ∧ LawAt H aS aR rs st tot ∧ (Mth.find st n = none → Q .non H) ∧ ∀ a r, Ix rs st n a r → Q (.ref a) H
theorem scAccount : FnScope ["_law_state", "_law_name", "_law_row"] ["_law_state", "_law_name"] (defScope sAccount) := ⟨rfl, rfl, rfl, by decide +kernel, rfl, by decide +kernel, by decide +kernel⟩
theorem ok_account {f : Addr} {fd : FuncData} (F : Fun K "_law_account" "_law_account" sAccount f fd) : FnOk P w K mg base CX0 1 f fd ["_law_state", "_law_name"] spAccount := by
  refine F.ok scAccount (fun vs H Q E h => ?_) (fun cdv A outer s H vs Q E hr h => ?_)
  · obtain ⟨_, _, _, _, _, _, rfl, _⟩ := h
    rfl
  · obtain ⟨aS, aR, rs, st, tot, n, rfl, L, k1, k2⟩ := h
    refine ⟨_, pss_cons (ps_for PassesOwn.never rfl (pi_list (pe_ix ix_list (pv 0) pe_int (fun _ _ => rfl))) (pg_name (i := 2) scAccount.nd rfl (.inl rfl))
        (pss_one (ps_if (pt_cmpR op_eq (pe_ix ix_list (pv 2) pe_int (fun _ _ => rfl)) (pv 1) (nomark _)) (pss_one (ps_ret (pv 2))) pss_nil)))
      (pss_one (ps_ret pe_non)), ?_⟩
    refine ⟨_, rfl, aS, _, _, _, rfl, rfl, SqL.of L.sa, rfl, aR, rfl, ⟨_, SqL.of L.ra⟩, ?_⟩
    refine for_list (K := K) (a := aR) (xs := rs.map V.ref) (fun i σ H' => H' = H ∧ ∃ k, σ = [some (.ref aS), some (.str n), k] ∧ ∀ j r, j < i → st[j]? = some r → r.name ≠ n)
      ⟨rfl, none, rfl, fun j r hj => absurd hj (Nat.not_lt_zero _)⟩ (fun i σ H' _ ⟨e, _⟩ => e ▸ SqL.of L.ra) ?_ ?_
    · rintro i y σ H' hi ⟨rfl, k, rfl, ih⟩
      obtain ⟨a, r, rfl, ha, hst, hrow⟩ := row_at L.rp hi
      refine ⟨_, rfl, a, _, _, _, rfl, rfl, SqL.of hrow, rfl, _, rfl, rfl, _, rfl, ?_⟩
      refine ite2 (fun e => ?_) (fun e => ?_)
      · have en : r.name = n := by
          have := of_decide_eq_true e
          injection this
        exact ⟨_, rfl, k2 a r ⟨i, ha, hst, en⟩⟩
      · have en : r.name ≠ n := fun z => e (decide_eq_true (by rw [z]))
        refine ⟨rfl, _, rfl, fun j q hj hq => ?_⟩
        by_cases hji : j = i
        · subst hji
          rw [hst] at hq
          cases hq
          exact en
        · exact ih j q (by omega) hq
    · rintro σ H' ⟨rfl, k, rfl, ih⟩
      refine k1 (Mth.find_none.mpr fun hm => ?_)
      obtain ⟨r, hr, e⟩ := List.mem_map.mp hm
      obtain ⟨j, hj, e2⟩ := List.getElem_of_mem hr
      exact ih j r (by rw [List.length_map, L.rp.len]; exact hj) (by rw [List.getElem?_eq_getElem hj, e2]) e
abbrev GAcc (P : Program) (w : World) (K : KF) (mg : Str → Option Value) (base : Heap) := GF P w K mg base CX0 1 "_law_account" ["_law_state", "_law_name"] spAccount
/-! ### _law_above -/
def strsD (l : List Str) : PyData := .list (l.map PyData.str)
theorem strsD_at {H : Hp} {v : V} {l : List Str} (h : Dt H v (strsD l)) : ∃ p, v = .ref p ∧ H p = some (.lst (l.map V.str)) := by
  cases h with
  | @lst a xs _ ha hx =>
    have key : ∀ {l : List Str} {xs : List V}, DtAll H xs (l.map PyData.str) → xs = l.map V.str := by
      intro l
      induction l with
      | nil => intro xs h; cases h; rfl
      | cons x l ih =>
        intro xs h
        cases h with
        | cons h1 h2 =>
          cases h1
          rw [ih h2]
          rfl
    rw [key hx] at ha
    exact ⟨a, rfl, ha⟩
def spAboveL : Sp := fun vs H Q _ => ∃ (aS aR : Addr) (rs : List Addr) (st : List Row) (tot : Nat) (n : Str), vs = [.ref aS, .str n] ∧ LawAt H aS aR rs st tot ∧ Mth.Shape st ∧ n ∈ Mth.names st ∧ RetD (strsD (Mth.above st n)) H Q
theorem scAboveL : FnScope ["_law_state", "_law_name", "_law_found", "_law_row", "_law_k"] ["_law_state", "_law_name"] (defScope sAboveL) := ⟨rfl, rfl, rfl, by decide +kernel, rfl, by decide +kernel, by decide +kernel⟩
theorem chain_len (st : List Row) : ∀ k o, (Mth.chain st k o).length ≤ k
  | 0, _ => Nat.le_refl _
  | k + 1, none => Nat.zero_le _
  | k + 1, some u => by
    show (Mth.chain st k (Mth.und st u) ++ [u]).length ≤ k + 1
    rw [List.length_append]
    exact Nat.succ_le_succ (chain_len st k _)
theorem ok_aboveL {f : Addr} {fd : FuncData} (F : Fun K "_law_above" "_law_above" sAboveL f fd) (B : Blt mg) (G : GAcc P w K mg base) : FnOk P w K mg base CX0 2 f fd ["_law_state", "_law_name"] spAboveL := by
  refine F.ok scAboveL (fun vs H Q E h => ?_) (fun cdv A outer s H vs Q E hr h => ?_)
  · obtain ⟨_, _, _, _, _, _, rfl, _⟩ := h
    rfl
  · obtain ⟨aS, aR, rs, st, tot, n, rfl, L, sh, hn, k⟩ := h
    refine ⟨_, pss_cons (ps_set (i := 2) scAboveL.nd rfl (.inl rfl) (pe_lst pa_nil))
      (pss_cons (ps_set (i := 3) scAboveL.nd rfl (.inl rfl) (pe_call G.F hr (by rfl) G.m G.kp G.b .nil pass0 (pa_cons (pv 0) (pa_cons (pv 1) pa_nil))))
      (pss_cons (ps_for PassesOwn.never rfl (pi_range1 rfl B.range (pa_cons pe_int pa_nil)) (pg_name (i := 4) scAboveL.nd rfl (.inl rfl))
        (pss_one (ps_if (PW.pt (pw_and (pt_cmpR op_notN (pv 3) pe_non (nomark _)) (pw_and1 (pt_cmpR op_notN (pe_ix ix_list (pv 3) pe_int (fun _ _ => rfl)) pe_non (nomark _)))))
          (pss_cons (ps_set (i := 2) scAboveL.nd rfl (.inl rfl) (pe_op op_cat (pe_lst (pa_cons (pe_ix ix_list (pv 3) pe_int (fun _ _ => rfl)) pa_nil)) (pv 2)))
          (pss_one (ps_set (i := 3) scAboveL.nd rfl (.inl rfl) (pe_call G.F hr (by rfl) G.m G.kp G.b .nil pass0 (pa_cons (pv 0) (pa_cons (pe_ix ix_list (pv 3) pe_int (fun _ _ => rfl)) pa_nil))))))
          (pss_one (ps_set (i := 3) scAboveL.nd rfl (.inl rfl) pe_non)))))
      (pss_one (ps_ret (pv 2))))), ?_⟩
    refine ⟨Nat.zero_le _, fun p0 hp0 => ?_⟩
    have s0 : Same H (upd H p0 (.lst [])) := Same.new hp0
    refine ⟨_, rfl, _, rfl, aS, aR, rs, st, tot, n, rfl, L.same s0, fun hnone => absurd hn (Mth.find_none.mp hnone), fun a0 r0 x0 => ?_⟩
    refine ⟨5, rfl, by decide, by decide, ?_⟩
    refine for_range (n := 5) (fun i σ H' => Same H H' ∧ ∃ (p : Addr) (l : List Str) (row kk : Option V), σ = [some (.ref aS), some (.str n), some (.ref p), row, kk] ∧ H' p = some (.lst (l.map V.str)) ∧ l.length ≤ i ∧
        ((row = some .non ∧ l = Mth.above st n) ∨ ∃ m a r, row = some (.ref a) ∧ Ix rs st m a r ∧ Mth.above st n = Mth.chain st (5 - i) r.under ++ l ∧ (Mth.chain st (5 - i) r.under).length < 5 - i))
      ⟨s0, p0, [], some (.ref a0), none, rfl, upd_same, Nat.le_refl _, .inr ⟨n, a0, r0, rfl, x0, ?_, ?_⟩⟩ ?_ ?_
    · unfold Mth.above Mth.und
      rw [x0.find sh.nd, List.append_nil]
      rfl
    · have := sh.le3 n hn
      unfold Mth.above Mth.und at this
      rw [x0.find sh.nd] at this
      exact Nat.lt_of_le_of_lt this (by decide)
    · rintro i σ H' hi ⟨s1, p, l, row, kk, rfl, hp, hl, hrow⟩
      rcases hrow with ⟨rfl, he⟩ | ⟨m, a, r, rfl, x, he, hlt⟩
      · refine ⟨_, rfl, rfl, false, rfl, iteF (iteF ?_)⟩
        exact ⟨s1, p, l, _, _, rfl, hp, Nat.le_succ_of_le hl, .inl ⟨rfl, he⟩⟩
      · have hr1 := (L.same s1).row x
        refine ⟨_, rfl, rfl, true, rfl, iteT ?_⟩
        refine ⟨_, rfl, a, _, _, _, rfl, rfl, SqL.of hr1, rfl, ?_⟩
        cases hu : r.under with
        | none =>
          refine ⟨rfl, false, rfl, iteF ?_⟩
          refine ⟨s1, p, l, _, _, rfl, hp, Nat.le_succ_of_le hl, .inl ⟨rfl, ?_⟩⟩
          rw [he, hu, Mth.chain_none]
          rfl
        | some u =>
          have hu' : rowV r = [.str r.name, .str u, .bl r.nom, .int (r.units : Int)] := by
            unfold rowV uV
            rw [hu]
          refine ⟨rfl, true, rfl, iteT ?_⟩
          rw [hu'] at hr1
          refine ⟨_, rfl, a, _, _, _, rfl, rfl, SqL.of hr1, rfl, (by show 1 ≤ sizeLine; decide), fun q hq => ?_⟩
          have s2 : Same H' (upd H' q (.lst [.str u])) := Same.new hq
          refine ⟨_, rfl, q, p, _, _, rfl, rfl, upd_same, s2 _ _ hp, ?_, fun p2 hp2 => ?_⟩
          · rw [List.length_map]
            exact small (by show 1 + l.length ≤ 1000000; omega)
          have s3 := s2.trans (Same.new (o := .lst ([.str u] ++ l.map V.str)) hp2)
          refine ⟨_, rfl, _, rfl, a, _, _, _, rfl, rfl, SqL.of (s3 _ _ hr1), rfl, ?_⟩
          have hk : 5 - i = (5 - (i + 1)) + 1 := by omega
          rw [hk, hu] at he hlt
          have und_u : ∃ q, Mth.find st u = some q ∧ q.nom = true := by
            refine sh.closed m u ?_
            unfold Mth.und
            rw [x.find sh.nd]
            exact hu
          obtain ⟨qr, hqr, _⟩ := und_u
          refine ⟨aS, aR, rs, st, tot, u, rfl, L.same (s1.trans s3), fun hnone => (by rw [hqr] at hnone; cases hnone), fun b rb xb => ?_⟩
          have hb : Mth.und st u = rb.under := by
            unfold Mth.und
            rw [xb.find sh.nd]
            rfl
          refine ⟨s1.trans s3, p2, u :: l, _, _, rfl, upd_same, Nat.succ_le_succ hl, .inr ⟨u, b, rb, rfl, xb, ?_, ?_⟩⟩
          · rw [he]
            show (Mth.chain st (5 - (i + 1)) (Mth.und st u) ++ [u]) ++ l = _
            rw [hb, List.append_assoc]
            rfl
          · have : (Mth.chain st (5 - (i + 1)) (Mth.und st u) ++ [u]).length < 5 - (i + 1) + 1 := hlt
            rw [List.length_append, hb] at this
            exact Nat.lt_of_succ_lt_succ this
    · rintro σ H' ⟨s1, p, l, row, kk, rfl, hp, hl, hrow⟩
      rcases hrow with ⟨rfl, he⟩ | ⟨m, a, r, rfl, x, he, hlt⟩
      · exact ⟨_, rfl, k _ _ s1 (he ▸ .lst hp (DtAll.strs _))⟩
      · exact absurd hlt (Nat.not_lt_zero _)
abbrev GAbv (P : Program) (w : World) (K : KF) (mg : Str → Option Value) (base : Heap) := GF P w K mg base CX0 2 "_law_above" ["_law_state", "_law_name"] spAboveL
end
end My

set_option Elab.async false
set_option maxRecDepth 100000
set_option maxHeartbeats 4000000
set_option autoImplicit false
namespace My
open PySem L2 Xtra
/-- the list of ints that a comprehension gathers -/
theorem inV_strs {x : Str} {l : List Str} : inV (.str x) (l.map V.str) = decide (x ∈ l) := by
  unfold inV
  rw [List.any_map]
  induction l with
  | nil => rfl
  | cons a l ih =>
    rw [List.any_cons, ih]
    show ((a == x) || decide (x ∈ l)) = decide (x ∈ a :: l)
    by_cases h : a = x
    · subst h
      simp
    · have h' : ¬ x = a := fun z => h z.symm
      simp [h, h']
theorem flat_strs (l : List Str) : (l.map V.str).all flatV = true := by
  rw [List.all_map]
  exact List.all_eq_true.mpr fun _ _ => rfl
section
variable {P : Program} {w : World} {K : KF} {mg : Str → Option Value} {base : Heap}
/-! ### _law_held -/
def spHeldL : Sp := fun vs H Q _ => ∃ (aS aR : Addr) (rs : List Addr) (st : List Row) (tot : Nat) (n : Str) (r : Row), vs = [.ref aS, .str n] ∧ LawAt H aS aR rs st tot ∧ Mth.Shape st ∧ st.length ≤ 1000 ∧ Mth.find st n = some r ∧ RetV (.int (Mth.held st r : Nat)) H Q
theorem scHeldL : FnScope ["_law_state", "_law_name", "_law_row", "_law_other"] ["_law_state", "_law_name"] (defScope sHeldL) := ⟨rfl, rfl, rfl, by decide +kernel, rfl, by decide +kernel, by decide +kernel⟩
theorem take_succ_of {α : Type} {l : List α} {i : Nat} {x : α} (h : l[i]? = some x) : l.take (i + 1) = l.take i ++ [x] := by
  rw [List.take_add_one, h]
  rfl
theorem ok_heldL {f : Addr} {fd : FuncData} (F : Fun K "_law_held" "_law_held" sHeldL f fd) (B : Blt mg) (GA : GAcc P w K mg base) (G : GAbv P w K mg base) : FnOk P w K mg base CX0 3 f fd ["_law_state", "_law_name"] spHeldL := by
  refine F.ok scHeldL (fun vs H Q E h => ?_) (fun cdv A outer s H vs Q E hr h => ?_)
  · obtain ⟨_, _, _, _, _, _, _, rfl, _⟩ := h
    rfl
  · obtain ⟨aS, aR, rs, st, tot, n, r, rfl, L, sh, hlen, hf, k⟩ := h
    refine ⟨_, pss_cons (ps_set (i := 2) scHeldL.nd rfl (.inl rfl) (pe_call GA.F (hr.mono (by decide)) (by rfl) GA.m GA.kp GA.b .nil pass0 (pa_cons (pv 0) (pa_cons (pv 1) pa_nil))))
      (pss_cons (ps_if (pt_not (pt_val (pe_ix ix_list (pv 2) pe_int (fun _ _ => rfl)))) (pss_one (ps_ret (pe_ix ix_list (pv 2) pe_int (fun _ _ => rfl)))) pss_nil)
      (pss_one (ps_ret (pe_callB (cr_sum rfl) (by rfl) B.sum bt_sum (pa_cons
        (pe_lc (own := [("_law_other", 3)]) (g := gName 3) rfl scHeldL.nd (pi_list (pe_ix ix_list (pv 0) pe_int (fun _ _ => rfl)))
          (blkOk_by (own := [("_law_other", 3)]) (N := ["_law_state", "_law_name", "_law_row", "_law_other"]) (sc := defScope sHeldL) (by decide +kernel))
          (fun _ _ _ _ _ => pg_name (i := 3) scHeldL.nd rfl (.inl rfl))
          (fun _ _ _ _ _ => pts_one (pt_cmpR (r := rIn K false) op_in_seq (pv 1) (pe_call G.F hr (by rfl) G.m G.kp G.b .nil pass0 (pa_cons (pv 0) (pa_cons (pe_ix (r := rIxL K) ix_list (pv 3) pe_int (fun _ _ => rfl)) pa_nil))) (by rfl)))
          (fun _ _ _ _ _ => pe_ix (r := rIxL K) ix_list (pv 3) pe_int (fun _ _ => rfl))) pa_nil))))), ?_⟩
    refine ⟨_, rfl, _, rfl, aS, aR, rs, st, tot, n, rfl, L, fun z => (by rw [hf] at z; cases z), fun a r' x => ?_⟩
    have e0 := x.find sh.nd
    rw [hf] at e0
    cases e0
    have hrow := L.row x
    have hn : r.name = n := (Mth.find_mem hf).2
    refine ⟨_, rfl, a, _, _, _, rfl, rfl, SqL.of hrow, rfl, r.nom, rfl, ?_⟩
    cases hnom : r.nom with
    | false =>
      refine iteT ⟨_, rfl, a, _, _, _, rfl, rfl, SqL.of hrow, rfl, ?_⟩
      have := k H (Same.refl H)
      unfold Mth.held at this
      rw [hnom] at this
      exact this
    | true =>
      refine iteF ⟨_, rfl, aS, _, _, _, rfl, rfl, SqL.of L.sa, rfl, aR, rfl, ⟨_, SqL.of L.ra⟩, fun D hD => ?_⟩
      refine lc_list (K := K) (xs := rs.map V.ref) (fun i H' => Same H H' ∧ H' D = some (.lst ((((st.take i).filter fun o => decide (n ∈ Mth.above st o.name)).map fun o => V.int (o.units : Int)))))
        ⟨Same.new hD, upd_same⟩ (fun i H' _ ⟨s1, _⟩ => SqL.of (s1 _ _ L.ra)) ?_ ?_
      · rintro i y H' hi ⟨s1, hDl⟩
        obtain ⟨b, o, rfl, hb, ho, _⟩ := row_at L.rp hi
        have L1 := L.same s1
        have xb : Ix rs st o.name b o := ⟨i, hb, ho, rfl⟩
        have hro := L1.row xb
        have hm : o.name ∈ Mth.names st := List.mem_map.mpr ⟨o, List.mem_of_getElem? ho, rfl⟩
        refine ⟨rfl, _, rfl, _, rfl, _, rfl, b, _, _, _, rfl, rfl, SqL.of hro, rfl, aS, aR, rs, st, tot, o.name, rfl, L1, sh, hm, fun v H2 s2 hv => ?_⟩
        obtain ⟨p, rfl, hp⟩ := strsD_at hv
        refine ⟨p, _, rfl, .inl (SqL.of hp), rfl, flat_strs _, _, rfl, ?_⟩
        rw [inV_strs]
        have et := take_succ_of ho
        by_cases hmem : n ∈ Mth.above st o.name
        · rw [decide_eq_true hmem]
          refine iteT ⟨_, rfl, b, _, _, _, rfl, rfl, SqL.of (s2 _ _ hro), rfl, _, s2 _ _ hDl, ?_, ?_⟩
          · rw [List.length_map]
            refine small' (Nat.le_trans (List.length_filter_le _ _) ?_)
            rw [List.length_take]
            omega
          · refine ⟨fun c u hc => ?_, ?_⟩
            · have : c ≠ D := ne_of_none hc hD
              rw [upd_ne this]
              exact s2 _ _ (s1 _ _ hc)
            · rw [upd_same, et, List.filter_append, List.map_append]
              simp [hmem]
        · rw [decide_eq_false hmem]
          refine iteF ⟨s1.trans s2, ?_⟩
          rw [et, List.filter_append, List.map_append]
          simp [hmem]
          exact s2 _ _ hDl
      · rintro H' ⟨s1, hDl⟩
        have hfull : (rs.map V.ref).length = st.length := by rw [List.length_map, L.rp.len]
        rw [hfull, List.take_length] at hDl
        refine ⟨D, ((st.filter fun o => decide (n ∈ Mth.above st o.name)).map fun o => (o.units : Int)), rfl, ?_, ?_⟩
        · rw [List.map_map]
          exact SqL.of hDl
        · have e : (((st.filter fun o => decide (n ∈ Mth.above st o.name)).map fun o => (o.units : Int))).sum = ((Mth.held st r : Nat) : Int) := by
            unfold Mth.held Mth.unitsSum
            rw [if_pos hnom, hn]
            generalize st.filter (fun o => decide (n ∈ Mth.above st o.name)) = l
            induction l with
            | nil => rfl
            | cons o l ih =>
              rw [List.map_cons, List.map_cons, List.sum_cons, List.sum_cons, ih]
              rfl
          rw [e]
          exact k H' s1
abbrev GHeld (P : Program) (w : World) (K : KF) (mg : Str → Option Value) (base : Heap) := GF P w K mg base CX0 3 "_law_held" ["_law_state", "_law_name"] spHeldL
end
end My

set_option Elab.async false
set_option maxRecDepth 100000
set_option maxHeartbeats 4000000
set_option autoImplicit false
namespace My
open PySem L2 Xtra
abbrev sOpenL : Stmt := top 32
abbrev sMoveL : Stmt := top 33
abbrev Er := Mth.Err Str
def errD : Er → PyData
  | .dup n => .list [.str "duplicate", .str n]
  | .unk n => .list [.str "unknown", .str n]
  | .nomi n => .list [.str "nominee", .str n]
  | .hold n => .list [.str "holder", .str n]
  | .few n h => .list [.str "few", .str n, .int (h : Int)]
  | .deep => .list [.str "deep"]
  | .units => .list [.str "units"]
abbrev Out := Except Er (List Row)
def outD : Out → PyData
  | .error e => errD e
  | .ok _ => .list []
def nextS : Out → List Row → List Row
  | .error _, st => st
  | .ok s, _ => s
def LKeep (H H' : Hp) (aR : Addr) (rs : List Addr) : Prop := ∀ b o, H b = some o → b ≠ aR → b ∉ rs → H' b = some o
theorem LKeep.of {H H' : Hp} {aR : Addr} {rs : List Addr} (e : Same H H') : LKeep H H' aR rs := fun b o h _ _ => e b o h
theorem LawAt.put {H : Hp} {aS aR : Addr} {rs : List Addr} {st : List Row} {tot : Nat} (L : LawAt H aS aR rs st tot) (nd : (Mth.names st).Nodup) {n : Str} {a : Addr} {r : Row} {v : Nat} (x : Ix rs st n a r) :
    LawAt (upd H a (.lst (rowV { r with units := v }))) aS aR rs (Mth.setU st n v) tot := by
  have ha := x.mem
  refine ⟨?_, ?_, L.rp.upd L.nd nd x rfl, L.nd, L.sr, L.sn, L.rn⟩
  · rw [upd_ne fun z : aS = a => L.sn (z ▸ ha)]
    exact L.sa
  · rw [upd_ne fun z : aR = a => L.rn (z ▸ ha)]
    exact L.ra
theorem LawAt.add {H H' : Hp} {aS aR p : Addr} {rs : List Addr} {st : List Row} {tot : Nat} {r : Row} (L : LawAt H aS aR rs st tot) (hp : H p = none) (e : ∀ b o, H b = some o → b ≠ aR → H' b = some o) (h1 : H' p = some (.lst (rowV r))) (h2 : H' aR = some (.lst ((rs ++ [p]).map V.ref))) :
    LawAt H' aS aR (rs ++ [p]) (st ++ [r]) tot := by
  have pS : aS ≠ p := ne_of_none L.sa hp
  have pR : aR ≠ p := ne_of_none L.ra hp
  have pn : p ∉ rs := fun m => by
    obtain ⟨o, _, _, ho, _⟩ := L.rp.mem m
    rw [hp] at ho
    cases ho
  refine ⟨e _ _ L.sa L.sr, h2, L.rp.snoc (fun a ha o ho => e a o ho fun z => L.rn (z ▸ ha)) h1 rfl, ?_, L.sr, fun m => ?_, fun m => ?_⟩
  · rw [List.nodup_append]
    refine ⟨L.nd, List.nodup_cons.mpr ⟨List.not_mem_nil, List.nodup_nil⟩, fun a ha b hb z => ?_⟩
    rw [List.mem_singleton.mp hb] at z
    exact pn (z ▸ ha)
  · rcases List.mem_append.mp m with m | m
    · exact L.sn m
    · exact pS (List.mem_singleton.mp m)
  · rcases List.mem_append.mp m with m | m
    · exact L.rn m
    · exact pR (List.mem_singleton.mp m)
/-- what a deed leaves of the law's own state -/
def LEnd (H : Hp) (aS aR : Addr) (rs : List Addr) (st : List Row) (tot : Nat) (o : Out) (Q : VK) : Prop := ∀ v H' rs', LawAt H' aS aR rs' (nextS o st) tot → Dt H' v (outD o) → LKeep H H' aR rs → (∀ b ∈ rs', b ∈ rs ∨ H b = none) → Q v H'
theorem LEnd.err {H H' : Hp} {aS aR : Addr} {rs : List Addr} {st : List Row} {tot : Nat} {o : Out} {Q : VK} {e : Er} {v : V} (k : LEnd H aS aR rs st tot o Q) (L : LawAt H aS aR rs st tot) (ho : o = .error e) (s : Same H H') (hv : Dt H' v (errD e)) : Q v H' := by
  subst ho
  exact k v H' rs (L.same s) hv (LKeep.of s) fun b hb => .inl hb
section
variable {P : Program} {w : World} {K : KF} {mg : Str → Option Value} {base : Heap}
/-! ### _law_open -/
def spOpenL : Sp := fun vs H Q _ => ∃ (aS aR : Addr) (rs : List Addr) (st : List Row) (tot : Nat) (n : Str) (u : Option Str) (nom : Bool), vs = [.ref aS, .str n, uV u, .bl nom] ∧ LawAt H aS aR rs st tot ∧ Mth.Shape st ∧ st.length ≤ 1000 ∧
  LEnd H aS aR rs st tot (Mth.openM st n u nom) Q
theorem scOpenL : FnScope ["_law_state", "_law_name", "_law_under", "_law_nominee", "_law_row"] ["_law_state", "_law_name", "_law_under", "_law_nominee"] (defScope sOpenL) := ⟨rfl, rfl, rfl, by decide +kernel, rfl, by decide +kernel, by decide +kernel⟩
theorem ok_openL {f : Addr} {fd : FuncData} (F : Fun K "_law_open" "_law_open" sOpenL f fd) (B : Blt mg) (GA : GAcc P w K mg base) (G : GAbv P w K mg base) : FnOk P w K mg base CX0 3 f fd ["_law_state", "_law_name", "_law_under", "_law_nominee"] spOpenL := by
  refine F.ok scOpenL (fun vs H Q E h => ?_) (fun cdv A outer s H vs Q E hr h => ?_)
  · obtain ⟨_, _, _, _, _, _, _, _, rfl, _⟩ := h
    rfl
  · obtain ⟨aS, aR, rs, st, tot, n, u, nom, rfl, L, sh, hlen, k⟩ := h
    have hr1 := hr.mono (show 1 ≤ 2 by decide)
    refine ⟨_, pss_cons (ps_if (pt_cmpR op_notN (pe_call GA.F hr1 (by rfl) GA.m GA.kp GA.b .nil pass0 (pa_cons (pv 0) (pa_cons (pv 1) pa_nil))) pe_non (nomark _)) (pss_one (ps_ret (pe_lst (pa_cons pe_str (pa_cons (pv 1) pa_nil))))) pss_nil)
      (pss_cons (ps_if (pt_cmpR op_notN (pv 2) pe_non (nomark _))
        (pss_cons (ps_set (i := 4) scOpenL.nd rfl (.inl rfl) (pe_call GA.F hr1 (by rfl) GA.m GA.kp GA.b .nil pass0 (pa_cons (pv 0) (pa_cons (pv 2) pa_nil))))
        (pss_cons (ps_if (pt_cmpR op_isN (pv 4) pe_non (nomark _)) (pss_one (ps_ret (pe_lst (pa_cons pe_str (pa_cons (pv 2) pa_nil))))) pss_nil)
        (pss_cons (ps_if (pt_not (pt_val (pe_ix ix_list (pv 4) pe_int (fun _ _ => rfl)))) (pss_one (ps_ret (pe_lst (pa_cons pe_str (pa_cons (pv 2) pa_nil))))) pss_nil)
        (pss_one (ps_if (pt_cmpR op_eq (pe_callB call_len_seq (by rfl) B.len bt_len (pa_cons (pe_call G.F hr (by rfl) G.m G.kp G.b .nil pass0 (pa_cons (pv 0) (pa_cons (pv 2) pa_nil))) pa_nil)) pe_int (nomark _)) (pss_one (ps_ret (pe_lst (pa_cons pe_str pa_nil)))) pss_nil))))) pss_nil)
      (pss_cons (ps_expr (pe_bm PySem.F.plainAttrs_list PySem.F.slot_list_append PySem.F.type_list_append mt_append (pe_ix ix_list (pv 0) pe_int (fun _ _ => rfl)) (pa_cons (pe_lst (pa_cons (pv 1) (pa_cons (pv 2) (pa_cons (pv 3) (pa_cons pe_int pa_nil))))) pa_nil)))
      (pss_one (ps_ret (pe_lst pa_nil))))), ?_⟩
    refine ⟨_, rfl, _, rfl, aS, aR, rs, st, tot, n, rfl, L, fun hn => ?_, fun a r x => ?_⟩
    · refine ⟨rfl, false, rfl, iteF ?_⟩
      have fin : ∀ (H1 : Hp) (k4 : Option V) (s1 : Same H H1) (r : Row), r = ⟨n, u, nom, 0⟩ → Mth.openM st n u nom = .ok (st ++ [r]) →
          tSeq (tDrop (tBM K "list" rAppend (tOp (rIxL K) (tVar 0) (tC (.int 0))) (tCons (tLst (tCons (tVar 1) (tCons (tVar 2) (tCons (tVar 3) (tCons (tC (.int 0)) tNil))))) tNil))) (tRet (tLst tNil)) { nx := fun _ H' => Q .non H', rt := Q }
            [some (.ref aS), some (.str n), some (uV u), some (.bl nom), k4] H1 := by
        intro H1 k4 s1 r hre ho
        subst hre
        have L1 := L.same s1
        refine ⟨_, rfl, aS, _, _, _, rfl, rfl, SqL.of L1.sa, rfl, .inl ⟨rfl, _, SqL.of L1.ra⟩, _, rfl, _, rfl, _, rfl, (by show 4 ≤ sizeLine; decide), fun p hp => ?_⟩
        have s2 : Same H1 (upd H1 p (.lst [.str n, uV u, .bl nom, .int 0])) := Same.new hp
        refine ⟨aR, _, _, rfl, rfl, s2 _ _ L1.ra, ?_, ?_⟩
        · rw [List.length_map, L.rp.len]
          exact small' (by omega)
        · refine ⟨Nat.zero_le _, fun q hq => ?_⟩
          have hpR : p ≠ aR := (ne_of_none L1.ra hp).symm
          have e1 : ∀ b o, H1 b = some o → b ≠ aR → (upd (upd (upd H1 p (.lst [.str n, uV u, .bl nom, .int 0])) aR (.lst (rs.map V.ref ++ [.ref p]))) q (.lst [])) b = some o := fun b o hb hne => by
            have hb2 : (upd (upd H1 p (.lst [.str n, uV u, .bl nom, .int 0])) aR (.lst (rs.map V.ref ++ [.ref p]))) b = some o := by
              rw [upd_ne hne]
              exact s2 _ _ hb
            rw [upd_ne (ne_of_none hb2 hq)]
            exact hb2
          have hpq : (upd (upd H1 p (.lst [.str n, uV u, .bl nom, .int 0])) aR (.lst (rs.map V.ref ++ [.ref p]))) p = some (.lst [.str n, uV u, .bl nom, .int 0]) := by rw [upd_ne hpR, upd_same]
          have hRq : aR ≠ q := ne_of_none (H := upd (upd H1 p (.lst [.str n, uV u, .bl nom, .int 0])) aR (.lst (rs.map V.ref ++ [.ref p]))) upd_same hq
          rw [ho] at k
          refine k _ _ (rs ++ [p]) (L1.add hp e1 ?_ ?_) (.lst upd_same .nil) (fun b o hb h1 h2 => e1 b o (s1 _ _ hb) h1) fun b hb => ?_
          · rw [upd_ne (ne_of_none hpq hq)]
            exact hpq
          · rw [upd_ne hRq, upd_same, List.map_append]
            rfl
          · rcases List.mem_append.mp hb with hb | hb
            · exact .inl hb
            · exact .inr (by rw [List.mem_singleton.mp hb]; exact s1.free hp)
      cases u with
      | none =>
        refine ⟨_, rfl, rfl, false, rfl, iteF ?_⟩
        exact fin H none (Same.refl H) ⟨n, none, nom, 0⟩ rfl (by simp [Mth.openM, hn])
      | some y =>
        refine ⟨_, rfl, rfl, true, rfl, iteT ?_⟩
        refine ⟨_, rfl, _, rfl, aS, aR, rs, st, tot, y, rfl, L, fun hy => ?_, fun a r x => ?_⟩
        · refine ⟨_, rfl, rfl, true, rfl, iteT ?_⟩
          refine ⟨_, rfl, (by show 2 ≤ sizeLine; decide), fun p hp => ?_⟩
          exact k.err L (e := .unk y) (by simp [Mth.openM, hn, hy]) (Same.new hp) (.lst upd_same (.cons (.str _) (.cons (.str _) .nil)))
        · have hy := x.find sh.nd
          have hrow := L.row x
          refine ⟨_, rfl, rfl, false, rfl, iteF ?_⟩
          refine ⟨_, rfl, a, _, _, _, rfl, rfl, SqL.of hrow, rfl, r.nom, rfl, ?_⟩
          cases hnom : r.nom with
          | false =>
            refine iteT ⟨_, rfl, (by show 2 ≤ sizeLine; decide), fun p hp => ?_⟩
            exact k.err L (e := .nomi y) (by simp [Mth.openM, hn, hy, hnom]) (Same.new hp) (.lst upd_same (.cons (.str _) (.cons (.str _) .nil)))
          | true =>
            have hm : y ∈ Mth.names st := Mth.one_of_find hy
            refine iteF ⟨_, rfl, _, rfl, aS, aR, rs, st, tot, y, rfl, L, sh, hm, fun v H1 s1 hv => ?_⟩
            obtain ⟨p, rfl, hp⟩ := strsD_at hv
            refine ⟨p, _, rfl, .inl (SqL.of hp), rfl, _, rfl, ?_⟩
            have h3 := sh.le3 y hm
            refine ite2 (fun e => ?_) (fun e => ?_)
            · have e1 := of_decide_eq_true e
              have e2 : (((Mth.above st y).map V.str).length : Int) = 3 := by injection e1
              rw [List.length_map] at e2
              refine ⟨(by show 1 ≤ sizeLine; decide), fun q hq => ?_⟩
              refine k.err L (e := .deep) ?_ (s1.trans (Same.new hq)) (.lst upd_same (.cons (.str _) .nil))
              have : 3 ≤ (Mth.above st y).length := by omega
              simp [Mth.openM, hn, hy, hnom, this]
            · have hl : ¬ 3 ≤ (Mth.above st y).length := fun z => e (decide_eq_true (by
                have : (Mth.above st y).length = 3 := by omega
                rw [List.length_map, this]
                rfl))
              refine fin H1 _ s1 ⟨n, some y, nom, 0⟩ rfl ?_
              simp [Mth.openM, hn, hy, hnom, hl]
    · refine ⟨rfl, true, rfl, iteT ?_⟩
      refine ⟨_, rfl, (by show 2 ≤ sizeLine; decide), fun p hp => ?_⟩
      exact k.err L (e := .dup n) (by simp [Mth.openM, x.find sh.nd]) (Same.new hp) (.lst upd_same (.cons (.str _) (.cons (.str _) .nil)))
end
end My

set_option Elab.async false
set_option maxRecDepth 100000
set_option maxHeartbeats 4000000
set_option autoImplicit false
namespace My
open PySem L2 Xtra
abbrev sWords : Stmt := top 34
section
variable {P : Program} {w : World} {K : KF} {mg : Str → Option Value} {base : Heap}
/-! ### _law_move -/
def spMoveL : Sp := fun vs H Q _ => ∃ (aS aR : Addr) (rs : List Addr) (st : List Row) (tot : Nat) (s t : Str) (n : Nat), vs = [.ref aS, .str s, .str t, .int (n : Int)] ∧ LawAt H aS aR rs st tot ∧ Mth.Shape st ∧ st.length ≤ 1000 ∧
  LEnd H aS aR rs st tot (Mth.moveM st s t n) Q
theorem scMoveL : FnScope ["_law_state", "_law_source", "_law_target", "_law_units", "_law_name", "_law_first", "_law_second"] ["_law_state", "_law_source", "_law_target", "_law_units"] (defScope sMoveL) := ⟨rfl, rfl, rfl, by decide +kernel, rfl, by decide +kernel, by decide +kernel⟩
theorem pair_get {α : Type} {a b x : α} {i : Nat} (h : [a, b][i]? = some x) : (i = 0 ∧ x = a) ∨ (i = 1 ∧ x = b) := by
  match i, h with
  | 0, h => cases h; exact .inl ⟨rfl, rfl⟩
  | 1, h => cases h; exact .inr ⟨rfl, rfl⟩
  | _ + 2, h => cases h
theorem ok_moveL {f : Addr} {fd : FuncData} (F : Fun K "_law_move" "_law_move" sMoveL f fd) (GA : GAcc P w K mg base) : FnOk P w K mg base CX0 2 f fd ["_law_state", "_law_source", "_law_target", "_law_units"] spMoveL := by
  refine F.ok scMoveL (fun vs H Q E h => ?_) (fun cdv A outer sh H vs Q E hr h => ?_)
  · obtain ⟨_, _, _, _, _, _, _, _, rfl, _⟩ := h
    rfl
  · obtain ⟨aS, aR, rs, st, tot, s, t, n, rfl, L, sh, hlen, k⟩ := h
    refine ⟨_, pss_cons (ps_for PassesOwn.never rfl (pi_list (pe_lst (pa_cons (pv 1) (pa_cons (pv 2) pa_nil)))) (pg_name (i := 4) scMoveL.nd rfl (.inl rfl))
        (pss_one (ps_if (pt_cmpR op_isN (pe_call GA.F hr (by rfl) GA.m GA.kp GA.b .nil pass0 (pa_cons (pv 0) (pa_cons (pv 4) pa_nil))) pe_non (nomark _)) (pss_one (ps_ret (pe_lst (pa_cons pe_str (pa_cons (pv 4) pa_nil))))) pss_nil)))
      (pss_cons (ps_for PassesOwn.never rfl (pi_list (pe_lst (pa_cons (pv 1) (pa_cons (pv 2) pa_nil)))) (pg_name (i := 4) scMoveL.nd rfl (.inl rfl))
        (pss_one (ps_if (pt_val (pe_ix ix_list (pe_call GA.F hr (by rfl) GA.m GA.kp GA.b .nil pass0 (pa_cons (pv 0) (pa_cons (pv 4) pa_nil))) pe_int (fun _ _ => rfl))) (pss_one (ps_ret (pe_lst (pa_cons pe_str (pa_cons (pv 4) pa_nil))))) pss_nil)))
      (pss_cons (ps_if (PW.pt (pw_or (pt_cmpR op_lt (pv 3) pe_int (nomark _)) (pw_or1 (pt_cmpR op_eq (pv 1) (pv 2) (nomark _))))) (pss_one (ps_ret (pe_lst (pa_cons pe_str pa_nil)))) pss_nil)
      (pss_cons (ps_set (i := 5) scMoveL.nd rfl (.inl rfl) (pe_call GA.F hr (by rfl) GA.m GA.kp GA.b .nil pass0 (pa_cons (pv 0) (pa_cons (pv 1) pa_nil))))
      (pss_cons (ps_set (i := 6) scMoveL.nd rfl (.inl rfl) (pe_call GA.F hr (by rfl) GA.m GA.kp GA.b .nil pass0 (pa_cons (pv 0) (pa_cons (pv 2) pa_nil))))
      (pss_cons (ps_if (pt_cmpR op_lt (pe_ix ix_list (pv 5) pe_int (fun _ _ => rfl)) (pv 3) (nomark _)) (pss_one (ps_ret (pe_lst (pa_cons pe_str (pa_cons (pv 1) (pa_cons (pe_ix ix_list (pv 5) pe_int (fun _ _ => rfl)) pa_nil)))))) pss_nil)
      (pss_cons (ps_asg (pe_op op_sub (pe_ix ix_list (pv 5) pe_int (fun _ _ => rfl)) (pv 3)) (pg_sub (pv 5) pe_int set_list))
      (pss_cons (ps_asg (pe_op op_add (pe_ix ix_list (pv 6) pe_int (fun _ _ => rfl)) (pv 3)) (pg_sub (pv 6) pe_int set_list))
      (pss_one (ps_ret (pe_lst pa_nil)))))))))), ?_⟩
    refine ⟨_, rfl, _, rfl, (by show 2 ≤ sizeLine; decide), fun p hp => ?_⟩
    have s0 : Same H (upd H p (.lst [.str s, .str t])) := Same.new hp
    refine ⟨p, rfl, ⟨_, SqL.of upd_same⟩, ?_⟩
    refine for_list (K := K) (a := p) (xs := [.str s, .str t]) (fun i σ H' => Same H H' ∧ H' p = some (.lst [.str s, .str t]) ∧ ∃ k4, σ = [some (.ref aS), some (.str s), some (.str t), some (.int (n : Int)), k4, none, none] ∧
        (1 ≤ i → ∃ r, Mth.find st s = some r) ∧ (2 ≤ i → ∃ r, Mth.find st t = some r))
      ⟨s0, upd_same, none, rfl, fun z => absurd z (by decide), fun z => absurd z (by decide)⟩ (fun i σ H' _ ⟨_, e, _⟩ => SqL.of e) ?_ ?_
    · rintro i y σ H' hi ⟨s1, hpp, k4, rfl, h1, h2⟩
      obtain ⟨m, rfl, hno, hyes⟩ : ∃ m : Str, y = .str m ∧ (Mth.find st m = none → Mth.moveM st s t n = .error (.unk m)) ∧ ((∃ r, Mth.find st m = some r) → (1 ≤ i + 1 → ∃ r, Mth.find st s = some r) ∧ (2 ≤ i + 1 → ∃ r, Mth.find st t = some r)) := by
        rcases pair_get hi with ⟨rfl, rfl⟩ | ⟨rfl, rfl⟩
        · exact ⟨s, rfl, fun hn => by simp [Mth.moveM, hn], fun hy => ⟨fun _ => hy, fun z => absurd z (by decide)⟩⟩
        · obtain ⟨r, hr1⟩ := h1 (Nat.le_refl _)
          exact ⟨t, rfl, fun hn => by simp [Mth.moveM, hn, hr1], fun hy => ⟨fun _ => ⟨r, hr1⟩, fun _ => hy⟩⟩
      refine ⟨_, rfl, _, rfl, aS, aR, rs, st, tot, m, rfl, L.same s1, fun hn => ?_, fun a r x => ?_⟩
      · refine ⟨rfl, true, rfl, iteT ?_⟩
        refine ⟨_, rfl, (by show 2 ≤ sizeLine; decide), fun q hq => ?_⟩
        exact k.err L (e := .unk m) (hno hn) (s1.trans (Same.new hq)) (.lst upd_same (.cons (.str _) (.cons (.str _) .nil)))
      · refine ⟨rfl, false, rfl, iteF ?_⟩
        have := hyes ⟨r, x.find sh.nd⟩
        exact ⟨s1, hpp, _, rfl, this.1, this.2⟩
    rintro σ H1 ⟨s1, _, k4, rfl, h1, h2⟩
    obtain ⟨ra, hra⟩ := h1 (by show 1 ≤ 2; decide)
    obtain ⟨rb, hrb⟩ := h2 (by show 2 ≤ 2; decide)
    refine ⟨_, rfl, _, rfl, (by show 2 ≤ sizeLine; decide), fun p2 hp2 => ?_⟩
    have s2 : Same H (upd H1 p2 (.lst [.str s, .str t])) := s1.trans (Same.new hp2)
    refine ⟨p2, rfl, ⟨_, SqL.of upd_same⟩, ?_⟩
    refine for_list (K := K) (a := p2) (xs := [.str s, .str t]) (fun i σ H' => Same H H' ∧ H' p2 = some (.lst [.str s, .str t]) ∧ ∃ k4, σ = [some (.ref aS), some (.str s), some (.str t), some (.int (n : Int)), k4, none, none] ∧
        (1 ≤ i → ra.nom = false) ∧ (2 ≤ i → rb.nom = false))
      ⟨s2, upd_same, _, rfl, fun z => absurd z (by decide), fun z => absurd z (by decide)⟩ (fun i σ H' _ ⟨_, e, _⟩ => SqL.of e) ?_ ?_
    · rintro i y σ H' hi ⟨s3, hpp, k4, rfl, h3, h4⟩
      obtain ⟨m, rm, rfl, hfm, hno, hyes⟩ : ∃ (m : Str) (rm : Row), y = .str m ∧ Mth.find st m = some rm ∧ (rm.nom = true → Mth.moveM st s t n = .error (.hold m)) ∧ (rm.nom = false → (1 ≤ i + 1 → ra.nom = false) ∧ (2 ≤ i + 1 → rb.nom = false)) := by
        rcases pair_get hi with ⟨rfl, rfl⟩ | ⟨rfl, rfl⟩
        · exact ⟨s, ra, rfl, hra, fun hn => by simp [Mth.moveM, hra, hrb, hn], fun hy => ⟨fun _ => hy, fun z => absurd z (by decide)⟩⟩
        · have hna := h3 (Nat.le_refl _)
          exact ⟨t, rb, rfl, hrb, fun hn => by simp [Mth.moveM, hra, hrb, hna, hn], fun hy => ⟨fun _ => hna, fun _ => hy⟩⟩
      refine ⟨_, rfl, _, rfl, aS, aR, rs, st, tot, m, rfl, L.same s3, fun hn => (by rw [hfm] at hn; cases hn), fun a r x => ?_⟩
      have hrm := x.find sh.nd
      rw [hfm] at hrm
      cases hrm
      have hrow := (L.same s3).row x
      refine ⟨a, _, _, _, rfl, rfl, SqL.of hrow, rfl, rm.nom, rfl, ?_⟩
      cases hnom : rm.nom with
      | true =>
        refine iteT ⟨_, rfl, (by show 2 ≤ sizeLine; decide), fun q hq => ?_⟩
        exact k.err L (e := .hold m) (hno hnom) (s3.trans (Same.new hq)) (.lst upd_same (.cons (.str _) (.cons (.str _) .nil)))
      | false =>
        have := hyes hnom
        exact iteF ⟨s3, hpp, _, rfl, this.1, this.2⟩
    rintro σ H2 ⟨s3, _, k4, rfl, h3, h4⟩
    have hna := h3 (by show 1 ≤ 2; decide)
    have hnb := h4 (by show 2 ≤ 2; decide)
    have L2' := L.same s3
    -- units < 1 or source == target
    refine ⟨_, rfl, _, _, rfl, rfl, _, rfl, ?_⟩
    refine ite2 (fun e => ?_) (fun e => ?_)
    · have hk : n < 1 := by
        have := of_decide_eq_true e
        omega
      refine iteT ⟨(by show 1 ≤ sizeLine; decide), fun q hq => ?_⟩
      exact k.err L (e := .units) (by simp [Mth.moveM, hra, hrb, hna, hnb, hk]) (s3.trans (Same.new hq)) (.lst upd_same (.cons (.str _) .nil))
    have hk : ¬ n < 1 := fun z => e (decide_eq_true (by omega))
    refine ⟨_, rfl, _, rfl, rfl, _, rfl, ?_⟩
    refine ite2 (fun e => ?_) (fun e => ?_)
    · have hst : s = t := by
        have := of_decide_eq_true e
        injection this
      refine ⟨(by show 1 ≤ sizeLine; decide), fun q hq => ?_⟩
      exact k.err L (e := .units) (by simp [Mth.moveM, hra, hrb, hna, hnb, hst]) (s3.trans (Same.new hq)) (.lst upd_same (.cons (.str _) .nil))
    have hst : s ≠ t := fun z => e (decide_eq_true (by rw [z]))
    refine ⟨_, rfl, _, rfl, aS, aR, rs, st, tot, s, rfl, L2', fun hn => (by rw [hra] at hn; cases hn), fun a r xa => ?_⟩
    have := xa.find sh.nd
    rw [hra] at this
    cases this
    refine ⟨_, rfl, _, rfl, aS, aR, rs, st, tot, t, rfl, L2', fun hn => (by rw [hrb] at hn; cases hn), fun b r xb => ?_⟩
    have := xb.find sh.nd
    rw [hrb] at this
    cases this
    have hrowA := L2'.row xa
    -- first[3] < units
    refine ⟨_, rfl, a, _, _, _, rfl, rfl, SqL.of hrowA, rfl, _, rfl, _, _, rfl, rfl, _, rfl, ?_⟩
    refine ite2 (fun e => ?_) (fun e => ?_)
    · have hlt : ra.units < n := by
        have := of_decide_eq_true e
        omega
      refine ⟨_, rfl, _, rfl, a, _, _, _, rfl, rfl, SqL.of hrowA, rfl, (by show 3 ≤ sizeLine; decide), fun q hq => ?_⟩
      exact k.err L (e := .few s ra.units) (by simp [Mth.moveM, hra, hrb, hna, hnb, hk, hst, hlt]) (s3.trans (Same.new hq)) (.lst upd_same (.cons (.str _) (.cons (.str _) (.cons (.int _) .nil))))
    have hge : ¬ ra.units < n := fun z => e (decide_eq_true (by omega))
    have ho : Mth.moveM st s t n = .ok (Mth.setU (Mth.setU st s (ra.units - n)) t (rb.units + n)) := by simp [Mth.moveM, hra, hrb, hna, hnb, hk, hst, hge]
    refine ⟨_, rfl, a, _, _, _, rfl, rfl, SqL.of hrowA, rfl, _, rfl, _, _, rfl, rfl, _, rfl, a, _, 3, 3, rfl, rfl, hrowA, rfl, ?_⟩
    have eA : (rowV ra).set 3 (V.int ((ra.units : Int) - (n : Int))) = rowV { ra with units := ra.units - n } := by
      show [V.str ra.name, uV ra.under, .bl ra.nom, V.int ((ra.units : Int) - (n : Int))] = [V.str ra.name, uV ra.under, .bl ra.nom, V.int ((ra.units - n : Nat) : Int)]
      rw [Int.ofNat_sub (by omega)]
    show tSeq _ _ _ _ (upd H2 a (.lst ((rowV ra).set 3 (V.int ((ra.units : Int) - (n : Int))))))
    rw [eA]
    have L3 := L2'.put sh.nd (v := ra.units - n) xa
    have xb' : Ix rs (Mth.setU st s (ra.units - n)) t b rb := xb.setU hst
    have hrowB := L3.row xb'
    have nd3 : (Mth.names (Mth.setU st s (ra.units - n))).Nodup := by
      rw [Mth.names_setU]
      exact sh.nd
    refine ⟨_, rfl, b, _, _, _, rfl, rfl, SqL.of hrowB, rfl, _, rfl, _, _, rfl, rfl, _, rfl, b, _, 3, 3, rfl, rfl, hrowB, rfl, ?_⟩
    have L4 := L3.put nd3 (v := rb.units + n) xb'
    refine ⟨Nat.zero_le _, fun q hq => ?_⟩
    rw [ho] at k
    refine k _ _ rs (L4.same (Same.new hq)) (.lst upd_same .nil) (fun c o hc h5 h6 => ?_) fun c hc => .inl hc
    have hca : c ≠ a := fun z => h6 (z ▸ xa.mem)
    have hcb : c ≠ b := fun z => h6 (z ▸ xb.mem)
    have hc2 : (upd (upd H2 a (.lst (rowV { ra with units := ra.units - n }))) b (.lst (rowV { rb with units := rb.units + n }))) c = some o := by
      rw [upd_ne hcb, upd_ne hca]
      exact s3 _ _ hc
    rw [upd_ne (ne_of_none hc2 hq)]
    exact hc2
/-! ### _law_words -/
def words : List Str := ["state", "bank", "house", "ann", "bob", "cleo", "trust", "dan"]
def spWords : Sp := fun vs H Q _ => vs = [] ∧ RetD (strsD words) H Q
theorem scWords : FnScope [] [] (defScope sWords) := ⟨rfl, rfl, rfl, by decide +kernel, rfl, by decide +kernel, by decide +kernel⟩
theorem ok_words {f : Addr} {fd : FuncData} (F : Fun K "_law_words" "_law_words" sWords f fd) : FnOk P w K mg base CX0 1 f fd [] spWords := by
  refine F.ok scWords (fun vs H Q E h => ?_) (fun cdv A outer sh H vs Q E hr h => ?_)
  · obtain ⟨rfl, _⟩ := h
    rfl
  · obtain ⟨rfl, k⟩ := h
    refine ⟨_, pss_one (ps_ret (pe_lst (pa_cons pe_str (pa_cons pe_str (pa_cons pe_str (pa_cons pe_str (pa_cons pe_str (pa_cons pe_str (pa_cons pe_str (pa_cons pe_str pa_nil)))))))))), ?_⟩
    refine ⟨(by show 8 ≤ sizeLine; decide), fun p hp => ?_⟩
    exact k _ _ (Same.new hp) (.lst upd_same (DtAll.strs words))
end
end My

set_option Elab.async false
set_option maxRecDepth 100000
set_option maxHeartbeats 4000000
set_option autoImplicit false
namespace My
open PySem L2 Xtra
abbrev sSame : Stmt := top 28
/-- data that _law_same goes through: ints, texts, lists and tuples of such, k deep -/
def Nice : Nat → PyData → Prop
  | _, .int _ => True
  | _, .str _ => True
  | k + 1, .list ds => ds.length ≤ 1000 ∧ ∀ d ∈ ds, Nice k d
  | k + 1, .tuple ds => ds.length ≤ 1000 ∧ ∀ d ∈ ds, Nice k d
  | _, _ => False
def spSame (k : Nat) : Sp := fun vs H Q _ => ∃ (v u : V) (d : PyData), vs = [v, u] ∧ Dt H v d ∧ Dt H u d ∧ Nice k d ∧ Q (.bl true) H
/-- a sequence: a list or a tuple -/
def SqA (K : KF) (H : Hp) (a : Addr) (xs : List V) : Prop := SqL K H a xs ∨ SqT K H a xs
theorem rIx_of {K : KF} {H : Hp} {a : Addr} {xs : List V} {i : Nat} {v : V} {Q : VK} (h : SqA K H a xs) (e : xs[i]? = some v) (q : Q v H) : rIx K (.ref a) (.int (i : Int)) H Q := by
  rcases h with h | h
  · exact .inl ⟨a, xs, _, v, rfl, rfl, h, atI_nat e, q⟩
  · exact .inr (.inl ⟨a, xs, _, v, rfl, rfl, h, atI_nat e, q⟩)
theorem DtAll.at2 : ∀ {H : Hp} {ds : List PyData} {vs us : List V} {i : Nat}, DtAll H vs ds → DtAll H us ds → i < ds.length → ∃ v u d, vs[i]? = some v ∧ us[i]? = some u ∧ d ∈ ds ∧ Dt H v d ∧ Dt H u d
  | _, [], _, _, _, _, _, hi => absurd hi (Nat.not_lt_zero _)
  | _, d :: ds, _, _, 0, h1, h2, _ => by
    cases h1 with
    | cons a1 b1 =>
      cases h2 with
      | cons a2 b2 => exact ⟨_, _, d, rfl, rfl, List.mem_cons_self, a1, a2⟩
  | _, d :: ds, _, _, i + 1, h1, h2, hi => by
    cases h1 with
    | cons a1 b1 =>
      cases h2 with
      | cons a2 b2 =>
        obtain ⟨v, u, e, q1, q2, q3, q4, q5⟩ := DtAll.at2 (i := i) b1 b2 (Nat.lt_of_succ_lt_succ hi)
        exact ⟨v, u, e, q1, q2, List.mem_cons_of_mem _ q3, q4, q5⟩
section
variable {P : Program} {w : World} {K : KF} {mg : Str → Option Value} {base : Heap}
theorem scSame : FnScope ["_law_value", "_law_due", "_law_k"] ["_law_value", "_law_due"] (defScope sSame) := ⟨rfl, rfl, rfl, by decide +kernel, rfl, by decide +kernel, by decide +kernel⟩
theorem bne_self (b : Bool) : V.bl (!decide (V.bl b = V.bl b)) = V.bl false := by simp
theorem same_scalar {f : Addr} (B : Blt mg) {cdv : Value} {A : Around} {outer : List Env} {s : Shared} {H : Hp} {Q : VK} {E : XK} {v u : V} {d : PyData}
    (hd : (∃ i, d = .int i) ∨ ∃ x, d = .str x) (h1 : Dt H v d) (h2 : Dt H u d) (hq : Q (.bl true) H) :
    ∃ t, PSs (cxOf CX0 P w K mg base ["_law_value", "_law_due", "_law_k"] "_law_same" (defScope sSame) f cdv A outer s H E).nox (defBody sSame) t ∧ t { nx := fun _ H' => Q .non H', rt := Q } (start ["_law_value", "_law_due", "_law_k"] [v, u]) H := by
  refine ⟨_, pss_cons (ps_if (PW.pt (pw_or (pt_val (pe_callB call_isi (by rfl) B.isinstance bt_isi (pa_cons (pv 1) (pa_cons (pe_bltn (v := .ty "tuple") (by rfl) B.tuple bt_tuple rfl) pa_nil))))
        (pw_or1 (pt_val (pe_callB call_isi (by rfl) B.isinstance bt_isi (pa_cons (pv 1) (pa_cons (pe_bltn (v := .ty "list") (by rfl) B.list bt_list rfl) pa_nil))))))) pss_never pss_nil)
      (pss_cons (ps_if (pt_cmpR op_ne (pe_callB call_isi (by rfl) B.isinstance bt_isi (pa_cons (pv 1) (pa_cons (pe_bltn (v := .ty "bool") (by rfl) B.bool bt_bool rfl) pa_nil))) (pe_callB call_isi (by rfl) B.isinstance bt_isi (pa_cons (pv 0) (pa_cons (pe_bltn (v := .ty "bool") (by rfl) B.bool bt_bool rfl) pa_nil))) (nomark _)) pss_never pss_nil)
      (pss_cons (ps_if (PW.pt (pw_or (pt_cmpR op_ne (pe_callB call_isi (by rfl) B.isinstance bt_isi (pa_cons (pv 1) (pa_cons (pe_bltn (v := .ty "int") (by rfl) B.int bt_int rfl) pa_nil))) (pe_callB call_isi (by rfl) B.isinstance bt_isi (pa_cons (pv 0) (pa_cons (pe_bltn (v := .ty "int") (by rfl) B.int bt_int rfl) pa_nil))) (nomark _))
        (pw_or1 (pt_cmpR op_ne (pe_callB call_isi (by rfl) B.isinstance bt_isi (pa_cons (pv 1) (pa_cons (pe_bltn (v := .ty "str") (by rfl) B.str bt_str rfl) pa_nil))) (pe_callB call_isi (by rfl) B.isinstance bt_isi (pa_cons (pv 0) (pa_cons (pe_bltn (v := .ty "str") (by rfl) B.str bt_str rfl) pa_nil))) (nomark _))))) pss_never pss_nil)
      (pss_one (ps_ret (pe_cmpR op_eq (pv 0) (pv 1) (nomark _)))))), ?_⟩
  rcases hd with ⟨i, rfl⟩ | ⟨x, rfl⟩
  · cases h1
    cases h2
    refine ⟨_, rfl, _, _, _, _, false, rfl, .ty _, .base (.int i), kit_ty (by decide +kernel), false, rfl, iteF ?_⟩
    refine ⟨_, rfl, _, _, _, _, false, rfl, .ty _, .base (.int i), kit_ty (by decide +kernel), false, rfl, iteF ?_⟩
    refine ⟨_, rfl, _, _, _, _, false, rfl, .ty _, .base (.int i), kit_ty (by decide +kernel), _, rfl, _, _, _, _, false, rfl, .ty _, .base (.int i), kit_ty (by decide +kernel), rfl, false, bne_self _, iteF ?_⟩
    refine ⟨_, rfl, _, _, _, _, true, rfl, .ty _, .base (.int i), kit_ty (by decide +kernel), _, rfl, _, _, _, _, true, rfl, .ty _, .base (.int i), kit_ty (by decide +kernel), rfl, false, bne_self _, iteF ?_⟩
    refine ⟨_, rfl, _, _, _, _, false, rfl, .ty _, .base (.int i), kit_ty (by decide +kernel), _, rfl, _, _, _, _, false, rfl, .ty _, .base (.int i), kit_ty (by decide +kernel), rfl, false, bne_self _, iteF ?_⟩
    refine ⟨_, rfl, _, rfl, rfl, ?_⟩
    show Q (.bl (decide (V.int i = V.int i))) H
    rw [decide_eq_true rfl]
    exact hq
  · cases h1
    cases h2
    refine ⟨_, rfl, _, _, _, _, false, rfl, .ty _, .base (.str x), kit_ty (by decide +kernel), false, rfl, iteF ?_⟩
    refine ⟨_, rfl, _, _, _, _, false, rfl, .ty _, .base (.str x), kit_ty (by decide +kernel), false, rfl, iteF ?_⟩
    refine ⟨_, rfl, _, _, _, _, false, rfl, .ty _, .base (.str x), kit_ty (by decide +kernel), _, rfl, _, _, _, _, false, rfl, .ty _, .base (.str x), kit_ty (by decide +kernel), rfl, false, bne_self _, iteF ?_⟩
    refine ⟨_, rfl, _, _, _, _, false, rfl, .ty _, .base (.str x), kit_ty (by decide +kernel), _, rfl, _, _, _, _, false, rfl, .ty _, .base (.str x), kit_ty (by decide +kernel), rfl, false, bne_self _, iteF ?_⟩
    refine ⟨_, rfl, _, _, _, _, true, rfl, .ty _, .base (.str x), kit_ty (by decide +kernel), _, rfl, _, _, _, _, true, rfl, .ty _, .base (.str x), kit_ty (by decide +kernel), rfl, false, bne_self _, iteF ?_⟩
    refine ⟨_, rfl, _, rfl, rfl, ?_⟩
    show Q (.bl (decide (V.str x = V.str x))) H
    rw [decide_eq_true rfl]
    exact hq
theorem same_seq {j k : Nat} (G : GF P w K mg base CX0 k "_law_same" ["_law_value", "_law_due"] (spSame j)) (B : Blt mg) {f : Addr} {cdv : Value} {A : Around} {outer : List Env} {s : Shared} {H : Hp} {Q : VK} {E : XK} {a b : Addr} {xs ys : List V} {ds : List PyData}
    (hr : Room k (A.deeper (PyProof.Rows.envOfC "_law_same" (defScope sSame) s.heap.objs.size f cdv)))
    (hab : (H a = some (.lst xs) ∧ H b = some (.lst ys)) ∨ (H a = some (.tup xs) ∧ H b = some (.tup ys))) (h1 : DtAll H xs ds) (h2 : DtAll H ys ds) (hl : ds.length ≤ 1000) (hn : ∀ d ∈ ds, Nice j d) (hq : Q (.bl true) H) :
    ∃ t, PSs (cxOf CX0 P w K mg base ["_law_value", "_law_due", "_law_k"] "_law_same" (defScope sSame) f cdv A outer s H E).nox (defBody sSame) t ∧ t { nx := fun _ H' => Q .non H', rt := Q } (start ["_law_value", "_law_due", "_law_k"] [.ref a, .ref b]) H := by
  refine ⟨_, pss_cons (ps_if (PW.pt (pw_or (pt_val (pe_callB call_isi (by rfl) B.isinstance bt_isi (pa_cons (pv 1) (pa_cons (pe_bltn (v := .ty "tuple") (by rfl) B.tuple bt_tuple rfl) pa_nil)))) (pw_or1 (pt_val (pe_callB call_isi (by rfl) B.isinstance bt_isi (pa_cons (pv 1) (pa_cons (pe_bltn (v := .ty "list") (by rfl) B.list bt_list rfl) pa_nil)))))))
      (pss_cons (ps_if (PW.pt (pw_or (pt_cmpR op_ne (pe_callB call_isi (by rfl) B.isinstance bt_isi (pa_cons (pv 1) (pa_cons (pe_bltn (v := .ty "tuple") (by rfl) B.tuple bt_tuple rfl) pa_nil))) (pe_callB call_isi (by rfl) B.isinstance bt_isi (pa_cons (pv 0) (pa_cons (pe_bltn (v := .ty "tuple") (by rfl) B.tuple bt_tuple rfl) pa_nil))) (nomark _)) (pw_or1 (pt_cmpR op_ne (pe_callB call_isi (by rfl) B.isinstance bt_isi (pa_cons (pv 1) (pa_cons (pe_bltn (v := .ty "list") (by rfl) B.list bt_list rfl) pa_nil))) (pe_callB call_isi (by rfl) B.isinstance bt_isi (pa_cons (pv 0) (pa_cons (pe_bltn (v := .ty "list") (by rfl) B.list bt_list rfl) pa_nil))) (nomark _))))) pss_never pss_nil)
      (pss_cons (ps_if (pt_cmpR op_ne (pe_callB call_len_seq (by rfl) B.len bt_len (pa_cons (pv 0) pa_nil)) (pe_callB call_len_seq (by rfl) B.len bt_len (pa_cons (pv 1) pa_nil)) (nomark _)) pss_never pss_nil)
      (pss_cons (ps_for PassesOwn.never rfl (pi_range1 rfl B.range (pa_cons (pe_callB call_len_seq (by rfl) B.len bt_len (pa_cons (pv 1) pa_nil)) pa_nil)) (pg_name (i := 2) scSame.nd rfl (.inl rfl))
        (pss_one (ps_if (pt_not (pt_val (pe_call G.F hr (by rfl) G.m G.kp G.b .nil pass0 (pa_cons (pe_ix ix_seq (pv 0) (pv 2) (fun _ _ => rfl)) (pa_cons (pe_ix ix_seq (pv 1) (pv 2) (fun _ _ => rfl)) pa_nil))))) pss_never pss_nil)))
      (pss_one (ps_ret pe_bl))))) pss_nil) pss_never, ?_⟩
  have hx : SqA K H a xs := hab.elim (fun z => .inl (SqL.of z.1)) fun z => .inr (SqT.of z.1)
  have hy : SqA K H b ys := hab.elim (fun z => .inl (SqL.of z.2)) fun z => .inr (SqT.of z.2)
  have lx := h1.len
  have ly := h2.len
  have loop : tSeq (tIfS (tTest (tOp rNe (tCB (fun xs H Q => ∃ p ys, xs = [.ref p] ∧ (SqL K H p ys ∨ SqT K H p ys) ∧ Q (.int ys.length) H) (tCons (tVar 0) tNil)) (tCB (fun xs H Q => ∃ p ys, xs = [.ref p] ∧ (SqL K H p ys ∨ SqT K H p ys) ∧ Q (.int ys.length) H) (tCons (tVar 1) tNil)))) tNever tNext)
      (tSeq (tFor (iRng1 (tCons (tCB (fun xs H Q => ∃ p ys, xs = [.ref p] ∧ (SqL K H p ys ∨ SqT K H p ys) ∧ Q (.int ys.length) H) (tCons (tVar 1) tNil)) tNil)) (gName 2)
        (tIfS (tNot (tB (tCall (spSame j) [] E0 (tCons (tOp (rIx K) (tVar 0) (tVar 2)) (tCons (tOp (rIx K) (tVar 1) (tVar 2)) tNil))))) tNever tNext)) (tRet (tC (.bl true))))
      { nx := fun _ _ => False, rt := Q } [some (.ref a), some (.ref b), none] H := by
    refine ⟨_, rfl, a, xs, rfl, hx, _, rfl, b, ys, rfl, hy, rfl, false, ?_, iteF ?_⟩
    · rw [lx, ly]
      exact congrArg V.bl (by simp)
    refine ⟨_, rfl, b, ys, rfl, hy, _, rfl, by omega, by omega, ?_⟩
    refine for_range (n := (ys.length : Int).toNat) (fun i σ H' => H' = H ∧ ∃ k, σ = [some (.ref a), some (.ref b), k]) ⟨rfl, none, rfl⟩ ?_ ?_
    · rintro i σ H' hi ⟨rfl, k, rfl⟩
      obtain ⟨x, y, d, e1, e2, e3, e4, e5⟩ := DtAll.at2 (i := i) h1 h2 (by omega)
      have ei : (0 : Int) + (i : Int) = (i : Int) := Int.zero_add _
      refine ⟨_, rfl, _, rfl, ?_⟩
      rw [ei]
      refine rIx_of hx e1 ⟨_, rfl, _, rfl, rIx_of hy e2 ⟨x, y, d, rfl, e4, e5, hn d e3, true, rfl, iteF ⟨rfl, _, rfl⟩⟩⟩
    · rintro σ H' ⟨rfl, k, rfl⟩
      exact hq
  rcases hab with ⟨ha, hb⟩ | ⟨ha, hb⟩
  · refine ⟨_, rfl, _, _, _, _, false, rfl, .ty _, .base (.lst hb), kit_ty (by decide +kernel), false, rfl, iteF ?_⟩
    refine ⟨_, rfl, _, _, _, _, true, rfl, .ty _, .base (.lst hb), kit_ty (by decide +kernel), true, rfl, iteT ?_⟩
    refine ⟨_, rfl, _, _, _, _, false, rfl, .ty _, .base (.lst hb), kit_ty (by decide +kernel), _, rfl, _, _, _, _, false, rfl, .ty _, .base (.lst ha), kit_ty (by decide +kernel), rfl, false, bne_self _, iteF ?_⟩
    refine ⟨_, rfl, _, _, _, _, true, rfl, .ty _, .base (.lst hb), kit_ty (by decide +kernel), _, rfl, _, _, _, _, true, rfl, .ty _, .base (.lst ha), kit_ty (by decide +kernel), rfl, false, bne_self _, iteF ?_⟩
    exact loop
  · refine ⟨_, rfl, _, _, _, _, true, rfl, .ty _, .base (.tup hb), kit_ty (by decide +kernel), true, rfl, iteT (iteT ?_)⟩
    refine ⟨_, rfl, _, _, _, _, true, rfl, .ty _, .base (.tup hb), kit_ty (by decide +kernel), _, rfl, _, _, _, _, true, rfl, .ty _, .base (.tup ha), kit_ty (by decide +kernel), rfl, false, bne_self _, iteF ?_⟩
    refine ⟨_, rfl, _, _, _, _, false, rfl, .ty _, .base (.tup hb), kit_ty (by decide +kernel), _, rfl, _, _, _, _, false, rfl, .ty _, .base (.tup ha), kit_ty (by decide +kernel), rfl, false, bne_self _, iteF ?_⟩
    exact loop
theorem ok_same {f : Addr} {fd : FuncData} (F : Fun K "_law_same" "_law_same" sSame f fd) (B : Blt mg) (m : mg "_law_same" = some (.ref f)) (b : Binds K fd ["_law_value", "_law_due"] []) : ∀ k, FnOk P w K mg base CX0 (k + 1) f fd ["_law_value", "_law_due"] (spSame k)
  | 0 => by
    refine F.ok scSame (fun vs H Q E h => ?_) (fun cdv A outer s H vs Q E hr h => ?_)
    · obtain ⟨_, _, _, rfl, _⟩ := h
      rfl
    · obtain ⟨v, u, d, rfl, h1, h2, hn, hq⟩ := h
      refine same_scalar B ?_ h1 h2 hq
      cases d with
      | int i => exact .inl ⟨i, rfl⟩
      | str x => exact .inr ⟨x, rfl⟩
      | _ => exact absurd hn id
  | k + 1 => by
    have ih := ok_same F B m b k
    refine F.ok scSame (fun vs H Q E h => ?_) (fun cdv A outer s H vs Q E hr h => ?_)
    · obtain ⟨_, _, _, rfl, _⟩ := h
      rfl
    · obtain ⟨v, u, d, rfl, h1, h2, hn, hq⟩ := h
      have G : GF P w K mg base CX0 (k + 1) "_law_same" ["_law_value", "_law_due"] (spSame k) := ⟨f, fd, ih, m, F.kp, b⟩
      cases d with
      | int i => exact same_scalar B (.inl ⟨i, rfl⟩) h1 h2 hq
      | str x => exact same_scalar B (.inr ⟨x, rfl⟩) h1 h2 hq
      | list ds =>
        cases h1 with
        | lst a1 b1 =>
          cases h2 with
          | lst a2 b2 => exact same_seq G B hr (.inl ⟨a1, a2⟩) b1 b2 hn.1 hn.2 hq
      | tuple ds =>
        cases h1 with
        | tup a1 b1 =>
          cases h2 with
          | tup a2 b2 => exact same_seq G B hr (.inr ⟨a1, a2⟩) b1 b2 hn.1 hn.2 hq
      | _ => exact absurd hn id
abbrev GSame (P : Program) (w : World) (K : KF) (mg : Str → Option Value) (base : Heap) := GF P w K mg base CX0 5 "_law_same" ["_law_value", "_law_due"] (spSame 4)
end
end My

set_option Elab.async false
set_option maxRecDepth 100000
set_option maxHeartbeats 4000000
set_option autoImplicit false
namespace My
open PySem L2 Xtra
abbrev sSum : Stmt := top 38
abbrev sGot : Stmt := top 39
abbrev sLFr : Stmt := top 27
theorem DtAll.getD : ∀ {H : Hp} {ds : List PyData} {vs : List V} {i : Nat} {v : V}, DtAll H vs ds → vs[i]? = some v → ∃ d, ds[i]? = some d ∧ Dt H v d := fun h e => h.get e
theorem rowD_at {H : Hp} {v : V} {n : Str} {x : Fr} (h : Dt H v (.tuple [.str n, frD x])) : ∃ p m, v = .ref p ∧ H p = some (.tup [.str n, m]) ∧ Dt H m (frD x) := by
  cases h with
  | tup ha hx =>
    cases hx with
    | cons h1 h2 =>
      cases h1
      cases h2 with
      | cons h3 h4 =>
        cases h4
        exact ⟨_, _, rfl, ha, h3⟩
theorem rowsD_at {H : Hp} {v : V} {rows : List (Str × Fr)} (h : Dt H v (rowsD rows)) : ∃ a xs, v = .ref a ∧ H a = some (.lst xs) ∧ xs.length = rows.length ∧ ∀ (i : Nat) y, xs[i]? = some y → ∃ r, rows[i]? = some r ∧ Dt H y (.tuple [.str r.1, frD r.2]) := by
  cases h with
  | lst ha hx =>
    refine ⟨_, _, rfl, ha, by rw [hx.len, List.length_map], fun i y hy => ?_⟩
    obtain ⟨d, hd, q⟩ := hx.get hy
    rw [List.getElem?_map] at hd
    cases e : rows[i]? with
    | none =>
      rw [e] at hd
      cases hd
    | some r =>
      rw [e] at hd
      cases hd
      exact ⟨r, rfl, q⟩
section
variable {P : Program} {w : World} {K : KF} {mg : Str → Option Value} {base : Heap}
abbrev GAdd (P : Program) (w : World) (K : KF) (mg : Str → Option Value) (base : Heap) := GF P w K mg base CX0 2 "_law_add" ["_law_a", "_law_b"] (sp2 Mth.ad)
abbrev GMake (P : Program) (w : World) (K : KF) (mg : Str → Option Value) (base : Heap) := GF P w K mg base CX0 1 "_law_make" ["_law_p", "_law_q"] spMake
abbrev GTake (P : Program) (w : World) (K : KF) (mg : Str → Option Value) (base : Heap) := GF P w K mg base CX0 1 "_law_take" ["_law_draws_here", "_law_bound"] spTake
/-! ### _law_sum -/
def spSum : Sp := fun vs H Q _ => ∃ (v : V) (rows : List (Str × Fr)) (D : Nat) (hs : List Nat), vs = [v] ∧ Dt H v (rowsD rows) ∧ rows.map (·.2) = hs.map (fun h => Mth.mk h D) ∧ 0 < D ∧ D < 2 ^ 1000 ∧ hs.sum < 2 ^ 1000 ∧ RetD (frD (Mth.mk hs.sum D)) H Q
theorem scSum : FnScope ["_law_rows", "_law_total", "_law_row"] ["_law_rows"] (defScope sSum) := ⟨rfl, rfl, rfl, by decide +kernel, rfl, by decide +kernel, by decide +kernel⟩
theorem mk_bd {p q : Nat} (hp : p < 2 ^ 1000) (h0 : 0 < q) (hq : q < 2 ^ 1000) : Bd (Mth.mk p q) := ⟨Nat.lt_of_le_of_lt Mth.mk_le.1 hp, (Mth.mk_can h0).1, Nat.lt_of_le_of_lt Mth.mk_le.2 hq⟩
theorem sum_take_le (hs : List Nat) (i : Nat) : (hs.take i).sum ≤ hs.sum := by
  have h : (hs.take i ++ hs.drop i).sum = hs.sum := by rw [List.take_append_drop]
  rw [List.sum_append] at h
  omega
theorem le_sum {hs : List Nat} {i : Nat} {h : Nat} (e : hs[i]? = some h) : h ≤ hs.sum := by
  have a := sum_take_le hs (i + 1)
  rw [take_succ_of e, List.sum_append, List.sum_cons, List.sum_nil] at a
  omega
theorem ok_sum {f : Addr} {fd : FuncData} (F : Fun K "_law_sum" "_law_sum" sSum f fd) (G : GAdd P w K mg base) : FnOk P w K mg base CX0 3 f fd ["_law_rows"] spSum := by
  refine F.ok scSum (fun vs H Q E h => ?_) (fun cdv A outer s H vs Q E hr h => ?_)
  · obtain ⟨_, _, _, _, rfl, _⟩ := h
    rfl
  · obtain ⟨v, rows, D, hs, rfl, hv, hh, d0, d1, hsum, k⟩ := h
    obtain ⟨a, xs, rfl, ha, hlen, hat⟩ := rowsD_at hv
    refine ⟨_, pss_cons (ps_set (i := 1) scSum.nd rfl (.inl rfl) (pe_tup (pa_cons pe_int (pa_cons pe_int pa_nil))))
      (pss_cons (ps_for PassesOwn.never rfl (pi_list (pv 0)) (pg_name (i := 2) scSum.nd rfl (.inl rfl))
        (pss_one (ps_set (i := 1) scSum.nd rfl (.inl rfl) (pe_call G.F hr (by rfl) G.m G.kp G.b .nil pass0 (pa_cons (pv 1) (pa_cons (pe_ix ix_tup (pv 2) pe_int (fun _ _ => rfl)) pa_nil))))))
      (pss_one (ps_ret (pv 1)))), ?_⟩
    refine ⟨(by show 2 ≤ sizeLine; decide), fun p hp => ?_⟩
    have s0 : Same H (upd H p (.tup [.int 0, .int 1])) := Same.new hp
    refine ⟨_, rfl, a, rfl, ⟨_, SqL.of (s0 _ _ ha)⟩, ?_⟩
    refine for_list (K := K) (a := a) (xs := xs) (fun i σ H' => Same H H' ∧ ∃ vt k2, σ = [some (.ref a), some vt, k2] ∧ Dt H' vt (frD (Mth.mk (hs.take i).sum D)))
      ⟨s0, _, _, rfl, ?_⟩ (fun i σ H' _ ⟨e, _⟩ => SqL.of (e _ _ ha)) ?_ ?_
    · show Dt _ (.ref p) (frD (Mth.mk 0 D))
      rw [Mth.mk_zero d0]
      exact frD_of upd_same
    · rintro i y σ H' hi ⟨s1, vt, k2, rfl, ht⟩
      obtain ⟨r, hr', hy⟩ := hat i y hi
      have hy' := Dt.mono s1 _ _ hy
      obtain ⟨q, m, rfl, hq, hm⟩ := rowD_at hy'
      have hhi : ∃ h, hs[i]? = some h ∧ r.2 = Mth.mk h D := by
        have e : (rows.map (·.2))[i]? = some r.2 := by rw [List.getElem?_map, hr']; rfl
        rw [hh, List.getElem?_map] at e
        cases e2 : hs[i]? with
        | none =>
          rw [e2] at e
          cases e
        | some h =>
          rw [e2] at e
          exact ⟨h, rfl, (Option.some.inj e).symm⟩
      obtain ⟨h, eh, er⟩ := hhi
      rw [er] at hm
      refine ⟨_, rfl, _, rfl, q, _, _, _, rfl, rfl, SqT.of hq, rfl, vt, m, _, _, rfl, ht, hm, mk_bd (Nat.lt_of_le_of_lt (sum_take_le hs i) hsum) d0 d1, mk_bd (Nat.lt_of_le_of_lt (le_sum eh) hsum) d0 d1, fun v' H2 s2 hv' => ?_⟩
      refine ⟨s1.trans s2, v', _, rfl, ?_⟩
      rw [Mth.ad_mk1 d0] at hv'
      rw [take_succ_of eh, List.sum_append, List.sum_cons, List.sum_nil, Nat.add_zero]
      exact hv'
    · rintro σ H' ⟨s1, vt, k2, rfl, ht⟩
      refine ⟨_, rfl, k _ _ s1 ?_⟩
      have : xs.length = hs.length := by
        have := congrArg List.length hh
        rw [List.length_map, List.length_map] at this
        omega
      rw [this, List.take_length] at ht
      exact ht
/-! ### _law_got -/
def spGot : Sp := fun vs H Q _ => ∃ (v : V) (rows : List (Str × Fr)) (n : Str), vs = [v, .str n] ∧ Dt H v (rowsD rows) ∧ RetD (frD (Mth.got rows n)) H Q
theorem scGot : FnScope ["_law_rows", "_law_name", "_law_row"] ["_law_rows", "_law_name"] (defScope sGot) := ⟨rfl, rfl, rfl, by decide +kernel, rfl, by decide +kernel, by decide +kernel⟩
theorem find_first {α : Type} {l : List α} {p : α → Bool} {i : Nat} {x : α} (h : l[i]? = some x) (hp : p x = true) (hn : ∀ j y, j < i → l[j]? = some y → p y = false) : l.find? p = some x := by
  induction l generalizing i with
  | nil => cases h
  | cons a l ih =>
    rw [List.find?_cons]
    cases i with
    | zero =>
      cases h
      rw [hp]
    | succ i =>
      have h0 := hn 0 a (Nat.succ_pos _) rfl
      rw [h0]
      exact ih (i := i) h fun j y hj hy => hn (j + 1) y (Nat.succ_lt_succ hj) hy
theorem ok_got {f : Addr} {fd : FuncData} (F : Fun K "_law_got" "_law_got" sGot f fd) : FnOk P w K mg base CX0 1 f fd ["_law_rows", "_law_name"] spGot := by
  refine F.ok scGot (fun vs H Q E h => ?_) (fun cdv A outer s H vs Q E hr h => ?_)
  · obtain ⟨_, _, _, rfl, _⟩ := h
    rfl
  · obtain ⟨v, rows, n, rfl, hv, k⟩ := h
    obtain ⟨a, xs, rfl, ha, hlen, hat⟩ := rowsD_at hv
    refine ⟨_, pss_cons (ps_for PassesOwn.never rfl (pi_list (pv 0)) (pg_name (i := 2) scGot.nd rfl (.inl rfl))
        (pss_one (ps_if (pt_cmpR op_eq (pe_ix ix_tup (pv 2) pe_int (fun _ _ => rfl)) (pv 1) (nomark _)) (pss_one (ps_ret (pe_ix ix_tup (pv 2) pe_int (fun _ _ => rfl)))) pss_nil)))
      (pss_one (ps_ret (pe_tup (pa_cons pe_int (pa_cons pe_int pa_nil))))), ?_⟩
    refine ⟨_, rfl, a, rfl, ⟨_, SqL.of ha⟩, ?_⟩
    refine for_list (K := K) (a := a) (xs := xs) (fun i σ H' => H' = H ∧ ∃ k2, σ = [some (.ref a), some (.str n), k2] ∧ ∀ j r, j < i → rows[j]? = some r → r.1 ≠ n)
      ⟨rfl, _, rfl, fun j r hj => absurd hj (Nat.not_lt_zero _)⟩ (fun i σ H' _ ⟨e, _⟩ => e ▸ SqL.of ha) ?_ ?_
    · rintro i y σ H' hi ⟨rfl, k2, rfl, hno⟩
      obtain ⟨r, hr', hy⟩ := hat i y hi
      obtain ⟨q, m, rfl, hq, hm⟩ := rowD_at hy
      refine ⟨_, rfl, q, _, _, _, rfl, rfl, SqT.of hq, rfl, _, rfl, rfl, _, rfl, ?_⟩
      refine ite2 (fun e => ?_) (fun e => ?_)
      · have en : r.1 = n := by
          have := of_decide_eq_true e
          injection this
        refine ⟨_, rfl, q, _, _, _, rfl, rfl, SqT.of hq, rfl, k _ _ (Same.refl _) ?_⟩
        have : rows.find? (fun r => decide (r.1 = n)) = some r := find_first hr' (decide_eq_true en) fun j y hj hy => decide_eq_false (hno j y hj hy)
        unfold Mth.got
        rw [this]
        exact hm
      · refine ⟨rfl, _, rfl, fun j q hj hq => ?_⟩
        by_cases hji : j = i
        · subst hji
          rw [hr'] at hq
          cases hq
          exact fun z => e (decide_eq_true (by rw [z]))
        · exact hno j q (by omega) hq
    · rintro σ H' ⟨rfl, k2, rfl, hno⟩
      refine ⟨(by show 2 ≤ sizeLine; decide), fun p hp => k _ _ (Same.new hp) ?_⟩
      have : rows.find? (fun r => decide (r.1 = n)) = none := by
        rw [List.find?_eq_none]
        intro r hr' e
        obtain ⟨j, hj, e2⟩ := List.getElem_of_mem hr'
        exact hno j r (by omega) (by rw [List.getElem?_eq_getElem hj, e2]) (of_decide_eq_true e)
      unfold Mth.got
      rw [this]
      exact frD_of upd_same
/-! ### _law_fraction -/
def AmB (x : Fr) : Prop := Mth.Can x ∧ x.1 < 2 ^ 40 ∧ x.2 < 2 ^ 40
def spLFr : Sp := fun vs H Q _ => ∃ (a : Addr) (ds : List Nat), vs = [.ref a, .int 0] ∧ H a = some (.lst (natsV ds)) ∧ ∀ (v : V) (x : Fr) (ds' : List Nat) (H' : Hp), AmB x → Same (upd H a (.lst (natsV ds'))) H' → Dt H' v (frD x) → Q v H'
theorem scLFr : FnScope ["_law_draws_here", "_law_least", "_law_kind", "_law_value"] ["_law_draws_here", "_law_least"] (defScope sLFr) := ⟨rfl, rfl, rfl, by decide +kernel, rfl, by decide +kernel, by decide +kernel⟩
theorem ok_lfr {f : Addr} {fd : FuncData} (F : Fun K "_law_fraction" "_law_fraction" sLFr f fd) (T : GTake P w K mg base) (G : GMake P w K mg base) : FnOk P w K mg base CX0 2 f fd ["_law_draws_here", "_law_least"] spLFr := by
  refine F.ok scLFr (fun vs H Q E h => ?_) (fun cdv A outer s H vs Q E hr h => ?_)
  · obtain ⟨_, _, rfl, _⟩ := h
    rfl
  · obtain ⟨a, ds, rfl, ha, k⟩ := h
    refine ⟨_, pss_cons (ps_set (i := 2) scLFr.nd rfl (.inl rfl) (pe_call T.F hr (by rfl) T.m T.kp T.b .nil pass0 (pa_cons (pv 0) (pa_cons pe_int pa_nil))))
      (pss_cons (ps_if (pt_cmpR op_eq (pv 2) pe_int (nomark _)) (pss_one (ps_ret (pe_tup (pa_cons pe_int (pa_cons pe_int pa_nil))))) pss_nil)
      (pss_cons (ps_if (pt_cmpR op_eq (pv 2) pe_int (nomark _)) (pss_one (ps_ret (pe_call G.F hr (by rfl) G.m G.kp G.b .nil pass0 (pa_cons (pe_call T.F hr (by rfl) T.m T.kp T.b .nil pass0 (pa_cons (pv 0) (pa_cons (pe_op op_pow pe_int pe_int) pa_nil)))
        (pa_cons (pe_op op_add pe_int (pe_call T.F hr (by rfl) T.m T.kp T.b .nil pass0 (pa_cons (pv 0) (pa_cons (pe_op op_pow pe_int pe_int) pa_nil)))) pa_nil))))) pss_nil)
      (pss_cons (ps_set (i := 3) scLFr.nd rfl (.inl rfl) (pe_call G.F hr (by rfl) G.m G.kp G.b .nil pass0 (pa_cons (pe_op op_add (pe_call T.F hr (by rfl) T.m T.kp T.b .nil pass0 (pa_cons (pv 0) (pa_cons pe_int pa_nil))) (pv 1))
        (pa_cons (pe_op op_add pe_int (pe_call T.F hr (by rfl) T.m T.kp T.b .nil pass0 (pa_cons (pv 0) (pa_cons pe_int pa_nil)))) pa_nil))))
      (pss_one (ps_ret (pv 3)))))), ?_⟩
    refine ⟨_, rfl, a, 8, ds, rfl, ha, by decide, fun n ds1 _ => ?_⟩
    refine ⟨_, rfl, rfl, _, rfl, ?_⟩
    refine ite2 (fun e => ?_) (fun e => ?_)
    · refine ⟨(by show 2 ≤ sizeLine; decide), fun p hp => ?_⟩
      exact k _ (0, 1) ds1 _ ⟨Mth.can_zero, by decide, by decide⟩ (Same.new hp) (frD_of upd_same)
    refine ⟨_, rfl, rfl, _, rfl, ?_⟩
    refine ite2 (fun e => ?_) (fun e => ?_)
    · refine ⟨_, rfl, _, _, rfl, rfl, ⟨by decide, by decide, by decide⟩, a, 10 ^ 9, ds1, rfl, upd_same, by decide, fun p ds2 hp => ?_⟩
      rw [upd_upd]
      refine ⟨_, rfl, _, _, rfl, rfl, ⟨by decide, by decide, by decide⟩, a, 10 ^ 6, ds2, rfl, upd_same, by decide, fun q ds3 hq => ?_⟩
      rw [upd_upd]
      refine ⟨_, _, rfl, rfl, p, 1 + q, ?_, by omega, Nat.lt_of_lt_of_le (show 1 + q < 2 ^ 40 by omega) (Nat.pow_le_pow_right (by decide) (by decide)), fun v H' s1 hv => ?_⟩
      · show [V.int (p : Int), V.int (1 + (q : Int))] = [V.int (p : Int), V.int ((1 + q : Nat) : Int)]
        rw [Int.natCast_add]
        rfl
      · refine k v _ ds3 H' ⟨Mth.mk_can (by omega), Nat.lt_of_le_of_lt Mth.mk_le.1 (by omega), Nat.lt_of_le_of_lt Mth.mk_le.2 (by omega)⟩ s1 hv
    · refine ⟨_, rfl, a, 13, ds1, rfl, upd_same, by decide, fun p ds2 hp => ?_⟩
      rw [upd_upd]
      refine ⟨_, rfl, _, _, rfl, rfl, _, rfl, a, 3, ds2, rfl, upd_same, by decide, fun q ds3 hq => ?_⟩
      rw [upd_upd]
      refine ⟨_, _, rfl, rfl, p, 1 + q, ?_, by omega, Nat.lt_of_lt_of_le (show 1 + q < 2 ^ 40 by omega) (Nat.pow_le_pow_right (by decide) (by decide)), fun v H' s1 hv => ?_⟩
      · show [V.int ((p : Int) + 0), V.int (1 + (q : Int))] = [V.int (p : Int), V.int ((1 + q : Nat) : Int)]
        rw [Int.natCast_add, Int.add_zero]
        rfl
      · refine ⟨_, rfl, k v _ ds3 H' ⟨Mth.mk_can (by omega), Nat.lt_of_le_of_lt Mth.mk_le.1 (by omega), Nat.lt_of_le_of_lt Mth.mk_le.2 (by omega)⟩ s1 hv⟩
end
end My

set_option Elab.async false
set_option maxRecDepth 100000
set_option maxHeartbeats 4000000
set_option autoImplicit false
namespace My
open PySem L2 Xtra
/-! ### the program's own errors -/
/-- what the top has written of an error class with an __init__ of its own -/
structure ErrC (K : KF) (mg : Str → Option Value) (x : Str) (C fI : Addr) : Prop where
  o : OexC K C
  g : mg x = some (.ref C)
  iC : PySem.W.findIn K (.ref C) "__init__" = some (some (.ref fI))
  tI : PySem.W.typeIn K (.ref fI) = some (.type "function")
  xf : XfC K C
/-- of one without -/
structure Err0 (K : KF) (mg : Str → Option Value) (x : Str) (C : Addr) : Prop where
  g : mg x = some (.ref C)
  ex : PySem.W.excIn K C [.type "ValueError", .type "Exception", .type "BaseException", .type "object"] "ValueError.__new__" = true
  kp : PySem.W.keepIn K (.ref C) = true
  sb : PySem.W.subIn K (.ref C) (.type "BaseException") = some true
  ty : PySem.W.typeIn K (.ref C) = some (.type "type")

def spErr1 (K : KF) (f : Str) : Sp := fun vs H Q _ => ∃ (a C : Addr) (v : V), vs = [.ref a, v] ∧ OexC K C ∧ PySem.W.findIn K (.ref C) f = some none ∧ H a = some (exo a C none) ∧ ∀ dx, H dx = none → dx ≠ a → Q .non (upd (upd H dx (exd dx [(f, v)])) a (exo a C (some dx)))
def spErr2 (K : KF) (f g : Str) : Sp := fun vs H Q _ => ∃ (a C : Addr) (v u : V), vs = [.ref a, v, u] ∧ OexC K C ∧ PySem.W.findIn K (.ref C) f = some none ∧ PySem.W.findIn K (.ref C) g = some none ∧ H a = some (exo a C none) ∧
  ∀ dx, H dx = none → dx ≠ a → Q .non (upd (upd (upd H dx (exd dx [(f, v)])) a (exo a C (some dx))) dx (exd dx [(g, u), (f, v)]))
section
variable {P : Program} {w : World} {K : KF} {mg : Str → Option Value} {base : Heap}
theorem ok_err1 {st : Stmt} {q f : Str} {fI : Addr} {fd : FuncData} {p1 p2 p3 p4 : Pos} (F : Fun K "__init__" q st fI fd) (sc : FnScope ["self", f] ["self", f] (defScope st)) (hb : defBody st = [.Assign [.Attribute (.Name "self" p1) f p2] (.Name f p3) p4])
    (h0 : (defScope st).names.lookup ("self" : Str) = some NameKind.local) (h1 : (defScope st).names.lookup f = some NameKind.local) (hf1 : (f == ("__debug__" : Str)) = false) (hf2 : (f == ("__classdict__" : Str)) = false) : FnOk P w K mg base CX0 1 fI fd ["self", f] (spErr1 K f) := by
  refine F.ok sc (fun vs H Q E h => ?_) (fun cdv A outer s H vs Q E hr h => ?_)
  · obtain ⟨_, _, _, rfl, _⟩ := h
    rfl
  · obtain ⟨a, C, v, rfl, o, no, ha, k⟩ := h
    rw [hb]
    refine ⟨_, pss_one (ps_ost (pv 0 rfl (.inl h0)) (pv 1 rfl (.inl h1) hf1 hf2)), ?_⟩
    exact ⟨_, rfl, _, rfl, a, C, rfl, o, no, .inl ⟨ha, fun dx hd hn => k dx hd hn⟩⟩
theorem ok_err2 {st : Stmt} {q f g : Str} {fI : Addr} {fd : FuncData} {p1 p2 p3 p4 q1 q2 q3 q4 : Pos} (F : Fun K "__init__" q st fI fd) (sc : FnScope ["self", f, g] ["self", f, g] (defScope st))
    (hb : defBody st = [.Assign [.Attribute (.Name "self" p1) f p2] (.Name f p3) p4, .Assign [.Attribute (.Name "self" q1) g q2] (.Name g q3) q4])
    (h0 : (defScope st).names.lookup ("self" : Str) = some NameKind.local) (h1 : (defScope st).names.lookup f = some NameKind.local) (h2 : (defScope st).names.lookup g = some NameKind.local) (hf1 : (f == ("__debug__" : Str)) = false) (hf2 : (f == ("__classdict__" : Str)) = false)
    (hg1 : (g == ("__debug__" : Str)) = false) (hg2 : (g == ("__classdict__" : Str)) = false) : FnOk P w K mg base CX0 1 fI fd ["self", f, g] (spErr2 K f g) := by
  refine F.ok sc (fun vs H Q E h => ?_) (fun cdv A outer s H vs Q E hr h => ?_)
  · obtain ⟨_, _, _, _, rfl, _⟩ := h
    rfl
  · obtain ⟨a, C, v, u, rfl, o, no, no2, ha, k⟩ := h
    rw [hb]
    refine ⟨_, pss_cons (ps_ost (pv 0 rfl (.inl h0)) (pv 1 rfl (.inl h1) hf1 hf2)) (pss_one (ps_ost (pv 0 rfl (.inl h0)) (pv 2 rfl (.inl h2) hg1 hg2))), ?_⟩
    refine ⟨_, rfl, _, rfl, a, C, rfl, o, no, .inl ⟨ha, fun dx hd hn => ?_⟩⟩
    refine ⟨_, rfl, _, rfl, a, C, rfl, o, no2, .inr ⟨dx, [(f, v)], upd_same, ?_, by show 1 ≤ 900; decide, k dx hd hn⟩⟩
    rw [upd_ne hn, upd_same]
end
section
variable {f g : Str} {C : Addr} {K : KF} {H1 : Hp} {Q : XK} {v u : V}
theorem gone_eq {H1 : Hp} {a d : Addr} {o1 o2 o3 o4 : HO} (ha : H1 a = none) : upd (del (upd (upd (upd H1 a o1) d o2) a o3) a) d o4 = upd H1 d o4 := by
  funext b
  by_cases hd : b = d
  · rw [hd, upd_same, upd_same]
  · rw [upd_ne hd, upd_ne hd]
    by_cases hb : b = a
    · rw [hb, del_same, ha]
    · rw [del_ne hb, upd_ne hb, upd_ne hd, upd_ne hb]
theorem gone_eq2 {H1 : Hp} {a d : Addr} {o1 o2 o3 o4 o5 : HO} (ha : H1 a = none) : upd (del (upd (upd (upd (upd H1 a o1) d o2) a o3) d o5) a) d o4 = upd H1 d o4 := by
  funext b
  by_cases hd : b = d
  · rw [hd, upd_same, upd_same]
  · rw [upd_ne hd, upd_ne hd]
    by_cases hb : b = a
    · rw [hb, del_same, ha]
    · rw [del_ne hb, upd_ne hd, upd_ne hb, upd_ne hd, upd_ne hb]
/-- C(v), being made: what is left to show is where it flies -/
theorem mk1 (o : OexC K C) (no : PySem.W.findIn K (.ref C) f = some none) (k : ∀ d, H1 d = none → Q (.ref C) (some d) (upd H1 d (.xd [(f, v)]))) :
    ([v] : List V).length ≤ 1000 ∧ ∀ a, H1 a = none → spErr1 K f (.ref a :: ([v] ++ [])) (upd H1 a (exo a C none))
      (fun v H2 => v = .non ∧ ∃ (d : Addr) (fs : List (Str × V)), H2 a = some (exo a C (some d)) ∧ H2 d = some (exd d fs) ∧ H1 d = none ∧ Q (.ref C) (some d) (upd (del H2 a) d (.xd fs))) (fun _ _ _ => False) := by
  refine ⟨by show 1 ≤ 1000; decide, fun a ha => ⟨a, C, v, rfl, o, no, upd_same, fun dx hd hn => ⟨rfl, dx, [(f, v)], upd_same, ?_, ?_, ?_⟩⟩⟩
  · rw [upd_ne hn, upd_same]
  · rw [upd_ne hn] at hd
    exact hd
  · rw [gone_eq ha]
    rw [upd_ne hn] at hd
    exact k dx hd
theorem mk2 (o : OexC K C) (no : PySem.W.findIn K (.ref C) f = some none) (no2 : PySem.W.findIn K (.ref C) g = some none) (k : ∀ d, H1 d = none → Q (.ref C) (some d) (upd H1 d (.xd [(g, u), (f, v)]))) :
    ([v, u] : List V).length ≤ 1000 ∧ ∀ a, H1 a = none → spErr2 K f g (.ref a :: ([v, u] ++ [])) (upd H1 a (exo a C none))
      (fun v H2 => v = .non ∧ ∃ (d : Addr) (fs : List (Str × V)), H2 a = some (exo a C (some d)) ∧ H2 d = some (exd d fs) ∧ H1 d = none ∧ Q (.ref C) (some d) (upd (del H2 a) d (.xd fs))) (fun _ _ _ => False) := by
  refine ⟨by show 2 ≤ 1000; decide, fun a ha => ⟨a, C, v, u, rfl, o, no, no2, upd_same, fun dx hd hn => ⟨rfl, dx, [(g, u), (f, v)], ?_, upd_same, ?_, ?_⟩⟩⟩
  · rw [upd_ne (Ne.symm hn), upd_same]
  · rw [upd_ne hn] at hd
    exact hd
  · rw [gone_eq2 ha]
    rw [upd_ne hn] at hd
    exact k dx hd
end
/-! ### where the errors fly -/
structure Cs where
  dup : Addr
  unk : Addr
  nomi : Addr
  hold : Addr
  few : Addr
  deep : Addr
  units : Addr
  nn : Addr
def Fly (c : Cs) (e : Er) (H : Hp) (E : XK) : Prop :=
  match e with
  | .dup n => ∀ d H', Same H H' → H d = none → H' d = some (.xd [("name", .str n)]) → E (.ref c.dup) (some d) H'
  | .unk n => ∀ d H', Same H H' → H d = none → H' d = some (.xd [("name", .str n)]) → E (.ref c.unk) (some d) H'
  | .nomi n => ∀ d H', Same H H' → H d = none → H' d = some (.xd [("name", .str n)]) → E (.ref c.nomi) (some d) H'
  | .hold n => ∀ d H', Same H H' → H d = none → H' d = some (.xd [("name", .str n)]) → E (.ref c.hold) (some d) H'
  | .few n h => ∀ d H', Same H H' → H d = none → H' d = some (.xd [("held", .int (h : Int)), ("name", .str n)]) → E (.ref c.few) (some d) H'
  | .deep => ∀ H', Same H H' → E (.ref c.deep) none H'
  | .units => ∀ H', Same H H' → E (.ref c.units) none H'
theorem Fly.back {c : Cs} {e : Er} {H H1 : Hp} {E : XK} (k : Fly c e H E) (s : Same H H1) : Fly c e H1 E := by
  cases e with
  | few n h => exact fun d H' s1 hd q => k d H' (s.trans s1) (s.free hd) q
  | deep => exact fun H' s1 => k H' (s.trans s1)
  | units => exact fun H' s1 => k H' (s.trans s1)
  | _ => exact fun d H' s1 hd q => k d H' (s.trans s1) (s.free hd) q
/-- all that the top has written of the errors -/
structure Ers (P : Program) (w : World) (K : KF) (mg : Str → Option Value) (base : Heap) (c : Cs) where
  iDup : Addr
  fDup : FuncData
  gDup : FnOk P w K mg base CX0 1 iDup fDup ["self", "name"] (spErr1 K "name")
  bDup : Binds K fDup ["self", "name"] []
  eDup : ErrC K mg "DuplicateAccount" c.dup iDup
  nDup : PySem.W.findIn K (.ref c.dup) "name" = some none
  iUnk : Addr
  fUnk : FuncData
  gUnk : FnOk P w K mg base CX0 1 iUnk fUnk ["self", "name"] (spErr1 K "name")
  bUnk : Binds K fUnk ["self", "name"] []
  eUnk : ErrC K mg "UnknownAccount" c.unk iUnk
  nUnk : PySem.W.findIn K (.ref c.unk) "name" = some none
  iNom : Addr
  fNom : FuncData
  gNom : FnOk P w K mg base CX0 1 iNom fNom ["self", "name"] (spErr1 K "name")
  bNom : Binds K fNom ["self", "name"] []
  eNom : ErrC K mg "NotANominee" c.nomi iNom
  nNom : PySem.W.findIn K (.ref c.nomi) "name" = some none
  iHol : Addr
  fHol : FuncData
  gHol : FnOk P w K mg base CX0 1 iHol fHol ["self", "name"] (spErr1 K "name")
  bHol : Binds K fHol ["self", "name"] []
  eHol : ErrC K mg "NotAHolder" c.hold iHol
  nHol : PySem.W.findIn K (.ref c.hold) "name" = some none
  iNN : Addr
  fNN : FuncData
  gNN : FnOk P w K mg base CX0 1 iNN fNN ["self", "day"] (spErr1 K "day")
  bNN : Binds K fNN ["self", "day"] []
  eNN : ErrC K mg "NotNoted" c.nn iNN
  nNN : PySem.W.findIn K (.ref c.nn) "day" = some none
  iFew : Addr
  fFew : FuncData
  gFew : FnOk P w K mg base CX0 1 iFew fFew ["self", "name", "held"] (spErr2 K "name" "held")
  bFew : Binds K fFew ["self", "name", "held"] []
  eFew : ErrC K mg "TooFew" c.few iFew
  nFew : PySem.W.findIn K (.ref c.few) "name" = some none
  hFew : PySem.W.findIn K (.ref c.few) "held" = some none
  zDeep : Err0 K mg "TooDeep" c.deep
  zUnits : Err0 K mg "InvalidUnits" c.units
end My

set_option Elab.async false
set_option maxRecDepth 100000
set_option maxHeartbeats 4000000
set_option autoImplicit false
namespace My
open PySem L2 Xtra
def inCls (i j : Nat) : Stmt := inClass (top i) j
abbrev sAccI : Stmt := inClass (top 19) 0
abbrev sHolI : Stmt := inClass (top 20) 0
abbrev sPAcc : Stmt := inClass (top 20) 1
abbrev sPAbove : Stmt := inClass (top 20) 6
abbrev sPHeld : Stmt := inClass (top 20) 7
/-- the two classes -/
structure Txt (K : KF) (mg : Str → Option Value) (CA CH : Addr) : Prop where
  clA : Cls K CA
  an : NoAttr K CA "name"
  au : NoAttr K CA "under"
  am : NoAttr K CA "nominee"
  ax : NoAttr K CA "units"
  mgA : mg "Account" = some (.ref CA)
  clH : Cls K CH
  hi : NoAttr K CH "issuer"
  hu : NoAttr K CH "units"
  hk : NoAttr K CH "known"
  hn : NoAttr K CH "notes"
  mgH : mg "Holders" = some (.ref CH)
section
variable {P : Program} {w : World} {K : KF} {mg : Str → Option Value} {base : Heap} {CA CH : Addr}
/-! ### Account.__init__ -/
def spAccI (CA : Addr) : Sp := fun vs H Q _ => ∃ (p dx : Addr) (n : Str) (u : Option Str) (nom : Bool), vs = [.ref p, .str n, uV u, .bl nom] ∧ H p = some (.ins CA dx []) ∧ Q .non (upd H p (.ins CA dx (accF ⟨n, u, nom, 0⟩)))
theorem scAccI : FnScope ["self", "name", "under", "nominee"] ["self", "name", "under", "nominee"] (defScope sAccI) := ⟨rfl, rfl, rfl, by decide +kernel, rfl, by decide +kernel, by decide +kernel⟩
theorem ok_accI {f : Addr} {fd : FuncData} (F : Fun K "__init__" "Account.__init__" sAccI f fd) (T : Txt K mg CA CH) : FnOk P w K mg base CX0 1 f fd ["self", "name", "under", "nominee"] (spAccI CA) := by
  refine F.ok scAccI (fun vs H Q E h => ?_) (fun cdv A outer s H vs Q E hr h => ?_)
  · obtain ⟨_, _, _, _, _, rfl, _⟩ := h
    rfl
  · obtain ⟨p, dx, n, u, nom, rfl, hp, k⟩ := h
    refine ⟨_, pss_cons (ps_fld (pv 0) (pv 1) rfl) (pss_cons (ps_fld (pv 0) (pv 2) rfl) (pss_cons (ps_fld (pv 0) (pv 3) rfl) (pss_one (ps_fld (pv 0) pe_int rfl)))), ?_⟩
    refine ⟨_, rfl, _, rfl, p, CA, dx, _, rfl, hp, T.clA, T.an, (by show 0 < 1000; decide), ?_⟩
    refine ⟨_, rfl, _, rfl, p, CA, dx, _, rfl, upd_same, T.clA, T.au, (by show 1 < 1000; decide), ?_⟩
    refine ⟨_, rfl, _, rfl, p, CA, dx, _, rfl, upd_same, T.clA, T.am, (by show 2 < 1000; decide), ?_⟩
    refine ⟨_, rfl, p, CA, dx, _, rfl, upd_same, T.clA, T.ax, (by show 3 < 1000; decide), ?_⟩
    show Q .non _
    rw [upd_upd, upd_upd, upd_upd]
    exact k
abbrev GAccI (P : Program) (w : World) (K : KF) (mg : Str → Option Value) (base : Heap) (CA f : Addr) (fd : FuncData) := FnOk P w K mg base CX0 1 f fd ["self", "name", "under", "nominee"] (spAccI CA)
/-! ### Holders.__init__ -/
def spHolI (CA CH : Addr) : Sp := fun vs H Q _ => ∃ (p dx : Addr) (tot : Nat), vs = [.ref p, .str "state", .int (tot : Int)] ∧ H p = some (.ins CH dx []) ∧
  ∀ H' aK aN a, HolAt CA CH H' p aK aN [a] [⟨"state", none, false, tot⟩] tot [] → (∀ b o, H b = some o → b ≠ p → H' b = some o) → H aK = none → H aN = none → H a = none → Q .non H'
theorem scHolI : FnScope ["self", "issuer", "units"] ["self", "issuer", "units"] (defScope sHolI) := ⟨rfl, rfl, rfl, by decide +kernel, rfl, by decide +kernel, by decide +kernel⟩
theorem ok_holI {f fI : Addr} {fd fdI : FuncData} (F : Fun K "__init__" "Holders.__init__" sHolI f fd) (T : Txt K mg CA CH) (M : Mk K CA fI) (G : GAccI P w K mg base CA fI fdI) (b : Binds K fdI ["self", "name", "under", "nominee"] []) : FnOk P w K mg base CX0 3 f fd ["self", "issuer", "units"] (spHolI CA CH) := by
  refine F.ok scHolI (fun vs H Q E h => ?_) (fun cdv A outer s H vs Q E hr h => ?_)
  · obtain ⟨_, _, _, rfl, _⟩ := h
    rfl
  · obtain ⟨p, dx, tot, rfl, hp, k⟩ := h
    have hu := hu_of hr
    refine ⟨_, pss_cons (ps_fld (pv 0) (pv 1) rfl) (pss_cons (ps_fld (pv 0) (pv 2) rfl)
      (pss_cons (ps_fld (pv 0) (pe_disp (pps_cons (pv 1) (pe_make M G hr rfl T.mgA b .nil pass0 (pa_cons (pv 1) (pa_cons pe_non (pa_cons pe_bl pa_nil)))) pps_nil) (by rfl) (by rfl) (fun z => by cases z) (by decide)) rfl)
      (pss_cons (ps_fld (pe_dget hu (pe_fld (pv 0) rfl) (pv 1) (fun _ _ => rfl)) (pv 2) rfl)
      (pss_one (ps_fld (pv 0) pe_dnewK rfl))))), ?_⟩
    refine ⟨_, rfl, _, rfl, p, CH, dx, _, rfl, hp, T.clH, T.hi, (by show 0 < 1000; decide), ?_⟩
    refine ⟨_, rfl, _, rfl, p, CH, dx, _, rfl, upd_same, T.clH, T.hu, (by show 1 < 1000; decide), ?_⟩
    show tSeq _ _ _ _ (upd (upd H p _) p _)
    rw [upd_upd]
    generalize hfs : putF ("units" : Str) (V.int (tot : Int)) (putF "issuer" (V.str "state") []) = fs2
    have hp1 : (upd H p (.ins CH dx fs2)) p = some (.ins CH dx fs2) := upd_same
    have keep1 : ∀ b o, H b = some o → b ≠ p → (upd H p (.ins CH dx fs2)) b = some o := fun b o hb hne => by
      rw [upd_ne hne]
      exact hb
    generalize upd H p (.ins CH dx fs2) = H1 at hp1 keep1
    intro aK haK
    have pK : p ≠ aK := ne_of_none hp1 haK
    refine ⟨_, rfl, _, rfl, fun a dxa ha hdxa hne => ?_⟩
    have aNe : a ≠ aK := fun z => by rw [z, upd_same] at ha; cases ha
    have dNe : dxa ≠ aK := fun z => by rw [z, upd_same] at hdxa; cases hdxa
    have ha1 : H1 a = none := by rw [upd_ne aNe] at ha; exact ha
    have hd1 : H1 dxa = none := by rw [upd_ne dNe] at hdxa; exact hdxa
    have pa : p ≠ a := ne_of_none hp1 ha1
    have pd : p ≠ dxa := ne_of_none hp1 hd1
    refine ⟨a, dxa, "state", none, false, rfl, upd_same, rfl, ?_, [((Sum.inr "state" : Key), V.ref a)], rfl, (by show 1 ≤ 15; decide), ?_⟩
    · rw [upd_upd, upd_ne aNe.symm, upd_ne dNe.symm, upd_same]
    rw [upd_upd]
    have h4K : (upd (upd (upd (upd H1 aK (.dK [])) dxa (.own a)) a (.ins CA dxa (accF ⟨"state", none, false, 0⟩))) aK (.dK (mergeK [] [((Sum.inr "state" : Key), V.ref a)]))) aK = some (.dK [((Sum.inr "state" : Key), V.ref a)]) := upd_same
    have h4a : (upd (upd (upd (upd H1 aK (.dK [])) dxa (.own a)) a (.ins CA dxa (accF ⟨"state", none, false, 0⟩))) aK (.dK (mergeK [] [((Sum.inr "state" : Key), V.ref a)]))) a = some (.ins CA dxa (accF ⟨"state", none, false, 0⟩)) := by
      rw [upd_ne aNe, upd_same]
    have keep4 : ∀ b o, H1 b = some o → (upd (upd (upd (upd H1 aK (.dK [])) dxa (.own a)) a (.ins CA dxa (accF ⟨"state", none, false, 0⟩))) aK (.dK (mergeK [] [((Sum.inr "state" : Key), V.ref a)]))) b = some o := fun b o hb => by
      rw [upd_ne (ne_of_none hb haK), upd_ne (ne_of_none hb ha1), upd_ne (ne_of_none hb hd1), upd_ne (ne_of_none hb haK)]
      exact hb
    generalize (upd (upd (upd (upd H1 aK (.dK [])) dxa (.own a)) a (.ins CA dxa (accF ⟨"state", none, false, 0⟩))) aK (.dK (mergeK [] [((Sum.inr "state" : Key), V.ref a)]))) = H4 at h4K h4a keep4
    have h4p := keep4 _ _ hp1
    refine ⟨_, rfl, p, CH, dx, _, rfl, h4p, T.clH, T.hk, (by rw [← hfs]; show 2 < 1000; decide), ?_⟩
    generalize hfs3 : putF ("known" : Str) (V.ref aK) fs2 = fs3
    have hl3 : fs3.lookup ("known" : Str) = some (.ref aK) := by
      rw [← hfs3, lookup_putF, if_pos rfl]
    have h5p : (upd H4 p (.ins CH dx fs3)) p = some (.ins CH dx fs3) := upd_same
    have h5K : (upd H4 p (.ins CH dx fs3)) aK = some (.dK [((Sum.inr "state" : Key), V.ref a)]) := by rw [upd_ne pK.symm]; exact h4K
    have h5a : (upd H4 p (.ins CH dx fs3)) a = some (.ins CA dxa (accF ⟨"state", none, false, 0⟩)) := by rw [upd_ne pa.symm]; exact h4a
    have keep5 : ∀ b o, H b = some o → b ≠ p → (upd H4 p (.ins CH dx fs3)) b = some o := fun b o hb hne => by
      rw [upd_ne hne]
      exact keep4 _ _ (keep1 _ _ hb hne)
    generalize upd H4 p (.ins CH dx fs3) = H5 at h5p h5K h5a keep5
    refine ⟨_, rfl, _, rfl, p, CH, dx, _, _, rfl, h5p, T.clH, T.hk, hl3, _, rfl, aK, .ref a, rfl, .inl ⟨_, Sum.inr "state", .inl h5K, rfl, ?_⟩, a, CA, dxa, _, rfl, h5a, T.clA, T.ax, (by show 4 < 1000; decide), ?_⟩
    · rw [valV_pos rfl]
    have h6a : (upd H5 a (.ins CA dxa (putF "units" (.int (tot : Int)) (accF ⟨"state", none, false, 0⟩)))) a = some (.ins CA dxa (accF ⟨"state", none, false, tot⟩)) := by
      rw [upd_same, acc_put]
    have h6p : (upd H5 a (.ins CA dxa (putF "units" (.int (tot : Int)) (accF ⟨"state", none, false, 0⟩)))) p = some (.ins CH dx fs3) := by
      rw [upd_ne pa]
      exact h5p
    have h6K : (upd H5 a (.ins CA dxa (putF "units" (.int (tot : Int)) (accF ⟨"state", none, false, 0⟩)))) aK = some (.dK [((Sum.inr "state" : Key), V.ref a)]) := by
      rw [upd_ne aNe.symm]
      exact h5K
    have haH : H a = none := by
      cases e : H a with
      | none => rfl
      | some o => rw [keep1 a o e pa.symm] at ha1; cases ha1
    have hKH : H aK = none := by
      cases e : H aK with
      | none => rfl
      | some o => rw [keep1 aK o e pK.symm] at haK; cases haK
    have keep6 : ∀ b o, H b = some o → b ≠ p → (upd H5 a (.ins CA dxa (putF "units" (.int (tot : Int)) (accF ⟨"state", none, false, 0⟩)))) b = some o := fun b o hb hne => by
      rw [upd_ne (ne_of_none hb haH)]
      exact keep5 _ _ hb hne
    generalize (upd H5 a (.ins CA dxa (putF "units" (.int (tot : Int)) (accF ⟨"state", none, false, 0⟩)))) = H6 at h6a h6p h6K keep6
    intro aN haN
    have pN : p ≠ aN := ne_of_none h6p haN
    have nK : aK ≠ aN := ne_of_none h6K haN
    have na : a ≠ aN := ne_of_none h6a haN
    refine ⟨_, rfl, p, CH, dx, _, rfl, (by rw [upd_ne pN]; exact h6p), T.clH, T.hn, (by rw [← hfs3, ← hfs]; show 3 < 1000; decide), ?_⟩
    have e7 : putF ("notes" : Str) (V.ref aN) fs3 = holF tot aK aN := by
      rw [← hfs3, ← hfs]
      kernel_rfl
    rw [e7]
    refine k _ aK aN a ⟨⟨⟨dx, upd_same⟩, .inl ?_, ⟨rfl, fun i b r hb hr' => ?_⟩, List.nodup_cons.mpr ⟨List.not_mem_nil, List.nodup_nil⟩, fun m => pa (List.mem_singleton.mp m)⟩, ?_, ?_, nK⟩ (fun b o hb hne => ?_) hKH ?_ haH
    · rw [upd_ne pK.symm, upd_ne nK]
      exact h6K
    · match i, hb, hr' with
      | 0, hb, hr' =>
        cases hb
        cases hr'
        exact ⟨_, by rw [upd_ne pa.symm, upd_ne na]; exact h6a, dxa, rfl⟩
      | _ + 1, hb, _ => cases hb
    · rw [upd_ne pK.symm, upd_ne nK]
      exact h6K
    · rw [upd_ne pN.symm, upd_same]
    · have hbN : b ≠ aN := ne_of_none (keep6 b o hb hne) haN
      rw [upd_ne hne, upd_ne hbN]
      exact keep6 b o hb hne
    · cases e : H aN with
      | none => rfl
      | some o => rw [keep6 aN o e pN.symm] at haN; cases haN
end
end My

set_option Elab.async false
set_option maxRecDepth 100000
set_option maxHeartbeats 4000000
set_option autoImplicit false
namespace My
open PySem L2 Xtra
theorem HolR.acc {CA CH : Addr} {H : Hp} {aH aK aN : Addr} {as : List Addr} {st : List Row} {tot : Nat} (h : HolR CA CH H aH aK aN as st tot) {n : Str} {a : Addr} {r : Row} (x : Ix as st n a r) : ∃ dx, H a = some (.ins CA dx (accF r)) := by
  obtain ⟨o, ho, dx, hR⟩ := h.ac.ix x
  subst hR
  exact ⟨dx, ho⟩
theorem HolR.get {CA CH : Addr} {H : Hp} {aH aK aN : Addr} {as : List Addr} {st : List Row} {tot : Nat} (h : HolR CA CH H aH aK aN as st tot) (n : Str) : DGet H aK (.str n) (valV (kvs as st) (Sum.inr n : Key)) := .inl ⟨_, Sum.inr n, h.kn, rfl, rfl⟩
section
variable {P : Program} {w : World} {K : KF} {mg : Str → Option Value} {base : Heap} {CA CH : Addr}
/-! ### Holders.account -/
def spPAcc0 (CA CH : Addr) : Sp := fun vs H Q _ => ∃ (aH aK aN : Addr) (as : List Addr) (st : List Row) (tot : Nat) (n : Str), vs = [.ref aH, .str n] ∧ HolR CA CH H aH aK aN as st tot ∧ n ∈ Mth.names st ∧ ∀ a r, Ix as st n a r → Q (.ref a) H
def spPAcc (CA CH : Addr) (c : Cs) : Sp := fun vs H Q E => ∃ (aH aK aN : Addr) (as : List Addr) (st : List Row) (tot : Nat) (n : Str), vs = [.ref aH, .str n] ∧ HolR CA CH H aH aK aN as st tot ∧ (Mth.find st n = none → Fly c (.unk n) H E) ∧ ∀ a r, Ix as st n a r → Q (.ref a) H
theorem scPAcc : FnScope ["self", "name"] ["self", "name"] (defScope sPAcc) := ⟨rfl, rfl, rfl, by decide +kernel, rfl, by decide +kernel, by decide +kernel⟩
theorem ok_pacc0 {f : Addr} {fd : FuncData} (F : Fun K "account" "Holders.account" sPAcc f fd) (T : Txt K mg CA CH) : FnOk P w K mg base CX0 1 f fd ["self", "name"] (spPAcc0 CA CH) := by
  refine F.ok scPAcc (fun vs H Q E h => ?_) (fun cdv A outer s H vs Q E hr h => ?_)
  · obtain ⟨_, _, _, _, _, _, _, rfl, _⟩ := h
    rfl
  · obtain ⟨aH, aK, aN, as, st, tot, n, rfl, L, hn, k⟩ := h
    have hu := hu_of hr
    obtain ⟨dx, hob⟩ := L.ob
    obtain ⟨r, hf⟩ := Mth.find_ex hn
    obtain ⟨a, x, hv⟩ := valV_kvs_some L.ac.len hf
    have g := L.get n
    rw [hv] at g
    refine ⟨_, pss_cons (ps_if (pt_cmp (pc_dnotin hu (pv 1) (pe_fld (pv 0) rfl))) (pss_one ps_never) pss_nil) (pss_one (ps_ret (pe_dget hu (pe_fld (pv 0) rfl) (pv 1) (fun _ _ => rfl)))), ?_⟩
    refine ⟨_, rfl, _, rfl, aH, CH, dx, _, _, rfl, hob, T.clH, T.hk, hol_known _ _ _, aK, _, rfl, g, false, rfl, iteF ?_⟩
    exact ⟨_, rfl, aH, CH, dx, _, _, rfl, hob, T.clH, T.hk, hol_known _ _ _, _, rfl, aK, _, rfl, g, k a r x⟩
theorem ok_pacc {f : Addr} {fd : FuncData} {c : Cs} (F : Fun K "account" "Holders.account" sPAcc f fd) (T : Txt K mg CA CH) (Z : Ers P w K mg base c) : FnOk P w K mg base (L2.CX P w) 3 f fd ["self", "name"] (spPAcc CA CH c) := by
  refine F.okX scPAcc (fun vs H Q E h => ?_) (fun cdv A outer s H vs Q E hr h => ?_)
  · obtain ⟨_, _, _, _, _, _, _, rfl, _⟩ := h
    rfl
  · obtain ⟨aH, aK, aN, as, st, tot, n, rfl, L, k1, k2⟩ := h
    have hu := hu_of hr
    obtain ⟨dx, hob⟩ := L.ob
    have g := L.get n
    refine ⟨_, pss_cons (ps_if (pt_cmp (pc_dnotin hu (pv 1) (pe_fld (pv 0) rfl))) (pss_one (ps_raise rfl (takes_of rfl rfl rfl rfl) (pmk_oex Z.eUnk.o Z.eUnk.iC Z.eUnk.tI Z.gUnk hr Z.bUnk .nil pass0 (by exact rfl) Z.eUnk.g (pa_cons (pv 1) pa_nil)))) pss_nil)
      (pss_one (ps_ret (pe_dget hu (pe_fld (pv 0) rfl) (pv 1) (fun _ _ => rfl)))), ?_⟩
    refine ⟨_, rfl, _, rfl, aH, CH, dx, _, _, rfl, hob, T.clH, T.hk, hol_known _ _ _, aK, _, rfl, g, _, rfl, ?_⟩
    cases hf : Mth.find st n with
    | none =>
      rw [valV_kvs_none hf]
      refine iteT ⟨_, rfl, mk1 Z.eUnk.o Z.nUnk fun d hd => ?_⟩
      exact k1 hf d _ (Same.new hd) hd upd_same
    | some r =>
      obtain ⟨a, x, hv⟩ := valV_kvs_some L.ac.len hf
      rw [hv] at g
      rw [hv]
      refine iteF ?_
      exact ⟨_, rfl, aH, CH, dx, _, _, rfl, hob, T.clH, T.hk, hol_known _ _ _, _, rfl, aK, _, rfl, g, k2 a r x⟩
abbrev MAcc0 (P : Program) (w : World) (K : KF) (mg : Str → Option Value) (base : Heap) (CA CH : Addr) := GM P w K mg base CX0 1 CH "account" ["self", "name"] (spPAcc0 CA CH)
abbrev MAcc (P : Program) (w : World) (K : KF) (mg : Str → Option Value) (base : Heap) (CA CH : Addr) (c : Cs) := GM P w K mg base (L2.CX P w) 3 CH "account" ["self", "name"] (spPAcc CA CH c)
/-! ### Holders.above -/
def spPAbove (CA CH : Addr) : Sp := fun vs H Q _ => ∃ (aH aK aN : Addr) (as : List Addr) (st : List Row) (tot : Nat) (n : Str), vs = [.ref aH, .str n] ∧ HolR CA CH H aH aK aN as st tot ∧ Mth.Shape st ∧ n ∈ Mth.names st ∧ RetD (strsD (Mth.above st n)) H Q
theorem scPAbove : FnScope ["self", "name", "found", "under"] ["self", "name"] (defScope sPAbove) := ⟨rfl, rfl, rfl, by decide +kernel, rfl, by decide +kernel, by decide +kernel⟩
theorem no_account (tot : Nat) (aK aN : Addr) : (holF tot aK aN).lookup ("account" : Str) = none := hol_no _ _ _ (by decide +kernel)
theorem ok_pabove {f : Addr} {fd : FuncData} (F : Fun K "above" "Holders.above" sPAbove f fd) (T : Txt K mg CA CH) (G : MAcc0 P w K mg base CA CH) : FnOk P w K mg base CX0 2 f fd ["self", "name"] (spPAbove CA CH) := by
  refine F.ok scPAbove (fun vs H Q E h => ?_) (fun cdv A outer s H vs Q E hr h => ?_)
  · obtain ⟨_, _, _, _, _, _, _, rfl, _⟩ := h
    rfl
  · obtain ⟨aH, aK, aN, as, st, tot, n, rfl, L, sh, hn, k⟩ := h
    have hu := hu_of hr
    obtain ⟨dx, hob⟩ := L.ob
    refine ⟨_, pss_cons (ps_set (i := 2) scPAbove.nd rfl (.inl rfl) (pe_lst pa_nil))
      (pss_cons (ps_set (i := 3) scPAbove.nd rfl (.inl rfl) (pe_fld (pe_meth (pv 0) T.clH G.m G.F hr G.b .nil pass0 (pa_cons (pv 1) pa_nil)) rfl))
      (pss_cons (ps_while PassesOwn.never (pt_cmpR op_notN (pv 3) pe_non (nomark _))
        (pss_cons (ps_expr (pe_bm PySem.F.plainAttrs_list PySem.F.slot_list_insert PySem.F.type_list_insert mt_insert (pv 2) (pa_cons pe_int (pa_cons (pv 3) pa_nil))))
        (pss_one (ps_set (i := 3) scPAbove.nd rfl (.inl rfl) (pe_fld (pe_dget hu (pe_fld (pv 0) rfl) (pv 3) (fun _ _ => rfl)) rfl)))))
      (pss_one (ps_ret (pv 2))))), ?_⟩
    refine ⟨Nat.zero_le _, fun p hp => ?_⟩
    have s0 : Same H (upd H p (.lst [])) := Same.new hp
    refine ⟨_, rfl, aH, dx, _, rfl, s0 _ _ hob, no_account _ _ _, _, rfl, aH, aK, aN, as, st, tot, n, rfl, L.same s0, hn, fun a r x => ?_⟩
    obtain ⟨dy, hacc⟩ := L.acc x
    refine ⟨a, CA, dy, _, _, rfl, s0 _ _ hacc, T.clA, T.au, acc_under r, ?_⟩
    have hund : Mth.und st n = r.under := by
      unfold Mth.und
      rw [x.find sh.nd]
      rfl
    refine ⟨fun m σ H' => Same H H' ∧ ∃ (o : Option Str) (l : List Str), σ = [some (.ref aH), some (.str n), some (.ref p), some (uV o)] ∧ H' p = some (.lst (l.map V.str)) ∧ (∀ u, o = some u → ∃ q, Mth.find st u = some q) ∧ l.length + m ≤ 5 ∧
      Mth.above st n = Mth.chain st m o ++ l ∧ (Mth.chain st m o).length < m, ⟨5, s0, r.under, [], rfl, upd_same, fun u e => ?_, Nat.le_refl _, ?_, ?_⟩, ?_⟩
    · obtain ⟨q, hq, _⟩ := sh.closed n u (hund.trans e)
      exact ⟨q, hq⟩
    · unfold Mth.above
      rw [hund, List.append_nil]
    · have := sh.le3 n hn
      unfold Mth.above at this
      rw [hund] at this
      exact Nat.lt_of_le_of_lt this (by decide)
    · rintro m σ H' ⟨s1, o, l, rfl, hl, ho, hlen, he, hlt⟩
      have L1 := L.same s1
      cases o with
      | none =>
        refine ⟨_, rfl, rfl, false, rfl, iteF ?_⟩
        refine ⟨_, rfl, k _ _ s1 ?_⟩
        rw [he, Mth.chain_none]
        exact .lst hl (DtAll.strs _)
      | some u =>
        refine ⟨_, rfl, rfl, true, rfl, iteT ?_⟩
        cases m with
        | zero => exact absurd hlt (Nat.not_lt_zero _)
        | succ m =>
          obtain ⟨q, hq⟩ := ho u rfl
          obtain ⟨b, xb, hv⟩ := valV_kvs_some L.ac.len hq
          refine ⟨fun σ' H2 => Same H H2 ∧ ∃ (o : Option Str) (l : List Str), σ' = [some (.ref aH), some (.str n), some (.ref p), some (uV o)] ∧ H2 p = some (.lst (l.map V.str)) ∧ (∀ u, o = some u → ∃ q, Mth.find st u = some q) ∧ l.length + m ≤ 5 ∧
            Mth.above st n = Mth.chain st m o ++ l ∧ (Mth.chain st m o).length < m, fun σ' H2 z => ⟨m, Nat.lt_succ_self m, z⟩, ?_⟩
          refine ⟨_, rfl, .inl ⟨rfl, _, SqL.of hl⟩, _, rfl, p, _, 0, _, rfl, rfl, hl, ?_, by decide, by decide, ?_⟩
          · rw [List.length_map]
            exact small' (by omega)
          have s2 : Same H (upd H' p (.lst (V.str u :: l.map V.str))) := fun c o hc => by
            rw [upd_ne (ne_of_none hc hp)]
            exact s1 _ _ hc
          have L2' := L.same s2
          have g := L2'.get u
          rw [hv] at g
          obtain ⟨dz, hb⟩ := L2'.acc xb
          refine ⟨_, rfl, aH, CH, dx, _, _, rfl, s2 _ _ hob, T.clH, T.hk, hol_known _ _ _, _, rfl, aK, _, rfl, g, b, CA, dz, _, _, rfl, hb, T.clA, T.au, acc_under q, ?_⟩
          have hu2 : Mth.und st u = q.under := by
            unfold Mth.und
            rw [hq]
            rfl
          refine ⟨s2, q.under, u :: l, rfl, upd_same, fun y e => ?_, by rw [List.length_cons]; omega, ?_, ?_⟩
          · obtain ⟨z, hz, _⟩ := sh.closed u y (hu2.trans e)
            exact ⟨z, hz⟩
          · rw [he]
            show (Mth.chain st m (Mth.und st u) ++ [u]) ++ l = _
            rw [hu2, List.append_assoc]
            rfl
          · have : (Mth.chain st m (Mth.und st u) ++ [u]).length < m + 1 := hlt
            rw [List.length_append, hu2] at this
            exact Nat.lt_of_succ_lt_succ this
abbrev MAbove (P : Program) (w : World) (K : KF) (mg : Str → Option Value) (base : Heap) (CA CH : Addr) := GM P w K mg base CX0 2 CH "above" ["self", "name"] (spPAbove CA CH)
end
end My

set_option Elab.async false
set_option maxRecDepth 100000
set_option maxHeartbeats 4000000
set_option autoImplicit false
namespace My
open PySem L2 Xtra
abbrev sPNote : Stmt := inClass (top 20) 8
theorem kvs_get {as : List Addr} {st : List Row} {i : Nat} {k : Key} {x : V} (h : (kvs as st)[i]? = some (k, x)) : ∃ a r, as[i]? = some a ∧ st[i]? = some r ∧ k = Sum.inr r.name ∧ x = .ref a := by
  unfold kvs at h
  rw [List.getElem?_map] at h
  cases e : (st.zip as)[i]? with
  | none =>
    rw [e] at h
    cases h
  | some p =>
    rw [e] at h
    cases h
    obtain ⟨r, a⟩ := p
    rw [List.getElem?_zip_eq_some] at e
    exact ⟨a, r, e.2, e.1, rfl, rfl⟩
section
variable {H H' : Hp}
mutual
/-- data lean on lists and tuples alone -/
theorem Dt.lt (el : ∀ b xs, H b = some (.lst xs) → H' b = some (.lst xs)) (et : ∀ b xs, H b = some (.tup xs) → H' b = some (.tup xs)) : ∀ (d : PyData) (v : V), Dt H v d → Dt H' v d
  | .none, _, h => by cases h; exact .non
  | .bool _, _, h => by cases h; exact .bl _
  | .int _, _, h => by cases h; exact .int _
  | .str _, _, h => by cases h; exact .str _
  | .list ds, _, h => by
    cases h with
    | lst ha hx => exact .lst (el _ _ ha) (DtAll.lt el et ds _ hx)
  | .tuple ds, _, h => by
    cases h with
    | tup ha hx => exact .tup (et _ _ ha) (DtAll.lt el et ds _ hx)
  | .dict _, _, h => by cases h
theorem DtAll.lt (el : ∀ b xs, H b = some (.lst xs) → H' b = some (.lst xs)) (et : ∀ b xs, H b = some (.tup xs) → H' b = some (.tup xs)) : ∀ (ds : List PyData) (vs : List V), DtAll H vs ds → DtAll H' vs ds
  | [], _, h => by cases h; exact .nil
  | d :: ds, _, h => by
    cases h with
    | cons h1 h2 => exact .cons (Dt.lt el et d _ h1) (DtAll.lt el et ds _ h2)
end
end
theorem yesT {A B : Hp → Prop} {σ : L2.St} {H : Hp} (h : A H) : tYes σ H (fun b H3 => if b = true then A H3 else B H3) := by
  show if true = true then A H else B H
  exact iteT h
def heldD (hl : List (Str × Nat)) : PyData := .list (hl.map fun x => .tuple [.str x.1, .int (x.2 : Int)])
def helds (st : List Row) : List (Str × Nat) := st.map fun r => (r.name, Mth.held st r)
section
variable {P : Program} {w : World} {K : KF} {mg : Str → Option Value} {base : Heap} {CA CH : Addr}
/-! ### Holders.held, within a walk of the accounts -/
def spPHeld (CA CH : Addr) : Sp := fun vs H Q _ => ∃ (aH aK aN : Addr) (as : List Addr) (st : List Row) (tot : Nat) (n : Str) (r : Row) (od : Obj), vs = [.ref aH, .str n] ∧ HolR CA CH H aH aK aN as st tot ∧ H aK = some (.frz od (.dK (kvs as st))) ∧ Mth.Shape st ∧ st.length ≤ 1000 ∧ Mth.find st n = some r ∧ RetV (.int (Mth.held st r : Nat)) H Q
theorem scPHeld : FnScope ["self", "name", "account", "other"] ["self", "name"] (defScope sPHeld) := ⟨rfl, rfl, rfl, by decide +kernel, rfl, by decide +kernel, by decide +kernel⟩
theorem no_above (tot : Nat) (aK aN : Addr) : (holF tot aK aN).lookup ("above" : Str) = none := hol_no _ _ _ (by decide +kernel)
theorem no_held (tot : Nat) (aK aN : Addr) : (holF tot aK aN).lookup ("held" : Str) = none := hol_no _ _ _ (by decide +kernel)
theorem ok_pheld {f : Addr} {fd : FuncData} (F : Fun K "held" "Holders.held" sPHeld f fd) (T : Txt K mg CA CH) (B : Blt mg) (GA : MAcc0 P w K mg base CA CH) (G : MAbove P w K mg base CA CH) : FnOk P w K mg base CX0 3 f fd ["self", "name"] (spPHeld CA CH) := by
  refine F.ok scPHeld (fun vs H Q E h => ?_) (fun cdv A outer s H vs Q E hr h => ?_)
  · obtain ⟨_, _, _, _, _, _, _, _, _, rfl, _⟩ := h
    rfl
  · obtain ⟨aH, aK, aN, as, st, tot, n, r, od, rfl, L, hk, sh, hlen, hf, k⟩ := h
    obtain ⟨dx, hob⟩ := L.ob
    have hr1 := hr.mono (show 1 ≤ 2 by decide)
    refine ⟨_, pss_cons (ps_set (i := 2) scPHeld.nd rfl (.inl rfl) (pe_meth (pv 0) T.clH GA.m GA.F hr1 GA.b .nil pass0 (pa_cons (pv 1) pa_nil)))
      (pss_cons (ps_if (pt_not (pt_val (pe_fld (pv 2) rfl))) (pss_one (ps_ret (pe_fld (pv 2) rfl))) pss_nil)
      (pss_one (ps_ret (pe_callB (cr_sum rfl) (by rfl) B.sum bt_sum (pa_cons
        (pe_lc (own := [("other", 3)]) (g := gName 3) (te := tFld K (tVar 3) "units") (tt := tTest (tOp (rIn K false) (tVar 1) (tMeth CH "above" (spPAbove CA CH) [] E0 (tVar 0) (tCons (tFld K (tVar 3) "name") tNil)))) rfl scPHeld.nd (pi_values (pe_fld (pv 0) rfl))
          (blkOk_by (own := [("other", 3)]) (N := ["self", "name", "account", "other"]) (sc := defScope sPHeld) (by decide +kernel))
          (fun _ _ _ _ _ => pg_name (i := 3) scPHeld.nd rfl (.inl rfl))
          (fun _ _ _ _ _ => pts_one (pt_cmpR op_in_seq (pv 1) (pe_meth (pv 0) T.clH G.m G.F hr G.b .nil pass0 (pa_cons (pe_fld (pv 3) rfl) pa_nil)) (by rfl)))
          (fun _ _ _ _ _ => pe_fld (pv 3) rfl)) pa_nil))))), ?_⟩
    have hm : n ∈ Mth.names st := Mth.one_of_find hf
    refine ⟨_, rfl, aH, dx, _, rfl, hob, no_account _ _ _, _, rfl, aH, aK, aN, as, st, tot, n, rfl, L, hm, fun a r' x => ?_⟩
    have e0 := x.find sh.nd
    rw [hf] at e0
    cases e0
    obtain ⟨dy, hacc⟩ := L.acc x
    have hn : r.name = n := (Mth.find_mem hf).2
    refine ⟨_, rfl, a, CA, dy, _, _, rfl, hacc, T.clA, T.am, acc_nom r, r.nom, rfl, ?_⟩
    cases hnom : r.nom with
    | false =>
      refine iteT ⟨_, rfl, a, CA, dy, _, _, rfl, hacc, T.clA, T.ax, acc_units r, ?_⟩
      have := k H (Same.refl H)
      unfold Mth.held at this
      rw [hnom] at this
      exact this
    | true =>
      refine iteF ⟨_, rfl, aH, CH, dx, _, _, rfl, hob, T.clH, T.hk, hol_known _ _ _, aK, od, _, rfl, hk, fun D hD => ?_⟩
      refine lc_it (walk_values (kvs := kvs as st)) (fun i H' => Same H H' ∧ H' D = some (.lst ((((st.take i).filter fun o => decide (n ∈ Mth.above st o.name)).map fun o => V.int (o.units : Int)))))
        ⟨Same.new hD, upd_same⟩ (fun i H' _ ⟨s1, _⟩ => s1 _ _ hk) ?_ ?_
      · rintro i y H1 H' hi ⟨s1, hDl⟩ ⟨rfl, ke, hy⟩
        obtain ⟨b, o, hb, ho, rfl, rfl⟩ := kvs_get hy
        have L1 := L.same s1
        have xb : Ix as st o.name b o := ⟨i, hb, ho, rfl⟩
        obtain ⟨dz, hro⟩ := L1.acc xb
        have hmo : o.name ∈ Mth.names st := List.mem_map.mpr ⟨o, List.mem_of_getElem? ho, rfl⟩
        refine ⟨rfl, _, rfl, _, rfl, aH, dx, _, rfl, s1 _ _ hob, no_above _ _ _, _, rfl, b, CA, dz, _, _, rfl, hro, T.clA, T.an, acc_name o, aH, aK, aN, as, st, tot, o.name, rfl, L1, sh, hmo, fun v H2 s2 hv => ?_⟩
        obtain ⟨p, rfl, hp⟩ := strsD_at hv
        refine ⟨p, _, rfl, .inl (SqL.of hp), rfl, flat_strs _, _, rfl, ?_⟩
        rw [inV_strs]
        have et := take_succ_of ho
        by_cases hmem : n ∈ Mth.above st o.name
        · rw [decide_eq_true hmem]
          refine iteT ⟨_, rfl, b, CA, dz, _, _, rfl, s2 _ _ hro, T.clA, T.ax, acc_units o, _, s2 _ _ hDl, ?_, ?_⟩
          · rw [List.length_map]
            refine small' (Nat.le_trans (List.length_filter_le _ _) ?_)
            rw [List.length_take]
            omega
          · refine ⟨fun c u hc => ?_, ?_⟩
            · have : c ≠ D := ne_of_none hc hD
              rw [upd_ne this]
              exact s2 _ _ (s1 _ _ hc)
            · rw [upd_same, et, List.filter_append, List.map_append]
              simp [hmem]
        · rw [decide_eq_false hmem]
          refine iteF ⟨s1.trans s2, ?_⟩
          rw [et, List.filter_append, List.map_append]
          simp [hmem]
          exact s2 _ _ hDl
      · rintro H' ⟨s1, hDl⟩
        rw [kvs_len L.ac.len, List.take_length] at hDl
        refine ⟨D, ((st.filter fun o => decide (n ∈ Mth.above st o.name)).map fun o => (o.units : Int)), rfl, ?_, ?_⟩
        · rw [List.map_map]
          exact SqL.of hDl
        · have e : (((st.filter fun o => decide (n ∈ Mth.above st o.name)).map fun o => (o.units : Int))).sum = ((Mth.held st r : Nat) : Int) := by
            unfold Mth.held Mth.unitsSum
            rw [if_pos hnom, hn]
            generalize st.filter (fun o => decide (n ∈ Mth.above st o.name)) = l
            induction l with
            | nil => rfl
            | cons o l ih =>
              rw [List.map_cons, List.map_cons, List.sum_cons, List.sum_cons, ih]
              rfl
          rw [e]
          exact k H' s1
abbrev MHeld (P : Program) (w : World) (K : KF) (mg : Str → Option Value) (base : Heap) (CA CH : Addr) := GM P w K mg base CX0 3 CH "held" ["self", "name"] (spPHeld CA CH)
/-! ### Holders.note -/
def spPNote (CA CH : Addr) : Sp := fun vs H Q _ => ∃ (aH aK aN : Addr) (as : List Addr) (st : List Row) (tot : Nat), vs = [.ref aH, .int 7] ∧ HolAt CA CH H aH aK aN as st tot [] ∧ Mth.Shape st ∧ st.length ≤ 1000 ∧
  ∀ H' aL, HolAt CA CH H' aH aK aN as st tot [((Sum.inl 7 : Key), V.ref aL)] → H aL = none → Dt H' (.ref aL) (heldD (helds st)) → (∀ b o, H b = some o → b ≠ aN → H' b = some o) → Q .non H'
theorem scPNote : FnScope ["self", "day", "name"] ["self", "day"] (defScope sPNote) := ⟨rfl, rfl, rfl, by decide +kernel, rfl, by decide +kernel, by decide +kernel⟩
theorem ok_pnote {f : Addr} {fd : FuncData} (F : Fun K "note" "Holders.note" sPNote f fd) (T : Txt K mg CA CH) (B : Blt mg) (G : MHeld P w K mg base CA CH) : FnOk P w K mg base CX0 4 f fd ["self", "day"] (spPNote CA CH) := by
  refine F.ok scPNote (fun vs H Q E h => ?_) (fun cdv A outer s H vs Q E hr h => ?_)
  · obtain ⟨_, _, _, _, _, _, rfl, _⟩ := h
    rfl
  · obtain ⟨aH, aK, aN, as, st, tot, rfl, L, sh, hlen, k⟩ := h
    have hu := hu_of hr
    obtain ⟨dx, hob⟩ := L.r.ob
    refine ⟨_, pss_cons (ps_if (PW.pt (pw_or (pt_cmpR op_lt (pv 1) pe_int (nomark _)) (pw_or1 (PW.pt (pw_and (pt_cmpR op_gt (pe_callB call_lenD (by rfl) B.len bt_len (pa_cons (pe_fld (pv 0) rfl) pa_nil)) pe_int (nomark _)) (pw_and1 (pt_cmpR op_le (pv 1) pe_never (nomark _)))))))) (pss_one ps_never) pss_nil)
      (pss_one (ps_dput hu (pe_fld (pv 0) rfl) (pv 1) (pe_lock (pe_lc (own := [("name", 2)]) (g := gName 2) (tt := tYes) (te := tTup (tCons (tVar 2) (tCons (tMeth CH "held" (spPHeld CA CH) [] E0 (tVar 0) (tCons (tVar 2) tNil)) tNil))) rfl scPNote.nd (pi_keys (pe_fld (pv 0) rfl))
          (blkOk_by (own := [("name", 2)]) (N := ["self", "day", "name"]) (sc := defScope sPNote) (by decide +kernel))
          (fun _ _ _ _ _ => pg_name (i := 2) scPNote.nd rfl (.inl rfl)) (fun _ _ _ _ _ => pts_nil)
          (fun _ _ _ _ _ => pe_tup (pa_cons (pv 2) (pa_cons (pe_meth (pv 0) T.clH G.m G.F hr G.b .nil pass0 (pa_cons (pv 2) pa_nil)) pa_nil))))) rfl)), ?_⟩
    refine ⟨_, rfl, _, _, rfl, rfl, false, rfl, iteF ?_⟩
    refine ⟨_, rfl, aH, CH, dx, _, _, rfl, hob, T.clH, T.hn, hol_notes _ _ _, aN, _, rfl, L.n, _, _, rfl, rfl, false, rfl, iteF (iteF ?_)⟩
    refine ⟨aK, .dK (kvs as st), L.k, True.intro, fun od => ?_⟩
    have hKH : aH ≠ aK := ne_of hob L.k (by intro z; cases z)
    have keepU : ∀ b o, H b = some o → b ≠ aK → (upd H aK (.frz od (.dK (kvs as st)))) b = some o := fun b o hb hne => by
      rw [upd_ne hne]
      exact hb
    have hKf : (upd H aK (.frz od (.dK (kvs as st)))) aK = some (.frz od (.dK (kvs as st))) := upd_same
    have LR : HolR CA CH (upd H aK (.frz od (.dK (kvs as st)))) aH aK aN as st tot := L.r.keep (fun a C dy fs ha => keepU _ _ ha (ne_of ha L.k (by intro z; cases z))) (.inr ⟨od, hKf⟩)
    have hNf := keepU _ _ L.n L.kn.symm
    have frH : ∀ b, (upd H aK (.frz od (.dK (kvs as st)))) b = none → H b = none := fun b hb => by
      by_cases e : b = aK
      · rw [e, hKf] at hb
        cases hb
      · rw [upd_ne e] at hb
        exact hb
    generalize upd H aK (.frz od (.dK (kvs as st))) = H1 at keepU hKf LR hNf frH
    obtain ⟨dx1, hob1⟩ := LR.ob
    refine ⟨_, rfl, aH, CH, dx1, _, _, rfl, hob1, T.clH, T.hk, hol_known _ _ _, aK, od, rfl, .inl ⟨_, hKf, fun D hD => ?_⟩⟩
    refine lc_it (walk_keys (kvs := kvs as st)) (fun i H' => Same H1 H' ∧ ∃ xs, H' D = some (.lst xs) ∧ xs.length ≤ i ∧ DtAll H' xs (((helds st).take i).map fun x => .tuple [.str x.1, .int (x.2 : Int)]))
        ⟨Same.new hD, [], upd_same, Nat.le_refl _, .nil⟩ (fun i H' _ ⟨s1, _⟩ => s1 _ _ hKf) ?_ ?_
    · rintro i y H2 H' hi ⟨s1, xs, hDl, hxl, hxs⟩ ⟨rfl, ke, ve, hy, rfl⟩
      obtain ⟨b, o, hb, ho, rfl, rfl⟩ := kvs_get hy
      have L1 := LR.same s1
      have hfo : Mth.find st o.name = some o := Mth.find_of_mem sh.nd (List.mem_of_getElem? ho)
      have hib : i < st.length := (List.getElem?_eq_some_iff.mp ho).1
      refine ⟨rfl, yesT ?_⟩
      refine ⟨_, rfl, _, rfl, aH, dx1, _, rfl, s1 _ _ hob1, no_held _ _ _, _, rfl, aH, aK, aN, as, st, tot, o.name, o, od, rfl, L1, s1 _ _ hKf, sh, hlen, hfo, fun H3 s2 => ?_⟩
      refine ⟨(by show 2 ≤ sizeLine; decide), fun t ht => ?_⟩
      have s3 := s2.trans (Same.new (o := .tup [.str o.name, .int (Mth.held st o : Nat)]) ht)
      refine ⟨xs, s3 _ _ hDl, small' (by omega), fun c u hc => ?_, xs ++ [.ref t], upd_same, ?_, ?_⟩
      · rw [upd_ne (ne_of_none hc hD)]
        exact s3 _ _ (s1 _ _ hc)
      · rw [List.length_append]
        exact Nat.succ_le_succ hxl
      · have hget : (helds st)[i]? = some (o.name, Mth.held st o) := by
          unfold helds
          rw [List.getElem?_map, ho]
          rfl
        have tD : t ≠ D := fun z => by
          have := s2 _ _ hDl
          rw [← z, ht] at this
          cases this
        -- the list at D alone is written, the data so far do not hold it
        have hmono : DtAll (upd H3 t (.tup [.str o.name, .int (Mth.held st o : Nat)])) xs (((helds st).take i).map fun x => .tuple [.str x.1, .int (x.2 : Int)]) := DtAll.mono s3 _ _ hxs
        rw [take_succ_of hget, List.map_append]
        have flat : ∀ {l : List (Str × Nat)} {ys : List V} {G G' : Hp}, (∀ b zs, G b = some (.tup zs) → G' b = some (.tup zs)) → DtAll G ys (l.map fun x => .tuple [.str x.1, .int (x.2 : Int)]) → DtAll G' ys (l.map fun x => .tuple [.str x.1, .int (x.2 : Int)]) := by
          intro l
          induction l with
          | nil => intro ys G G' _ h; cases h; exact .nil
          | cons x l ih =>
            intro ys G G' hg h
            cases h with
            | cons h1 h2 =>
              refine .cons ?_ (ih hg h2)
              cases h1 with
              | tup ha hx =>
                cases hx with
                | cons a1 a2 =>
                  cases a1
                  cases a2 with
                  | cons a3 a4 =>
                    cases a3
                    cases a4
                    exact .tup (hg _ _ ha) (.cons (.str _) (.cons (.int _) .nil))
        have hg : ∀ b zs, (upd H3 t (.tup [.str o.name, .int (Mth.held st o : Nat)])) b = some (.tup zs) → (upd (upd H3 t (.tup [.str o.name, .int (Mth.held st o : Nat)])) D (.lst (xs ++ [.ref t]))) b = some (.tup zs) := fun b zs hb => by
          have : b ≠ D := fun z => by
            rw [z, s3 _ _ hDl] at hb
            cases hb
          rw [upd_ne this]
          exact hb
        exact DtAll.snoc (flat hg hmono) (.tup (hg _ _ upd_same) (.cons (.str _) (.cons (.int _) .nil)))
    · rintro H' ⟨s1, xs, hDl, hxl, hxs⟩
      have hfull : (kvs as st).length = (helds st).length := by
        rw [kvs_len L.r.ac.len]
        unfold helds
        rw [List.length_map]
      rw [hfull, List.take_length] at hxs
      have hKf' := s1 _ _ hKf
      have hNf' := s1 _ _ hNf
      have hob' := s1 _ _ hob1
      refine ⟨hKf', _, rfl, aH, CH, dx1, _, _, rfl, ?_, T.clH, T.hn, hol_notes tot aK aN, _, rfl, aN, _, rfl, DPut.k (k := Sum.inl 7) (kvs := []) ?_ (small' (Nat.zero_le _)), ?_⟩
      · rw [upd_ne hKH]
        exact hob'
      · rw [upd_ne L.kn.symm]
        exact hNf'
      have keepF : ∀ b o, H' b = some o → b ≠ aK → b ≠ aN → (upd (upd H' aK (.dK (kvs as st))) aN (.dK (putK [] (Sum.inl 7 : Key) (V.ref D)))) b = some o := fun b o hb h1 h2 => by
        rw [upd_ne h2, upd_ne h1]
        exact hb
      refine k _ D ⟨(LR.same s1).keep (fun a C dy fs ha => keepF _ _ ha (ne_of ha hKf' (by intro z; cases z)) (ne_of ha hNf' (by intro z; cases z))) (.inl ?_), ?_, upd_same, L.kn⟩ (frH _ hD) ?_ (fun b o hb hne => ?_)
      · rw [upd_ne L.kn, upd_same]
      · rw [upd_ne L.kn, upd_same]
      · refine Dt.lt (H := H') (fun b zs hb => keepF _ _ hb (ne_of hb hKf' (by intro z; cases z)) (ne_of hb hNf' (by intro z; cases z))) (fun b zs hb => keepF _ _ hb (ne_of hb hKf' (by intro z; cases z)) (ne_of hb hNf' (by intro z; cases z))) _ _ (.lst hDl hxs)
      · by_cases e : b = aK
        · subst e
          rw [L.k] at hb
          cases hb
          rw [upd_ne L.kn, upd_same]
        · exact keepF _ _ (s1 _ _ (keepU _ _ hb e)) e hne
abbrev MNote (P : Program) (w : World) (K : KF) (mg : Str → Option Value) (base : Heap) (CA CH : Addr) := GM P w K mg base CX0 4 CH "note" ["self", "day"] (spPNote CA CH)
end
end My

set_option Elab.async false
set_option maxRecDepth 100000
set_option maxHeartbeats 4000000
set_option autoImplicit false
namespace My
open PySem L2 Xtra
abbrev sPNoted : Stmt := inClass (top 20) 10
abbrev sPPass : Stmt := inClass (top 20) 11
abbrev sPEnt : Stmt := inClass (top 20) 12
theorem heldD_at {H : Hp} {v : V} {hl : List (Str × Nat)} (h : Dt H v (heldD hl)) : ∃ a xs, v = .ref a ∧ H a = some (.lst xs) ∧ xs.length = hl.length ∧ ∀ (i : Nat) y, xs[i]? = some y → ∃ r p, hl[i]? = some r ∧ y = .ref p ∧ H p = some (.tup [.str r.1, .int (r.2 : Int)]) := by
  cases h with
  | lst ha hx =>
    refine ⟨_, _, rfl, ha, by rw [hx.len, List.length_map], fun i y hy => ?_⟩
    obtain ⟨d, hd, q⟩ := hx.get hy
    rw [List.getElem?_map] at hd
    cases e : hl[i]? with
    | none =>
      rw [e] at hd
      cases hd
    | some r =>
      rw [e] at hd
      cases hd
      cases q with
      | tup hp hq =>
        cases hq with
        | cons a1 a2 =>
          cases a1
          cases a2 with
          | cons a3 a4 =>
            cases a3
            cases a4
            exact ⟨r, _, rfl, rfl, hp⟩
/-- a list that grows at D holds data of tuples: writing D leaves them -/
theorem DtAll.grow {H : Hp} {D : Addr} {xs zs : List V} {ds : List PyData} (hD : H D = some (.lst zs)) (hx : ∀ d ∈ ds, ∃ es, d = .tuple es ∧ ∀ e ∈ es, (∃ s, e = .str s) ∨ (∃ i, e = .int i) ∨ ∃ x : Fr, e = frD x) (ys : List V) : DtAll H xs ds → DtAll (upd H D (.lst ys)) xs ds := by
  have hg : ∀ b ws, H b = some (.tup ws) → (upd H D (.lst ys)) b = some (.tup ws) := fun b ws hb => by
    have : b ≠ D := fun z => by
      rw [z, hD] at hb
      cases hb
    rw [upd_ne this]
    exact hb
  have one : ∀ (e : PyData) (v : V), ((∃ s, e = .str s) ∨ (∃ i, e = .int i) ∨ ∃ x : Fr, e = frD x) → Dt H v e → Dt (upd H D (.lst ys)) v e := by
    rintro e v (⟨s, rfl⟩ | ⟨i, rfl⟩ | ⟨x, rfl⟩) h
    · cases h; exact .str _
    · cases h; exact .int _
    · obtain ⟨p, rfl, hp⟩ := frD_at h
      exact frD_of (hg _ _ hp)
  have many : ∀ (es : List PyData) (vs : List V), (∀ e ∈ es, (∃ s, e = .str s) ∨ (∃ i, e = .int i) ∨ ∃ x : Fr, e = frD x) → DtAll H vs es → DtAll (upd H D (.lst ys)) vs es := by
    intro es
    induction es with
    | nil => intro vs _ h; cases h; exact .nil
    | cons e es ih =>
      intro vs he h
      cases h with
      | cons h1 h2 => exact .cons (one e _ (he e List.mem_cons_self) h1) (ih _ (fun x hx => he x (List.mem_cons_of_mem _ hx)) h2)
  have all : ∀ (ds : List PyData) (xs : List V), (∀ d ∈ ds, ∃ es, d = .tuple es ∧ ∀ e ∈ es, (∃ s, e = .str s) ∨ (∃ i, e = .int i) ∨ ∃ x : Fr, e = frD x) → DtAll H xs ds → DtAll (upd H D (.lst ys)) xs ds := by
    intro ds
    induction ds with
    | nil => intro xs _ h; cases h; exact .nil
    | cons d ds ih =>
      intro xs hd h
      cases h with
      | cons h1 h2 =>
        refine .cons ?_ (ih _ (fun x hx => hd x (List.mem_cons_of_mem _ hx)) h2)
        obtain ⟨es, rfl, he⟩ := hd d List.mem_cons_self
        cases h1 with
        | tup ha hq => exact .tup (hg _ _ ha) (many es _ he hq)
  exact all ds xs hx
theorem held_form (hl : List (Str × Nat)) : ∀ d ∈ hl.map (fun x => PyData.tuple [.str x.1, .int (x.2 : Int)]), ∃ es, d = .tuple es ∧ ∀ e ∈ es, (∃ s, e = .str s) ∨ (∃ i, e = .int i) ∨ ∃ x : Fr, e = frD x := fun d hd => by
  obtain ⟨x, _, rfl⟩ := List.mem_map.mp hd
  refine ⟨_, rfl, fun e he => ?_⟩
  rcases List.mem_cons.mp he with e1 | he
  · exact .inl ⟨_, e1⟩
  · exact .inr (.inl ⟨_, List.mem_singleton.mp he⟩)
theorem rows_form (rows : List (Str × Fr)) : ∀ d ∈ rows.map (fun r => PyData.tuple [.str r.1, frD r.2]), ∃ es, d = .tuple es ∧ ∀ e ∈ es, (∃ s, e = .str s) ∨ (∃ i, e = .int i) ∨ ∃ x : Fr, e = frD x := fun d hd => by
  obtain ⟨x, _, rfl⟩ := List.mem_map.mp hd
  refine ⟨_, rfl, fun e he => ?_⟩
  rcases List.mem_cons.mp he with e1 | he
  · exact .inl ⟨_, e1⟩
  · exact .inr (.inr ⟨_, List.mem_singleton.mp he⟩)
/-- the note of day 7 stands -/
structure Noted (CA CH : Addr) (H : Hp) (aH aK aN : Addr) (as : List Addr) (st : List Row) (tot : Nat) (aL : Addr) (hl : List (Str × Nat)) : Prop where
  r : HolR CA CH H aH aK aN as st tot
  n : H aN = some (.dK [((Sum.inl 7 : Key), V.ref aL)])
  d : Dt H (.ref aL) (heldD hl)
  z : hl.length ≤ 1000
theorem Noted.same {CA CH : Addr} {H H' : Hp} {aH aK aN : Addr} {as : List Addr} {st : List Row} {tot : Nat} {aL : Addr} {hl : List (Str × Nat)} (h : Noted CA CH H aH aK aN as st tot aL hl) (e : Same H H') : Noted CA CH H' aH aK aN as st tot aL hl :=
  ⟨h.r.same e, e _ _ h.n, Dt.mono e _ _ h.d, h.z⟩
section
variable {P : Program} {w : World} {K : KF} {mg : Str → Option Value} {base : Heap} {CA CH : Addr}
def posL (hl : List (Str × Nat)) : List (Str × Nat) := hl.filter fun x => decide (0 < x.2)
/-! ### Holders.noted -/
def spPNoted (CA CH : Addr) : Sp := fun vs H Q _ => ∃ (aH aK aN : Addr) (as : List Addr) (st : List Row) (tot : Nat) (aL : Addr) (hl : List (Str × Nat)), vs = [.ref aH, .int 7] ∧ Noted CA CH H aH aK aN as st tot aL hl ∧ RetD (heldD (posL hl)) H Q
def FlyN (c : Cs) (d : Int) (H : Hp) (E : XK) : Prop := ∀ q H', Same H H' → H q = none → H' q = some (.xd [("day", .int d)]) → E (.ref c.nn) (some q) H'
def spPNotedX (CA CH : Addr) (c : Cs) : Sp := fun vs H _ E => ∃ (aH aK aN : Addr) (as : List Addr) (st : List Row) (tot : Nat) (aL : Addr) (hl : List (Str × Nat)) (d : Int), vs = [.ref aH, .int d] ∧ d ≠ 7 ∧ Noted CA CH H aH aK aN as st tot aL hl ∧ FlyN c d H E
theorem scPNoted : FnScope ["self", "day", "name", "units"] ["self", "day"] (defScope sPNoted) := ⟨rfl, rfl, rfl, by decide +kernel, rfl, by decide +kernel, by decide +kernel⟩
theorem ok_pnoted {f : Addr} {fd : FuncData} (F : Fun K "noted" "Holders.noted" sPNoted f fd) (T : Txt K mg CA CH) : FnOk P w K mg base CX0 1 f fd ["self", "day"] (spPNoted CA CH) := by
  refine F.ok scPNoted (fun vs H Q E h => ?_) (fun cdv A outer s H vs Q E hr h => ?_)
  · obtain ⟨_, _, _, _, _, _, _, _, rfl, _⟩ := h
    rfl
  · obtain ⟨aH, aK, aN, as, st, tot, aL, hl, rfl, N, k⟩ := h
    have hu := hu_of hr
    obtain ⟨dx, hob⟩ := N.r.ob
    obtain ⟨aL', xs, e0, hL, hlen, hat⟩ := heldD_at N.d
    cases e0
    refine ⟨_, pss_cons (ps_if (pt_cmp (pc_dnotin hu (pv 1) (pe_fld (pv 0) rfl))) (pss_one ps_never) pss_nil)
      (pss_one (ps_ret (pe_lc (own := [("name", 2), ("units", 3)]) (g := gTup K 2 (gCons (gName 2) (gCons (gName 3) gNil))) (tt := tTest (tOp (rI0 fun i j => .bl (decide (j < i))) (tVar 3) (tC (.int 0)))) (te := tTup (tCons (tVar 2) (tCons (tVar 3) tNil))) rfl scPNoted.nd
          (pi_list (pe_dget hu (pe_fld (pv 0) rfl) (pv 1) (fun _ _ => rfl)))
          (blkOk_by (own := [("name", 2), ("units", 3)]) (N := ["self", "day", "name", "units"]) (sc := defScope sPNoted) (by decide +kernel))
          (fun _ _ _ _ _ => pg_tup rfl (pgs_cons (pg_name (i := 2) scPNoted.nd rfl (.inl rfl)) (pgs_cons (pg_name (i := 3) scPNoted.nd rfl (.inl rfl)) pgs_nil)))
          (fun _ _ _ _ _ => pts_one (pt_cmpR op_gt (pv 3) pe_int (nomark _)))
          (fun _ _ _ _ _ => pe_tup (pa_cons (pv 2) (pa_cons (pv 3) pa_nil)))))), ?_⟩
    refine ⟨_, rfl, _, rfl, aH, CH, dx, _, _, rfl, hob, T.clH, T.hn, hol_notes tot aK aN, aN, _, rfl, DGet.k (k := Sum.inl 7) N.n, false, rfl, iteF ?_⟩
    refine ⟨_, rfl, aH, CH, dx, _, _, rfl, hob, T.clH, T.hn, hol_notes tot aK aN, _, rfl, aN, .ref aL, rfl, DGet.k (k := Sum.inl 7) N.n, aL, rfl, ⟨_, SqL.of hL⟩, fun D hD => ?_⟩
    refine lc_list (K := K) (xs := xs) (fun i H' => Same H H' ∧ ∃ ys, H' D = some (.lst ys) ∧ ys.length ≤ i ∧ DtAll H' ys ((posL (hl.take i)).map fun x => .tuple [.str x.1, .int (x.2 : Int)]))
      ⟨Same.new hD, [], upd_same, Nat.le_refl _, .nil⟩ (fun i H' _ ⟨s1, _⟩ => SqL.of (s1 _ _ hL)) ?_ ?_
    · rintro i y H' hi ⟨s1, ys, hDl, hyl, hys⟩
      obtain ⟨r, p, hr', rfl, hp⟩ := hat i y hi
      have hil : i < hl.length := (List.getElem?_eq_some_iff.mp hr').1
      have hz := N.z
      refine ⟨p, _, rfl, SqT.of (s1 _ _ hp), rfl, _, _, rfl, _, _, rfl, rfl, rfl, _, rfl, _, _, rfl, rfl, _, rfl, ?_⟩
      refine ite2 (fun e => ?_) (fun e => ?_)
      · have e1 : 0 < r.2 := by
          have := of_decide_eq_true e
          omega
        refine ⟨_, rfl, _, rfl, (by show 2 ≤ sizeLine; decide), fun t ht => ?_⟩
        have s2 : Same H' (upd H' t (.tup [.str r.1, .int (r.2 : Int)])) := Same.new ht
        refine ⟨ys, s2 _ _ hDl, small' (by omega), fun c u hc => ?_, ys ++ [.ref t], upd_same, by rw [List.length_append]; exact Nat.succ_le_succ hyl, ?_⟩
        · rw [upd_ne (ne_of_none hc hD)]
          exact s2 _ _ (s1 _ _ hc)
        · have e2 : posL (hl.take (i + 1)) = posL (hl.take i) ++ [r] := by
            unfold posL
            rw [take_succ_of hr', List.filter_append]
            simp [e1]
          rw [e2, List.map_append]
          have tD : t ≠ D := fun z => by
            rw [z, hDl] at ht
            cases ht
          refine DtAll.snoc (DtAll.grow (s2 _ _ hDl) (held_form _) _ (DtAll.mono s2 _ _ hys)) (.tup (xs := [.str r.1, .int (r.2 : Int)]) ?_ (.cons (.str _) (.cons (.int _) .nil)))
          rw [upd_ne tD, upd_same]
      · have e1 : ¬ 0 < r.2 := fun z => e (decide_eq_true (show (0 : Int) < (r.2 : Int) by omega))
        refine ⟨s1, ys, hDl, Nat.le_succ_of_le hyl, ?_⟩
        have e2 : posL (hl.take (i + 1)) = posL (hl.take i) := by
          unfold posL
          rw [take_succ_of hr', List.filter_append]
          simp [e1]
        rw [e2]
        exact hys
    · rintro H' ⟨s1, ys, hDl, hyl, hys⟩
      rw [hlen, List.take_length] at hys
      exact k _ _ s1 (.lst hDl hys)
theorem ok_pnotedX {f : Addr} {fd : FuncData} {c : Cs} (F : Fun K "noted" "Holders.noted" sPNoted f fd) (T : Txt K mg CA CH) (Z : Ers P w K mg base c) : FnOk P w K mg base (L2.CX P w) 3 f fd ["self", "day"] (spPNotedX CA CH c) := by
  refine F.okX scPNoted (fun vs H Q E h => ?_) (fun cdv A outer s H vs Q E hr h => ?_)
  · obtain ⟨_, _, _, _, _, _, _, _, _, rfl, _⟩ := h
    rfl
  · obtain ⟨aH, aK, aN, as, st, tot, aL, hl, d, rfl, hd7, N, k⟩ := h
    have hu := hu_of hr
    obtain ⟨dx, hob⟩ := N.r.ob
    refine ⟨_, pss_cons (ps_if (pt_cmp (pc_dnotin hu (pv 1) (pe_fld (pv 0) rfl))) (pss_one (ps_raise rfl (takes_of rfl rfl rfl rfl) (pmk_oex Z.eNN.o Z.eNN.iC Z.eNN.tI Z.gNN hr Z.bNN .nil pass0 (by exact rfl) Z.eNN.g (pa_cons (pv 1) pa_nil)))) pss_nil) pss_never, ?_⟩
    have hv : valV [((Sum.inl 7 : Key), V.ref aL)] (Sum.inl d : Key) = none := by
      rw [valV_neg fun z => hd7 (Sum.inl.inj z).symm]
      rfl
    have g : DGet (H) aN (.int d) (valV [((Sum.inl 7 : Key), V.ref aL)] (Sum.inl d : Key)) := DGet.k (k := Sum.inl d) N.n
    rw [hv] at g
    refine ⟨_, rfl, _, rfl, aH, CH, dx, _, _, rfl, hob, T.clH, T.hn, hol_notes tot aK aN, aN, _, rfl, g, true, rfl, iteT ?_⟩
    refine ⟨_, rfl, mk1 Z.eNN.o Z.nNN fun q hq => ?_⟩
    exact k q _ (Same.new hq) hq upd_same
abbrev MNoted (P : Program) (w : World) (K : KF) (mg : Str → Option Value) (base : Heap) (CA CH : Addr) := GM P w K mg base CX0 1 CH "noted" ["self", "day"] (spPNoted CA CH)
abbrev MNotedX (P : Program) (w : World) (K : KF) (mg : Str → Option Value) (base : Heap) (CA CH : Addr) (c : Cs) := GM P w K mg base (L2.CX P w) 3 CH "noted" ["self", "day"] (spPNotedX CA CH c)
end
end My

set_option Elab.async false
set_option maxRecDepth 100000
set_option maxHeartbeats 4000000
set_option autoImplicit false
namespace My
open PySem L2 Xtra
/-- as RetD, the object is new -/
def RetF (d : PyData) (H : Hp) (Q : VK) : Prop := ∀ p H', H p = none → Same H H' → Dt H' (.ref p) d → Q (.ref p) H'
def passL (hl : List (Str × Nat)) (tot : Nat) (a : Fr) : List (Str × Fr) := (posL hl).map fun x => (x.1, Mth.tm a (Mth.mk x.2 tot))
def nomOf (st : List Row) (n : Str) : Bool := match Mth.find st n with
  | some r => r.nom
  | none => false
section
variable {P : Program} {w : World} {K : KF} {mg : Str → Option Value} {base : Heap} {CA CH : Addr}
theorem no_noted (tot : Nat) (aK aN : Addr) : (holF tot aK aN).lookup ("noted" : Str) = none := hol_no _ _ _ (by decide +kernel)
theorem no_passed (tot : Nat) (aK aN : Addr) : (holF tot aK aN).lookup ("passed" : Str) = none := hol_no _ _ _ (by decide +kernel)
/-! ### Holders.passed -/
def spPPass (CA CH : Addr) : Sp := fun vs H Q _ => ∃ (aH aK aN : Addr) (as : List Addr) (st : List Row) (tot : Nat) (aL : Addr) (hl : List (Str × Nat)) (va : V) (a : Fr), vs = [.ref aH, .int 7, va] ∧ Noted CA CH H aH aK aN as st tot aL hl ∧ Dt H va (frD a) ∧ Bd a ∧ 0 < tot ∧ tot < 2 ^ 1000 ∧
  (∀ x ∈ hl, x.2 ≤ tot) ∧ RetF (rowsD (passL hl tot a)) H Q
def spPPassX (CA CH : Addr) (c : Cs) : Sp := fun vs H _ E => ∃ (aH aK aN : Addr) (as : List Addr) (st : List Row) (tot : Nat) (aL : Addr) (hl : List (Str × Nat)) (d : Int) (va : V), vs = [.ref aH, .int d, va] ∧ d ≠ 7 ∧ Noted CA CH H aH aK aN as st tot aL hl ∧ FlyN c d H E
theorem scPPass : FnScope ["self", "day", "amount", "name", "units"] ["self", "day", "amount"] (defScope sPPass) := ⟨rfl, rfl, rfl, by decide +kernel, rfl, by decide +kernel, by decide +kernel⟩
abbrev GFrac (P : Program) (w : World) (K : KF) (mg : Str → Option Value) (base : Heap) := GF P w K mg base CX0 1 "fraction" ["p", "q"] spFraction
abbrev GPTm (P : Program) (w : World) (K : KF) (mg : Str → Option Value) (base : Heap) := GF P w K mg base CX0 2 "times" ["a", "b"] (sp2 Mth.tm)
theorem ok_ppass {f : Addr} {fd : FuncData} (F : Fun K "passed" "Holders.passed" sPPass f fd) (T : Txt K mg CA CH) (GN : MNoted P w K mg base CA CH) (GR : GFrac P w K mg base) (GT : GPTm P w K mg base) : FnOk P w K mg base CX0 3 f fd ["self", "day", "amount"] (spPPass CA CH) := by
  refine F.ok scPPass (fun vs H Q E h => ?_) (fun cdv A outer s H vs Q E hr h => ?_)
  · obtain ⟨_, _, _, _, _, _, _, _, _, _, rfl, _⟩ := h
    rfl
  · obtain ⟨aH, aK, aN, as, st, tot, aL, hl, va, a, rfl, N, ha, ba, t0, t1, hle, k⟩ := h
    have hr1 := hr.mono (show 1 ≤ 2 by decide)
    obtain ⟨dx, hob⟩ := N.r.ob
    refine ⟨_, pss_one (ps_ret (pe_lc (own := [("name", 3), ("units", 4)]) (g := gTup K 2 (gCons (gName 3) (gCons (gName 4) gNil))) (tt := tYes)
        (te := tTup (tCons (tVar 3) (tCons (tCall (sp2 Mth.tm) [] E0 (tCons (tVar 2) (tCons (tCall spFraction [] E0 (tCons (tVar 4) (tCons (tFld K (tVar 0) "units") tNil))) tNil))) tNil))) rfl scPPass.nd
          (pi_list (pe_meth (pv 0) T.clH GN.m GN.F hr1 GN.b .nil pass0 (pa_cons (pv 1) pa_nil)))
          (blkOk_by (own := [("name", 3), ("units", 4)]) (N := ["self", "day", "amount", "name", "units"]) (sc := defScope sPPass) (by decide +kernel))
          (fun _ _ _ _ _ => pg_tup rfl (pgs_cons (pg_name (i := 3) scPPass.nd rfl (.inl rfl)) (pgs_cons (pg_name (i := 4) scPPass.nd rfl (.inl rfl)) pgs_nil)))
          (fun _ _ _ _ _ => pts_nil)
          (fun _ _ _ _ _ => pe_tup (pa_cons (pv 3) (pa_cons (pe_call GT.F hr (by rfl) GT.m GT.kp GT.b .nil pass0 (pa_cons (pv 2) (pa_cons (pe_call GR.F hr1 (by rfl) GR.m GR.kp GR.b .nil pass0 (pa_cons (pv 4) (pa_cons (pe_fld (pv 0) rfl) pa_nil))) pa_nil))) pa_nil))))), ?_⟩
    refine ⟨_, rfl, aH, dx, _, rfl, hob, no_noted _ _ _, _, rfl, aH, aK, aN, as, st, tot, aL, hl, rfl, N, fun v H1 s1 hv => ?_⟩
    obtain ⟨l, xs, rfl, hL, hlen, hat⟩ := heldD_at hv
    refine ⟨l, rfl, ⟨_, SqL.of hL⟩, fun D hD => ?_⟩
    refine lc_list (K := K) (xs := xs) (fun i H' => Same H1 H' ∧ ∃ ys, H' D = some (.lst ys) ∧ ys.length ≤ i ∧ DtAll H' ys ((((posL hl).take i).map fun x => (x.1, Mth.tm a (Mth.mk x.2 tot))).map fun r => .tuple [.str r.1, frD r.2]))
      ⟨Same.new hD, [], upd_same, Nat.le_refl _, .nil⟩ (fun i H' _ ⟨s1, _⟩ => SqL.of (s1 _ _ hL)) ?_ ?_
    · rintro i y H' hi ⟨s2, ys, hDl, hyl, hys⟩
      obtain ⟨r, p, hr', rfl, hp⟩ := hat i y hi
      have hil : i < (posL hl).length := (List.getElem?_eq_some_iff.mp hr').1
      have hz : (posL hl).length ≤ 1000 := Nat.le_trans (List.length_filter_le _ _) N.z
      have hrl : r.2 ≤ tot := hle r (List.mem_filter.mp (List.mem_of_getElem? hr')).1
      refine ⟨p, _, rfl, SqT.of (s2 _ _ hp), rfl, _, _, rfl, _, _, rfl, rfl, rfl, yesT ?_⟩
      refine ⟨_, rfl, _, rfl, _, rfl, _, rfl, aH, CH, dx, _, _, rfl, s2 _ _ (s1 _ _ hob), T.clH, T.hu, hol_units tot aK aN, r.2, tot, rfl, t0, Nat.lt_of_lt_of_le t1 (Nat.pow_le_pow_right (by decide) (by decide)), fun v3 H3 s3 hv3 => ?_⟩
      refine ⟨va, v3, a, _, rfl, Dt.mono (s1.trans (s2.trans s3)) _ _ ha, hv3, ba, mk_bd (Nat.lt_of_le_of_lt hrl t1) t0 t1, fun v4 H4 s4 hv4 => ?_⟩
      refine ⟨(by show 2 ≤ sizeLine; decide), fun t ht => ?_⟩
      have s5 : Same H' (upd H4 t (.tup [.str r.1, v4])) := (s3.trans s4).trans (Same.new ht)
      refine ⟨ys, s5 _ _ hDl, small' (by omega), fun c u hc => ?_, ys ++ [.ref t], upd_same, by rw [List.length_append]; exact Nat.succ_le_succ hyl, ?_⟩
      · rw [upd_ne (ne_of_none hc hD)]
        exact s5 _ _ (s2 _ _ hc)
      · rw [take_succ_of hr', List.map_append, List.map_append]
        have one : DtAll (upd H4 t (.tup [.str r.1, v4])) [.ref t] [.tuple [.str r.1, frD (Mth.tm a (Mth.mk r.2 tot))]] := .cons (.tup upd_same (.cons (.str _) (.cons (Dt.mono (Same.new ht) _ _ hv4) .nil))) .nil
        have both := DtAll.snoc (DtAll.mono s5 _ _ hys) (by cases one with | cons h1 _ => exact h1)
        refine DtAll.grow (s5 _ _ hDl) ?_ _ both
        have := rows_form (((posL hl).take i).map (fun x => (x.1, Mth.tm a (Mth.mk x.2 tot))) ++ [(r.1, Mth.tm a (Mth.mk r.2 tot))])
        rw [List.map_append] at this
        exact this
    · rintro H' ⟨s2, ys, hDl, hyl, hys⟩
      rw [hlen, List.take_length] at hys
      exact k _ _ (s1.free hD) (s1.trans s2) (.lst hDl hys)
abbrev MPass (P : Program) (w : World) (K : KF) (mg : Str → Option Value) (base : Heap) (CA CH : Addr) := GM P w K mg base CX0 3 CH "passed" ["self", "day", "amount"] (spPPass CA CH)
theorem ok_ppassX {f : Addr} {fd : FuncData} {c : Cs} (F : Fun K "passed" "Holders.passed" sPPass f fd) (T : Txt K mg CA CH) (GN : MNotedX P w K mg base CA CH c) : FnOk P w K mg base (L2.CX P w) 4 f fd ["self", "day", "amount"] (spPPassX CA CH c) := by
  refine F.okX scPPass (fun vs H Q E h => ?_) (fun cdv A outer s H vs Q E hr h => ?_)
  · obtain ⟨_, _, _, _, _, _, _, _, _, _, rfl, _⟩ := h
    rfl
  · obtain ⟨aH, aK, aN, as, st, tot, aL, hl, d, va, rfl, hd, N, k⟩ := h
    obtain ⟨dx, hob⟩ := N.r.ob
    refine ⟨_, pss_one (ps_ret (pe_lc (own := [("name", 3), ("units", 4)]) (g := gTup K 2 (gCons (gName 3) (gCons (gName 4) gNil))) (tt := tYes) (te := tNvE) rfl scPPass.nd
          (pi_list (pe_meth (pv 0) T.clH GN.m GN.F hr GN.b .nil (passes_call (takes_of rfl rfl rfl rfl) (fun _ _ _ _ h => h)) (pa_cons (pv 1) pa_nil)))
          (blkOk_by (own := [("name", 3), ("units", 4)]) (N := ["self", "day", "amount", "name", "units"]) (sc := defScope sPPass) (by decide +kernel))
          (fun _ _ _ _ _ => pg_tup rfl (pgs_cons (pg_name (i := 3) scPPass.nd rfl (.inl rfl)) (pgs_cons (pg_name (i := 4) scPPass.nd rfl (.inl rfl)) pgs_nil)))
          (fun _ _ _ _ _ => pts_nil) (fun _ _ _ _ _ => pe_never))), ?_⟩
    exact ⟨_, rfl, aH, dx, _, rfl, hob, no_noted _ _ _, _, rfl, aH, aK, aN, as, st, tot, aL, hl, d, rfl, hd, N, k⟩
abbrev MPassX (P : Program) (w : World) (K : KF) (mg : Str → Option Value) (base : Heap) (CA CH : Addr) (c : Cs) := GM P w K mg base (L2.CX P w) 4 CH "passed" ["self", "day", "amount"] (spPPassX CA CH c)
/-! ### Holders.entitled -/
def spPEnt (CA CH : Addr) : Sp := fun vs H Q _ => ∃ (aH aK aN : Addr) (as : List Addr) (st : List Row) (tot : Nat) (aL : Addr) (hl : List (Str × Nat)) (va : V) (a : Fr), vs = [.ref aH, .int 7, va] ∧ Noted CA CH H aH aK aN as st tot aL hl ∧ (Mth.names st).Nodup ∧ Dt H va (frD a) ∧ Bd a ∧ 0 < tot ∧ tot < 2 ^ 1000 ∧
  (∀ x ∈ hl, x.2 ≤ tot ∧ ∃ r, Mth.find st x.1 = some r) ∧ RetD (rowsD ((passL hl tot a).filter fun r => !nomOf st r.1)) H Q
theorem scPEnt : FnScope ["self", "day", "amount", "name", "money"] ["self", "day", "amount"] (defScope sPEnt) := ⟨rfl, rfl, rfl, by decide +kernel, rfl, by decide +kernel, by decide +kernel⟩
theorem ok_pent {f : Addr} {fd : FuncData} (F : Fun K "entitled" "Holders.entitled" sPEnt f fd) (T : Txt K mg CA CH) (G : MPass P w K mg base CA CH) : FnOk P w K mg base CX0 4 f fd ["self", "day", "amount"] (spPEnt CA CH) := by
  refine F.ok scPEnt (fun vs H Q E h => ?_) (fun cdv A outer s H vs Q E hr h => ?_)
  · obtain ⟨_, _, _, _, _, _, _, _, _, _, rfl, _⟩ := h
    rfl
  · obtain ⟨aH, aK, aN, as, st, tot, aL, hl, va, a, rfl, N, nd, ha, ba, t0, t1, hle, k⟩ := h
    have hu := hu_of hr
    obtain ⟨dx, hob⟩ := N.r.ob
    refine ⟨_, pss_one (ps_ret (pe_lc (own := [("name", 3), ("money", 4)]) (g := gTup K 2 (gCons (gName 3) (gCons (gName 4) gNil))) (tt := tNot (tB (tFld K (tDGet (tFld K (tVar 0) "known") (tVar 3)) "nominee")))
        (te := tTup (tCons (tVar 3) (tCons (tVar 4) tNil))) rfl scPEnt.nd
          (pi_list (pe_meth (pv 0) T.clH G.m G.F hr G.b .nil pass0 (pa_cons (pv 1) (pa_cons (pv 2) pa_nil))))
          (blkOk_by (own := [("name", 3), ("money", 4)]) (N := ["self", "day", "amount", "name", "money"]) (sc := defScope sPEnt) (by decide +kernel))
          (fun _ _ _ _ _ => pg_tup rfl (pgs_cons (pg_name (i := 3) scPEnt.nd rfl (.inl rfl)) (pgs_cons (pg_name (i := 4) scPEnt.nd rfl (.inl rfl)) pgs_nil)))
          (fun _ _ _ _ _ => pts_one (pt_not (pt_val (pe_fld (pe_dget hu (pe_fld (pv 0) rfl) (pv 3) (fun _ _ => rfl)) rfl))))
          (fun _ _ _ _ _ => pe_tup (pa_cons (pv 3) (pa_cons (pv 4) pa_nil))))), ?_⟩
    refine ⟨_, rfl, aH, dx, _, rfl, hob, no_passed _ _ _, _, rfl, _, rfl, aH, aK, aN, as, st, tot, aL, hl, va, a, rfl, N, ha, ba, t0, t1, fun x hx => (hle x hx).1, fun l0 H1 _ s1 hv => ?_⟩
    obtain ⟨l, xs, el, hL, hlen, hat⟩ := rowsD_at hv
    cases el
    refine ⟨l0, rfl, ⟨_, SqL.of hL⟩, fun D hD => ?_⟩
    have hzz : (passL hl tot a).length ≤ 1000 := by
      unfold passL
      rw [List.length_map]
      exact Nat.le_trans (List.length_filter_le _ _) N.z
    refine lc_list (K := K) (xs := xs) (fun i H' => Same H1 H' ∧ ∃ ys, H' D = some (.lst ys) ∧ ys.length ≤ i ∧ DtAll H' ys ((((passL hl tot a).take i).filter fun r => !nomOf st r.1).map fun r => .tuple [.str r.1, frD r.2]))
      ⟨Same.new hD, [], upd_same, Nat.le_refl _, .nil⟩ (fun i H' _ ⟨s1, _⟩ => SqL.of (s1 _ _ hL)) ?_ ?_
    · rintro i y H' hi ⟨s2, ys, hDl, hyl, hys⟩
      obtain ⟨r, hr', hy⟩ := hat i y hi
      obtain ⟨p, m, rfl, hp, hm⟩ := rowD_at (Dt.mono s2 _ _ hy)
      have hil : i < (passL hl tot a).length := (List.getElem?_eq_some_iff.mp hr').1
      have hfr : ∃ q, Mth.find st r.1 = some q := by
        have hm := List.mem_of_getElem? hr'
        unfold passL at hm
        obtain ⟨x, hx, e⟩ := List.mem_map.mp hm
        have := (hle x (List.mem_filter.mp hx).1).2
        rw [← e]
        exact this
      obtain ⟨q, hq⟩ := hfr
      have NS := (N.same s1).same s2
      obtain ⟨b, xb, hvv⟩ := valV_kvs_some NS.r.ac.len hq
      have g := NS.r.get r.1
      rw [hvv] at g
      obtain ⟨dz, hb⟩ := NS.r.acc xb
      obtain ⟨dx2, hob2⟩ := NS.r.ob
      have hno : nomOf st r.1 = q.nom := by
        unfold nomOf
        rw [hq]
      refine ⟨p, _, rfl, SqT.of hp, rfl, _, _, rfl, _, _, rfl, rfl, rfl, ?_⟩
      refine ⟨_, rfl, aH, CH, dx2, _, _, rfl, hob2, T.clH, T.hk, hol_known tot aK aN, _, rfl, aK, .ref b, rfl, g, b, CA, dz, _, _, rfl, hb, T.clA, T.am, acc_nom q, q.nom, rfl, ?_⟩
      cases hqn : q.nom with
      | true =>
        refine iteF ⟨s2, ys, hDl, Nat.le_succ_of_le hyl, ?_⟩
        rw [take_succ_of hr', List.filter_append]
        simp [hno, hqn]
        exact hys
      | false =>
        refine iteT ⟨_, rfl, _, rfl, (by show 2 ≤ sizeLine; decide), fun t ht => ?_⟩
        have s5 : Same H' (upd H' t (.tup [.str r.1, m])) := Same.new ht
        refine ⟨ys, s5 _ _ hDl, small' (by omega), fun c u hc => ?_, ys ++ [.ref t], upd_same, by rw [List.length_append]; exact Nat.succ_le_succ hyl, ?_⟩
        · rw [upd_ne (ne_of_none hc hD)]
          exact s5 _ _ (s2 _ _ hc)
        · have e2 : ((passL hl tot a).take (i + 1)).filter (fun r => !nomOf st r.1) = ((passL hl tot a).take i).filter (fun r => !nomOf st r.1) ++ [r] := by
            rw [take_succ_of hr', List.filter_append]
            simp [hno, hqn]
          rw [e2, List.map_append]
          have both := DtAll.snoc (DtAll.mono s5 _ _ hys) (Dt.tup (H := upd H' t (.tup [.str r.1, m])) upd_same (.cons (.str _) (.cons (Dt.mono s5 _ _ hm) .nil)))
          refine DtAll.grow (s5 _ _ hDl) ?_ _ both
          have := rows_form (((passL hl tot a).take i).filter (fun r => !nomOf st r.1) ++ [r])
          rw [List.map_append] at this
          exact this
    · rintro H' ⟨s2, ys, hDl, hyl, hys⟩
      rw [hlen, List.take_length] at hys
      exact k _ _ (s1.trans s2) (.lst hDl hys)
theorem ok_pentX {f : Addr} {fd : FuncData} {c : Cs} (F : Fun K "entitled" "Holders.entitled" sPEnt f fd) (T : Txt K mg CA CH) (G : MPassX P w K mg base CA CH c) : FnOk P w K mg base (L2.CX P w) 5 f fd ["self", "day", "amount"] (spPPassX CA CH c) := by
  refine F.okX scPEnt (fun vs H Q E h => ?_) (fun cdv A outer s H vs Q E hr h => ?_)
  · obtain ⟨_, _, _, _, _, _, _, _, _, _, rfl, _⟩ := h
    rfl
  · obtain ⟨aH, aK, aN, as, st, tot, aL, hl, d, va, rfl, hd, N, k⟩ := h
    obtain ⟨dx, hob⟩ := N.r.ob
    refine ⟨_, pss_one (ps_ret (pe_lc (own := [("name", 3), ("money", 4)]) (g := gTup K 2 (gCons (gName 3) (gCons (gName 4) gNil))) (tt := tNot (tB tNvE)) (te := tNvE) rfl scPEnt.nd
          (pi_list (pe_meth (pv 0) T.clH G.m G.F hr G.b .nil (passes_call (takes_of rfl rfl rfl rfl) (fun _ _ _ _ h => h)) (pa_cons (pv 1) (pa_cons (pv 2) pa_nil))))
          (blkOk_by (own := [("name", 3), ("money", 4)]) (N := ["self", "day", "amount", "name", "money"]) (sc := defScope sPEnt) (by decide +kernel))
          (fun _ _ _ _ _ => pg_tup rfl (pgs_cons (pg_name (i := 3) scPEnt.nd rfl (.inl rfl)) (pgs_cons (pg_name (i := 4) scPEnt.nd rfl (.inl rfl)) pgs_nil)))
          (fun _ _ _ _ _ => pts_one (pt_not (pt_val pe_never))) (fun _ _ _ _ _ => pe_never))), ?_⟩
    exact ⟨_, rfl, aH, dx, _, rfl, hob, no_passed _ _ _, _, rfl, _, rfl, aH, aK, aN, as, st, tot, aL, hl, d, va, rfl, hd, N, k⟩
abbrev MEnt (P : Program) (w : World) (K : KF) (mg : Str → Option Value) (base : Heap) (CA CH : Addr) := GM P w K mg base CX0 4 CH "entitled" ["self", "day", "amount"] (spPEnt CA CH)
abbrev MEntX (P : Program) (w : World) (K : KF) (mg : Str → Option Value) (base : Heap) (CA CH : Addr) (c : Cs) := GM P w K mg base (L2.CX P w) 5 CH "entitled" ["self", "day", "amount"] (spPPassX CA CH c)
end
end My

set_option Elab.async false
set_option maxRecDepth 100000
set_option maxHeartbeats 4000000
set_option autoImplicit false
namespace My
open PySem L2 Xtra
abbrev sPOpen : Stmt := inClass (top 20) 2
abbrev sPMove : Stmt := inClass (top 20) 3
theorem HolAt.put {CA CH : Addr} {H : Hp} {aH aK aN : Addr} {as : List Addr} {st : List Row} {tot : Nat} {nt : List (Key × V)} (L : HolAt CA CH H aH aK aN as st tot nt) (nd : (Mth.names st).Nodup) {n : Str} {a : Addr} {r : Row} {v : Nat} {dy : Addr} (x : Ix as st n a r) :
    HolAt CA CH (upd H a (.ins CA dy (accF { r with units := v }))) aH aK aN as (Mth.setU st n v) tot nt := by
  obtain ⟨dx, ho⟩ := L.r.ob
  obtain ⟨dz, hacc⟩ := L.r.acc x
  have hH : aH ≠ a := fun z => L.r.hn (z ▸ x.mem)
  have hK : aK ≠ a := ne_of L.k hacc (by intro z; cases z)
  have hN : aN ≠ a := ne_of L.n hacc (by intro z; cases z)
  have k1 : (upd H a (.ins CA dy (accF { r with units := v }))) aK = some (.dK (kvs as (Mth.setU st n v))) := by
    rw [upd_ne hK, kvs_setU]
    exact L.k
  refine ⟨⟨⟨dx, ?_⟩, .inl k1, L.r.ac.upd L.r.nd nd x ⟨dy, rfl⟩, L.r.nd, L.r.hn⟩, k1, ?_, L.kn⟩
  · rw [upd_ne hH]
    exact ho
  · rw [upd_ne hN]
    exact L.n
section
variable {P : Program} {w : World} {K : KF} {mg : Str → Option Value} {base : Heap} {CA CH : Addr}
/-! ### Holders.open_account -/
def spPOpen (CA CH : Addr) (c : Cs) : Sp := fun vs H Q E => ∃ (aH aK aN : Addr) (as : List Addr) (st : List Row) (tot : Nat) (nt : List (Key × V)) (n : Str) (u : Option Str) (nom : Bool), vs = [.ref aH, .str n, uV u, .bl nom] ∧ HolAt CA CH H aH aK aN as st tot nt ∧ Mth.Shape st ∧ st.length ≤ 1000 ∧
  (∀ e, Mth.openM st n u nom = .error e → Fly c e H E) ∧ ∀ st' H' as', Mth.openM st n u nom = .ok st' → HolAt CA CH H' aH aK aN as' st' tot nt → (∀ b o, H b = some o → b ≠ aK → H' b = some o) → (∀ b ∈ as', b ∈ as ∨ H b = none) → Q .non H'
theorem scPOpen : FnScope ["self", "name", "under", "nominee"] ["self", "name", "under", "nominee"] (defScope sPOpen) := ⟨rfl, rfl, rfl, by decide +kernel, rfl, by decide +kernel, by decide +kernel⟩
theorem ok_popen {f fI : Addr} {fd fdI : FuncData} {c : Cs} {kws : List (Str × V)} (F : FunD K "open_account" "Holders.open_account" (defArgs sPOpen) (defBody sPOpen) (defScope sPOpen) [] kws f fd) (T : Txt K mg CA CH) (B : Blt mg) (Z : Ers P w K mg base c)
    (mM : ∃ t, mg "MOST_ABOVE" = some (.int 3 t)) (M : Mk K CA fI) (G : GAccI P w K mg base CA fI fdI) (b : Binds K fdI ["self", "name", "under", "nominee"] []) (GA : MAcc P w K mg base CA CH c) (GB : MAbove P w K mg base CA CH) :
    FnOk P w K mg base (L2.CX P w) 4 f fd ["self", "name", "under", "nominee"] (spPOpen CA CH c) := by
  refine F.ok scPOpen (fun vs H Q E h => ?_) (fun cdv A outer s H vs Q E hr h => ?_)
  · obtain ⟨_, _, _, _, _, _, _, _, _, _, rfl, _⟩ := h
    rfl
  · obtain ⟨aH, aK, aN, as, st, tot, nt, n, u, nom, rfl, L, sh, hlen, k1, k2⟩ := h
    obtain ⟨tM, mM⟩ := mM
    have hu := hu_of hr
    have hr2 := hr.mono (show 2 ≤ 3 by decide)
    obtain ⟨dx, hob⟩ := L.r.ob
    have g := L.r.get n
    refine ⟨_, pss_cons (ps_if (pt_cmp (pc_din hu (pv 1) (pe_fld (pv 0) rfl))) (pss_one (ps_raise rfl (takes_of rfl rfl rfl rfl) (pmk_oex Z.eDup.o Z.eDup.iC Z.eDup.tI Z.gDup hr2 Z.bDup .nil pass0 (by exact rfl) Z.eDup.g (pa_cons (pv 1) pa_nil)))) pss_nil)
      (pss_cons (ps_if (pt_cmpR op_notN (pv 2) pe_non (nomark _))
        (pss_cons (ps_if (pt_not (pt_val (pe_fld (pe_meth (pv 0) T.clH GA.m GA.F hr GA.b .nil (passes_call (takes_of rfl rfl rfl rfl) (fun _ _ _ _ h => h)) (pa_cons (pv 2) pa_nil)) rfl)))
          (pss_one (ps_raise rfl (takes_of rfl rfl rfl rfl) (pmk_oex Z.eNom.o Z.eNom.iC Z.eNom.tI Z.gNom hr2 Z.bNom .nil pass0 (by exact rfl) Z.eNom.g (pa_cons (pv 2) pa_nil)))) pss_nil)
        (pss_one (ps_if (pt_cmpR op_gt (pe_op op_add (pe_callB call_len_seq (by rfl) B.len bt_len (pa_cons (pe_meth (pv 0) T.clH GB.m GB.F hr2 GB.b .nil pass0 (pa_cons (pv 2) pa_nil)) pa_nil)) pe_int) (pe_glob (v := .int 3) (by exact rfl) mM ⟨_, rfl⟩) (nomark _))
          (pss_one (ps_raise rfl (takes_of rfl rfl rfl rfl) (pmk_own0 PySem.F.excBase_ValueError Z.zDeep.ex Z.zDeep.g Z.zDeep.kp (raises_own Z.zDeep.sb Z.zDeep.ty) (by exact rfl)))) pss_nil))) pss_nil)
      (pss_one (ps_dput hu (pe_fld (pv 0) rfl) (pv 1) (pe_make M G hr2 rfl T.mgA b .nil pass0 (pa_cons (pv 1) (pa_cons (pv 2) (pa_cons (pv 3) pa_nil)))) rfl))), ?_⟩
    refine ⟨_, rfl, _, rfl, aH, CH, dx, _, _, rfl, hob, T.clH, T.hk, hol_known tot aK aN, aK, _, rfl, g, _, rfl, ?_⟩
    cases hf : Mth.find st n with
    | some r =>
      obtain ⟨a, x, hv⟩ := valV_kvs_some L.r.ac.len hf
      rw [hv]
      refine iteT ⟨_, rfl, mk1 Z.eDup.o Z.nDup fun d hd => ?_⟩
      exact k1 (.dup n) (by simp [Mth.openM, hf]) d _ (Same.new hd) hd upd_same
    | none =>
      have hvn := valV_kvs_none (as := as) hf
      rw [hvn]
      refine iteF ?_
      have fin : ∀ (H1 : Hp) (s1 : Same H H1) (r : Row), r = ⟨n, u, nom, 0⟩ → Mth.openM st n u nom = .ok (st ++ [r]) →
          sDPut (tFld K (tVar 0) "known") (tVar 1) (tMake CA (spAccI CA) [] E0 (tCons (tVar 1) (tCons (tVar 2) (tCons (tVar 3) tNil)))) { nx := fun _ H' => Q .non H', rt := Q } [some (.ref aH), some (.str n), some (uV u), some (.bl nom)] H1 := by
        intro H1 s1 r hre ho
        subst hre
        have L1 := L.same s1
        obtain ⟨dx1, hob1⟩ := L1.r.ob
        refine ⟨_, rfl, _, rfl, _, rfl, fun x dxx hx hdx hne => ?_⟩
        refine ⟨x, dxx, n, u, nom, rfl, upd_same, rfl, ?_⟩
        rw [upd_upd]
        have xH : aH ≠ x := ne_of_none hob1 hx
        have dH : aH ≠ dxx := ne_of_none hob1 hdx
        have xK : aK ≠ x := ne_of_none L1.k hx
        have dK : aK ≠ dxx := ne_of_none L1.k hdx
        have s2 : Same H1 (upd (upd H1 dxx (.own x)) x (.ins CA dxx (accF ⟨n, u, nom, 0⟩))) := fun b o hb => by
          rw [upd_ne (ne_of_none hb hx), upd_ne (ne_of_none hb hdx)]
          exact hb
        refine ⟨_, rfl, aH, CH, dx1, _, _, rfl, s2 _ _ hob1, T.clH, T.hk, hol_known tot aK aN, _, rfl, aK, _, rfl, DPut.k (k := Sum.inr n) (s2 _ _ L1.k) ?_, ?_⟩
        · rw [kvs_len L.r.ac.len]
          exact small' (by omega)
        rw [putK_new _ hvn]
        have e3 : kvs as st ++ [((Sum.inr n : Key), V.ref x)] = kvs (as ++ [x]) (st ++ [⟨n, u, nom, 0⟩]) := (kvs_snoc L.r.ac.len x ⟨n, u, nom, 0⟩).symm
        rw [e3]
        have kp : ∀ b o, H1 b = some o → b ≠ aK → (upd (upd (upd H1 dxx (.own x)) x (.ins CA dxx (accF ⟨n, u, nom, 0⟩))) aK (.dK (kvs (as ++ [x]) (st ++ [⟨n, u, nom, 0⟩])))) b = some o := fun b o hb hne => by
          rw [upd_ne hne]
          exact s2 _ _ hb
        have hxa : x ∉ as := fun m => by
          obtain ⟨o, _, _, ho, _⟩ := L1.r.ac.mem m
          rw [hx] at ho
          cases ho
        refine k2 _ _ (as ++ [x]) ho ⟨⟨⟨dx1, kp _ _ hob1 (ne_of hob1 L1.k (by intro z; cases z))⟩, .inl upd_same, L1.r.ac.snoc (fun a ha o ho => kp _ _ ho fun z => ?_) (o := .ins CA dxx (accF ⟨n, u, nom, 0⟩)) ?_ ⟨dxx, rfl⟩, ?_, ?_⟩, upd_same, kp _ _ L1.n L.kn.symm, L.kn⟩
          (fun b o hb hne => kp _ _ (s1 _ _ hb) hne) fun b hb => ?_
        · obtain ⟨o', r', _, ho', dq, hR⟩ := L1.r.ac.mem ha
          rw [z, L1.k] at ho'
          cases ho'
          cases hR
        · rw [upd_ne xK.symm, upd_same]
        · rw [List.nodup_append]
          refine ⟨L.r.nd, List.nodup_cons.mpr ⟨List.not_mem_nil, List.nodup_nil⟩, fun a ha b hb z => ?_⟩
          rw [List.mem_singleton.mp hb] at z
          exact hxa (z ▸ ha)
        · intro m
          rcases List.mem_append.mp m with m | m
          · exact L.r.hn m
          · exact xH (List.mem_singleton.mp m)
        · rcases List.mem_append.mp hb with hb | hb
          · exact .inl hb
          · exact .inr (by rw [List.mem_singleton.mp hb]; exact s1.free hx)
      cases u with
      | none =>
        refine ⟨_, rfl, rfl, false, rfl, iteF ?_⟩
        exact fin H (Same.refl H) ⟨n, none, nom, 0⟩ rfl (by simp [Mth.openM, hf])
      | some y =>
        refine ⟨_, rfl, rfl, true, rfl, iteT ?_⟩
        refine ⟨_, rfl, aH, dx, _, rfl, hob, no_account _ _ _, _, rfl, aH, aK, aN, as, st, tot, y, rfl, L.r, fun hy => ?_, fun a r x => ?_⟩
        · exact k1 (.unk y) (by simp [Mth.openM, hf, hy])
        · have hy := x.find sh.nd
          obtain ⟨dy, hacc⟩ := L.r.acc x
          refine ⟨a, CA, dy, _, _, rfl, hacc, T.clA, T.am, acc_nom r, r.nom, rfl, ?_⟩
          cases hnom : r.nom with
          | false =>
            refine iteT ⟨_, rfl, mk1 Z.eNom.o Z.nNom fun d hd => ?_⟩
            exact k1 (.nomi y) (by simp [Mth.openM, hf, hy, hnom]) d _ (Same.new hd) hd upd_same
          | true =>
            have hm : y ∈ Mth.names st := Mth.one_of_find hy
            refine iteF ⟨_, rfl, aH, dx, _, rfl, hob, no_above _ _ _, _, rfl, aH, aK, aN, as, st, tot, y, rfl, L.r, sh, hm, fun v H1 s1 hv => ?_⟩
            obtain ⟨p, rfl, hp⟩ := strsD_at hv
            refine ⟨p, _, rfl, .inl (SqL.of hp), _, _, rfl, rfl, _, _, rfl, rfl, _, rfl, ?_⟩
            refine ite2 (fun e => ?_) (fun e => ?_)
            · have e1 : (3 : Int) < ((((Mth.above st y).map V.str).length : Int) + 1) := of_decide_eq_true e
              rw [List.length_map] at e1
              have h3 : 3 ≤ (Mth.above st y).length := by omega
              exact k1 .deep (by simp [Mth.openM, hf, hy, hnom, h3]) H1 s1
            · have h3 : ¬ 3 ≤ (Mth.above st y).length := fun z => e (decide_eq_true (show (3 : Int) < ((((Mth.above st y).map V.str).length : Int) + 1) by rw [List.length_map]; omega))
              exact fin H1 s1 ⟨n, some y, nom, 0⟩ rfl (by simp [Mth.openM, hf, hy, hnom, h3])
end
end My

set_option Elab.async false
set_option maxRecDepth 100000
set_option maxHeartbeats 4000000
set_option autoImplicit false
namespace My
open PySem L2 Xtra
section
variable {P : Program} {w : World} {K : KF} {mg : Str → Option Value} {base : Heap} {CA CH : Addr}
/-! ### Holders.move -/
def spPMove (CA CH : Addr) (c : Cs) : Sp := fun vs H Q E => ∃ (aH aK aN : Addr) (as : List Addr) (st : List Row) (tot : Nat) (nt : List (Key × V)) (s t : Str) (n : Nat), vs = [.ref aH, .str s, .str t, .int (n : Int)] ∧ HolAt CA CH H aH aK aN as st tot nt ∧ Mth.Shape st ∧
  (∀ e, Mth.moveM st s t n = .error e → Fly c e H E) ∧ ∀ st' H', Mth.moveM st s t n = .ok st' → HolAt CA CH H' aH aK aN as st' tot nt → (∀ b o, H b = some o → b ∉ as → H' b = some o) → Q .non H'
theorem scPMove : FnScope ["self", "source", "target", "units", "first", "second", "account"] ["self", "source", "target", "units"] (defScope sPMove) := ⟨rfl, rfl, rfl, by decide +kernel, rfl, by decide +kernel, by decide +kernel⟩
theorem ok_pmove {f : Addr} {fd : FuncData} {c : Cs} (F : Fun K "move" "Holders.move" sPMove f fd) (T : Txt K mg CA CH) (Z : Ers P w K mg base c) (GA : MAcc P w K mg base CA CH c) : FnOk P w K mg base (L2.CX P w) 4 f fd ["self", "source", "target", "units"] (spPMove CA CH c) := by
  refine F.okX scPMove (fun vs H Q E h => ?_) (fun cdv A outer sh H vs Q E hr h => ?_)
  · obtain ⟨_, _, _, _, _, _, _, _, _, _, rfl, _⟩ := h
    rfl
  · obtain ⟨aH, aK, aN, as, st, tot, nt, s, t, n, rfl, L, sh, k1, k2⟩ := h
    have hr2 := hr.mono (show 2 ≤ 3 by decide)
    obtain ⟨dx, hob⟩ := L.r.ob
    refine ⟨_, pss_cons (ps_set (i := 4) scPMove.nd rfl (.inl rfl) (pe_meth (pv 0) T.clH GA.m GA.F hr GA.b .nil (passes_call (takes_of rfl rfl rfl rfl) (fun _ _ _ _ h => h)) (pa_cons (pv 1) pa_nil)))
      (pss_cons (ps_set (i := 5) scPMove.nd rfl (.inl rfl) (pe_meth (pv 0) T.clH GA.m GA.F hr GA.b .nil (passes_call (takes_of rfl rfl rfl rfl) (fun _ _ _ _ h => h)) (pa_cons (pv 2) pa_nil)))
      (pss_cons (ps_for (passes_of rfl) rfl (pi_tup (pe_tup (pa_cons (pv 4) (pa_cons (pv 5) pa_nil)))) (pg_name (i := 6) scPMove.nd rfl (.inl rfl))
        (pss_one (ps_if (pt_val (pe_fld (pv 6) rfl)) (pss_one (ps_raise rfl (takes_of rfl rfl rfl rfl) (pmk_oex Z.eHol.o Z.eHol.iC Z.eHol.tI Z.gHol hr2 Z.bHol .nil pass0 (by exact rfl) Z.eHol.g (pa_cons (pe_fld (pv 6) rfl) pa_nil)))) pss_nil)))
      (pss_cons (ps_if (PW.pt (pw_or (pt_cmpR op_lt (pv 3) pe_int (nomark _)) (pw_or1 (pt_cmpR op_eq (pv 1) (pv 2) (nomark _))))) (pss_one (ps_raise rfl (takes_of rfl rfl rfl rfl) (pmk_own0 PySem.F.excBase_ValueError Z.zUnits.ex Z.zUnits.g Z.zUnits.kp (raises_own Z.zUnits.sb Z.zUnits.ty) (by exact rfl)))) pss_nil)
      (pss_cons (ps_if (pt_cmpR op_lt (pe_fld (pv 4) rfl) (pv 3) (nomark _)) (pss_one (ps_raise rfl (takes_of rfl rfl rfl rfl) (pmk_oex Z.eFew.o Z.eFew.iC Z.eFew.tI Z.gFew hr2 Z.bFew .nil pass0 (by exact rfl) Z.eFew.g (pa_cons (pv 1) (pa_cons (pe_fld (pv 4) rfl) pa_nil))))) pss_nil)
      (pss_cons (ps_fldaug (pv 4) (pv 3) in_sub) (pss_one (ps_fldaug (pv 5) (pv 3) in_add))))))), ?_⟩
    refine ⟨_, rfl, aH, dx, _, rfl, hob, no_account _ _ _, _, rfl, aH, aK, aN, as, st, tot, s, rfl, L.r, fun hn => k1 (.unk s) (by simp [Mth.moveM, hn]), fun a ra xa => ?_⟩
    have hra := xa.find sh.nd
    refine ⟨_, rfl, aH, dx, _, rfl, hob, no_account _ _ _, _, rfl, aH, aK, aN, as, st, tot, t, rfl, L.r, fun hn => k1 (.unk t) (by simp [Mth.moveM, hn, hra]), fun b rb xb => ?_⟩
    have hrb := xb.find sh.nd
    refine ⟨_, rfl, _, rfl, (by show 2 ≤ sizeLine; decide), fun p hp => ?_⟩
    have s1 : Same H (upd H p (.tup [.ref a, .ref b])) := Same.new hp
    generalize hH1 : upd H p (.tup [.ref a, .ref b]) = H1 at s1
    have hpp : H1 p = some (.tup [.ref a, .ref b]) := by rw [← hH1, upd_same]
    refine ⟨p, rfl, ⟨_, SqT.of hpp⟩, ?_⟩
    have L1 := L.same s1
    obtain ⟨dya, hacA⟩ := L1.r.acc xa
    obtain ⟨dyb, hacB⟩ := L1.r.acc xb
    refine for_tup (K := K) (a := p) (xs := [.ref a, .ref b]) (fun i σ H' => H' = H1 ∧ ∃ k6, σ = [some (.ref aH), some (.str s), some (.str t), some (.int (n : Int)), some (.ref a), some (.ref b), k6] ∧ (1 ≤ i → ra.nom = false) ∧ (2 ≤ i → rb.nom = false))
      ⟨rfl, none, rfl, fun z => absurd z (by decide), fun z => absurd z (by decide)⟩ (fun i σ H' _ ⟨e, _⟩ => e ▸ SqT.of hpp) ?_ ?_
    · rintro i y σ H' hi ⟨rfl, k6, rfl, h3, h4⟩
      obtain ⟨m, bm, rm, dm, rfl, hnm, hacM, hno, hyes⟩ : ∃ (m : Str) (bm : Addr) (rm : Row) (dm : Addr), y = .ref bm ∧ rm.name = m ∧ H' bm = some (.ins CA dm (accF rm)) ∧ (rm.nom = true → Mth.moveM st s t n = .error (.hold m)) ∧ (rm.nom = false → (1 ≤ i + 1 → ra.nom = false) ∧ (2 ≤ i + 1 → rb.nom = false)) := by
        rcases pair_get hi with ⟨rfl, rfl⟩ | ⟨rfl, rfl⟩
        · exact ⟨s, a, ra, dya, rfl, (Mth.find_mem hra).2, hacA, fun hn => by simp [Mth.moveM, hra, hrb, hn], fun hy => ⟨fun _ => hy, fun z => absurd z (by decide)⟩⟩
        · have hna := h3 (Nat.le_refl _)
          exact ⟨t, b, rb, dyb, rfl, (Mth.find_mem hrb).2, hacB, fun hn => by simp [Mth.moveM, hra, hrb, hna, hn], fun hy => ⟨fun _ => hna, fun _ => hy⟩⟩
      refine ⟨_, rfl, bm, CA, dm, _, _, rfl, hacM, T.clA, T.am, acc_nom rm, rm.nom, rfl, ?_⟩
      cases hnom : rm.nom with
      | true =>
        refine iteT ⟨_, rfl, bm, CA, dm, _, _, rfl, hacM, T.clA, T.an, acc_name rm, mk1 Z.eHol.o Z.nHol fun d hd => ?_⟩
        exact k1 (.hold m) (hno hnom) d _ (s1.trans (Same.new hd)) (s1.free hd) (by rw [upd_same, hnm])
      | false =>
        have := hyes hnom
        exact iteF ⟨rfl, _, rfl, this.1, this.2⟩
    rintro σ H' ⟨rfl, k6, rfl, h3, h4⟩
    have hna := h3 (by show 1 ≤ 2; decide)
    have hnb := h4 (by show 2 ≤ 2; decide)
    refine ⟨_, rfl, _, _, rfl, rfl, _, rfl, ?_⟩
    refine ite2 (fun e => ?_) (fun e => ?_)
    · have hk : n < 1 := by
        have := of_decide_eq_true e
        omega
      exact iteT (k1 .units (by simp [Mth.moveM, hra, hrb, hna, hnb, hk]) _ s1)
    have hk : ¬ n < 1 := fun z => e (decide_eq_true (by omega))
    refine ⟨_, rfl, _, rfl, rfl, _, rfl, ?_⟩
    refine ite2 (fun e => ?_) (fun e => ?_)
    · have hst : s = t := by
        have := of_decide_eq_true e
        injection this
      exact k1 .units (by simp [Mth.moveM, hra, hrb, hna, hnb, hst]) _ s1
    have hst : s ≠ t := fun z => e (decide_eq_true (by rw [z]))
    refine ⟨_, rfl, a, CA, dya, _, _, rfl, hacA, T.clA, T.ax, acc_units ra, _, rfl, _, _, rfl, rfl, _, rfl, ?_⟩
    refine ite2 (fun e => ?_) (fun e => ?_)
    · have hlt : ra.units < n := by
        have := of_decide_eq_true e
        omega
      refine ⟨_, rfl, _, rfl, a, CA, dya, _, _, rfl, hacA, T.clA, T.ax, acc_units ra, mk2 Z.eFew.o Z.nFew Z.hFew fun d hd => ?_⟩
      exact k1 (.few s ra.units) (by simp [Mth.moveM, hra, hrb, hna, hnb, hk, hst, hlt]) d _ (s1.trans (Same.new hd)) (s1.free hd) upd_same
    have hge : ¬ ra.units < n := fun z => e (decide_eq_true (by omega))
    have ho : Mth.moveM st s t n = .ok (Mth.setU (Mth.setU st s (ra.units - n)) t (rb.units + n)) := by simp [Mth.moveM, hra, hrb, hna, hnb, hk, hst, hge]
    have eA : V.int ((ra.units : Int) - (n : Int)) = V.int ((ra.units - n : Nat) : Int) := by rw [Int.ofNat_sub (by omega)]
    have eB : V.int ((rb.units : Int) + (n : Int)) = V.int ((rb.units + n : Nat) : Int) := by rw [Int.natCast_add]
    have L2' := L1.put sh.nd (v := ra.units - n) (dy := dya) xa
    have xb' : Ix as (Mth.setU st s (ra.units - n)) t b rb := xb.setU hst
    have nd3 : (Mth.names (Mth.setU st s (ra.units - n))).Nodup := by
      rw [Mth.names_setU]
      exact sh.nd
    obtain ⟨dyb', hacB'⟩ := L2'.r.acc xb'
    have L3' := L2'.put nd3 (v := rb.units + n) (dy := dyb') xb'
    refine ⟨_, rfl, a, CA, dya, _, _, rfl, hacA, T.clA, T.ax, acc_units ra, _, rfl, _, _, rfl, rfl, dya, _, hacA, (by show 4 < 1000; decide), ?_⟩
    rw [eA, acc_put]
    refine ⟨_, rfl, b, CA, dyb', _, _, rfl, hacB', T.clA, T.ax, acc_units rb, _, rfl, _, _, rfl, rfl, dyb', _, hacB', (by show 4 < 1000; decide), ?_⟩
    rw [eB, acc_put]
    refine k2 _ _ ho L3' fun c o hc hne => ?_
    rw [upd_ne fun z : c = b => hne (z ▸ xb.mem), upd_ne fun z : c = a => hne (z ▸ xa.mem)]
    exact s1 _ _ hc
end
end My

set_option Elab.async false
set_option maxRecDepth 100000
set_option maxHeartbeats 4000000
namespace RT
open PySem PySem.Spec PyProof.Rows L2
section
variable {prog : Program} {w : World} {A : Around} {E : Value → Shared → Prop} {s : Shared}
theorem extend_rev {R : Result → Shared → Prop} {it l : Addr} {items : Array Value} (hh : A.handled = none) (hit : s.heap.IsRevIter it l ((items.size : Int) - 1)) (hl : s.heap.IsList l items) (hne : l ≠ it) (hn : items.size ≤ sizeLine) (S : Addr) (res : Value) (c₀ : Nat)
    (hS : s.heap.get? S = some { cls := .type "list", data := .seq #[] c₀ }) (hSi : S ≠ it) (hSl : S ≠ l)
    (hR : ∀ h' tk acc' c', (∀ b o, b ≠ S → b ≠ it → s.heap.get? b = some o → h'.get? b = some o) → h'.get? S = some { cls := .type "list", dict := none, data := .seq acc' c', slots := #[] } →
      ItemsOf (fun i v => items[items.size - 1 - i]? = some v) acc' items.size → R (.ok (.ret res)) { s with heap := h', toks := tk }) :
    wpAny (model prog w) A.in1 (Builtin.List.listExtendWith (.ref S) (.ref it) res)
      (fun fin s' => match fin with | .done f => R (.ok f) s' | .again c' => c'.quiet = true ∧ codeAny (model prog w) A c' R s') (fun e s' => R (.error e) s') s := by
  have W := (Walks.listRev (prog := prog) (w := w) (A := A.in1) hh it l hne items).toS
  have hSf : S ∉ [it, l] := by simp only [List.mem_cons, List.not_mem_nil, or_false, not_or]; exact ⟨hSi, hSl⟩
  have hT : s.TypeIs (.ref it) "list_reverseiterator" := hit.typeIs
  have h1 : Builtin.List.listSameRef (.ref S) (.ref it) = false := by simp [Builtin.List.listSameRef, hSi]
  unfold Builtin.List.listExtendWith
  refine wpAny_bind (wpAny_typeOf hT ?_)
  rw [if_neg (by rw [h1]; decide)]
  refine wpAny_bind (wpAny_pyIter_revIter hit ?_)
  refine wpAny_bind (wpAny_holding ?_)
  unfold Builtin.List.listLengthHint
  refine wpAny_bind (wpAny_specialOf hT nolen_lri ?_)
  show wpAny _ A.in1 (specialOf (Value.ref it) (Str.ofString "__length_hint__") >>= _) _ _ _
  refine wpAny_bind (wpAny_specialOf hT hint_lri ?_)
  generalize hid : ("list_reverseiterator.__length_hint__" : String) = id0
  wp_delta
  rw [show splitId id0 = some ("list_reverseiterator", "__length_hint__") from by subst hid; decide +kernel]
  subst hid
  refine wpAny_bind (wpAny_isInstance (b := true) hT (by rw [isSubtype_type]; kernel_rfl) ?_)
  refine wpAny_pure ?_
  rw [if_neg (by decide)]
  have e0 : ((items.size : Nat) : Int) - 1 - ((0 : Nat) : Int) = (items.size : Int) - 1 := by omega
  refine wpAny_pure ⟨plainId_quiet F.plain_extend_loop _, codeAny_extend_loopS W hn _ hSf _ items.size 0 _ _ _ rfl (Nat.zero_le _) ⟨Nat.zero_le _, by rw [e0]; exact hit, hl⟩ hS (ItemsOf.nil _) fun s' acc' c' hm hS' hacc => ?_⟩
  rw [Moved.eq_with hm]
  refine hR s'.heap s'.toks acc' c' (fun b o hb hb2 e => hm.heap b o (fun hmem => ?_) e) hS' hacc
  rcases List.mem_cons.mp hmem with e' | hmem
  · exact hb e'
  · exact hb2 (List.mem_singleton.mp hmem)
theorem init_rev {R : Result → Shared → Prop} {it l : Addr} {items : Array Value} (hh : A.handled = none) (hit : s.heap.IsRevIter it l ((items.size : Int) - 1)) (hl : s.heap.IsList l items) (hne : l ≠ it) (hn : items.size ≤ sizeLine) (S : Addr)
    (hS : s.heap.get? S = some { cls := .type "list", data := .seq #[] }) (hSi : S ≠ it) (hSl : S ≠ l)
    (hR : ∀ h' tk acc' c', (∀ b o, b ≠ S → b ≠ it → s.heap.get? b = some o → h'.get? b = some o) → h'.get? S = some { cls := .type "list", dict := none, data := .seq acc' c', slots := #[] } →
      ItemsOf (fun i v => items[items.size - 1 - i]? = some v) acc' items.size → R (.ok (.ret .none)) { s with heap := h', toks := tk }) :
    wpAny (model prog w) A.in1 (Builtin.«list.__init__» ⟨[.ref S, .ref it], []⟩)
      (fun fin s' => match fin with | .done f => R (.ok f) s' | .again c' => c'.quiet = true ∧ codeAny (model prog w) A c' R s') (fun e s' => R (.error e) s') s := by
  show wpAny _ _ (do let old ← Builtin.List.listItems (.ref S); Builtin.List.listUpdate (.ref S) (fun _ => #[]); letGo old.toList.reverse; Builtin.List.listExtendWith (.ref S) (.ref it) .none) _ _ s
  refine wpAny_bind ?_
  unfold Builtin.List.listItems
  refine wpAny_bind (wpAny_seqItems hS rfl (wpAny_pure ?_))
  show wpAny _ _ (updateSeq S (fun _ => #[]) >>= fun _ => letGo (#[] : Array Value).toList.reverse >>= fun _ => Builtin.List.listExtendWith (.ref S) (.ref it) .none) _ _ s
  refine wpAny_bind (wpAny_updateSeq hS rfl ?_)
  have hS₂ := Heap.get?_update_self (Obj.mapSeq (fun _ => (#[] : Array Value))) hS rfl
  have oth : ∀ b o, b ≠ S → s.heap.get? b = some o → (s.heap.update S (Obj.mapSeq (fun _ => (#[] : Array Value)))).get? b = some o :=
    fun b o hb e => (Heap.get?_update_other _ _ (Ne.symm hb)).trans e
  refine wpAny_bind (wpAny_letGo ?_)
  obtain ⟨ol, hol, hlr⟩ := id hl
  refine extend_rev hh (hit.at fun o e => oth it o hSi.symm e) ⟨ol, oth l ol hSl.symm hol, hlr⟩ hne hn S .none _ hS₂ hSi hSl fun h' tk acc' c' hk hS' hacc => ?_
  exact hR h' tk acc' c' (fun b o hb hb2 e => hk b o hb hb2 (oth b o hb e)) hS' hacc
theorem call_list_rev {Q : Value → Shared → Prop} {it l : Addr} {items : Array Value} (hh : A.handled = none) (hit : s.heap.IsRevIter it l ((items.size : Int) - 1)) (hl : s.heap.IsList l items) (hne : l ≠ it) (hn : items.size ≤ sizeLine)
    (hQ : ∀ h' tk acc' c', (∀ b o, b ≠ it → s.heap.get? b = some o → h'.get? b = some o) →
      h'.get? s.heap.objs.size = some { cls := .type "list", dict := none, data := .seq acc' c', slots := #[] } → ItemsOf (fun i v => items[items.size - 1 - i]? = some v) acc' items.size → Q (.ref s.heap.objs.size) { s with heap := h', toks := tk }) :
    wpAny (model prog w) A (call (.type "list") [.ref it]) Q E s := by
  refine callType_codes (Q₁ := fun obj s₁ => obj = .ref s.heap.objs.size ∧ s₁ = { s with heap := s.heap.push { cls := .type "list", data := .seq #[] } }) F.called_list (F.typeCall_list_1 _) F.entry_list_init
    (code_list_new _ ⟨rfl, rfl⟩) fun obj s₁ h₁ => ?_
  obtain ⟨rfl, rfl⟩ := h₁
  have hS : (s.heap.push { cls := .type "list", data := .seq #[] }).get? s.heap.objs.size = some { cls := .type "list", data := .seq #[] } := Heap.get?_push_size _ rfl
  obtain ⟨oi, hoi, _⟩ := id hit
  obtain ⟨ol, hol, _⟩ := id hl
  have hSi : s.heap.objs.size ≠ it := Nat.ne_of_gt (Heap.lt_size hoi)
  have hSl : s.heap.objs.size ≠ l := Nat.ne_of_gt (Heap.lt_size hol)
  refine ⟨⟨_, hS, rfl⟩, F.args_list_init_2 _ _, init_rev (A := A.in1) hh (hit.at fun o e => Heap.get?_push_of_some _ e) (hl.push _) hne hn _ hS hSi hSl fun h' tk acc' c' hk hS' hacc => ?_⟩
  exact ⟨rfl, hQ h' tk acc' c' (fun b o hb e => hk b o (Nat.ne_of_lt (Heap.lt_size e)) hb (Heap.get?_push_of_some _ e)) hS' hacc⟩
end
/-- list(reversed(x)), x a list: a new list -/
def tLstRev (K : PySem.W.Frag) (te : TE) : TE := fun σ H Q => te σ H fun v H1 => ∃ (a : Addr) (xs : List V), v = .ref a ∧ SqL K H1 a xs ∧ ∀ q, H1 q = none → Q (.ref q) (upd H1 q (.lst xs.reverse))
section
variable {X : Cx}
theorem pe_lstRev {e : Expr} {te : TE} {p p2 pos pos2 : Pos} (hc : X.calm = true) (hg : Gl X "list") (hm : X.mg "list" = none) (hg2 : Gl X "reversed") (hm2 : X.mg "reversed" = none) (he : PE X e te)
    (hs : starEach [e] X.env = (false, eval e X.env) :: starEach [] X.env := by rfl)
    (hs2 : starEach [.Call (.Name "reversed" p2) [e] [] pos2] X.env = (false, eval (.Call (.Name "reversed" p2) [e] [] pos2) X.env) :: starEach [] X.env := by rfl) :
    PE X (.Call (.Name "list" p) [.Call (.Name "reversed" p2) [e] [] pos2] [] pos) (tLstRev X.K te) := by
  refine ⟨fun pins s σ H Q I h => ?_⟩
  refine Call_ (ld_blt I hg hm PyProof.Rows.boot_list (PyProof.Rows.callWith_type1 (args_cons (Call_ (ld_blt I hg2 hm2 PyProof.Rows.boot_reversed (PyProof.Rows.callWith_type1 (args_cons (thn (he.run pins s σ H _ I h) fun u s1 ⟨v, H1, I1, r1, q1⟩ => args_nil ?_) hs) hs rfl))) hs2) hs2 rfl))
  obtain ⟨a, xs, ev, hq, q⟩ := q1
  subst ev
  obtain rfl : u = Value.ref a := r1
  obtain ⟨its, rv, p', hz⟩ := I1.list hq
  refine call_reversed_list p'.isList (args_nil ?_)
  have k0 : ∀ b o, s1.heap.get? b = some o → (s1.heap.push (revObj a ((its.toArray.size : Int) - 1))).get? b = some o := fun b o e => Heap.get?_push_of_some _ e
  have hl := p'.isList
  obtain ⟨ol, hol, _⟩ := id hl
  have hne : a ≠ s1.heap.objs.size := Nat.ne_of_lt (Heap.lt_size hol)
  have hn : its.toArray.size ≤ sizeLine := by rw [List.size_toArray, ← rv.length]; exact hz
  refine call_list_rev (s := { s1 with heap := s1.heap.push (revObj a ((its.toArray.size : Int) - 1)) }) (I1.ok.hd hc) ⟨_, Heap.get?_push_size _ rfl, rfl, rfl⟩ (hl.push _) hne hn fun h' tk acc c' hk hS hi => ?_
  have kk : ∀ b o, s1.heap.get? b = some o → h'.get? b = some o := fun b o e => hk b o (Nat.ne_of_lt (Heap.lt_size e)) (k0 b o e)
  have hsz : s1.heap.objs.size ≤ (s1.heap.push (revObj a ((its.toArray.size : Int) - 1))).objs.size := by
    rw [Heap.size_push]
    exact Nat.le_succ _
  refine ⟨.ref (s1.heap.push (revObj a ((its.toArray.size : Int) - 1))).objs.size, upd H1 (s1.heap.push (revObj a ((its.toArray.size : Int) - 1))).objs.size (.lst xs.reverse), I1.laid (t' := tk) kk hsz
    (show ObjOk X.prog X.w _ _ _ (.lst xs.reverse) from ⟨by rw [List.length_reverse]; exact hz, acc.toList, c', vals_rev rv hi, ?_⟩), rfl, q _ (I1.hok.fresh hsz)⟩
  rw [Array.toArray_toList]
  exact hS
end
end RT

set_option Elab.async false
set_option maxRecDepth 100000
set_option maxHeartbeats 4000000
set_option autoImplicit false
namespace My
open PySem L2 Xtra
abbrev sDraws : Stmt := top 22
theorem abs_nn (i : Int) : 0 ≤ (if i < 0 then -i else i) := by split <;> omega
theorem fmod_nn (a : Int) {b : Int} (h : 0 < b) : 0 ≤ a.fmod b := Int.fmod_nonneg_of_pos a h
theorem fdiv_nn {a b : Int} (h : 0 ≤ a) (hb : 0 ≤ b) : 0 ≤ a.fdiv b := Int.fdiv_nonneg h hb
theorem natsV_of {is : List Int} (h : ∀ z ∈ is, 0 ≤ z) : is.map V.int = natsV (is.map Int.toNat) := by
  unfold natsV
  rw [List.map_map]
  refine List.map_congr_left fun z hz => ?_
  show V.int z = V.int ((z.toNat : Nat) : Int)
  rw [Int.toNat_of_nonneg (h z hz)]
section
variable {P : Program} {w : World} {K : KF} {mg : Str → Option Value} {base : Heap}
def spDraws (K : KF) : Sp := fun vs H Q _ => ∃ (a : Addr) (ns : List Int), vs = [.ref a] ∧ SqL K H a (ns.map V.int) ∧ ns.length ≤ 63 ∧ ∀ p H' ds, Same H H' → H p = none → H' p = some (.lst (natsV ds)) → Q (.ref p) H'
theorem scDraws : FnScope ["_law_script", "_law_draws_here", "_law_cell", "_law_number", "_law_first", "_law_k", "_law_seed"] ["_law_script"] (defScope sDraws) := ⟨rfl, rfl, rfl, by decide +kernel, rfl, by decide +kernel, by decide +kernel⟩
theorem snoc_int {H : Hp} {p : Addr} {is : List Int} {z : Int} : (upd H p (.lst (is.map V.int ++ [V.int z]))) p = some (.lst ((is ++ [z]).map V.int)) := by
  rw [upd_same, List.map_append]
  rfl
theorem nn_snoc {is : List Int} {z : Int} (h : ∀ y ∈ is, 0 ≤ y) (hz : 0 ≤ z) : ∀ y ∈ is ++ [z], 0 ≤ y := fun y hy => by
  rcases List.mem_append.mp hy with hy | hy
  · exact h y hy
  · rw [List.mem_singleton.mp hy]
    exact hz
theorem ok_draws {f : Addr} {fd : FuncData} (F : Fun K "_law_draws" "_law_draws" sDraws f fd) (B : Blt mg) : FnOk P w K mg base CX0 1 f fd ["_law_script"] (spDraws K) := by
  refine F.ok scDraws (fun vs H Q E h => ?_) (fun cdv A outer s H vs Q E hr h => ?_)
  · obtain ⟨_, _, rfl, _⟩ := h
    rfl
  · obtain ⟨a, ns, rfl, hS, hlen, k⟩ := h
    refine ⟨_, pss_cons (ps_set (i := 1) scDraws.nd rfl (.inl rfl) (pe_lst pa_nil))
      (pss_cons (ps_for PassesOwn.never rfl (pi_list (pv 0)) (pg_name (i := 2) scDraws.nd rfl (.inl rfl))
        (pss_cons (ps_set (i := 3) scDraws.nd rfl (.inl rfl) (pe_callB call_abs (by rfl) B.abs bt_abs (pa_cons (pv 2) pa_nil)))
        (pss_cons (ps_if (pt_cmpR op_lt (pv 3) (pe_op op_pow pe_int pe_int) (nomark _))
          (pss_cons (ps_set (i := 4) scDraws.nd rfl (.inl rfl) (pe_op op_modN (pe_callTy call_int1 (by rfl) B.int bt_int (pa_cons (pe_op op_add (pe_op op_mul (pv 3) pe_int) pe_int) pa_nil)) pe_int))
          (pss_cons (ps_expr (pe_bm PySem.F.plainAttrs_list PySem.F.slot_list_append PySem.F.type_list_append mt_append (pv 1) (pa_cons (pe_op op_modN (pe_callTy call_int1 (by rfl) B.int bt_int (pa_cons (pe_op op_add (pe_op op_mul (pv 4) pe_int) (pv 3)) pa_nil)) pe_int) pa_nil)))
          (pss_cons (ps_expr (pe_bm PySem.F.plainAttrs_list PySem.F.slot_list_append PySem.F.type_list_append mt_append (pv 1) (pa_cons (pe_op op_modN (pe_callTy call_int1 (by rfl) B.int bt_int (pa_cons (pe_op op_add (pv 4) (pe_op op_fdivN (pv 3) pe_int)) pa_nil)) pe_int) pa_nil)))
          (pss_one (ps_set (i := 3) scDraws.nd rfl (.inl rfl) pe_int))))) pss_nil)
        (pss_one (ps_for PassesOwn.never rfl (pi_range1 rfl B.range (pa_cons pe_int pa_nil)) (pg_name (i := 5) scDraws.nd rfl (.inl rfl))
          (pss_one (ps_if (pt_cmpR op_gt (pv 3) pe_int (nomark _))
            (pss_cons (ps_expr (pe_bm PySem.F.plainAttrs_list PySem.F.slot_list_append PySem.F.type_list_append mt_append (pv 1) (pa_cons (pe_op op_modN (pe_callTy call_int1 (by rfl) B.int bt_int (pa_cons (pv 3) pa_nil)) pe_int) pa_nil)))
            (pss_one (ps_set (i := 3) scDraws.nd rfl (.inl rfl) (pe_op op_fdivN (pv 3) pe_int)))) pss_nil)))))))
      (pss_cons (ps_set (i := 6) scDraws.nd rfl (.inl rfl) pe_int)
      (pss_cons (ps_if (pt_cmpR op_gt (pe_callB call_len_seq (by rfl) B.len bt_len (pa_cons (pv 0) pa_nil)) pe_int (nomark _))
        (pss_one (ps_set (i := 6) scDraws.nd rfl (.inl rfl) (pe_op op_add pe_int (pe_callB call_abs (by rfl) B.abs bt_abs (pa_cons (pe_ix ix_list (pv 0) pe_int (fun _ _ => rfl)) pa_nil))))) pss_nil)
      (pss_cons (ps_for PassesOwn.never rfl (pi_range1 rfl B.range (pa_cons pe_int pa_nil)) (pg_name (i := 5) scDraws.nd rfl (.inl rfl))
        (pss_cons (ps_set (i := 6) scDraws.nd rfl (.inl rfl) (pe_op op_modN (pe_callTy call_int1 (by rfl) B.int bt_int (pa_cons (pe_op op_add (pe_op op_mul (pv 6) pe_int) pe_int) pa_nil)) pe_int))
        (pss_one (ps_expr (pe_bm PySem.F.plainAttrs_list PySem.F.slot_list_append PySem.F.type_list_append mt_append (pv 1) (pa_cons (pe_op op_fdivN (pv 6) pe_int) pa_nil))))))
      (pss_one (ps_ret (RT.pe_lstRev rfl (by rfl) B.list (by rfl) B.reversed (pv 1)))))))), ?_⟩
    refine ⟨Nat.zero_le _, fun p hp => ?_⟩
    have s0 : Same H (upd H p (.lst [])) := Same.new hp
    -- what writes the list at p keeps the rest
    have keepP : ∀ (H' : Hp) (o : HO), Same H H' → Same H (upd H' p o) := fun H' o s1 b u hb => by
      rw [upd_ne (ne_of_none hb hp)]
      exact s1 _ _ hb
    refine ⟨_, rfl, a, rfl, ⟨_, s0.seq hS⟩, ?_⟩
    refine for_list (K := K) (a := a) (xs := ns.map V.int) (fun i σ H' => Same H H' ∧ ∃ (is : List Int) (c2 c3 c4 c5 : Option V), σ = [some (.ref a), some (.ref p), c2, c3, c4, c5, none] ∧ H' p = some (.lst (is.map V.int)) ∧ (∀ z ∈ is, 0 ≤ z) ∧ is.length ≤ 100 * i)
      ⟨s0, [], none, none, none, none, rfl, upd_same, fun z hz => (by cases hz), Nat.zero_le _⟩ (fun i σ H' _ ⟨s1, _⟩ => s1.seq hS) ?_ ?_
    · rintro i y σ H' hi ⟨s1, is, c2, c3, c4, c5, rfl, hl, hnn, hz⟩
      have hil : i < (ns.map V.int).length := (List.getElem?_eq_some_iff.mp hi).1
      rw [List.length_map] at hil
      obtain ⟨z, rfl⟩ : ∃ z, y = V.int z := by
        rw [List.getElem?_map] at hi
        cases e : ns[i]? with
        | none =>
          rw [e] at hi
          cases hi
        | some z =>
          rw [e] at hi
          exact ⟨z, (Option.some.inj hi).symm⟩
      refine ⟨_, rfl, _, rfl, ?_⟩
      have hm0 := abs_nn z
      show tSeq _ _ _ (([some (V.ref a), some (V.ref p), c2, c3, c4, c5, none].set 2 (some (V.int z))).set 3 (some (V.int (if z < 0 then -z else z)))) _
      generalize (if z < 0 then -z else z) = m at hm0
      -- the inner loop, from any number that is not negative
      have inner : ∀ (H1 : Hp) (is1 : List Int) (m1 : Int) (c4 c5 : Option V), Same H H1 → H1 p = some (.lst (is1.map V.int)) → (∀ z ∈ is1, 0 ≤ z) → is1.length ≤ 100 * i + 2 → 0 ≤ m1 →
          tFor (iRng1 (tCons (tC (.int 60)) tNil)) (gName 5) (tIfS (tTest (tOp (rI0 fun i j => .bl (decide (j < i))) (tVar 3) (tC (.int 0))))
              (tSeq (tDrop (tBM K "list" rAppend (tVar 1) (tCons (tOp (rI (fun _ j => j ≠ 0) fun i j => .int (i.fmod j)) (tCB (fun xs H Q => (∃ i, xs = [.int i] ∧ Q (.int i) H) ∨ ∃ k, xs = [.bl k] ∧ Q (.int (if k then 1 else 0)) H) (tCons (tVar 3) tNil)) (tC (.int 997))) tNil)))
                (tAsg (tOp (rI CDivN fun i j => .int (i.fdiv j)) (tVar 3) (tC (.int 997))) (gName 3))) tNext)
            { nx := fun σ H' => Same H H' ∧ ∃ (is : List Int) (c2 c3 c4 c5 : Option V), σ = [some (.ref a), some (.ref p), c2, c3, c4, c5, none] ∧ H' p = some (.lst (is.map V.int)) ∧ (∀ z ∈ is, 0 ≤ z) ∧ is.length ≤ 100 * (i + 1), rt := Q, bk := fun _ _ => False, ct := fun _ _ => False }
            [some (.ref a), some (.ref p), some (.int z), some (.int m1), c4, c5, none] H1 := by
        intro H1 is1 m1 c4 c5 t1 t2 t3 t4 t5
        refine ⟨60, rfl, by decide, by decide, ?_⟩
        refine for_range (n := 60) (fun j σ H' => Same H H' ∧ ∃ (is : List Int) (m : Int) (c4 c5 : Option V), σ = [some (.ref a), some (.ref p), some (.int z), some (.int m), c4, c5, none] ∧ H' p = some (.lst (is.map V.int)) ∧ (∀ z ∈ is, 0 ≤ z) ∧ is.length ≤ 100 * i + 2 + j ∧ 0 ≤ m)
          ⟨t1, is1, m1, c4, c5, rfl, t2, t3, t4, t5⟩ ?_ ?_
        · rintro j σ H' hj ⟨u1, is2, m2, c4, c5, rfl, u2, u3, u4, u5⟩
          refine ⟨_, rfl, _, _, rfl, rfl, _, rfl, ?_⟩
          refine ite2 (fun e => ?_) (fun e => ?_)
          · refine ⟨_, rfl, .inl ⟨rfl, _, SqL.of u2⟩, _, rfl, .inl ⟨_, rfl, _, _, rfl, rfl, (show (997 : Int) ≠ 0 by decide), p, _, _, rfl, rfl, u2, ?_, ?_⟩⟩
            · rw [List.length_map]
              exact small' (by omega)
            refine ⟨_, rfl, _, _, rfl, rfl, ⟨by decide, by decide⟩, keepP _ _ u1, is2 ++ [m2.fmod 997], m2.fdiv 997, _, _, rfl, snoc_int, nn_snoc u3 (fmod_nn _ (by decide)), ?_, fdiv_nn u5 (by decide)⟩
            rw [List.length_append]
            show is2.length + 1 ≤ _
            omega
          · exact ⟨u1, is2, m2, _, _, rfl, u2, u3, by omega, u5⟩
        · rintro σ H' ⟨u1, is2, m2, c4, c5, rfl, u2, u3, u4, u5⟩
          exact ⟨u1, is2, _, _, _, _, rfl, u2, u3, by omega⟩
      refine ⟨_, rfl, _, _, rfl, rfl, ⟨by decide, by decide, by decide⟩, _, _, rfl, rfl, _, rfl, ?_⟩
      refine ite2 (fun e => ?_) (fun e => ?_)
      · refine ⟨_, rfl, _, _, rfl, rfl, .inr ⟨by decide, by decide⟩, _, _, rfl, rfl, .inl ⟨_, rfl, _, _, rfl, rfl, (show (2147483647 : Int) ≠ 0 by decide), ?_⟩⟩
        refine ⟨_, rfl, .inl ⟨rfl, _, SqL.of hl⟩, _, rfl, _, _, rfl, rfl, .inr ⟨by decide, by decide⟩, _, rfl, _, _, rfl, rfl, .inl ⟨_, rfl, _, _, rfl, rfl, (show (2147483629 : Int) ≠ 0 by decide), p, _, _, rfl, rfl, hl, ?_, ?_⟩⟩
        · rw [List.length_map]
          exact small' (by omega)
        have hl2 := @snoc_int H' p is (((m * 48271 + 11).fmod 2147483647 * 69621 + m).fmod 2147483629)
        refine ⟨_, rfl, .inl ⟨rfl, _, SqL.of hl2⟩, _, rfl, _, rfl, _, _, rfl, rfl, ⟨by decide, by decide⟩, _, _, rfl, rfl, .inl ⟨_, rfl, _, _, rfl, rfl, (show (1000003 : Int) ≠ 0 by decide), p, _, _, rfl, rfl, hl2, ?_, ?_⟩⟩
        · rw [List.length_map, List.length_append]
          exact small' (by show is.length + 1 ≤ 1000000; omega)
        refine inner _ (is ++ [((m * 48271 + 11).fmod 2147483647 * 69621 + m).fmod 2147483629] ++ [((m * 48271 + 11).fmod 2147483647 + m.fdiv 7).fmod 1000003]) 0 _ _ (keepP _ _ (keepP _ _ s1)) snoc_int (nn_snoc (nn_snoc hnn (fmod_nn _ (by decide))) (fmod_nn _ (by decide))) ?_ (Int.le_refl _)
        rw [List.length_append, List.length_append]
        show is.length + 1 + 1 ≤ _
        omega
      · exact inner H' is m _ _ s1 hl hnn (by omega) hm0
    · rintro σ H' ⟨s1, is, c2, c3, c4, c5, rfl, hl, hnn, hz⟩
      rw [List.length_map] at hz
      have last : ∀ (sd : Int) (c5 : Option V), 0 ≤ sd →
          tSeq (tFor (iRng1 (tCons (tC (.int 60)) tNil)) (gName 5) (tSeq (tAsg (tOp (rI (fun _ j => j ≠ 0) fun i j => .int (i.fmod j)) (tCB (fun xs H Q => (∃ i, xs = [.int i] ∧ Q (.int i) H) ∨ ∃ k, xs = [.bl k] ∧ Q (.int (if k then 1 else 0)) H)
              (tCons (tOp (rI0 fun i j => .int (i + j)) (tOp (rI CMul fun i j => .int (i * j)) (tVar 6) (tC (.int 48271))) (tC (.int 69621))) tNil)) (tC (.int 2147483647))) (gName 6))
            (tDrop (tBM K "list" rAppend (tVar 1) (tCons (tOp (rI CDivN fun i j => .int (i.fdiv j)) (tVar 6) (tC (.int 5))) tNil))))) (tRet (RT.tLstRev K (tVar 1))) { nx := fun _ H' => Q .non H', rt := Q }
            [some (.ref a), some (.ref p), c2, c3, c4, c5, some (.int sd)] H' := by
        intro sd c5 hsd
        refine ⟨60, rfl, by decide, by decide, ?_⟩
        refine for_range (n := 60) (fun j σ H' => Same H H' ∧ ∃ (is : List Int) (sd : Int) (c5 : Option V), σ = [some (.ref a), some (.ref p), c2, c3, c4, c5, some (.int sd)] ∧ H' p = some (.lst (is.map V.int)) ∧ (∀ z ∈ is, 0 ≤ z) ∧ is.length ≤ 6300 + j ∧ 0 ≤ sd)
          ⟨s1, is, sd, c5, rfl, hl, hnn, by omega, hsd⟩ ?_ ?_
        · rintro j σ H' hj ⟨u1, is2, m2, c5, rfl, u2, u3, u4, u5⟩
          refine ⟨_, rfl, _, _, rfl, rfl, .inr ⟨by decide, by decide⟩, _, _, rfl, rfl, .inl ⟨_, rfl, _, _, rfl, rfl, (show (2147483647 : Int) ≠ 0 by decide), ?_⟩⟩
          refine ⟨_, rfl, .inl ⟨rfl, _, SqL.of u2⟩, _, rfl, _, _, rfl, rfl, ⟨by decide, by decide⟩, p, _, _, rfl, rfl, u2, ?_, ?_⟩
          · rw [List.length_map]
            exact small' (by omega)
          refine ⟨keepP _ _ u1, is2 ++ [((m2 * 48271 + 69621).fmod 2147483647).fdiv 5], _, _, rfl, snoc_int, nn_snoc u3 (fdiv_nn (fmod_nn _ (by decide)) (by decide)), ?_, fmod_nn _ (by decide)⟩
          rw [List.length_append]
          show is2.length + 1 ≤ _
          omega
        · rintro σ H' ⟨u1, is2, m2, c5, rfl, u2, u3, u4, u5⟩
          refine ⟨_, rfl, p, _, rfl, SqL.of u2, fun q hq => ?_⟩
          refine k q _ ((is2.reverse).map Int.toNat) (u1.trans (Same.new hq)) (u1.free hq) ?_
          rw [upd_same, ← List.map_reverse, natsV_of fun z hz => u3 z (List.mem_reverse.mp hz)]
      refine ⟨_, rfl, a, _, rfl, .inl (s1.seq hS), _, _, rfl, rfl, _, rfl, ?_⟩
      refine ite2 (fun e => ?_) (fun e => ?_)
      · have e1 : (0 : Int) < ((ns.map V.int).length : Int) := of_decide_eq_true e
        have hl0 : 0 < ns.length := by rw [List.length_map] at e1; omega
        refine ⟨_, rfl, a, _, 0, .int (ns[0]'hl0), rfl, rfl, s1.seq hS, ?_, _, rfl, _, _, rfl, rfl, last _ _ ?_⟩
        · refine at_of (j := 0) rfl ?_
          rw [List.getElem?_map, List.getElem?_eq_getElem hl0]
          rfl
        · have := abs_nn (ns[0]'hl0)
          omega
      · exact last 1 _ (by decide)
end
end My

set_option Elab.async false
set_option maxRecDepth 100000
set_option maxHeartbeats 4000000
set_option autoImplicit false
namespace My
open PySem L2 Xtra
abbrev sTell : Stmt := top 35
/-- which clause takes which error -/
structure Exm (K : KF) (c : Cs) : Prop where
  dup_dup : PySem.W.exmOne K (.ref c.dup) (.ref c.dup) = some true
  unk_dup : PySem.W.exmOne K (.ref c.unk) (.ref c.dup) = some false
  unk_unk : PySem.W.exmOne K (.ref c.unk) (.ref c.unk) = some true
  nomi_dup : PySem.W.exmOne K (.ref c.nomi) (.ref c.dup) = some false
  nomi_unk : PySem.W.exmOne K (.ref c.nomi) (.ref c.unk) = some false
  nomi_nomi : PySem.W.exmOne K (.ref c.nomi) (.ref c.nomi) = some true
  hold_dup : PySem.W.exmOne K (.ref c.hold) (.ref c.dup) = some false
  hold_unk : PySem.W.exmOne K (.ref c.hold) (.ref c.unk) = some false
  hold_nomi : PySem.W.exmOne K (.ref c.hold) (.ref c.nomi) = some false
  hold_hold : PySem.W.exmOne K (.ref c.hold) (.ref c.hold) = some true
  few_dup : PySem.W.exmOne K (.ref c.few) (.ref c.dup) = some false
  few_unk : PySem.W.exmOne K (.ref c.few) (.ref c.unk) = some false
  few_nomi : PySem.W.exmOne K (.ref c.few) (.ref c.nomi) = some false
  few_hold : PySem.W.exmOne K (.ref c.few) (.ref c.hold) = some false
  few_few : PySem.W.exmOne K (.ref c.few) (.ref c.few) = some true
  deep_dup : PySem.W.exmOne K (.ref c.deep) (.ref c.dup) = some false
  deep_unk : PySem.W.exmOne K (.ref c.deep) (.ref c.unk) = some false
  deep_nomi : PySem.W.exmOne K (.ref c.deep) (.ref c.nomi) = some false
  deep_hold : PySem.W.exmOne K (.ref c.deep) (.ref c.hold) = some false
  deep_few : PySem.W.exmOne K (.ref c.deep) (.ref c.few) = some false
  deep_deep : PySem.W.exmOne K (.ref c.deep) (.ref c.deep) = some true
  units_dup : PySem.W.exmOne K (.ref c.units) (.ref c.dup) = some false
  units_unk : PySem.W.exmOne K (.ref c.units) (.ref c.unk) = some false
  units_nomi : PySem.W.exmOne K (.ref c.units) (.ref c.nomi) = some false
  units_hold : PySem.W.exmOne K (.ref c.units) (.ref c.hold) = some false
  units_few : PySem.W.exmOne K (.ref c.units) (.ref c.few) = some false
  units_deep : PySem.W.exmOne K (.ref c.units) (.ref c.deep) = some false
  units_units : PySem.W.exmOne K (.ref c.units) (.ref c.units) = some true
/-- what a deed leaves of the program's own state -/
def PEnd (CA CH : Addr) (H : Hp) (aH aK aN : Addr) (as : List Addr) (st : List Row) (tot : Nat) (nt : List (Key × V)) (o : Out) (Q : VK) : Prop := ∀ v H' as', HolAt CA CH H' aH aK aN as' (nextS o st) tot nt → Dt H' v (outD o) →
  (∀ b x, H b = some x → b ≠ aK → b ∉ as → H' b = some x) → (∀ b ∈ as', b ∈ as ∨ H b = none) → Q v H'
section
variable {P : Program} {w : World} {K : KF} {mg : Str → Option Value} {base : Heap} {CA CH : Addr}
def spTell (CA CH : Addr) : Sp := fun vs H Q _ => ∃ (aH aK aN l : Addr) (as : List Addr) (st : List Row) (tot : Nat) (nt : List (Key × V)) (kind : Str), vs = [.ref aH, .str kind, .ref l] ∧ HolAt CA CH H aH aK aN as st tot nt ∧ Mth.Shape st ∧ st.length ≤ 1000 ∧
  ((kind = "open" ∧ ∃ n u nom, H l = some (.lst [.str n, uV u, .bl nom]) ∧ PEnd CA CH H aH aK aN as st tot nt (Mth.openM st n u nom) Q) ∨
   (kind ≠ "open" ∧ ∃ s t, ∃ n : Nat, H l = some (.lst [.str s, .str t, .int (n : Int)]) ∧ PEnd CA CH H aH aK aN as st tot nt (Mth.moveM st s t n) Q))
theorem scTell : FnScope ["_law_holders", "_law_kind", "_law_rows", "e"] ["_law_holders", "_law_kind", "_law_rows"] (defScope sTell) := ⟨rfl, rfl, rfl, by decide +kernel, rfl, by decide +kernel, by decide +kernel⟩
theorem no_open (tot : Nat) (aK aN : Addr) : (holF tot aK aN).lookup ("open_account" : Str) = none := hol_no _ _ _ (by decide +kernel)
theorem no_move (tot : Nat) (aK aN : Addr) : (holF tot aK aN).lookup ("move" : Str) = none := hol_no _ _ _ (by decide +kernel)
theorem xd_name (n : Str) : List.lookup ("name" : Str) [(("name" : Str), V.str n)] = some (.str n) := by kernel_rfl
theorem xd_name2 (n : Str) (h : V) : List.lookup ("name" : Str) [(("held" : Str), h), (("name" : Str), V.str n)] = some (.str n) := by kernel_rfl
theorem xd_held (n : Str) (h : V) : List.lookup ("held" : Str) [(("held" : Str), h), (("name" : Str), V.str n)] = some h := by kernel_rfl
structure GMK (P : Program) (w : World) (K : KF) (mg : Str → Option Value) (base : Heap) (CX : CXT) (k : Nat) (C : Addr) (x : Str) (ps ks : List Str) (n : Nat) (sp : Sp) where
  f : Addr
  fd : FuncData
  F : FnOk P w K mg base CX k f fd ps sp
  m : Meth K C x f
  b : KBn K fd ps n ks (fun us ws => us ++ ws) (fun vs zs => vs ++ zs)
abbrev MOpen (P : Program) (w : World) (K : KF) (mg : Str → Option Value) (base : Heap) (CA CH : Addr) (c : Cs) := GMK P w K mg base (L2.CX P w) 4 CH "open_account" ["self", "name", "under", "nominee"] ["under", "nominee"] 2 (spPOpen CA CH c)
abbrev MMove (P : Program) (w : World) (K : KF) (mg : Str → Option Value) (base : Heap) (CA CH : Addr) (c : Cs) := GM P w K mg base (L2.CX P w) 4 CH "move" ["self", "source", "target", "units"] (spPMove CA CH c)
/-- a clause that tells the name -/
def ts1 (x : Str) (C : Addr) : Addr → Value → Option Addr → TS := fun a cls d => tRet (tLst (tCons (tC (.str x)) (tCons (tXf a cls d C "name" (tVar 3)) tNil)))
def ts2 (C : Addr) : Addr → Value → Option Addr → TS := fun a cls d => tRet (tLst (tCons (tC (.str "few")) (tCons (tXf a cls d C "name" (tVar 3)) (tCons (tXf a cls d C "held" (tVar 3)) tNil))))
def ts0 (x : Str) : Addr → Value → Option Addr → TS := fun _ _ _ => tRet (tLst (tCons (tC (.str x)) tNil))
def clauses (c : Cs) : List (Value × (Addr → Value → Option Addr → TS)) :=
  [(.ref c.dup, ts1 "duplicate" c.dup), (.ref c.unk, ts1 "unknown" c.unk), (.ref c.nomi, ts1 "nominee" c.nomi), (.ref c.hold, ts1 "holder" c.hold), (.ref c.few, ts2 c.few), (.ref c.deep, ts0 "deep"), (.ref c.units, ts0 "units")]
theorem ts1_ok {x n : Str} {C a d : Addr} {D : Ends} {v0 v1 v2 : V} {o3 : Option V} {H : Hp} (hd : H d = some (.xd [("name", .str n)])) (k : ∀ v H', Same H H' → Dt H' v (.list [.str x, .str n]) → D.rt v H') :
    ts1 x C a (.ref C) (some d) (bWipe 3 D) ([some v0, some v1, some v2, o3].set 3 (some (.ref a))) H := by
  refine ⟨_, rfl, rfl, rfl, d, _, _, rfl, hd, xd_name n, (by show 2 ≤ sizeLine; decide), fun p hp => ?_⟩
  exact k _ _ (Same.new hp) (.lst upd_same (.cons (.str _) (.cons (.str _) .nil)))
theorem ts2_ok {n : Str} {h : Nat} {C a d : Addr} {D : Ends} {v0 v1 v2 : V} {o3 : Option V} {H : Hp} (hd : H d = some (.xd [("held", .int (h : Int)), ("name", .str n)])) (k : ∀ v H', Same H H' → Dt H' v (.list [.str "few", .str n, .int (h : Int)]) → D.rt v H') :
    ts2 C a (.ref C) (some d) (bWipe 3 D) ([some v0, some v1, some v2, o3].set 3 (some (.ref a))) H := by
  refine ⟨_, rfl, rfl, rfl, d, _, _, rfl, hd, xd_name2 n _, _, rfl, rfl, rfl, d, _, _, rfl, hd, xd_held n _, (by show 3 ≤ sizeLine; decide), fun p hp => ?_⟩
  exact k _ _ (Same.new hp) (.lst upd_same (.cons (.str _) (.cons (.str _) (.cons (.int _) .nil))))
theorem ts0_ok {x : Str} {a : Addr} {cls : Value} {d : Option Addr} {D : Ends} {v0 v1 v2 : V} {o3 : Option V} {H : Hp} (k : ∀ v H', Same H H' → Dt H' v (.list [.str x]) → D.rt v H') :
    ts0 x a cls d (bWipe 3 D) ([some v0, some v1, some v2, o3].set 3 (some (.ref a))) H := by
  refine ⟨(by show 1 ≤ sizeLine; decide), fun p hp => ?_⟩
  exact k _ _ (Same.new hp) (.lst upd_same (.cons (.str _) .nil))
/-- every error of the program is caught and told -/
theorem caught {c : Cs} (X : Exm K c) {D : Ends} {v0 v1 v2 : V} {o3 : Option V} {H : Hp} {Wout : WX} (e : Er) (k : ∀ v H', Same H H' → Dt H' v (errD e) → D.rt v H') :
    Fly c e H (WE (wManyAs K 3 Wout D (clauses c)) [some v0, some v1, some v2, o3]) := by
  cases e with
  | dup n => exact fun d H' s _ hd => ⟨true, X.dup_dup, fun _ a _ => ts1_ok hd fun v H2 s2 q => k v H2 (s.trans s2) q, fun z => by cases z⟩
  | unk n => exact fun d H' s _ hd => ⟨false, X.unk_dup, fun z => (by cases z), fun _ => ⟨true, X.unk_unk, fun _ a _ => ts1_ok hd fun v H2 s2 q => k v H2 (s.trans s2) q, fun z => by cases z⟩⟩
  | nomi n => exact fun d H' s _ hd => ⟨false, X.nomi_dup, fun z => (by cases z), fun _ => ⟨false, X.nomi_unk, fun z => (by cases z), fun _ => ⟨true, X.nomi_nomi, fun _ a _ => ts1_ok hd fun v H2 s2 q => k v H2 (s.trans s2) q, fun z => by cases z⟩⟩⟩
  | hold n => exact fun d H' s _ hd => ⟨false, X.hold_dup, fun z => (by cases z), fun _ => ⟨false, X.hold_unk, fun z => (by cases z), fun _ => ⟨false, X.hold_nomi, fun z => (by cases z), fun _ => ⟨true, X.hold_hold, fun _ a _ => ts1_ok hd fun v H2 s2 q => k v H2 (s.trans s2) q, fun z => by cases z⟩⟩⟩⟩
  | few n h => exact fun d H' s _ hd => ⟨false, X.few_dup, fun z => (by cases z), fun _ => ⟨false, X.few_unk, fun z => (by cases z), fun _ => ⟨false, X.few_nomi, fun z => (by cases z), fun _ => ⟨false, X.few_hold, fun z => (by cases z), fun _ => ⟨true, X.few_few, fun _ a _ => ts2_ok hd fun v H2 s2 q => k v H2 (s.trans s2) q, fun z => by cases z⟩⟩⟩⟩⟩
  | deep => exact fun H' s => ⟨false, X.deep_dup, fun z => (by cases z), fun _ => ⟨false, X.deep_unk, fun z => (by cases z), fun _ => ⟨false, X.deep_nomi, fun z => (by cases z), fun _ => ⟨false, X.deep_hold, fun z => (by cases z), fun _ => ⟨false, X.deep_few, fun z => (by cases z), fun _ =>
      ⟨true, X.deep_deep, fun _ a _ => ts0_ok fun v H2 s2 q => k v H2 (s.trans s2) q, fun z => by cases z⟩⟩⟩⟩⟩⟩
  | units => exact fun H' s => ⟨false, X.units_dup, fun z => (by cases z), fun _ => ⟨false, X.units_unk, fun z => (by cases z), fun _ => ⟨false, X.units_nomi, fun z => (by cases z), fun _ => ⟨false, X.units_hold, fun z => (by cases z), fun _ => ⟨false, X.units_few, fun z => (by cases z), fun _ =>
      ⟨false, X.units_deep, fun z => (by cases z), fun _ => ⟨true, X.units_units, fun _ a _ => ts0_ok fun v H2 s2 q => k v H2 (s.trans s2) q, fun z => by cases z⟩⟩⟩⟩⟩⟩⟩
theorem ok_tell {f : Addr} {fd : FuncData} {c : Cs} (F : Fun K "_law_tell" "_law_tell" sTell f fd) (T : Txt K mg CA CH) (Z : Ers P w K mg base c) (X : Exm K c) (GO : MOpen P w K mg base CA CH c) (GV : MMove P w K mg base CA CH c) : FnOk P w K mg base CX0 5 f fd ["_law_holders", "_law_kind", "_law_rows"] (spTell CA CH) := by
  refine F.ok scTell (fun vs H Q E h => ?_) (fun cdv A outer s H vs Q E hr h => ?_)
  · obtain ⟨_, _, _, _, _, _, _, _, _, rfl, _⟩ := h
    rfl
  · obtain ⟨aH, aK, aN, l, as, st, tot, nt, kind, rfl, L, sh, hlen, hk⟩ := h
    obtain ⟨dx, hob⟩ := L.r.ob
    refine ⟨_, pss_cons (ps_try_manyAs (i := 3) (l := clauses c) (tb := fun W => tIfS (tTest (tOp rEq (tVar 1) (tC (.str "open"))))
          (tDrop (tMethKZ CH "open_account" 2 2 (spPOpen CA CH c) (fun vs zs => vs ++ zs) (WE W) (tVar 0) (tCons (tOp (rIxL K) (tVar 2) (tC (.int 0))) tNil) (tCons (tOp (rIxL K) (tVar 2) (tC (.int 1))) (tCons (tOp (rIxL K) (tVar 2) (tC (.int 2))) tNil))))
          (tDrop (tMethZ CH "move" (spPMove CA CH c) (WE W) (tVar 0) (tCons (tOp (rIxL K) (tVar 2) (tC (.int 0))) (tCons (tOp (rIxL K) (tVar 2) (tC (.int 1))) (tCons (tOp (rIxL K) (tVar 2) (tC (.int 2))) tNil))))))
        rfl rfl scTell.nd rfl rfl takes0
        (fun W pn xe tk _ => pss_one (ps_if (pt_cmpR op_eq (pv 1) pe_str (nomark _))
          (pss_one (ps_expr (pe_methKZ (pv 0) T.clH GO.m GO.F hr GO.b (fun σ => passAt tk σ) (pa_cons (pe_ix ix_list (pv 2) pe_int (fun _ _ => rfl)) pa_nil) (pk_cons (pe_ix ix_list (pv 2) pe_int (fun _ _ => rfl)) (pk_cons (pe_ix ix_list (pv 2) pe_int (fun _ _ => rfl)) pk_nil)))))
          (pss_one (ps_expr (pe_methZ (pv 0) T.clH GV.m GV.F hr GV.b (fun σ => passAt tk σ) (pa_cons (pe_ix ix_list (pv 2) pe_int (fun _ _ => rfl)) (pa_cons (pe_ix ix_list (pv 2) pe_int (fun _ _ => rfl)) (pa_cons (pe_ix ix_list (pv 2) pe_int (fun _ _ => rfl)) pa_nil))))))))
        (.cons ⟨rfl, by decide, .inl Z.eDup.g⟩ (fun a oe cls d pn hz hf => pss_one (ps_ret (pe_lst (pa_cons pe_str (pa_cons (pe_xf Z.eDup.xf Z.nDup hz hf (pv 3)) pa_nil)))))
        (.cons ⟨rfl, by decide, .inl Z.eUnk.g⟩ (fun a oe cls d pn hz hf => pss_one (ps_ret (pe_lst (pa_cons pe_str (pa_cons (pe_xf Z.eUnk.xf Z.nUnk hz hf (pv 3)) pa_nil)))))
        (.cons ⟨rfl, by decide, .inl Z.eNom.g⟩ (fun a oe cls d pn hz hf => pss_one (ps_ret (pe_lst (pa_cons pe_str (pa_cons (pe_xf Z.eNom.xf Z.nNom hz hf (pv 3)) pa_nil)))))
        (.cons ⟨rfl, by decide, .inl Z.eHol.g⟩ (fun a oe cls d pn hz hf => pss_one (ps_ret (pe_lst (pa_cons pe_str (pa_cons (pe_xf Z.eHol.xf Z.nHol hz hf (pv 3)) pa_nil)))))
        (.cons ⟨rfl, by decide, .inl Z.eFew.g⟩ (fun a oe cls d pn hz hf => pss_one (ps_ret (pe_lst (pa_cons pe_str (pa_cons (pe_xf Z.eFew.xf Z.nFew hz hf (pv 3)) (pa_cons (pe_xf Z.eFew.xf Z.hFew hz hf (pv 3)) pa_nil))))))
        (.cons ⟨rfl, by decide, .inl Z.zDeep.g⟩ (fun a oe cls d pn hz hf => pss_one (ps_ret (pe_lst (pa_cons pe_str pa_nil))))
        (.cons ⟨rfl, by decide, .inl Z.zUnits.g⟩ (fun a oe cls d pn hz hf => pss_one (ps_ret (pe_lst (pa_cons pe_str pa_nil))))
        .nil))))))))
      (pss_one (ps_ret (pe_lst pa_nil))), ?_⟩
    refine ⟨_, rfl, rfl, _, rfl, ?_⟩
    rcases hk with ⟨rfl, n, u, nom, hl, k⟩ | ⟨hne, s, t, n, hl, k⟩
    · refine iteT ?_
      refine ⟨_, rfl, aH, dx, _, rfl, hob, no_open _ _ _, _, rfl, l, _, _, _, rfl, rfl, SqL.of hl, rfl, _, rfl, l, _, _, _, rfl, rfl, SqL.of hl, rfl, _, rfl, l, _, _, _, rfl, rfl, SqL.of hl, rfl, rfl, rfl, ?_⟩
      refine ⟨aH, aK, aN, as, st, tot, nt, n, u, nom, rfl, L, sh, hlen, fun e he => caught X e fun v H' s2 q => ?_, fun st' H' as' ho L' kp fr => ?_⟩
      · rw [he] at k
        exact k v H' as (L.same s2) q (fun b x hb _ _ => s2 _ _ hb) fun b hb => .inl hb
      · refine ⟨Nat.zero_le _, fun p hp => ?_⟩
        rw [ho] at k
        refine k _ _ as' (L'.same (Same.new hp)) (.lst upd_same .nil) (fun b x hb h1 h2 => ?_) fr
        have hb2 := kp b x hb h1
        rw [upd_ne (ne_of_none hb2 hp)]
        exact hb2
    · have hd : decide (V.str kind = V.str "open") = false := decide_eq_false fun z => hne (by injection z)
      rw [hd]
      refine iteF ?_
      refine ⟨_, rfl, aH, dx, _, rfl, hob, no_move _ _ _, _, rfl, l, _, _, _, rfl, rfl, SqL.of hl, rfl, _, rfl, l, _, _, _, rfl, rfl, SqL.of hl, rfl, _, rfl, l, _, _, _, rfl, rfl, SqL.of hl, rfl, ?_⟩
      refine ⟨aH, aK, aN, as, st, tot, nt, s, t, n, rfl, L, sh, fun e he => caught X e fun v H' s2 q => ?_, fun st' H' ho L' kp => ?_⟩
      · rw [he] at k
        exact k v H' as (L.same s2) q (fun b x hb _ _ => s2 _ _ hb) fun b hb => .inl hb
      · refine ⟨Nat.zero_le _, fun p hp => ?_⟩
        rw [ho] at k
        refine k _ _ as (L'.same (Same.new hp)) (.lst upd_same .nil) (fun b x hb h1 h2 => ?_) fun b hb => .inl hb
        have hb2 := kp b x hb h2
        rw [upd_ne (ne_of_none hb2 hp)]
        exact hb2
abbrev GTell (P : Program) (w : World) (K : KF) (mg : Str → Option Value) (base : Heap) (CA CH : Addr) := GF P w K mg base CX0 5 "_law_tell" ["_law_holders", "_law_kind", "_law_rows"] (spTell CA CH)
end
end My

set_option Elab.async false
set_option maxRecDepth 100000
set_option maxHeartbeats 4000000
set_option autoImplicit false
namespace My
open PySem L2 Xtra
abbrev sDeed : Stmt := top 36
/-- the whole world: the draws, the law's own state, the program's; what stands in G is none of it -/
structure Wd (CA CH : Addr) (G H : Hp) (aD aS aH : Addr) (ds : List Nat) (st : List Row) (tot : Nat) (nt : List (Key × V)) : Prop where
  dr : H aD = some (.lst (natsV ds))
  ex : ∃ aR rs aK aN as, LawAt H aS aR rs st tot ∧ HolAt CA CH H aH aK aN as st tot nt ∧ aD ≠ aR ∧ aD ∉ rs ∧ aD ≠ aS ∧ G aR = none ∧ (∀ b ∈ rs, G b = none) ∧ G aK = none ∧ (∀ b ∈ as, G b = none)
  gs : Same G H
  gD : G aD = none
theorem Wd.same {CA CH : Addr} {G H H' : Hp} {aD aS aH : Addr} {ds : List Nat} {st : List Row} {tot : Nat} {nt : List (Key × V)} (W : Wd CA CH G H aD aS aH ds st tot nt) (e : Same H H') : Wd CA CH G H' aD aS aH ds st tot nt := by
  obtain ⟨aR, rs, aK, aN, as, L, M, x⟩ := W.ex
  exact ⟨e _ _ W.dr, ⟨aR, rs, aK, aN, as, L.same e, M.same e, x⟩, W.gs.trans e, W.gD⟩
theorem Wd.pop {CA CH : Addr} {G H : Hp} {aD aS aH : Addr} {ds : List Nat} {st : List Row} {tot : Nat} {nt : List (Key × V)} (W : Wd CA CH G H aD aS aH ds st tot nt) (ds' : List Nat) : Wd CA CH G (upd H aD (.lst (natsV ds'))) aD aS aH ds' st tot nt := by
  obtain ⟨aR, rs, aK, aN, as, L, M, h1, h2, h3, x⟩ := W.ex
  refine ⟨upd_same, ⟨aR, rs, aK, aN, as, L.keep fun a xs ha hm => ?_, M.keep fun a o ho ha => ?_, h1, h2, h3, x⟩, fun b o hb => ?_, W.gD⟩
  · have : a ≠ aD := by
      rcases hm with rfl | rfl | hm
      · exact h3.symm
      · exact h1.symm
      · exact fun z => h2 (z ▸ hm)
    rw [upd_ne this]
    exact ha
  · have : a ≠ aD := fun z => ho (natsV ds) (by rw [z, W.dr] at ha; exact (Option.some.inj ha).symm)
    rw [upd_ne this]
    exact ha
  · rw [upd_ne (ne_of_none hb W.gD)]
    exact W.gs _ _ hb
theorem nats_strs {ds : List Nat} {l : List Str} (h : l ≠ []) : HO.lst (l.map V.str) ≠ HO.lst (natsV ds) := by
  intro z
  cases l with
  | nil => exact h rfl
  | cons x l =>
    cases ds with
    | nil => cases z
    | cons d ds => cases z
theorem nice_out (o : Out) : Nice 4 (outD o) := by
  cases o with
  | ok s => exact ⟨by decide, fun d hd => by cases hd⟩
  | error e =>
    have one : ∀ ds : List PyData, ds.length ≤ 1000 → (∀ d ∈ ds, (∃ s, d = .str s) ∨ ∃ i, d = .int i) → Nice 4 (.list ds) := fun ds h1 h2 => ⟨h1, fun d hd => by
      rcases h2 d hd with ⟨s, rfl⟩ | ⟨i, rfl⟩
      · exact True.intro
      · exact True.intro⟩
    cases e <;> exact one _ (by simp) (by simp)
/-- the names are short -/
def NmOk (st : List Row) : Prop := ∀ n ∈ Mth.names st, PyData.strOk n = true
section
variable {P : Program} {w : World} {K : KF} {mg : Str → Option Value} {base : Heap} {CA CH : Addr}
def spDeed (CA CH : Addr) : Sp := fun vs H Q _ => ∃ (G : Hp) (aD aS aH : Addr) (ds : List Nat) (st : List Row) (tot : Nat) (nt : List (Key × V)) (op : Int), vs = [.ref aD, .ref aH, .ref aS, .int op] ∧ Wd CA CH G H aD aS aH ds st tot nt ∧ Mth.Good ("state" : Str) tot st ∧ st.length ≤ 900 ∧
  ∀ H' ds' st', Wd CA CH G H' aD aS aH ds' st' tot nt → Mth.Good ("state" : Str) tot st' → Mth.Extd st st' → st'.length ≤ st.length + 1 → (NmOk st → NmOk st') → Q (.bl true) H'
/-- the end of a deed: the law's own answer stands, the program's is asked -/
theorem deed_end {G H H1 H2 : Hp} {aD aS aH aR aK aN : Addr} {rs as rs1 : List Addr} {ds : List Nat} {st : List Row} {tot : Nat} {nt : List (Key × V)} {o : Out} {Q : VK} {vd : V} (W : Wd CA CH G H aD aS aH ds st tot nt)
    (L : LawAt H aS aR rs st tot) (M : HolAt CA CH H aH aK aN as st tot nt) (h1 : aD ≠ aR) (h2 : aD ∉ rs) (h3 : aD ≠ aS) (g1 : G aR = none) (g2 : ∀ b ∈ rs, G b = none) (g3 : G aK = none) (g4 : ∀ b ∈ as, G b = none)
    (L1 : LawAt H1 aS aR rs1 (nextS o st) tot) (hv : Dt H1 vd (outD o)) (kp : LKeep H H1 aR rs) (fr : ∀ b ∈ rs1, b ∈ rs ∨ H b = none) (s2 : Same H1 H2)
    (k : ∀ H', Wd CA CH G H' aD aS aH ds (nextS o st) tot nt → ∀ v, Dt H' v (outD o) → Dt H' vd (outD o) → Q v H') :
    HolAt CA CH H2 aH aK aN as st tot nt ∧ PEnd CA CH H2 aH aK aN as st tot nt o Q := by
  have M1 : HolAt CA CH H1 aH aK aN as st tot nt := M.keep fun a u hu ha => kp a u ha (fun z => hu _ (by rw [z, L.ra] at ha; exact (Option.some.inj ha).symm)) fun m => by
    obtain ⟨o', r, _, ho', hR⟩ := L.rp.mem m
    rw [ha] at ho'
    cases ho'
    exact hu _ hR
  have M2 := M1.same s2
  have hD1 : H1 aD = some (.lst (natsV ds)) := kp _ _ W.dr h1 h2
  refine ⟨M2, fun v H3 as3 M3 hv3 kp3 fr3 => ?_⟩
  have lst3 : ∀ b xs, H2 b = some (.lst xs) → H3 b = some (.lst xs) := fun b xs hb => kp3 _ _ hb (ne_of hb M2.k (by intro z; cases z)) fun m => by
    obtain ⟨o', r, _, ho', dx, hR⟩ := M2.r.ac.mem m
    rw [hb] at ho'
    cases ho'
    cases hR
  have tup3 : ∀ b xs, H2 b = some (.tup xs) → H3 b = some (.tup xs) := fun b xs hb => kp3 _ _ hb (ne_of hb M2.k (by intro z; cases z)) fun m => by
    obtain ⟨o', r, _, ho', dx, hR⟩ := M2.r.ac.mem m
    rw [hb] at ho'
    cases ho'
    cases hR
  have G1 : Same G H1 := fun b u hb => kp b u (W.gs _ _ hb) (ne_of_none hb g1) fun m => by rw [g2 b m] at hb; cases hb
  refine k H3 ⟨lst3 _ _ (s2 _ _ hD1), ⟨aR, rs1, aK, aN, as3, (L1.same s2).keep fun a xs ha _ => lst3 _ _ ha, M3, h1, fun m => ?_, h3, g1, fun b hb => ?_, g3, fun b hb => ?_⟩, fun b u hb => ?_, W.gD⟩ v hv3 (Dt.lt lst3 tup3 _ _ (Dt.mono s2 _ _ hv))
  · rcases fr aD m with z | z
    · exact h2 z
    · rw [W.dr] at z
      cases z
  · rcases fr b hb with z | z
    · exact g2 b z
    · exact W.gs.free z
  · rcases fr3 b hb with z | z
    · exact g4 b z
    · exact G1.free (s2.free z)
  · exact kp3 b u (s2 _ _ (G1 _ _ hb)) (ne_of_none hb g3) fun m => by rw [g4 b m] at hb; cases hb
theorem scDeed : FnScope ["_law_draws_here", "_law_holders", "_law_state", "_law_opening", "_law_words_here", "_law_name", "_law_under", "_law_nominee", "_law_due", "_law_known", "_law_source", "_law_target", "_law_units", "_law_row"]
    ["_law_draws_here", "_law_holders", "_law_state", "_law_opening"] (defScope sDeed) := ⟨rfl, rfl, rfl, by decide +kernel, rfl, by decide +kernel, by decide +kernel⟩
abbrev GWords (P : Program) (w : World) (K : KF) (mg : Str → Option Value) (base : Heap) := GF P w K mg base CX0 1 "_law_words" [] spWords
abbrev GOpenL (P : Program) (w : World) (K : KF) (mg : Str → Option Value) (base : Heap) := GF P w K mg base CX0 3 "_law_open" ["_law_state", "_law_name", "_law_under", "_law_nominee"] spOpenL
abbrev GMoveL (P : Program) (w : World) (K : KF) (mg : Str → Option Value) (base : Heap) := GF P w K mg base CX0 2 "_law_move" ["_law_state", "_law_source", "_law_target", "_law_units"] spMoveL
theorem words_ok : ∀ s ∈ words, PyData.strOk s = true := by decide +kernel
theorem words_at (n : Nat) (h : n < 7) : ∃ x, atI (words.map V.str) (1 + (n : Int)) = some (.str x) ∧ PyData.strOk x = true := by
  have e : (1 + (n : Int)) = ((1 + n : Nat) : Int) := by omega
  have hl : 1 + n < words.length := by
    show 1 + n < 8
    omega
  refine ⟨words[1 + n], ?_, words_ok _ (List.getElem_mem hl)⟩
  rw [e]
  refine atI_nat ?_
  rw [List.getElem?_map, List.getElem?_eq_getElem hl]
  rfl
theorem next_open {st : List Row} {tot : Nat} (g : Mth.Good ("state" : Str) tot st) (n : Str) (u : Option Str) (nom : Bool) (hn : PyData.strOk n = true) : Mth.Good ("state" : Str) tot (nextS (Mth.openM st n u nom) st) ∧ Mth.Extd st (nextS (Mth.openM st n u nom) st) ∧ (nextS (Mth.openM st n u nom) st).length ≤ st.length + 1 ∧ (NmOk st → NmOk (nextS (Mth.openM st n u nom) st)) := by
  cases e : Mth.openM st n u nom with
  | error x => exact ⟨g, Mth.Extd.refl st, Nat.le_succ _, fun z => z⟩
  | ok st' =>
    obtain ⟨h1, h2, _, rfl, _⟩ := Mth.good_open g e
    refine ⟨h1, h2, by show (st ++ [_]).length ≤ _; rw [List.length_append]; exact Nat.le_refl _, fun z m hm => ?_⟩
    have hm : m ∈ Mth.names (st ++ [⟨n, u, nom, 0⟩]) := hm
    rw [Mth.names_snoc] at hm
    rcases List.mem_append.mp hm with hm | hm
    · exact z m hm
    · rw [List.mem_singleton.mp hm]
      exact hn
theorem next_move {st : List Row} {tot : Nat} (g : Mth.Good ("state" : Str) tot st) (s t : Str) (n : Nat) : Mth.Good ("state" : Str) tot (nextS (Mth.moveM st s t n) st) ∧ Mth.Extd st (nextS (Mth.moveM st s t n) st) ∧ (nextS (Mth.moveM st s t n) st).length ≤ st.length + 1 ∧ (NmOk st → NmOk (nextS (Mth.moveM st s t n) st)) := by
  cases e : Mth.moveM st s t n with
  | error x => exact ⟨g, Mth.Extd.refl st, Nat.le_succ _, fun z => z⟩
  | ok st' =>
    obtain ⟨h1, h2⟩ := Mth.good_move g e
    refine ⟨h1, h2, by show st'.length ≤ _; rw [Mth.len_move e]; exact Nat.le_succ _, fun z m hm => ?_⟩
    obtain ⟨a, b, _, _, _, _, _, _, _, e2⟩ := Mth.move_ok e
    have hm : m ∈ Mth.names st' := hm
    rw [e2, Mth.names_setU, Mth.names_setU] at hm
    exact z m hm
abbrev DeedK (CA CH : Addr) (G : Hp) (aD aS aH : Addr) (st : List Row) (tot : Nat) (nt : List (Key × V)) (Q : VK) : Prop := ∀ H' ds' st', Wd CA CH G H' aD aS aH ds' st' tot nt → Mth.Good ("state" : Str) tot st' → Mth.Extd st st' → st'.length ≤ st.length + 1 → (NmOk st → NmOk st') → Q (.bl true) H'
theorem deed_open {G H : Hp} {aD aS aH : Addr} {ds : List Nat} {st : List Row} {tot : Nat} {nt : List (Key × V)} {Q : VK} (W : Wd CA CH G H aD aS aH ds st tot nt) (g : Mth.Good ("state" : Str) tot st) (hlen : st.length ≤ 900)
    (k : DeedK CA CH G aD aS aH st tot nt Q) {D : Ends} (hD : D.rt = Q) {n : Str} {u : Option Str} {nom : Bool} (hn : PyData.strOk n = true) {o3 o4 o8 o9 o10 o11 o12 o13 : Option V} :
    tSeq (tAsg (tCall spOpenL [] E0 (tCons (tVar 2) (tCons (tVar 5) (tCons (tVar 6) (tCons (tVar 7) tNil))))) (gName 8))
      (tRet (tCall (spSame 4) [] E0 (tCons (tCall (spTell CA CH) [] E0 (tCons (tVar 1) (tCons (tC (.str "open")) (tCons (tLst (tCons (tVar 5) (tCons (tVar 6) (tCons (tVar 7) tNil)))) tNil)))) (tCons (tVar 8) tNil))))
      D [some (.ref aD), some (.ref aH), some (.ref aS), o3, o4, some (.str n), some (uV u), some (.bl nom), o8, o9, o10, o11, o12, o13] H := by
  obtain ⟨aR, rs, aK, aN, as, L, M, h1, h2, h3, g1, g2, g3, g4⟩ := W.ex
  refine ⟨_, rfl, _, rfl, _, rfl, _, rfl, aS, aR, rs, st, tot, n, u, nom, rfl, L, g.sh, Nat.le_trans hlen (by decide), fun vd H1 rs1 L1 hv kp fr => ?_⟩
  refine ⟨_, rfl, _, rfl, _, rfl, _, rfl, (by show 3 ≤ sizeLine; decide), fun l hl => ?_⟩
  obtain ⟨k1, k2, k3, k4⟩ := next_open g n u nom hn
  have E2 := deed_end (Q := fun v H' => ∃ x, ([some (.ref aD), some (.ref aH), some (.ref aS), o3, o4, some (.str n), some (uV u), some (.bl nom), some vd, o9, o10, o11, o12, o13] : L2.St)[8]? = some (some x) ∧ spSame 4 [v, x] H' D.rt E0) W L M h1 h2 h3 g1 g2 g3 g4 L1 hv kp fr (Same.new (o := .lst [.str n, uV u, .bl nom]) hl)
    (fun H' W' v q1 q2 => ⟨vd, rfl, v, vd, _, rfl, q1, q2, nice_out _, by rw [hD]; exact k H' ds _ W' k1 k2 k3 k4⟩)
  exact ⟨aH, aK, aN, l, as, st, tot, nt, "open", rfl, E2.1, g.sh, Nat.le_trans hlen (by decide), .inl ⟨rfl, n, u, nom, upd_same, E2.2⟩⟩
theorem deed_move {G H : Hp} {aD aS aH : Addr} {ds : List Nat} {st : List Row} {tot : Nat} {nt : List (Key × V)} {Q : VK} (W : Wd CA CH G H aD aS aH ds st tot nt) (g : Mth.Good ("state" : Str) tot st) (hlen : st.length ≤ 900)
    (k : DeedK CA CH G aD aS aH st tot nt Q) {D : Ends} (hD : D.rt = Q) {s t : Str} {n : Nat} {o3 o4 o5 o6 o7 o8 o9 o13 : Option V} :
    tSeq (tAsg (tCall spMoveL [] E0 (tCons (tVar 2) (tCons (tVar 10) (tCons (tVar 11) (tCons (tVar 12) tNil))))) (gName 8))
      (tRet (tCall (spSame 4) [] E0 (tCons (tCall (spTell CA CH) [] E0 (tCons (tVar 1) (tCons (tC (.str "move")) (tCons (tLst (tCons (tVar 10) (tCons (tVar 11) (tCons (tVar 12) tNil)))) tNil)))) (tCons (tVar 8) tNil))))
      D [some (.ref aD), some (.ref aH), some (.ref aS), o3, o4, o5, o6, o7, o8, o9, some (.str s), some (.str t), some (.int (n : Int)), o13] H := by
  obtain ⟨aR, rs, aK, aN, as, L, M, h1, h2, h3, g1, g2, g3, g4⟩ := W.ex
  refine ⟨_, rfl, _, rfl, _, rfl, _, rfl, aS, aR, rs, st, tot, s, t, n, rfl, L, g.sh, Nat.le_trans hlen (by decide), fun vd H1 rs1 L1 hv kp fr => ?_⟩
  refine ⟨_, rfl, _, rfl, _, rfl, _, rfl, (by show 3 ≤ sizeLine; decide), fun l hl => ?_⟩
  obtain ⟨k1, k2, k3, k4⟩ := next_move g s t n
  have E2 := deed_end (Q := fun v H' => ∃ x, ([some (.ref aD), some (.ref aH), some (.ref aS), o3, o4, o5, o6, o7, some vd, o9, some (.str s), some (.str t), some (.int (n : Int)), o13] : L2.St)[8]? = some (some x) ∧ spSame 4 [v, x] H' D.rt E0) W L M h1 h2 h3 g1 g2 g3 g4 L1 hv kp fr (Same.new (o := .lst [.str s, .str t, .int (n : Int)]) hl)
    (fun H' W' v q1 q2 => ⟨vd, rfl, v, vd, _, rfl, q1, q2, nice_out _, by rw [hD]; exact k H' ds _ W' k1 k2 k3 k4⟩)
  exact ⟨aH, aK, aN, l, as, st, tot, nt, "move", rfl, E2.1, g.sh, Nat.le_trans hlen (by decide), .inr ⟨by decide +kernel, s, t, n, upd_same, E2.2⟩⟩
abbrev tTake (b : Int) : TE := tCall spTake [] E0 (tCons (tVar 0) (tCons (tC (.int b)) tNil))
abbrev tsMove (CA CH : Addr) : TS := tSeq (tAsg (tCall spMoveL [] E0 (tCons (tVar 2) (tCons (tVar 10) (tCons (tVar 11) (tCons (tVar 12) tNil))))) (gName 8))
      (tRet (tCall (spSame 4) [] E0 (tCons (tCall (spTell CA CH) [] E0 (tCons (tVar 1) (tCons (tC (.str "move")) (tCons (tLst (tCons (tVar 10) (tCons (tVar 11) (tCons (tVar 12) tNil)))) tNil)))) (tCons (tVar 8) tNil))))
abbrev tsUnits (CA CH : Addr) : TS := tSeq (tAsg (tTake 40) (gName 12)) (tSeq (tIfS (tTest (tOp rEq (tTake 3) (tC (.int 0))))
    (tAsg (tOp (rI0 fun i j => .int (i + j)) (tCall spHeldL [] E0 (tCons (tVar 2) (tCons (tVar 10) tNil))) (tTake 2)) (gName 12)) tNext) (tsMove CA CH))
abbrev tLen9 (K : KF) : TE := tCB (fun xs H Q => ∃ p ys, xs = [.ref p] ∧ (SqL K H p ys ∨ SqT K H p ys) ∧ Q (.int ys.length) H) (tCons (tVar 9) tNil)
abbrev tsRest (K : KF) (CA CH : Addr) : TS := tSeq (tAsg (tOp (rIxL K) (tVar 9) (tCall spTake [] E0 (tCons (tVar 0) (tCons (tLen9 K) tNil)))) (gName 10))
  (tSeq (tAsg (tOp (rIxL K) (tVar 9) (tCall spTake [] E0 (tCons (tVar 0) (tCons (tLen9 K) tNil)))) (gName 11))
  (tSeq (tIfS (tTest (tOp rEq (tTake 12) (tC (.int 0)))) (tAsg (tC (.str "nobody")) (gName 11)) tNext) (tsUnits CA CH)))
theorem deed_units {G H : Hp} {aD aS aH : Addr} {ds : List Nat} {st : List Row} {tot : Nat} {nt : List (Key × V)} {Q : VK} (W : Wd CA CH G H aD aS aH ds st tot nt) (g : Mth.Good ("state" : Str) tot st) (hlen : st.length ≤ 900)
    (k : DeedK CA CH G aD aS aH st tot nt Q) {D : Ends} (hD : D.rt = Q) {s t : Str} {r : Row} (hs : Mth.find st s = some r) {o3 o4 o5 o6 o7 o8 o9 o12 o13 : Option V} :
    tsUnits CA CH D [some (.ref aD), some (.ref aH), some (.ref aS), o3, o4, o5, o6, o7, o8, o9, some (.str s), some (.str t), o12, o13] H := by
  refine ⟨_, rfl, aD, 40, ds, rfl, W.dr, by decide, fun n1 ds1 _ => ?_⟩
  have W1 := W.pop ds1
  refine ⟨_, rfl, aD, 3, ds1, rfl, W1.dr, by decide, fun n2 ds2 _ => ?_⟩
  rw [upd_upd]
  have W2 := W.pop ds2
  refine ⟨rfl, _, rfl, ?_⟩
  refine ite2 (fun _ => ?_) (fun _ => ?_)
  · obtain ⟨aR, rs, aK, aN, as, L, _⟩ := W2.ex
    refine ⟨_, rfl, _, rfl, aS, aR, rs, st, tot, s, r, rfl, L, g.sh, Nat.le_trans hlen (by decide), hs, fun H3 s3 => ?_⟩
    have W3 := W2.same s3
    refine ⟨_, rfl, aD, 2, ds2, rfl, W3.dr, by decide, fun n3 ds3 _ => ?_⟩
    have W4 := W3.pop ds3
    refine ⟨_, _, rfl, rfl, ?_⟩
    have e : V.int (((Mth.held st r : Nat) : Int) + (n3 : Int)) = V.int ((Mth.held st r + n3 : Nat) : Int) := by rw [Int.natCast_add]
    show tsMove CA CH D ([some (.ref aD), some (.ref aH), some (.ref aS), o3, o4, o5, o6, o7, o8, o9, some (.str s), some (.str t), some (V.int (((Mth.held st r : Nat) : Int) + (n3 : Int))), o13] : L2.St) _
    rw [e]
    exact deed_move W4 g hlen k hD
  · exact deed_move W2 g hlen k hD
theorem strs_len (l : List Str) : ((l.map V.str).length : Int) = ((l.length : Nat) : Int) := by rw [List.length_map]
theorem deed_rest {G H : Hp} {aD aS aH pk : Addr} {ds : List Nat} {st : List Row} {tot : Nat} {nt : List (Key × V)} {Q : VK} {kn : List Str} (W : Wd CA CH G H aD aS aH ds st tot nt) (g : Mth.Good ("state" : Str) tot st) (hlen : st.length ≤ 900)
    (k : DeedK CA CH G aD aS aH st tot nt Q) {D : Ends} (hD : D.rt = Q) (hk : H pk = some (.lst (kn.map V.str))) (h0 : kn ≠ []) (hm : ∀ s ∈ kn, ∃ r, Mth.find st s = some r) {o3 o4 o5 o6 o7 o8 o10 o11 o12 o13 : Option V} :
    tsRest K CA CH D [some (.ref aD), some (.ref aH), some (.ref aS), o3, o4, o5, o6, o7, o8, some (.ref pk), o10, o11, o12, o13] H := by
  have hpk : pk ≠ aD := ne_of hk W.dr (nats_strs h0)
  have hk2 : ∀ d, (upd H aD (.lst (natsV d))) pk = some (.lst (kn.map V.str)) := fun d => by
    rw [upd_ne hpk]
    exact hk
  have pos : 0 < (kn.map V.str).length := by
    rw [List.length_map]
    exact List.length_pos_iff.mpr h0
  have pick : ∀ n : Nat, n < (kn.map V.str).length → ∃ s, s ∈ kn ∧ atI (kn.map V.str) (n : Int) = some (.str s) := fun n hn => by
    rw [List.length_map] at hn
    refine ⟨kn[n], List.getElem_mem hn, atI_nat ?_⟩
    rw [List.getElem?_map, List.getElem?_eq_getElem hn]
    rfl
  refine ⟨_, rfl, _, rfl, _, rfl, pk, _, rfl, .inl (SqL.of hk), aD, (kn.map V.str).length, ds, rfl, W.dr, pos, fun n1 ds1 hn1 => ?_⟩
  obtain ⟨s, hs, es⟩ := pick n1 hn1
  refine ⟨pk, _, _, _, rfl, rfl, SqL.of (hk2 ds1), es, ?_⟩
  have W1 := W.pop ds1
  refine ⟨_, rfl, _, rfl, _, rfl, pk, _, rfl, .inl (SqL.of (hk2 ds1)), aD, (kn.map V.str).length, ds1, rfl, W1.dr, pos, fun n2 ds2 hn2 => ?_⟩
  rw [upd_upd]
  obtain ⟨t, ht, et⟩ := pick n2 hn2
  refine ⟨pk, _, _, _, rfl, rfl, SqL.of (hk2 ds2), et, ?_⟩
  have W2 := W.pop ds2
  refine ⟨_, rfl, aD, 12, ds2, rfl, W2.dr, by decide, fun n3 ds3 _ => ?_⟩
  rw [upd_upd]
  have W3 := W.pop ds3
  obtain ⟨r, hr⟩ := hm s hs
  refine ⟨rfl, _, rfl, ?_⟩
  refine ite2 (fun _ => ?_) (fun _ => ?_)
  · exact deed_units W3 g hlen k hD hr
  · exact deed_units W3 g hlen k hD hr
theorem ok_deed {f : Addr} {fd : FuncData} (F : Fun K "_law_deed" "_law_deed" sDeed f fd) (B : Blt mg) (GT : GTake P w K mg base) (GW : GWords P w K mg base) (GO : GOpenL P w K mg base) (GM : GMoveL P w K mg base) (GH : GHeld P w K mg base) (GS : GSame P w K mg base) (GL : GTell P w K mg base CA CH) :
    FnOk P w K mg base CX0 6 f fd ["_law_draws_here", "_law_holders", "_law_state", "_law_opening"] (spDeed CA CH) := by
  refine F.ok scDeed (fun vs H Q E h => ?_) (fun cdv A outer s H vs Q E hr h => ?_)
  · obtain ⟨_, _, _, _, _, _, _, _, _, rfl, _⟩ := h
    rfl
  · obtain ⟨G, aD, aS, aH, ds, st, tot, nt, op, rfl, W, g, hlen, k⟩ := h
    have hr1 := hr.mono (show 1 ≤ 5 by decide)
    have hr2 := hr.mono (show 2 ≤ 5 by decide)
    have hr3 := hr.mono (show 3 ≤ 5 by decide)
    refine ⟨_, pss_cons (ps_set (i := 4) scDeed.nd rfl (.inl rfl) (pe_call0 GW.F hr1 (by rfl) GW.m GW.kp GW.b .nil pass0))
      (pss_cons (ps_if (pt_cmpR op_lt (pe_call GT.F hr1 (by rfl) GT.m GT.kp GT.b .nil pass0 (pa_cons (pv 0) (pa_cons pe_int pa_nil))) (pv 3) (nomark _))
        (pss_cons (ps_set (i := 5) scDeed.nd rfl (.inl rfl) (pe_ix ix_list (pv 4) (pe_op op_add pe_int (pe_call GT.F hr1 (by rfl) GT.m GT.kp GT.b .nil pass0 (pa_cons (pv 0) (pa_cons pe_int pa_nil)))) (fun _ _ => rfl)))
        (pss_cons (ps_set (i := 6) scDeed.nd rfl (.inl rfl) (pe_ix ix_list (pe_lst (pa_cons pe_non (pa_cons (pe_ix ix_list (pv 4) (pe_op op_add pe_int (pe_call GT.F hr1 (by rfl) GT.m GT.kp GT.b .nil pass0 (pa_cons (pv 0) (pa_cons pe_int pa_nil)))) (fun _ _ => rfl)) pa_nil)))
          (pe_call GT.F hr1 (by rfl) GT.m GT.kp GT.b .nil pass0 (pa_cons (pv 0) (pa_cons pe_int pa_nil))) (fun _ _ => rfl)))
        (pss_cons (ps_set (i := 7) scDeed.nd rfl (.inl rfl) (pe_cmpR op_in_seq (pv 5) (pe_lst (pa_cons pe_str (pa_cons pe_str (pa_cons pe_str pa_nil)))) (by rfl)))
        (pss_cons (ps_if (pt_cmpR op_eq (pe_call GT.F hr1 (by rfl) GT.m GT.kp GT.b .nil pass0 (pa_cons (pv 0) (pa_cons pe_int pa_nil))) pe_int (nomark _)) (pss_one (ps_set (i := 7) scDeed.nd rfl (.inl rfl) (pe_not (pv 7)))) pss_nil)
        (pss_cons (ps_set (i := 8) scDeed.nd rfl (.inl rfl) (pe_call GO.F hr3 (by rfl) GO.m GO.kp GO.b .nil pass0 (pa_cons (pv 2) (pa_cons (pv 5) (pa_cons (pv 6) (pa_cons (pv 7) pa_nil))))))
        (pss_one (ps_ret (pe_call GS.F hr (by rfl) GS.m GS.kp GS.b .nil pass0 (pa_cons (pe_call GL.F hr (by rfl) GL.m GL.kp GL.b .nil pass0 (pa_cons (pv 1) (pa_cons pe_str (pa_cons (pe_lst (pa_cons (pv 5) (pa_cons (pv 6) (pa_cons (pv 7) pa_nil)))) pa_nil)))) (pa_cons (pv 8) pa_nil)))))))))) pss_nil)
      (pss_cons (ps_setLc (i := 9) (own := [("_law_row", 13)]) (g := gName 13) (tt := tYes) (te := tOp (rIxL K) (tVar 13) (tC (.int 0))) rfl scDeed.nd rfl rfl (sw_true rfl rfl rfl (by decide +kernel)) (pi_list (pe_ix ix_list (pv 2) pe_int (fun _ _ => rfl)))
          (blkOk_by (own := [("_law_row", 13)]) (N := ["_law_draws_here", "_law_holders", "_law_state", "_law_opening", "_law_words_here", "_law_name", "_law_under", "_law_nominee", "_law_due", "_law_known", "_law_source", "_law_target", "_law_units", "_law_row"]) (sc := defScope sDeed) (by decide +kernel))
          (fun _ _ _ _ _ => pg_name (i := 13) scDeed.nd rfl (.inl rfl)) (fun _ _ _ _ _ => pts_nil) (fun _ _ _ _ _ => pe_ix ix_list (pv 13) pe_int (fun _ _ => rfl)))
      (pss_cons (ps_if (pt_cmpR op_eq (pe_call GT.F hr1 (by rfl) GT.m GT.kp GT.b .nil pass0 (pa_cons (pv 0) (pa_cons pe_int pa_nil))) pe_int (nomark _))
        (pss_one (ps_setLc (i := 9) (own := [("_law_row", 13)]) (g := gName 13) (tt := tNot (tB (tOp (rIxL K) (tVar 13) (tC (.int 2))))) (te := tOp (rIxL K) (tVar 13) (tC (.int 0))) rfl scDeed.nd rfl rfl (sw_true rfl rfl rfl (by decide +kernel)) (pi_list (pe_ix ix_list (pv 2) pe_int (fun _ _ => rfl)))
          (blkOk_by (own := [("_law_row", 13)]) (N := ["_law_draws_here", "_law_holders", "_law_state", "_law_opening", "_law_words_here", "_law_name", "_law_under", "_law_nominee", "_law_due", "_law_known", "_law_source", "_law_target", "_law_units", "_law_row"]) (sc := defScope sDeed) (by decide +kernel))
          (fun _ _ _ _ _ => pg_name (i := 13) scDeed.nd rfl (.inl rfl)) (fun _ _ _ _ _ => pts_one (pt_not (pt_val (pe_ix ix_list (pv 13) pe_int (fun _ _ => rfl))))) (fun _ _ _ _ _ => pe_ix ix_list (pv 13) pe_int (fun _ _ => rfl)))) pss_nil)
      (pss_cons (ps_set (i := 10) scDeed.nd rfl (.inl rfl) (pe_ix ix_list (pv 9) (pe_call GT.F hr1 (by rfl) GT.m GT.kp GT.b .nil pass0 (pa_cons (pv 0) (pa_cons (pe_callB call_len_seq (by rfl) B.len bt_len (pa_cons (pv 9) pa_nil)) pa_nil))) (fun _ _ => rfl)))
      (pss_cons (ps_set (i := 11) scDeed.nd rfl (.inl rfl) (pe_ix ix_list (pv 9) (pe_call GT.F hr1 (by rfl) GT.m GT.kp GT.b .nil pass0 (pa_cons (pv 0) (pa_cons (pe_callB call_len_seq (by rfl) B.len bt_len (pa_cons (pv 9) pa_nil)) pa_nil))) (fun _ _ => rfl)))
      (pss_cons (ps_if (pt_cmpR op_eq (pe_call GT.F hr1 (by rfl) GT.m GT.kp GT.b .nil pass0 (pa_cons (pv 0) (pa_cons pe_int pa_nil))) pe_int (nomark _)) (pss_one (ps_set (i := 11) scDeed.nd rfl (.inl rfl) pe_str)) pss_nil)
      (pss_cons (ps_set (i := 12) scDeed.nd rfl (.inl rfl) (pe_call GT.F hr1 (by rfl) GT.m GT.kp GT.b .nil pass0 (pa_cons (pv 0) (pa_cons pe_int pa_nil))))
      (pss_cons (ps_if (pt_cmpR op_eq (pe_call GT.F hr1 (by rfl) GT.m GT.kp GT.b .nil pass0 (pa_cons (pv 0) (pa_cons pe_int pa_nil))) pe_int (nomark _))
        (pss_one (ps_set (i := 12) scDeed.nd rfl (.inl rfl) (pe_op op_add (pe_call GH.F hr3 (by rfl) GH.m GH.kp GH.b .nil pass0 (pa_cons (pv 2) (pa_cons (pv 10) pa_nil))) (pe_call GT.F hr1 (by rfl) GT.m GT.kp GT.b .nil pass0 (pa_cons (pv 0) (pa_cons pe_int pa_nil)))))) pss_nil)
      (pss_cons (ps_set (i := 8) scDeed.nd rfl (.inl rfl) (pe_call GM.F hr2 (by rfl) GM.m GM.kp GM.b .nil pass0 (pa_cons (pv 2) (pa_cons (pv 10) (pa_cons (pv 11) (pa_cons (pv 12) pa_nil))))))
      (pss_one (ps_ret (pe_call GS.F hr (by rfl) GS.m GS.kp GS.b .nil pass0 (pa_cons (pe_call GL.F hr (by rfl) GL.m GL.kp GL.b .nil pass0 (pa_cons (pv 1) (pa_cons pe_str (pa_cons (pe_lst (pa_cons (pv 10) (pa_cons (pv 11) (pa_cons (pv 12) pa_nil)))) pa_nil)))) (pa_cons (pv 8) pa_nil)))))))))))))), ?_⟩
    refine ⟨rfl, fun vw H1 s1 hvw => ?_⟩
    obtain ⟨pw, rfl, hpw⟩ := strsD_at hvw
    have W1 := W.same s1
    refine ⟨_, rfl, aD, 10, ds, rfl, W1.dr, by decide, fun n0 ds0 _ => ?_⟩
    have W2 := W1.pop ds0
    have hpD : pw ≠ aD := ne_of hpw W1.dr (nats_strs (by decide))
    have hpw2 : ∀ d, (upd H1 aD (.lst (natsV d))) pw = some (.lst (words.map V.str)) := fun d => by
      rw [upd_ne hpD]
      exact hpw
    refine ⟨_, rfl, _, _, rfl, rfl, _, rfl, ?_⟩
    refine ite2 (fun _ => ?_) (fun _ => ?_)
    · refine ⟨_, rfl, _, rfl, aD, 7, ds0, rfl, W2.dr, by decide, fun n1 ds1 hn1 => ?_⟩
      rw [upd_upd]
      obtain ⟨x1, hx1, ox1⟩ := words_at n1 hn1
      refine ⟨_, _, rfl, rfl, pw, _, _, _, rfl, rfl, SqL.of (hpw2 ds1), hx1, ?_⟩
      have W3 := W1.pop ds1
      refine ⟨_, rfl, _, rfl, aD, 7, ds1, rfl, W3.dr, by decide, fun n2 ds2 hn2 => ?_⟩
      rw [upd_upd]
      obtain ⟨x2, hx2, _⟩ := words_at n2 hn2
      refine ⟨_, _, rfl, rfl, pw, _, _, _, rfl, rfl, SqL.of (hpw2 ds2), hx2, (by show 2 ≤ sizeLine; decide), fun q hq => ?_⟩
      have W4 := (W1.pop ds2).same (Same.new (o := .lst [.non, .str x2]) hq)
      have qD : q ≠ aD := fun z => by
        rw [z, (W1.pop ds2).dr] at hq
        cases hq
      refine ⟨_, rfl, aD, 2, ds2, rfl, W4.dr, by decide, fun n3 ds3 hn3 => ?_⟩
      have W5 := W4.pop ds3
      have hq5 : (upd (upd (upd H1 aD (.lst (natsV ds2))) q (.lst [.non, .str x2])) aD (.lst (natsV ds3))) q = some (.lst [.non, .str x2]) := by
        rw [upd_ne qD, upd_same]
      generalize (upd (upd (upd H1 aD (.lst (natsV ds2))) q (.lst [.non, .str x2])) aD (.lst (natsV ds3))) = H5 at W5 hq5
      obtain ⟨u, hu⟩ : ∃ u, atI [V.non, .str x2] (n3 : Int) = some (uV u) := by
        match n3, hn3 with
        | 0, _ => exact ⟨none, rfl⟩
        | 1, _ => exact ⟨some x2, rfl⟩
      refine ⟨q, _, _, _, rfl, rfl, SqL.of hq5, hu, ?_⟩
      refine ⟨_, rfl, (by show 3 ≤ sizeLine; decide), fun q2 hq2 => ?_⟩
      have W6 := W5.same (Same.new (o := .lst [.str "bank", .str "house", .str "trust"]) hq2)
      refine ⟨q2, _, rfl, .inl (SqL.of upd_same), rfl, rfl, ?_⟩
      generalize (if false = true then !inV (V.str x1) [V.str "bank", V.str "house", V.str "trust"] else inV (V.str x1) [V.str "bank", V.str "house", V.str "trust"]) = nom
      refine ⟨_, rfl, aD, 8, ds3, rfl, W6.dr, by decide, fun n4 ds4 _ => ?_⟩
      have W7 := W6.pop ds4
      refine ⟨rfl, _, rfl, ?_⟩
      refine ite2 (fun _ => ?_) (fun _ => ?_)
      · exact ⟨_, rfl, nom, rfl, deed_open W7 g hlen k rfl ox1⟩
      · exact deed_open W7 g hlen k rfl ox1
    · obtain ⟨aR, rs, aK, aN, as, L, _⟩ := W2.ex
      refine ⟨_, rfl, aS, _, _, _, rfl, rfl, SqL.of L.sa, rfl, aR, rfl, ⟨_, SqL.of L.ra⟩, fun D hD => ?_⟩
      refine lc_list (K := K) (xs := rs.map V.ref) (fun i H' => Same (upd H1 aD (.lst (natsV ds0))) H' ∧ H' D = some (.lst (((st.take i).map (·.name)).map V.str)))
        ⟨Same.new hD, upd_same⟩ (fun i H' _ ⟨t1, _⟩ => SqL.of (t1 _ _ L.ra)) ?_ ?_
      · rintro i y H' hi ⟨t1, hDl⟩
        obtain ⟨b, o, rfl, hb, ho, _⟩ := row_at L.rp hi
        have hro := (L.same t1).row ⟨i, hb, ho, rfl⟩
        refine ⟨rfl, yesT ?_⟩
        refine ⟨_, rfl, b, _, _, _, rfl, rfl, SqL.of hro, rfl, _, hDl, ?_, fun c u hc => ?_, ?_⟩
        · rw [List.length_map, List.length_map, List.length_take]
          exact small' (by omega)
        · rw [upd_ne (ne_of_none hc hD)]
          exact t1 _ _ hc
        · rw [upd_same, take_succ_of ho, List.map_append, List.map_append]
          rfl
      rintro H3 ⟨t1, hDl⟩
      rw [List.length_map, L.rp.len, List.take_length] at hDl
      have W3 := W2.same t1
      have all : ∀ s ∈ st.map (·.name), ∃ r, Mth.find st s = some r := fun s hs => Mth.find_ex hs
      have ne0 : st.map (·.name) ≠ [] := fun z => by
        obtain ⟨r, hr0, _⟩ := g.rt
        have := (Mth.find_mem hr0).1
        rw [List.map_eq_nil_iff] at z
        rw [z] at this
        cases this
      have hDD : D ≠ aD := ne_of hDl W3.dr (nats_strs ne0)
      refine ⟨_, rfl, aD, 2, ds0, rfl, W3.dr, by decide, fun n1 ds1 _ => ?_⟩
      have W4 := W3.pop ds1
      have hD4 : (upd H3 aD (.lst (natsV ds1))) D = some (.lst ((st.map (·.name)).map V.str)) := by
        rw [upd_ne hDD]
        exact hDl
      refine ⟨rfl, _, rfl, ?_⟩
      refine ite2 (fun _ => ?_) (fun _ => ?_)
      · obtain ⟨aR, rs, aK, aN, as, L, _⟩ := W4.ex
        refine ⟨_, rfl, aS, _, _, _, rfl, rfl, SqL.of L.sa, rfl, aR, rfl, ⟨_, SqL.of L.ra⟩, fun D2 hD2 => ?_⟩
        refine lc_list (K := K) (xs := rs.map V.ref) (fun i H' => Same (upd H3 aD (.lst (natsV ds1))) H' ∧ H' D2 = some (.lst ((((st.take i).filter fun o => !o.nom).map (·.name)).map V.str)))
          ⟨Same.new hD2, upd_same⟩ (fun i H' _ ⟨t1, _⟩ => SqL.of (t1 _ _ L.ra)) ?_ ?_
        · rintro i y H' hi ⟨t1, hDl⟩
          obtain ⟨b, o, rfl, hb, ho, _⟩ := row_at L.rp hi
          have hro := (L.same t1).row ⟨i, hb, ho, rfl⟩
          refine ⟨rfl, _, rfl, b, _, _, _, rfl, rfl, SqL.of hro, rfl, o.nom, rfl, ?_⟩
          cases hon : o.nom with
          | true =>
            refine iteF ⟨t1, ?_⟩
            rw [take_succ_of ho, List.filter_append]
            simp [hon]
            rw [← List.map_map]
            exact hDl
          | false =>
            refine iteT ⟨_, rfl, b, _, _, _, rfl, rfl, SqL.of hro, rfl, _, hDl, ?_, fun c u hc => ?_, ?_⟩
            · rw [List.length_map, List.length_map]
              refine small' (Nat.le_trans (List.length_filter_le _ _) ?_)
              rw [List.length_take]
              omega
            · rw [upd_ne (ne_of_none hc hD2)]
              exact t1 _ _ hc
            · rw [upd_same, take_succ_of ho, List.filter_append]
              simp [hon]
        rintro H5 ⟨t5, hDl5⟩
        rw [List.length_map, L.rp.len, List.take_length] at hDl5
        refine deed_rest (K := K) (W4.same t5) g hlen k rfl hDl5 (fun z => ?_) fun s hs => ?_
        · obtain ⟨r, hr0, hrn⟩ := g.rt
          have hmem : r ∈ st.filter (fun o => !o.nom) := List.mem_filter.mpr ⟨(Mth.find_mem hr0).1, by simp [hrn]⟩
          rw [List.map_eq_nil_iff] at z
          rw [z] at hmem
          cases hmem
        · obtain ⟨r, hr0, e⟩ := List.mem_map.mp hs
          exact Mth.find_ex (List.mem_map.mpr ⟨r, (List.mem_filter.mp hr0).1, e⟩)
      · exact deed_rest (K := K) W4 g hlen k rfl hD4 ne0 all
abbrev GDeed (P : Program) (w : World) (K : KF) (mg : Str → Option Value) (base : Heap) (CA CH : Addr) := GF P w K mg base CX0 6 "_law_deed" ["_law_draws_here", "_law_holders", "_law_state", "_law_opening"] (spDeed CA CH)
end
end My

set_option Elab.async false
set_option maxRecDepth 100000
set_option maxHeartbeats 4000000
set_option autoImplicit false
namespace My
open PySem L2 Xtra
abbrev sStart : Stmt := top 37
def cutF (f : Addr) (o : HO) : Hp := fun b => if b = f then some o else none
theorem cutF_self {f : Addr} {o : HO} : cutF f o f = some o := if_pos rfl
theorem cutF_ne {f b : Addr} {o : HO} (h : b ≠ f) : cutF f o b = none := if_neg h
theorem cutF_same {f : Addr} {o : HO} {H : Hp} (h : H f = some o) : Same (cutF f o) H := fun b u hb => by
  unfold cutF at hb
  split at hb
  · rename_i e
    rw [e, h, hb]
  · cases hb
section
variable {P : Program} {w : World} {K : KF} {mg : Str → Option Value} {base : Heap} {CA CH : Addr}
def spStart (CA CH : Addr) : Sp := fun vs H Q _ => ∃ (aD : Addr) (ds : List Nat), vs = [.ref aD] ∧ H aD = some (.lst (natsV ds)) ∧
  ∀ (H' : Hp) (f aH aS : Addr) (ds' : List Nat) (tot : Nat), Wd CA CH (cutF f (.lst [.ref aH, .ref aS])) H' aD aS aH ds' [⟨"state", none, false, tot⟩] tot [] → 0 < tot → tot < 2 ^ 200 → Q (.ref f) H'
theorem scStart : FnScope ["_law_draws_here", "_law_units"] ["_law_draws_here"] (defScope sStart) := ⟨rfl, rfl, rfl, by decide +kernel, rfl, by decide +kernel, by decide +kernel⟩
theorem ok_start {f fH : Addr} {fd fdH : FuncData} (F : Fun K "_law_start" "_law_start" sStart f fd) (T : Txt K mg CA CH) (GT : GTake P w K mg base) (M : Mk K CH fH) (GH : FnOk P w K mg base CX0 3 fH fdH ["self", "issuer", "units"] (spHolI CA CH)) (b : Binds K fdH ["self", "issuer", "units"] []) :
    FnOk P w K mg base CX0 5 f fd ["_law_draws_here"] (spStart CA CH) := by
  refine F.ok scStart (fun vs H Q E h => ?_) (fun cdv A outer s H vs Q E hr h => ?_)
  · obtain ⟨_, _, rfl, _⟩ := h
    rfl
  · obtain ⟨aD, ds, rfl, hD, k⟩ := h
    have hr1 := hr.mono (show 1 ≤ 4 by decide)
    refine ⟨_, pss_cons (ps_set (i := 1) scStart.nd rfl (.inl rfl) (pe_op op_add pe_int (pe_call GT.F hr1 (by rfl) GT.m GT.kp GT.b .nil pass0 (pa_cons (pv 0) (pa_cons pe_int pa_nil)))))
      (pss_cons (ps_if (pt_cmpR op_eq (pe_call GT.F hr1 (by rfl) GT.m GT.kp GT.b .nil pass0 (pa_cons (pv 0) (pa_cons pe_int pa_nil))) pe_int (nomark _))
        (pss_one (ps_set (i := 1) scStart.nd rfl (.inl rfl) (pe_op op_add (pe_op op_pow pe_int pe_int) (pv 1)))) pss_nil)
      (pss_one (ps_ret (pe_lst (pa_cons (pe_make M GH hr (by rfl) T.mgH b .nil pass0 (pa_cons pe_str (pa_cons (pv 1) pa_nil)))
        (pa_cons (pe_lst (pa_cons (pe_lst (pa_cons (pe_lst (pa_cons pe_str (pa_cons pe_non (pa_cons pe_bl (pa_cons (pv 1) pa_nil))))) pa_nil)) (pa_cons (pv 1) pa_nil))) pa_nil)))))), ?_⟩
    have fin : ∀ (H1 : Hp) (ds1 : List Nat) (tot : Nat), H1 aD = some (.lst (natsV ds1)) → 0 < tot → tot < 2 ^ 200 →
        tRet (tLst (tCons (tMake CH (spHolI CA CH) [] E0 (tCons (tC (.str "state")) (tCons (tVar 1) tNil))) (tCons (tLst (tCons (tLst (tCons (tLst (tCons (tC (.str "state")) (tCons (tC .non) (tCons (tC (.bl false)) (tCons (tVar 1) tNil))))) tNil)) (tCons (tVar 1) tNil))) tNil)))
          { nx := fun _ H' => Q .non H', rt := Q } [some (.ref aD), some (.int (tot : Int))] H1 := by
      intro H1 ds1 tot hD1 t0 t1
      refine ⟨_, rfl, fun a dxa ha hdxa hne => ⟨a, dxa, tot, rfl, upd_same, fun H2 aK aN ac M2 kp hK hN hac => ⟨rfl, ?_⟩⟩⟩
      have hD2 : H2 aD = some (.lst (natsV ds1)) := kp _ _ (by
        rw [upd_ne (ne_of_none hD1 ha), upd_ne (ne_of_none hD1 hdxa)]
        exact hD1) (ne_of_none hD1 ha)
      clear kp hK hN hac ha hdxa hne
      refine ⟨_, rfl, (by show 4 ≤ sizeLine; decide), fun r hr2 => ⟨(by show 1 ≤ sizeLine; decide), fun aR hR => ⟨_, rfl, (by show 2 ≤ sizeLine; decide), fun aS hS => ⟨(by show 2 ≤ sizeLine; decide), fun fo hf => ?_⟩⟩⟩⟩
      have s3 : Same H2 (upd H2 r (.lst (rowV ⟨"state", none, false, tot⟩))) := Same.new hr2
      have h3 : (upd H2 r (.lst (rowV ⟨"state", none, false, tot⟩))) r = some (.lst (rowV ⟨"state", none, false, tot⟩)) := upd_same
      show Q (.ref fo) (upd (upd (upd (upd H2 r (.lst (rowV ⟨"state", none, false, tot⟩))) aR (.lst [.ref r])) aS (.lst [.ref aR, .int (tot : Int)])) fo (.lst [.ref a, .ref aS]))
      have hR' : (upd H2 r (.lst (rowV ⟨"state", none, false, tot⟩))) aR = none := hR
      have hS' : (upd (upd H2 r (.lst (rowV ⟨"state", none, false, tot⟩))) aR (.lst [.ref r])) aS = none := hS
      have hf' : (upd (upd (upd H2 r (.lst (rowV ⟨"state", none, false, tot⟩))) aR (.lst [.ref r])) aS (.lst [.ref aR, .int (tot : Int)])) fo = none := hf
      clear hR hS hf
      generalize (upd H2 r (.lst (rowV ⟨"state", none, false, tot⟩))) = H3 at s3 h3 hR' hS' hf'
      have s4 : Same H3 (upd H3 aR (.lst [.ref r])) := Same.new hR'
      have h4 : (upd H3 aR (.lst [.ref r])) aR = some (.lst [.ref r]) := upd_same
      have nRD : aD ≠ aR := ne_of_none (s3 _ _ hD2) hR'
      have nRr : r ≠ aR := ne_of_none h3 hR'
      have nKR : aK ≠ aR := ne_of_none (s3 _ _ M2.k) hR'
      generalize (upd H3 aR (.lst [.ref r])) = H4 at s4 h4 hS' hf'
      have s5 : Same H4 (upd H4 aS (.lst [.ref aR, .int (tot : Int)])) := Same.new hS'
      have h5 : (upd H4 aS (.lst [.ref aR, .int (tot : Int)])) aS = some (.lst [.ref aR, .int (tot : Int)]) := upd_same
      have nSD : aD ≠ aS := ne_of_none (s4 _ _ (s3 _ _ hD2)) hS'
      have nSr : r ≠ aS := ne_of_none (s4 _ _ h3) hS'
      have nSR : aR ≠ aS := ne_of_none h4 hS'
      generalize (upd H4 aS (.lst [.ref aR, .int (tot : Int)])) = H5 at s5 h5 hf'
      have s6 : Same H5 (upd H5 fo (.lst [.ref a, .ref aS])) := Same.new hf'
      have s25 := (s3.trans s4).trans s5
      have s26 := s25.trans s6
      have nD : aD ≠ r := ne_of_none hD2 hr2
      have M6 := M2.same s26
      have fD : aD ≠ fo := ne_of_none (s25 _ _ hD2) hf'
      have fR : aR ≠ fo := ne_of_none (s5 _ _ h4) hf'
      have fr : r ≠ fo := ne_of_none (s5 _ _ (s4 _ _ h3)) hf'
      have fK : aK ≠ fo := ne_of_none (s25 _ _ M2.k) hf'
      have fa : ac ≠ fo := by
        obtain ⟨o, q, _, ho, _⟩ := M2.r.ac.mem List.mem_cons_self
        exact ne_of_none (s25 _ _ ho) hf'
      refine k _ fo a aS ds1 tot ⟨s26 _ _ hD2, ⟨aR, [r], aK, aN, [ac], ⟨s6 _ _ h5, s6 _ _ (s5 _ _ h4), ⟨rfl, fun i x q hx hq => ?_⟩, List.nodup_cons.mpr ⟨List.not_mem_nil, List.nodup_nil⟩, nSR.symm, fun m => nSr (List.mem_singleton.mp m).symm, fun m => nRr (List.mem_singleton.mp m).symm⟩, M6, nRD, fun m => nD (List.mem_singleton.mp m), nSD,
        cutF_ne fR, fun b' hb => ?_, cutF_ne fK, fun b' hb => ?_⟩, cutF_same upd_same, cutF_ne fD⟩ t0 t1
      · match i, hx, hq with
        | 0, hx, hq =>
          cases hx
          cases hq
          exact ⟨_, s6 _ _ (s5 _ _ (s4 _ _ h3)), rfl⟩
        | _ + 1, hx, _ => cases hx
      · rw [List.mem_singleton.mp hb]
        exact cutF_ne fr
      · rw [List.mem_singleton.mp hb]
        exact cutF_ne fa
    refine ⟨_, rfl, aD, 100, ds, rfl, hD, by decide, fun n1 ds1 hn1 => ?_⟩
    refine ⟨_, _, rfl, rfl, _, rfl, aD, 9, ds1, rfl, upd_same, by decide, fun n2 ds2 hn2 => ?_⟩
    rw [upd_upd]
    refine ⟨rfl, _, rfl, ?_⟩
    refine ite2 (fun e => ?_) (fun e => ?_)
    · refine ⟨_, _, rfl, rfl, ⟨by decide, by decide, by decide⟩, _, rfl, _, _, rfl, rfl, ?_⟩
      have e2 : (10 : Int) ^ 30 + (1 + (n1 : Int)) = ((10 ^ 30 + (1 + n1) : Nat) : Int) := by
        rw [Int.natCast_add, Int.natCast_add]
        rfl
      have := fin (upd H aD (.lst (natsV ds2))) ds2 (10 ^ 30 + (1 + n1)) upd_same (by omega) (Nat.lt_of_lt_of_le (show 10 ^ 30 + (1 + n1) < 2 ^ 110 by omega) (Nat.pow_le_pow_right (by decide) (by decide)))
      rw [← e2] at this
      exact this
    · have e2 : 1 + (n1 : Int) = ((1 + n1 : Nat) : Int) := by
        rw [Int.natCast_add]
        rfl
      have := fin (upd H aD (.lst (natsV ds2))) ds2 (1 + n1) upd_same (by omega) (Nat.lt_of_lt_of_le (show 1 + n1 < 2 ^ 110 by omega) (Nat.pow_le_pow_right (by decide) (by decide)))
      rw [← e2] at this
      exact this
end
end My

set_option Elab.async false
set_option maxRecDepth 100000
set_option maxHeartbeats 4000000
set_option autoImplicit false
namespace My
open PySem L2 Xtra
abbrev sNotN : Stmt := top 40
section
variable {P : Program} {w : World} {K : KF} {mg : Str → Option Value} {base : Heap} {CA CH : Addr}
def spNotN (CA CH : Addr) : Sp := fun vs H Q _ => ∃ (aH aK aN : Addr) (as : List Addr) (st : List Row) (tot : Nat) (aL : Addr) (hl : List (Str × Nat)) (d : Int), vs = [.ref aH, .int d] ∧ d ≠ 7 ∧ Noted CA CH H aH aK aN as st tot aL hl ∧ ∀ H', Same H H' → Q (.bl true) H'
theorem scNotN : FnScope ["_law_holders", "_law_day", "_law_answers", "e"] ["_law_holders", "_law_day"] (defScope sNotN) := ⟨rfl, rfl, rfl, by decide +kernel, rfl, by decide +kernel, by decide +kernel⟩
theorem no_entitled (tot : Nat) (aK aN : Addr) : (holF tot aK aN).lookup ("entitled" : Str) = none := hol_no _ _ _ (by decide +kernel)
theorem xd_day (d : Int) : List.lookup ("day" : Str) [(("day" : Str), V.int d)] = some (.int d) := by kernel_rfl
def tsN (K : KF) (C : Addr) : Addr → Value → Option Addr → TS := fun a cls d => tDrop (tBM K "list" rAppend (tVar 2) (tCons (tXf a cls d C "day" (tVar 3)) tNil))
def clN (K : KF) (c : Cs) : List (Value × (Addr → Value → Option Addr → TS)) := [(.ref c.nn, tsN K c.nn)]
theorem tsN_ok {C a q p : Addr} {D : Ends} {v0 v1 : V} {d : Int} {l : List Int} {o3 : Option V} {H : Hp} (hd : H q = some (.xd [("day", .int d)])) (hp : H p = some (.lst (l.map V.int))) (hl : l.length < 10)
    (k : D.nx [some v0, some v1, some (.ref p), none] (upd H p (.lst ((l ++ [d]).map V.int)))) :
    tsN K C a (.ref C) (some q) (bWipe 3 D) ([some v0, some v1, some (.ref p), o3].set 3 (some (.ref a))) H := by
  refine ⟨_, rfl, .inl ⟨rfl, _, SqL.of hp⟩, _, rfl, rfl, rfl, q, _, _, rfl, hd, xd_day d, p, _, _, rfl, rfl, hp, ?_, ?_⟩
  · rw [List.length_map]
    exact small' (by omega)
  · rw [List.map_append] at k
    exact k
theorem ok_notN {f : Addr} {fd : FuncData} {c : Cs} (F : Fun K "_law_not_noted" "_law_not_noted" sNotN f fd) (T : Txt K mg CA CH) (Z : Ers P w K mg base c) (X : PySem.W.exmOne K (.ref c.nn) (.ref c.nn) = some true) (GE : MEntX P w K mg base CA CH c) (GP : MPassX P w K mg base CA CH c) :
    FnOk P w K mg base CX0 6 f fd ["_law_holders", "_law_day"] (spNotN CA CH) := by
  refine F.ok scNotN (fun vs H Q E h => ?_) (fun cdv A outer s H vs Q E hr h => ?_)
  · obtain ⟨_, _, _, _, _, _, _, _, _, rfl, _⟩ := h
    rfl
  · obtain ⟨aH, aK, aN, as, st, tot, aL, hl, d, rfl, hd7, N, k⟩ := h
    have hr4 := hr.mono (show 4 ≤ 5 by decide)
    obtain ⟨dx, hob⟩ := N.r.ob
    refine ⟨_, pss_cons (ps_set (i := 2) scNotN.nd rfl (.inl rfl) (pe_lst pa_nil))
      (pss_cons (ps_try_manyAs (i := 3) (l := clN K c) (tb := fun W => tDrop (tMethZ CH "entitled" (spPPassX CA CH c) (WE W) (tVar 0) (tCons (tVar 1) (tCons (tTup (tCons (tC (.int 1)) (tCons (tC (.int 1)) tNil))) tNil))))
        rfl rfl scNotN.nd rfl rfl takes0
        (fun W pn xe tk _ => pss_one (ps_expr (pe_methZ (pv 0) T.clH GE.m GE.F hr GE.b (fun σ => passAt tk σ) (pa_cons (pv 1) (pa_cons (pe_tup (pa_cons pe_int (pa_cons pe_int pa_nil))) pa_nil)))))
        (.cons ⟨rfl, by decide, .inl Z.eNN.g⟩ (fun a oe cls d pn hz hf => pss_one (ps_expr (pe_bm PySem.F.plainAttrs_list PySem.F.slot_list_append PySem.F.type_list_append mt_append (pv 2) (pa_cons (pe_xf Z.eNN.xf Z.nNN hz hf (pv 3)) pa_nil)))) .nil))
      (pss_cons (ps_try_manyAs (i := 3) (l := clN K c) (tb := fun W => tDrop (tMethZ CH "passed" (spPPassX CA CH c) (WE W) (tVar 0) (tCons (tVar 1) (tCons (tTup (tCons (tC (.int 1)) (tCons (tC (.int 1)) tNil))) tNil))))
        rfl rfl scNotN.nd rfl rfl takes0
        (fun W pn xe tk _ => pss_one (ps_expr (pe_methZ (pv 0) T.clH GP.m GP.F hr4 GP.b (fun σ => passAt tk σ) (pa_cons (pv 1) (pa_cons (pe_tup (pa_cons pe_int (pa_cons pe_int pa_nil))) pa_nil)))))
        (.cons ⟨rfl, by decide, .inl Z.eNN.g⟩ (fun a oe cls d pn hz hf => pss_one (ps_expr (pe_bm PySem.F.plainAttrs_list PySem.F.slot_list_append PySem.F.type_list_append mt_append (pv 2) (pa_cons (pe_xf Z.eNN.xf Z.nNN hz hf (pv 3)) pa_nil)))) .nil))
      (pss_one (ps_ret (pe_cmpR (op_eqD hr.units) (pv 2) (pe_lst (pa_cons (pv 1) (pa_cons (pv 1) pa_nil))) (by rfl)))))), ?_⟩
    refine ⟨Nat.zero_le _, fun p hp => ?_⟩
    have s1 : Same H (upd H p (.lst [])) := Same.new hp
    have p1 : (upd H p (.lst [])) p = some (.lst (([] : List Int).map V.int)) := upd_same
    have keep : ∀ (H' : Hp) (o : HO), Same H H' → Same H (upd H' p o) := fun H' o s1 b u hb => by
      rw [upd_ne (ne_of_none hb hp)]
      exact s1 _ _ hb
    generalize upd H p (.lst []) = H1 at s1 p1
    refine ⟨_, rfl, aH, dx, _, rfl, s1 _ _ hob, no_entitled _ _ _, _, rfl, (by show 2 ≤ sizeLine; decide), fun t ht => ?_⟩
    have s2 := s1.trans (Same.new (o := .tup [.int 1, .int 1]) ht)
    have p2 := (Same.new (o := .tup [.int 1, .int 1]) ht) _ _ p1
    refine ⟨aH, aK, aN, as, st, tot, aL, hl, d, _, rfl, hd7, N.same s2, fun q H3 s3 _ hq => ?_⟩
    refine ⟨true, X, fun _ a _ => ?_, fun z => by cases z⟩
    refine tsN_ok hq (s3 _ _ p2) (by decide) ?_
    have s4 := keep H3 (.lst (([] ++ [d]).map V.int)) (s2.trans s3)
    have p4 : (upd H3 p (.lst (([] ++ [d]).map V.int))) p = some (.lst (([] ++ [d]).map V.int)) := upd_same
    generalize upd H3 p (.lst (([] ++ [d]).map V.int)) = H4 at s4 p4
    refine ⟨_, rfl, aH, dx, _, rfl, s4 _ _ hob, no_passed _ _ _, _, rfl, (by show 2 ≤ sizeLine; decide), fun t5 ht5 => ?_⟩
    have s5 := s4.trans (Same.new (o := .tup [.int 1, .int 1]) ht5)
    have p5 := (Same.new (o := .tup [.int 1, .int 1]) ht5) _ _ p4
    refine ⟨aH, aK, aN, as, st, tot, aL, hl, d, _, rfl, hd7, N.same s5, fun q H6 s6 _ hq => ?_⟩
    refine ⟨true, X, fun _ a _ => ?_, fun z => by cases z⟩
    refine tsN_ok hq (s6 _ _ p5) (by show 1 < 10; omega) ?_
    have s7 := keep H6 (.lst (([] ++ [d] ++ [d]).map V.int)) (s5.trans s6)
    have p7 : (upd H6 p (.lst (([] ++ [d] ++ [d]).map V.int))) p = some (.lst (([] ++ [d] ++ [d]).map V.int)) := upd_same
    generalize upd H6 p (.lst (([] ++ [d] ++ [d]).map V.int)) = H7 at s7 p7
    refine ⟨_, rfl, _, rfl, _, rfl, (by show 2 ≤ sizeLine; decide), fun l hl => ?_⟩
    have s8 := Same.new (o := .lst [.int d, .int d]) hl
    refine ⟨.list [.int d, .int d], .list [.int d, .int d], Dt.dp K _ _ (.lst (s8 _ _ p7) (.cons (.int d) (.cons (.int d) .nil))), Dt.dp K _ _ (.lst upd_same (.cons (.int d) (.cons (.int d) .nil))), rfl, rfl, ?_⟩
    have e : PyData.eqv (.list [.int d, .int d]) (.list [.int d, .int d]) = true := by simp [PyData.eqv, PyData.eqvAll]
    rw [e]
    exact k _ (s7.trans s8)
end
end My

set_option Elab.async false
set_option maxRecDepth 100000
set_option maxHeartbeats 4000000
set_option autoImplicit false
namespace My
open PySem L2 Xtra
abbrev sLaw : Stmt := top 41
abbrev NL : List Str := ["_law_script", "_law_draws_here", "_law_first", "_law_k", "_law_amounts", "_law_row", "_law_held_here", "_law_nominees", "_law_tree", "_law_told", "_law_amount", "_law_due", "_law_passed", "_law_entitled", "_law_name", "_law_under"]
theorem scLaw : FnScope NL ["_law_script"] (defScope sLaw) := ⟨rfl, rfl, rfl, by decide +kernel, rfl, by decide +kernel, by decide +kernel⟩
section
variable {P : Program} {w : World} {K : KF} {mg : Str → Option Value} {base : Heap} {CA CH : Addr}
abbrev tI (K : KF) (t : TE) (i : Int) : TE := tOp (rIxL K) t (tC (.int i))
abbrev tJ (K : KF) (t : TE) (i : Int) : TE := tOp (rIxT K) t (tC (.int i))
/-- the rows that pass a test on the name -/
theorem lc_rows {s0 s1 s2 s3 s4 s5 s6 s7 s8 s9 s10 s11 s12 s13 s14 s15 : Option V} {tt : TT} {p : Str → Bool} {H : Hp} {l : Addr} {rows : List (Str × Fr)} {j : Nat} {Q : VK} (hj : ([s0, s1, s2, s3, s4, s5, s6, s7, s8, s9, s10, s11, s12, s13, s14, s15] : L2.St)[j]? = some (some (.ref l))) (hv : Dt H (.ref l) (rowsD rows)) (hz : rows.length ≤ 1000)
    (ht : ∀ (q : Addr) (m : V) (r : Str × Fr) (H' : Hp) (Qb : Bool → Hp → Prop), r ∈ rows → Same H H' → H' q = some (.tup [.str r.1, m]) → (∀ H2, Same H' H2 → Qb (p r.1) H2) → tt [s0, s1, s2, s3, s4, some (.ref q), s6, s7, s8, s9, s10, s11, s12, s13, s14, s15] H' Qb)
    (k : ∀ D H', Same H H' → H D = none → Dt H' (.ref D) (rowsD (rows.filter fun r => p r.1)) → Q (.ref D) H') :
    tLc (iList K (tVar j)) (gName 5) tt (tVar 5) [5] [s0, s1, s2, s3, s4, s5, s6, s7, s8, s9, s10, s11, s12, s13, s14, s15] H Q := by
  obtain ⟨l', xs, e0, hL, hlen, hat⟩ := rowsD_at hv
  cases e0
  refine ⟨_, hj, l, rfl, ⟨_, SqL.of hL⟩, fun D hD => ?_⟩
  refine lc_list (K := K) (xs := xs) (fun i H' => Same H H' ∧ ∃ ys, H' D = some (.lst ys) ∧ ys.length ≤ i ∧ DtAll H ys (((rows.take i).filter fun r => p r.1).map fun r => .tuple [.str r.1, frD r.2]))
    ⟨Same.new hD, [], upd_same, Nat.le_refl _, .nil⟩ (fun i H' _ ⟨s1, _⟩ => SqL.of (s1 _ _ hL)) ?_ ?_
  · rintro i y H' hi ⟨s1, ys, hDl, hyl, hys⟩
    obtain ⟨r, hr', hy⟩ := hat i y hi
    obtain ⟨q, m, rfl, hq, hm⟩ := rowD_at hy
    have hil : i < rows.length := (List.getElem?_eq_some_iff.mp hr').1
    refine ⟨rfl, ht q m r H' _ (List.mem_of_getElem? hr') s1 (s1 _ _ hq) fun H2 s2 => ?_⟩
    cases hp : p r.1 with
    | true =>
      refine iteT ⟨_, rfl, ys, s2 _ _ hDl, small' (by omega), fun c u hc => ?_, ys ++ [.ref q], upd_same, by rw [List.length_append]; exact Nat.succ_le_succ hyl, ?_⟩
      · rw [upd_ne (ne_of_none hc hD)]
        exact s2 _ _ (s1 _ _ hc)
      · have e2 : ((rows.take (i + 1)).filter fun r => p r.1) = ((rows.take i).filter fun r => p r.1) ++ [r] := by
          rw [take_succ_of hr', List.filter_append]
          simp [hp]
        rw [e2, List.map_append]
        exact DtAll.snoc hys hy
    | false =>
      refine iteF ⟨s1.trans s2, ys, s2 _ _ hDl, Nat.le_succ_of_le hyl, ?_⟩
      have e2 : ((rows.take (i + 1)).filter fun r => p r.1) = ((rows.take i).filter fun r => p r.1) := by
        rw [take_succ_of hr', List.filter_append]
        simp [hp]
      rw [e2]
      exact hys
  · rintro H' ⟨s1, ys, hDl, hyl, hys⟩
    rw [hlen, List.take_length] at hys
    exact k _ _ s1 hD (.lst hDl (DtAll.mono s1 _ _ hys))
/-! ### what the law notes of its own state -/
abbrev iRows (K : KF) : TI := iList K (tI K (tI K (tVar 2) 1) 0)
abbrev teHeld (K : KF) : TE := tTup (tCons (tI K (tVar 5) 0) (tCons (tCall spHeldL [] E0 (tCons (tI K (tVar 2) 1) (tCons (tI K (tVar 5) 0) tNil))) tNil))
theorem held_app (l : List (Str × Nat)) (x : Str × Nat) : (l ++ [x]).map (fun x => PyData.tuple [.str x.1, .int (x.2 : Int)]) = l.map (fun x => PyData.tuple [.str x.1, .int (x.2 : Int)]) ++ [.tuple [.str x.1, .int (x.2 : Int)]] := by
  rw [List.map_append]
  rfl
theorem lc_held {s0 s1 s3 s4 s5 s6 s7 s8 s9 s10 s11 s12 s13 s14 s15 : Option V} {H : Hp} {f aH aS aR : Addr} {rs : List Addr} {st : List Row} {tot : Nat} {Q : VK} (hf : H f = some (.lst [.ref aH, .ref aS])) (L : LawAt H aS aR rs st tot) (sh : Mth.Shape st) (hz : st.length ≤ 1000)
    (k : ∀ D H', Same H H' → H D = none → Dt H' (.ref D) (heldD (helds st)) → Q (.ref D) H') :
    tLc (iRows K) (gName 5) tYes (teHeld K) [5] [s0, s1, some (.ref f), s3, s4, s5, s6, s7, s8, s9, s10, s11, s12, s13, s14, s15] H Q := by
  refine ⟨_, rfl, f, _, _, _, rfl, rfl, SqL.of hf, rfl, aS, _, _, _, rfl, rfl, SqL.of L.sa, rfl, aR, rfl, ⟨_, SqL.of L.ra⟩, fun D hD => ?_⟩
  refine lc_list (K := K) (xs := rs.map V.ref) (fun i H' => Same H H' ∧ ∃ ys, H' D = some (.lst ys) ∧ ys.length ≤ i ∧ DtAll H' ys (((helds st).take i).map fun x => .tuple [.str x.1, .int (x.2 : Int)]))
    ⟨Same.new hD, [], upd_same, Nat.le_refl _, .nil⟩ (fun i H' _ ⟨s1, _⟩ => SqL.of (s1 _ _ L.ra)) ?_ ?_
  · rintro i y H' hi ⟨s1, ys, hDl, hyl, hys⟩
    obtain ⟨b, o, rfl, hb, ho, _⟩ := row_at L.rp hi
    have L1 := L.same s1
    have hro := L1.row ⟨i, hb, ho, rfl⟩
    have hfo : Mth.find st o.name = some o := Mth.find_of_mem sh.nd (List.mem_of_getElem? ho)
    have hib : i < st.length := (List.getElem?_eq_some_iff.mp ho).1
    refine ⟨rfl, yesT ?_⟩
    refine ⟨_, rfl, b, _, _, _, rfl, rfl, SqL.of hro, rfl, _, rfl, f, _, _, _, rfl, rfl, SqL.of (s1 _ _ hf), rfl, _, rfl, b, _, _, _, rfl, rfl, SqL.of hro, rfl, aS, aR, rs, st, tot, o.name, o, rfl, L1, sh, hz, hfo, fun H3 s2 => ?_⟩
    refine ⟨(by show 2 ≤ sizeLine; decide), fun t ht => ?_⟩
    have s3 := s2.trans (Same.new (o := .tup [.str o.name, .int (Mth.held st o : Nat)]) ht)
    refine ⟨ys, s3 _ _ hDl, small' (by omega), fun c u hc => ?_, ys ++ [.ref t], upd_same, by rw [List.length_append]; exact Nat.succ_le_succ hyl, ?_⟩
    · rw [upd_ne (ne_of_none hc hD)]
      exact s3 _ _ (s1 _ _ hc)
    · have hget : (helds st)[i]? = some (o.name, Mth.held st o) := by
        unfold helds
        rw [List.getElem?_map, ho]
        rfl
      rw [take_succ_of hget]
      have both := DtAll.snoc (DtAll.mono s3 _ _ hys) (Dt.tup (H := upd H3 t (.tup [.str o.name, .int (Mth.held st o : Nat)])) upd_same (.cons (.str o.name) (.cons (.int (Mth.held st o : Nat)) .nil)))
      refine DtAll.grow (s3 _ _ hDl) (held_form _) _ ?_
      rw [held_app]
      exact both
  · rintro H' ⟨s1, ys, hDl, hyl, hys⟩
    have e : (rs.map V.ref).length = (helds st).length := by
      unfold helds
      rw [List.length_map, List.length_map, L.rp.len]
    rw [e, List.take_length] at hys
    exact k _ _ s1 hD (.lst hDl hys)
def nomsL (st : List Row) : List Str := (st.filter (·.nom)).map (·.name)
theorem lc_noms {s0 s1 s3 s4 s5 s6 s7 s8 s9 s10 s11 s12 s13 s14 s15 : Option V} {H : Hp} {f aH aS aR : Addr} {rs : List Addr} {st : List Row} {tot : Nat} {Q : VK} (hf : H f = some (.lst [.ref aH, .ref aS])) (L : LawAt H aS aR rs st tot) (hz : st.length ≤ 1000)
    (k : ∀ D H', Same H H' → H D = none → H' D = some (.lst ((nomsL st).map V.str)) → Q (.ref D) H') :
    tLc (iRows K) (gName 5) (tB (tI K (tVar 5) 2)) (tI K (tVar 5) 0) [5] [s0, s1, some (.ref f), s3, s4, s5, s6, s7, s8, s9, s10, s11, s12, s13, s14, s15] H Q := by
  refine ⟨_, rfl, f, _, _, _, rfl, rfl, SqL.of hf, rfl, aS, _, _, _, rfl, rfl, SqL.of L.sa, rfl, aR, rfl, ⟨_, SqL.of L.ra⟩, fun D hD => ?_⟩
  refine lc_list (K := K) (xs := rs.map V.ref) (fun i H' => Same H H' ∧ H' D = some (.lst ((nomsL (st.take i)).map V.str)))
    ⟨Same.new hD, upd_same⟩ (fun i H' _ ⟨t1, _⟩ => SqL.of (t1 _ _ L.ra)) ?_ ?_
  · rintro i y H' hi ⟨t1, hDl⟩
    obtain ⟨b, o, rfl, hb, ho, _⟩ := row_at L.rp hi
    have hro := (L.same t1).row ⟨i, hb, ho, rfl⟩
    refine ⟨rfl, _, rfl, b, _, _, _, rfl, rfl, SqL.of hro, rfl, o.nom, rfl, ?_⟩
    cases hon : o.nom with
    | false =>
      refine iteF ⟨t1, ?_⟩
      have e2 : nomsL (st.take (i + 1)) = nomsL (st.take i) := by
        unfold nomsL
        rw [take_succ_of ho, List.filter_append]
        simp [hon]
      rw [e2]
      exact hDl
    | true =>
      have e2 : nomsL (st.take (i + 1)) = nomsL (st.take i) ++ [o.name] := by
        unfold nomsL
        rw [take_succ_of ho, List.filter_append]
        simp [hon]
      refine iteT ⟨_, rfl, b, _, _, _, rfl, rfl, SqL.of hro, rfl, _, hDl, ?_, fun c u hc => ?_, ?_⟩
      · unfold nomsL
        rw [List.length_map, List.length_map]
        refine small' (Nat.le_trans (List.length_filter_le _ _) ?_)
        rw [List.length_take]
        omega
      · rw [upd_ne (ne_of_none hc hD)]
        exact t1 _ _ hc
      · rw [upd_same, e2, List.map_append]
        rfl
  · rintro H' ⟨t1, hDl⟩
    rw [List.length_map, L.rp.len, List.take_length] at hDl
    exact k _ _ t1 hD hDl
def uD : Option Str → PyData
  | none => .none
  | some s => .str s
theorem uD_dt {H : Hp} (u : Option Str) : Dt H (uV u) (uD u) := by
  cases u with
  | none => exact .non
  | some s => exact .str s
def treeD (st : List Row) : PyData := .list (st.map fun r => .list [.str r.name, uD r.under])
def treeR (o : HO) (r : Row) : Prop := o = .lst [.str r.name, uV r.under]
theorem tree_dt {H : Hp} : ∀ {qs : List Addr} {st : List Row}, Reps treeR H qs st → DtAll H (qs.map V.ref) (st.map fun r => .list [.str r.name, uD r.under])
  | [], [], _ => .nil
  | [], _ :: _, h => by cases h.len
  | _ :: _, [], h => by cases h.len
  | q :: qs, r :: st, h => by
    obtain ⟨o, ho, e⟩ := h.at_ 0 q r rfl rfl
    have e : o = .lst [.str r.name, uV r.under] := e
    subst e
    exact .cons (.lst ho (.cons (.str _) (.cons (uD_dt _) .nil))) (tree_dt ⟨Nat.succ.inj h.len, fun i a x ha hx => h.at_ (i + 1) a x ha hx⟩)
theorem lc_tree {s0 s1 s3 s4 s5 s6 s7 s8 s9 s10 s11 s12 s13 s14 s15 : Option V} {H : Hp} {f aH aS aR : Addr} {rs : List Addr} {st : List Row} {tot : Nat} {Q : VK} (hf : H f = some (.lst [.ref aH, .ref aS])) (L : LawAt H aS aR rs st tot) (hz : st.length ≤ 1000)
    (k : ∀ D qs H', Same H H' → H D = none → H' D = some (.lst (qs.map V.ref)) → Reps treeR H' qs st → (∀ q ∈ qs, H q = none) → Q (.ref D) H') :
    tLc (iRows K) (gName 5) tYes (tLst (tCons (tI K (tVar 5) 0) (tCons (tI K (tVar 5) 1) tNil))) [5] [s0, s1, some (.ref f), s3, s4, s5, s6, s7, s8, s9, s10, s11, s12, s13, s14, s15] H Q := by
  refine ⟨_, rfl, f, _, _, _, rfl, rfl, SqL.of hf, rfl, aS, _, _, _, rfl, rfl, SqL.of L.sa, rfl, aR, rfl, ⟨_, SqL.of L.ra⟩, fun D hD => ?_⟩
  refine lc_list (K := K) (xs := rs.map V.ref) (fun i H' => Same H H' ∧ ∃ qs : List Addr, H' D = some (.lst (qs.map V.ref)) ∧ Reps treeR H' qs (st.take i) ∧ ∀ q ∈ qs, H q = none ∧ q ≠ D)
    ⟨Same.new hD, [], upd_same, ⟨rfl, fun i a r ha => by cases ha⟩, fun q hq => by cases hq⟩ (fun i H' _ ⟨t1, _⟩ => SqL.of (t1 _ _ L.ra)) ?_ ?_
  · rintro i y H' hi ⟨t1, qs, hDl, R, fr⟩
    obtain ⟨b, o, rfl, hb, ho, _⟩ := row_at L.rp hi
    have hro := (L.same t1).row ⟨i, hb, ho, rfl⟩
    refine ⟨rfl, yesT ?_⟩
    refine ⟨_, rfl, b, _, _, _, rfl, rfl, SqL.of hro, rfl, _, rfl, b, _, _, _, rfl, rfl, SqL.of hro, rfl, (by show 2 ≤ sizeLine; decide), fun t ht => ?_⟩
    have s3 : Same H' (upd H' t (.lst [.str o.name, uV o.under])) := Same.new ht
    have tD : t ≠ D := fun z => by
      rw [z, hDl] at ht
      cases ht
    refine ⟨_, s3 _ _ hDl, ?_, fun c u hc => ?_, qs ++ [t], ?_, ?_, fun q hq => ?_⟩
    · rw [List.length_map, R.len, List.length_take]
      exact small' (by omega)
    · rw [upd_ne (ne_of_none hc hD)]
      exact s3 _ _ (t1 _ _ hc)
    · rw [upd_same, List.map_append]
      rfl
    · rw [take_succ_of ho]
      refine R.snoc (fun a ha o ho => ?_) (p := t) (o := .lst [.str o.name, uV o.under]) ?_ rfl
      · rw [upd_ne (fr a ha).2]
        exact s3 _ _ ho
      · rw [upd_ne tD]
        exact upd_same
    · rcases List.mem_append.mp hq with hq | hq
      · exact fr q hq
      · rw [List.mem_singleton.mp hq]
        exact ⟨t1.free ht, tD⟩
  · rintro H' ⟨t1, qs, hDl, R, fr⟩
    rw [List.length_map, L.rp.len, List.take_length] at R
    exact k _ qs _ t1 hD hDl R fun q hq => (fr q hq).1
/-! ### what each shall be passed -/
abbrev ttPos (K : KF) : TT := tTest (tOp (rI0 fun i j => .bl (decide (j < i))) (tJ K (tVar 5) 1) (tC (.int 0)))
abbrev teDue (K : KF) : TE := tTup (tCons (tJ K (tVar 5) 0) (tCons (tCall (sp2 Mth.tm) [] E0 (tCons (tVar 10) (tCons (tCall spMake [] E0 (tCons (tJ K (tVar 5) 1) (tCons (tI K (tI K (tVar 2) 1) 1) tNil))) tNil))) tNil))
theorem lc_due {s0 s1 s3 s4 s5 s7 s8 s9 s11 s12 s13 s14 s15 : Option V} {H : Hp} {f aH aS l : Addr} {y : V} {va : V} {a : Fr} {hl : List (Str × Nat)} {tot : Nat} {Q : VK} (hf : H f = some (.lst [.ref aH, .ref aS])) (hs : H aS = some (.lst [y, .int (tot : Int)])) (hv : Dt H (.ref l) (heldD hl)) (hz : hl.length ≤ 1000)
    (ha : Dt H va (frD a)) (ba : Bd a) (t0 : 0 < tot) (t1 : tot < 2 ^ 1000) (hle : ∀ x ∈ hl, x.2 ≤ tot) (k : ∀ D H', Same H H' → H D = none → Dt H' (.ref D) (rowsD (passL hl tot a)) → Q (.ref D) H') :
    tLc (iList K (tVar 6)) (gName 5) (ttPos K) (teDue K) [5] [s0, s1, some (.ref f), s3, s4, s5, some (.ref l), s7, s8, s9, some va, s11, s12, s13, s14, s15] H Q := by
  obtain ⟨l', xs, e0, hL, hlen, hat⟩ := heldD_at hv
  cases e0
  refine ⟨_, rfl, l, rfl, ⟨_, SqL.of hL⟩, fun D hD => ?_⟩
  refine lc_list (K := K) (xs := xs) (fun i H' => Same H H' ∧ ∃ ys, H' D = some (.lst ys) ∧ ys.length ≤ i ∧ DtAll H' ys ((passL (hl.take i) tot a).map fun r => .tuple [.str r.1, frD r.2]))
    ⟨Same.new hD, [], upd_same, Nat.le_refl _, .nil⟩ (fun i H' _ ⟨s1, _⟩ => SqL.of (s1 _ _ hL)) ?_ ?_
  · rintro i y' H' hi ⟨s1, ys, hDl, hyl, hys⟩
    obtain ⟨r, p, hr', rfl, hp⟩ := hat i y' hi
    have hil : i < hl.length := (List.getElem?_eq_some_iff.mp hr').1
    have hp1 := s1 _ _ hp
    refine ⟨rfl, _, rfl, p, _, _, _, rfl, rfl, SqT.of hp1, rfl, _, _, rfl, rfl, _, rfl, ?_⟩
    refine ite2 (fun e => ?_) (fun e => ?_)
    · have e1 : 0 < r.2 := by
        have := of_decide_eq_true e
        omega
      refine ⟨_, rfl, p, _, _, _, rfl, rfl, SqT.of hp1, rfl, _, rfl, _, rfl, p, _, _, _, rfl, rfl, SqT.of hp1, rfl, _, rfl, f, _, _, _, rfl, rfl, SqL.of (s1 _ _ hf), rfl, aS, _, _, _, rfl, rfl, SqL.of (s1 _ _ hs), rfl, r.2, tot, rfl, t0, Nat.lt_of_lt_of_le t1 (Nat.pow_le_pow_right (by decide) (by decide)), fun v2 H2 s2 hv2 => ?_⟩
      have hrt : r.2 < 2 ^ 1000 := Nat.lt_of_le_of_lt (hle r (List.mem_of_getElem? hr')) t1
      refine ⟨va, v2, a, Mth.mk r.2 tot, rfl, Dt.mono (s1.trans s2) _ _ ha, hv2, ba, mk_bd hrt t0 t1, fun v3 H3 s3 hv3 => ?_⟩
      refine ⟨(by show 2 ≤ sizeLine; decide), fun t ht => ?_⟩
      have s4 : Same H3 (upd H3 t (.tup [.str r.1, v3])) := Same.new ht
      have s5 := (s2.trans s3).trans s4
      refine ⟨ys, s5 _ _ hDl, small' (by omega), fun c u hc => ?_, ys ++ [.ref t], upd_same, by rw [List.length_append]; exact Nat.succ_le_succ hyl, ?_⟩
      · rw [upd_ne (ne_of_none hc hD)]
        exact s5 _ _ (s1 _ _ hc)
      · have e2 : passL (hl.take (i + 1)) tot a = passL (hl.take i) tot a ++ [(r.1, Mth.tm a (Mth.mk r.2 tot))] := by
          unfold passL posL
          rw [take_succ_of hr', List.filter_append]
          simp [e1]
        rw [e2]
        have both := DtAll.snoc (DtAll.mono s5 _ _ hys) (Dt.tup (H := upd H3 t (.tup [.str r.1, v3])) upd_same (.cons (.str r.1) (.cons (Dt.mono s4 _ _ hv3) .nil)))
        refine DtAll.grow (s5 _ _ hDl) (rows_form _) _ ?_
        rw [List.map_append]
        exact both
    · have e1 : ¬ 0 < r.2 := fun z => e (decide_eq_true (show (0 : Int) < (r.2 : Int) by omega))
      refine ⟨s1, ys, hDl, Nat.le_succ_of_le hyl, ?_⟩
      have e2 : passL (hl.take (i + 1)) tot a = passL (hl.take i) tot a := by
        unfold passL posL
        rw [take_succ_of hr', List.filter_append]
        simp [e1]
      rw [e2]
      exact hys
  · rintro H' ⟨s1, ys, hDl, hyl, hys⟩
    rw [hlen, List.take_length] at hys
    exact k _ _ s1 hD (.lst hDl hys)
end
end My

set_option Elab.async false
set_option maxRecDepth 100000
set_option maxHeartbeats 4000000
set_option autoImplicit false
namespace My
open PySem L2 Xtra
/-! ### plain facts -/
theorem passL_pass (st : List Row) (tot : Nat) (a : Fr) : passL (helds st) tot a = Mth.pass st tot a := by
  unfold passL posL helds Mth.pass
  rw [List.filter_map, List.map_map]
  rfl
theorem pass_len (st : List Row) (tot : Nat) (a : Fr) : (Mth.pass st tot a).length ≤ st.length := by
  unfold Mth.pass
  rw [List.length_map]
  exact List.length_filter_le _ _
theorem row_inj {st : List Row} (nd : (Mth.names st).Nodup) {r q : Row} (hr : r ∈ st) (hq : q ∈ st) (e : r.name = q.name) : r = q := by
  have h1 := Mth.find_of_mem nd hr
  have h2 := Mth.find_of_mem nd hq
  rw [e, h2] at h1
  exact (Option.some.inj h1).symm
theorem noms_mem {st : List Row} (nd : (Mth.names st).Nodup) {r : Row} (hr : r ∈ st) : decide (r.name ∈ nomsL st) = r.nom := by
  have : r.name ∈ nomsL st ↔ r.nom = true := by
    unfold nomsL
    rw [List.mem_map]
    constructor
    · rintro ⟨q, hq, e⟩
      obtain ⟨q1, q2⟩ := List.mem_filter.mp hq
      rw [← row_inj nd q1 hr e]
      exact q2
    · intro h
      exact ⟨r, List.mem_filter.mpr ⟨hr, h⟩, rfl⟩
  cases h : r.nom with
  | true => exact decide_eq_true (this.mpr h)
  | false => exact decide_eq_false fun z => by rw [this.mp z] at h; cases h
theorem nomOf_ext {st st2 : List Row} (nd : (Mth.names st).Nodup) (ex : Mth.Extd st st2) {r : Row} (hr : r ∈ st) : nomOf st2 r.name = r.nom := by
  obtain ⟨q, hq, e⟩ := ex _ _ (Mth.find_of_mem nd hr)
  unfold nomOf
  rw [hq]
  exact e
def pTree (st : List Row) (u : Option Str) (n : Str) : Bool := st.any fun r => decide (r.name = n) && decide (r.under = u)
theorem pTree_at {st : List Row} (nd : (Mth.names st).Nodup) {r : Row} (hr : r ∈ st) (u : Option Str) : pTree st u r.name = decide (r.under = u) := by
  unfold pTree
  cases h : decide (r.under = u) with
  | true => exact List.any_eq_true.mpr ⟨r, hr, by rw [decide_eq_true rfl, h]; rfl⟩
  | false =>
    refine List.any_eq_false.mpr fun q hq z => ?_
    rw [Bool.and_eq_true] at z
    have e := row_inj nd hq hr (of_decide_eq_true z.1)
    rw [e, h] at z
    cases z.2
theorem hs_congr {st : List Row} {p q : Row → Bool} (h : ∀ r ∈ st, p r = q r) : Mth.hs st p = Mth.hs st q := by
  unfold Mth.hs
  rw [List.filter_congr h]
theorem rows_congr {st : List Row} {tot : Nat} {a : Fr} {p q : Str → Bool} (h : ∀ r ∈ st, p r.name = q r.name) : (Mth.pass st tot a).filter (fun r => p r.1) = (Mth.pass st tot a).filter fun r => q r.1 := by
  refine List.filter_congr fun x hx => ?_
  unfold Mth.pass at hx
  obtain ⟨r, hr, rfl⟩ := List.mem_map.mp hx
  exact h r (List.mem_filter.mp hr).1
def AmX (x : Fr) : Prop := Mth.Can x ∧ x.1 < 2 ^ 90 ∧ x.2 < 2 ^ 90
theorem AmB.x {x : Fr} (h : AmB x) : AmX x := ⟨h.1, Nat.lt_trans h.2.1 (by decide), Nat.lt_trans h.2.2 (by decide)⟩
theorem AmB.add {x y : Fr} (h : AmB x) (g : AmB y) : AmX (Mth.ad x y) := by
  refine ⟨Mth.ad_can h.1.1 g.1.1, ?_, ?_⟩
  · refine Nat.lt_of_le_of_lt Mth.mk_le.1 ?_
    have a := Nat.mul_lt_mul'' h.2.1 g.2.2
    have b := Nat.mul_lt_mul'' g.2.1 h.2.2
    have e : (2 : Nat) ^ 40 * 2 ^ 40 + 2 ^ 40 * 2 ^ 40 < 2 ^ 90 := by decide
    omega
  · refine Nat.lt_of_le_of_lt Mth.mk_le.2 ?_
    have a := Nat.mul_lt_mul'' h.2.2 g.2.2
    have e : (2 : Nat) ^ 40 * 2 ^ 40 < 2 ^ 90 := by decide
    omega
theorem pow_big {n m : Nat} {x : Nat} (h : x < 2 ^ n) (l : n ≤ m) : x < 2 ^ m := Nat.lt_of_lt_of_le h (Nat.pow_le_pow_right (by decide) l)
theorem AmX.bd {x : Fr} (h : AmX x) : Bd x := ⟨pow_big h.2.1 (by decide), h.1.1, pow_big h.2.2 (by decide)⟩
theorem AmB.bd {x : Fr} (h : AmB x) : Bd x := h.x.bd
/-- what holds of the two states at the end -/
structure Cn (st st2 : List Row) (tot : Nat) : Prop where
  g : Mth.Good ("state" : Str) tot st
  nd2 : (Mth.names st2).Nodup
  ex : Mth.Extd st st2
  z : st.length ≤ 30
  t0 : 0 < tot
  t1 : tot < 2 ^ 200
  nm : NmOk st
theorem Cn.nd {st st2 : List Row} {tot : Nat} (C : Cn st st2 tot) : (Mth.names st).Nodup := C.g.sh.nd
theorem Cn.t2 {st st2 : List Row} {tot : Nat} (C : Cn st st2 tot) : tot < 2 ^ 1000 := pow_big C.t1 (by decide)
theorem Cn.le {st st2 : List Row} {tot : Nat} (C : Cn st st2 tot) : ∀ x ∈ helds st, x.2 ≤ tot ∧ ∃ r, Mth.find st2 x.1 = some r := fun x hx => by
  obtain ⟨r, hr, rfl⟩ := List.mem_map.mp hx
  obtain ⟨q, hq, _⟩ := C.ex _ _ (Mth.find_of_mem C.nd hr)
  exact ⟨Mth.held_le C.g hr, q, hq⟩
theorem Cn.hz {st st2 : List Row} {tot : Nat} (C : Cn st st2 tot) : (helds st).length ≤ 1000 := by
  unfold helds
  rw [List.length_map]
  exact Nat.le_trans C.z (by decide)
theorem Cn.pz {st st2 : List Row} {tot : Nat} (C : Cn st st2 tot) (a : Fr) : (Mth.pass st tot a).length ≤ 1000 := Nat.le_trans (pass_len _ _ _) (Nat.le_trans C.z (by decide))
theorem mul3 {a b c : Nat} {i j k n : Nat} (ha : a < 2 ^ i) (hb : b < 2 ^ j) (hc : c < 2 ^ k) (h : i + (j + k) ≤ n) : a * (b * c) < 2 ^ n := by
  have h1 := Nat.mul_lt_mul'' hb hc
  rw [← Nat.pow_add] at h1
  have h2 := Nat.mul_lt_mul'' ha h1
  rw [← Nat.pow_add] at h2
  exact pow_big h2 h
theorem sum_call {st st2 : List Row} {tot : Nat} {a : Fr} {p : Str → Bool} {q : Row → Bool} {H : Hp} {v : V} {Q : VK} (C : Cn st st2 tot) (am : AmX a) (hpq : ∀ r ∈ st, p r.name = q r) (hv : Dt H v (rowsD ((Mth.pass st tot a).filter fun r => p r.1)))
    (k : RetD (frD (Mth.mk (a.1 * Mth.hs st q) (a.2 * tot))) H Q) : spSum [v] H Q E0 := by
  refine ⟨v, _, a.2 * tot, _, rfl, hv, Mth.pass_vals C.t0 am.1.1 p, Nat.mul_pos am.1.1 C.t0, ?_, ?_, ?_⟩
  · have := Nat.mul_lt_mul'' am.2.2 C.t1
    rw [← Nat.pow_add] at this
    exact pow_big this (by decide)
  · rw [Mth.pass_sum, hs_congr hpq]
    refine Nat.lt_of_le_of_lt (Nat.mul_le_mul_left _ (Mth.hs_le C.g q)) ?_
    exact mul3 am.2.1 (show st.length < 2 ^ 5 from Nat.lt_of_le_of_lt C.z (by decide)) C.t1 (by decide)
  · rw [Mth.pass_sum, hs_congr hpq]
    exact k
theorem eqv_frD (x y : Fr) (h : x = y) : PyData.eqv (frD x) (frD y) = true := by
  subst h
  simp [frD, PyData.eqv, PyData.eqvAll]
theorem shaped_frD (x : Fr) : SeqAt.shaped (frD x) = true := rfl
theorem nice_frD (x : Fr) : Nice 4 (frD x) := ⟨by show 2 ≤ 1000; omega, fun d hd => by
  rcases List.mem_cons.mp hd with rfl | hd
  · exact True.intro
  · rw [List.mem_singleton.mp hd]
    exact True.intro⟩
theorem nice_rows {rows : List (Str × Fr)} (h : rows.length ≤ 1000) : Nice 4 (rowsD rows) := ⟨by rw [List.length_map]; exact h, fun d hd => by
  obtain ⟨r, _, rfl⟩ := List.mem_map.mp hd
  refine ⟨by show 2 ≤ 1000; omega, fun e he => ?_⟩
  rcases List.mem_cons.mp he with rfl | he
  · exact True.intro
  · rw [List.mem_singleton.mp he]
    refine ⟨by show 2 ≤ 1000; omega, fun d hd => ?_⟩
    rcases List.mem_cons.mp hd with rfl | hd
    · exact True.intro
    · rw [List.mem_singleton.mp hd]
      exact True.intro⟩
def UOk (u : Option Str) : Prop := ∀ x, u = some x → PyData.strOk x = true
theorem Cn.un {st st2 : List Row} {tot : Nat} (C : Cn st st2 tot) {r : Row} (hr : r ∈ st) : UOk r.under := fun x e => by
  have h : Mth.und st r.name = some x := by
    unfold Mth.und
    rw [Mth.find_of_mem C.nd hr]
    exact e
  obtain ⟨q, hq, _⟩ := C.g.sh.closed _ _ h
  exact C.nm x (Mth.one_of_find hq)
theorem lay_u (n : Str) (u : Option Str) (hn : PyData.strOk n = true) (hu : UOk u) : PyData.canLay0 (.list [.str n, uD u]) = true := by
  cases u with
  | none => simp [uD, PyData.canLay0, PyData.canLayAll0, hn]
  | some x => simp [uD, PyData.canLay0, PyData.canLayAll0, hn, hu x rfl]
theorem dep_u (n : Str) (u : Option Str) : PyData.depth (.list [.str n, uD u]) ≤ 2 := by cases u <;> simp [uD, PyData.depth, PyData.depthAll]
theorem shaped_u (n : Str) (u : Option Str) (hn : PyData.strOk n = true) (hu : UOk u) : SeqAt.shaped (.list [.str n, uD u]) = true := by
  have h := dep_u n u
  show (PyData.canLay0 (.list [.str n, uD u]) && decide (PyData.depth (.list [.str n, uD u]) ≤ 64)) = true
  rw [Bool.and_eq_true]
  exact ⟨lay_u n u hn hu, decide_eq_true (by omega)⟩
theorem tree_lay : ∀ st : List Row, (∀ r ∈ st, PyData.strOk r.name = true ∧ UOk r.under) → PyData.canLayAll0 (st.map fun r => PyData.list [.str r.name, uD r.under]) = true
  | [], _ => by simp [PyData.canLayAll0]
  | r :: st, k => by
    obtain ⟨k1, k2⟩ := k r List.mem_cons_self
    have h := lay_u r.name r.under k1 k2
    rw [List.map_cons]
    simp only [PyData.canLayAll0, h, tree_lay st fun x hx => k x (List.mem_cons_of_mem _ hx)]
    rfl
theorem tree_dep : ∀ st : List Row, PyData.depthAll (st.map fun r => PyData.list [.str r.name, uD r.under]) ≤ 2
  | [] => by simp [PyData.depthAll]
  | r :: st => by
    have h1 := tree_dep st
    have h2 := dep_u r.name r.under
    rw [List.map_cons]
    simp only [PyData.depthAll]
    omega
theorem shaped_tree {st st2 : List Row} {tot : Nat} (C : Cn st st2 tot) : SeqAt.shaped (treeD st) = true := by
  have h1 := tree_dep st
  have h2 : PyData.depth (treeD st) ≤ 64 := by
    unfold treeD
    simp only [PyData.depth]
    omega
  show (PyData.canLay0 (treeD st) && decide (PyData.depth (treeD st) ≤ 64)) = true
  rw [Bool.and_eq_true]
  refine ⟨?_, decide_eq_true h2⟩
  unfold treeD
  simp only [PyData.canLay0]
  exact tree_lay st fun r hr => ⟨C.nm _ (List.mem_map.mpr ⟨r, hr, rfl⟩), C.un hr⟩
theorem eqv_u (n m : Str) (u v : Option Str) : PyData.eqv (.list [.str n, uD u]) (.list [.str m, uD v]) = (decide (n = m) && decide (u = v)) := by
  have hb : ∀ a b : Str, (a == b) = decide (a = b) := fun a b => by
    by_cases e : a = b
    · simp [e]
    · rw [decide_eq_false e]
      exact beq_eq_false_iff_ne.mpr e
  cases u <;> cases v <;> simp [uD, PyData.eqv, PyData.eqvAll, hb]
theorem any_tree (st : List Row) (n : Str) (u : Option Str) : ((st.map fun r => PyData.list [.str r.name, uD r.under]).any fun z => PyData.eqv z (.list [.str n, uD u])) = pTree st u n := by
  rw [List.any_map]
  unfold pTree
  refine congrArg (fun f => List.any st f) (funext fun r => ?_)
  exact eqv_u r.name n r.under u
end My

set_option Elab.async false
set_option maxRecDepth 100000
set_option maxHeartbeats 4000000
set_option autoImplicit false
namespace My
open PySem L2 Xtra
section
variable {P : Program} {w : World} {K : KF} {mg : Str → Option Value} {base : Heap} {CA CH : Addr}
/-- what stands at the end -/
structure Dn (CA CH : Addr) (H : Hp) (f aH aS l6 p7 p8 : Addr) (st st2 : List Row) (tot : Nat) : Prop where
  f : H f = some (.lst [.ref aH, .ref aS])
  s : ∃ y, H aS = some (.lst [y, .int (tot : Int)])
  n : ∃ aK aN as aL, Noted CA CH H aH aK aN as st2 tot aL (helds st)
  he : Dt H (.ref l6) (heldD (helds st))
  no : H p7 = some (.lst ((nomsL st).map V.str))
  tr : Dt H (.ref p8) (treeD st)
theorem Dn.same {H H' : Hp} {f aH aS l6 p7 p8 : Addr} {st st2 : List Row} {tot : Nat} (N : Dn CA CH H f aH aS l6 p7 p8 st st2 tot) (e : Same H H') : Dn CA CH H' f aH aS l6 p7 p8 st st2 tot := by
  obtain ⟨y, hy⟩ := N.s
  obtain ⟨aK, aN, as, aL, h⟩ := N.n
  exact ⟨e _ _ N.f, ⟨y, e _ _ hy⟩, ⟨aK, aN, as, aL, h.same e⟩, Dt.mono e _ _ N.he, e _ _ N.no, Dt.mono e _ _ N.tr⟩
abbrev ttOut (K : KF) : TT := tTest (tOp (rIn K true) (tJ K (tVar 5) 0) (tVar 7))
abbrev ttIn (K : KF) (t : TE) : TT := tTest (tOp (rInD K) (tLst (tCons (tJ K (tVar 5) 0) (tCons t tNil))) (tVar 8))
theorem tt_out {s0 s1 s2 s3 s4 s6 s8 s9 s10 s11 s12 s13 s14 s15 : Option V} {q p7 : Addr} {m : V} {n : Str} {st : List Row} {H : Hp} {Qb : Bool → Hp → Prop} (hp : H p7 = some (.lst ((nomsL st).map V.str))) (hq : H q = some (.tup [.str n, m])) (k : Qb (!decide (n ∈ nomsL st)) H) : ttOut K [s0, s1, s2, s3, s4, some (.ref q), s6, some (.ref p7), s8, s9, s10, s11, s12, s13, s14, s15] H Qb := by
  refine ⟨_, rfl, q, _, _, _, rfl, rfl, SqT.of hq, rfl, _, rfl, p7, _, rfl, .inl (SqL.of hp), rfl, flat_strs _, _, rfl, ?_⟩
  rw [inV_strs]
  exact k
theorem tt_in {σ : L2.St} {q p8 : Addr} {m : V} {n : Str} {u : Option Str} {st st2 : List Row} {tot : Nat} {H : Hp} {Qb : Bool → Hp → Prop} {t : TE} (C : Cn st st2 tot) (h5 : σ[5]? = some (some (.ref q))) (h8 : σ[8]? = some (some (.ref p8))) (hn : PyData.strOk n = true) (hu : UOk u)
    (ht : ∀ Q : VK, Q (uV u) H → t σ H Q) (hp : Dt H (.ref p8) (treeD st)) (hq : H q = some (.tup [.str n, m])) (k : ∀ H2, Same H H2 → Qb (pTree st u n) H2) : ttIn K t σ H Qb := by
  refine ⟨_, h5, q, _, _, _, rfl, rfl, SqT.of hq, rfl, ht _ ⟨(by show 2 ≤ sizeLine; decide), fun l hl => ⟨_, h8, ?_⟩⟩⟩
  have s := Same.new (o := .lst [.str n, uV u]) hl
  refine ⟨.list [.str n, uD u], _, Dt.dp K _ _ (.lst upd_same (.cons (.str n) (.cons (uD_dt u) .nil))), Dt.dp K _ _ (Dt.mono s _ _ hp), shaped_u n u hn hu, shaped_tree C, _, rfl, ?_⟩
  rw [any_tree]
  exact k _ s
theorem seq_asg {te : TE} {g : TG} {u : TS} {D : Ends} {σ : L2.St} {H : Hp} (h : te σ H fun x H1 => g x σ H1 (u D)) : tSeq (tAsg te g) u D σ H := h
theorem g_name {i : Nat} {x : V} {σ : L2.St} {H : Hp} {k : L2.St → Hp → Prop} (h : k (σ.set i (some x)) H) : gName i x σ H k := h
/-! ### one amount -/
abbrev t0 (K : KF) : TE := tI K (tVar 2) 0
abbrev tSm (a b : TE) : TT := tNot (tB (tCall (spSame 4) [] E0 (tCons a (tCons b tNil))))
abbrev tSum (a : TE) : TE := tCall spSum [] E0 (tCons a tNil)
theorem sm_ {a b : TE} {σ : L2.St} {H : Hp} {Q : Bool → Hp → Prop} (h : a σ H fun x H1 => b σ H1 fun y H2 => spSame 4 [x, y] H2 (fun v H3 => ∃ c, v = .bl c ∧ Q (!c) H3) E0) : tSm a b σ H Q := h
theorem sum_ {a : TE} {σ : L2.St} {H : Hp} {Q : VK} (h : a σ H fun x H1 => spSum [x] H1 Q E0) : tSum a σ H Q := h
abbrev tsFor (K : KF) : TS := tFor (iList K (tVar 7)) (gName 14) (tSeq (tAsg (tLc (iList K (tVar 12)) (gName 5) (ttIn K (tVar 14)) (tVar 5) [5]) (gName 15))
  (tIfS (tSm (tSum (tVar 15)) (tCall spGot [] E0 (tCons (tVar 12) (tCons (tVar 14) tNil)))) (tRet (tC (.bl false))) tNext))
abbrev tsEnd (K : KF) : TS := tSeq (tsFor K) (tDrop (tBM K "list" rAppend (tVar 9) (tCons (tVar 12) tNil)))
abbrev tsIf2 (K : KF) : TS := tSeq (tIfS (tOr (tTest (tOp (rNeD K) (tSum (tVar 13)) (tVar 10))) (tSm (tSum (tLc (iList K (tVar 12)) (gName 5) (ttIn K (tC .non)) (tVar 5) [5])) (tVar 10))) (tRet (tC (.bl false))) tNext) (tsEnd K)
abbrev tsIf1 (K : KF) : TS := tSeq (tIfS (tOr (tSm (tVar 12) (tVar 11)) (tSm (tVar 13) (tLc (iList K (tVar 11)) (gName 5) (ttOut K) (tVar 5) [5]))) (tRet (tC (.bl false))) tNext) (tsIf2 K)
abbrev tsBody (K : KF) (CA CH : Addr) : TS := tSeq (tAsg (tLc (iList K (tVar 6)) (gName 5) (ttPos K) (teDue K) [5]) (gName 11))
  (tSeq (tAsg (tMeth CH "passed" (spPPass CA CH) [] E0 (t0 K) (tCons (tC (.int 7)) (tCons (tVar 10) tNil))) (gName 12))
  (tSeq (tAsg (tMeth CH "entitled" (spPEnt CA CH) [] E0 (t0 K) (tCons (tC (.int 7)) (tCons (tVar 10) tNil))) (gName 13)) (tsIf1 K)))
theorem end_ok {s0 s1 s3 s4 s5 s11 s13 s14 s15 : Option V} {f aH aS l6 p7 p8 p9 lp : Addr} {st st2 : List Row} {tot : Nat} {va : V} {a : Fr} {H : Hp} {tl : List V} {D : Ends} (C : Cn st st2 tot) (N : Dn CA CH H f aH aS l6 p7 p8 st st2 tot) (am : AmX a)
    (hp : Dt H (.ref lp) (rowsD (Mth.pass st tot a))) (h9 : H p9 = some (.lst tl)) (hl : tl.length ≤ 10)
    (k : ∀ c5 c14 c15 H', Same H H' → D.nx [s0, s1, some (.ref f), s3, s4, c5, some (.ref l6), some (.ref p7), some (.ref p8), some (.ref p9), some va, s11, some (.ref lp), s13, c14, c15] (upd H' p9 (.lst (tl ++ [.ref lp])))) : tsEnd K D [s0, s1, some (.ref f), s3, s4, s5, some (.ref l6), some (.ref p7), some (.ref p8), some (.ref p9), some va, s11, some (.ref lp), s13, s14, s15] H := by
  refine ⟨_, rfl, p7, rfl, ⟨_, SqL.of N.no⟩, ?_⟩
  refine for_list (K := K) (a := p7) (xs := (nomsL st).map V.str) (fun i σ H' => Same H H' ∧ ∃ c5 c14 c15, σ = [s0, s1, some (.ref f), s3, s4, c5, some (.ref l6), some (.ref p7), some (.ref p8), some (.ref p9), some va, s11, some (.ref lp), s13, c14, c15])
    ⟨Same.refl _, s5, s14, s15, rfl⟩ (fun i σ H' _ ⟨s1, _⟩ => SqL.of (s1 _ _ N.no)) ?_ ?_
  · rintro i y σ H' hi ⟨e1, c5, c14, c15, rfl⟩
    have N1 := N.same e1
    obtain ⟨n, hn, rfl⟩ : ∃ n, (nomsL st)[i]? = some n ∧ y = V.str n := by
      rw [List.getElem?_map] at hi
      cases e : (nomsL st)[i]? with
      | none =>
        rw [e] at hi
        cases hi
      | some n =>
        rw [e] at hi
        exact ⟨n, rfl, (Option.some.inj hi).symm⟩
    obtain ⟨r, hr, rfl⟩ := List.mem_map.mp (List.mem_of_getElem? hn)
    obtain ⟨hr, hnom⟩ := List.mem_filter.mp hr
    have okN : ∀ q ∈ st, PyData.strOk q.name = true := fun q hq => C.nm _ (List.mem_map.mpr ⟨q, hq, rfl⟩)
    refine g_name (seq_asg ?_)
    refine lc_rows (p := pTree st (some r.name)) (by rfl) (Dt.mono e1 _ _ hp) (C.pz a) (fun q m x H2 Qb hx e2 hq k2 => ?_) fun L H2 e2 _ hL => ?_
    · have hx1 : ∃ z ∈ st, x.1 = z.name := by
        unfold Mth.pass at hx
        obtain ⟨z, hz, rfl⟩ := List.mem_map.mp hx
        exact ⟨z, (List.mem_filter.mp hz).1, rfl⟩
      obtain ⟨z, hz, ez⟩ := hx1
      exact tt_in C rfl rfl (u := some r.name) (by rw [ez]; exact okN z hz) (fun x e => by cases e; exact okN r hr) (fun Q q => ⟨_, rfl, q⟩) (Dt.mono e2 _ _ N1.tr) hq k2
    have N2 := N1.same e2
    refine ⟨_, rfl, ?_⟩
    refine sum_call (q := fun c => decide (c.under = some r.name)) C am (fun z hz => pTree_at C.nd hz _) hL fun v H3 e3 hv => ?_
    refine ⟨_, rfl, _, rfl, .ref lp, Mth.pass st tot a, r.name, rfl, Dt.mono ((e1.trans e2).trans e3) _ _ hp, fun v2 H4 e4 hv2 => ?_⟩
    rw [Mth.got_pass C.g C.t0 am.1.1 hr] at hv2
    have hv3 := Dt.mono e4 _ _ hv
    rw [Mth.hs_kids C.g hr hnom] at hv3
    refine ⟨v, v2, _, rfl, hv3, hv2, nice_frD _, true, rfl, iteF ?_⟩
    exact ⟨((e1.trans e2).trans e3).trans e4, _, _, _, rfl⟩
  · rintro σ H' ⟨e1, c5, c14, c15, rfl⟩
    refine ⟨_, rfl, .inl ⟨rfl, _, SqL.of (e1 _ _ h9)⟩, _, rfl, p9, _, _, rfl, rfl, e1 _ _ h9, small' (by omega), ?_⟩
    exact k _ _ _ _ e1
theorem body_ok {s0 s1 s3 s4 s5 s11 s12 s13 s14 s15 : Option V} {f aH aS l6 p7 p8 p9 : Addr} {st st2 : List Row} {tot : Nat} {va : V} {a : Fr} {H : Hp} {tl : List V} {D : Ends} (C : Cn st st2 tot) (N : Dn CA CH H f aH aS l6 p7 p8 st st2 tot) (am : AmX a)
    (hva : Dt H va (frD a)) (h9 : H p9 = some (.lst tl)) (hl : tl.length ≤ 10)
    (k : ∀ lp c5 c11 c13 c14 c15 H', Same H H' → H lp = none → Dt H' (.ref lp) (rowsD (Mth.pass st tot a)) → D.nx [s0, s1, some (.ref f), s3, s4, c5, some (.ref l6), some (.ref p7), some (.ref p8), some (.ref p9), some va, c11, some (.ref lp), c13, c14, c15] (upd H' p9 (.lst (tl ++ [.ref lp])))) : tsBody K CA CH D [s0, s1, some (.ref f), s3, s4, s5, some (.ref l6), some (.ref p7), some (.ref p8), some (.ref p9), some va, s11, s12, s13, s14, s15] H := by
  obtain ⟨y, hs⟩ := N.s
  have okN : ∀ q ∈ st, PyData.strOk q.name = true := fun q hq => C.nm _ (List.mem_map.mpr ⟨q, hq, rfl⟩)
  refine seq_asg ?_
  refine lc_due N.f hs N.he C.hz hva am.bd C.t0 C.t2 (fun x hx => (C.le x hx).1) fun l11 H1 e1 _ h11 => ?_
  rw [passL_pass] at h11
  have N1 := N.same e1
  obtain ⟨aK, aN, as, aL, T1⟩ := N1.n
  obtain ⟨dx, hob⟩ := T1.r.ob
  refine ⟨_, rfl, f, _, _, _, rfl, rfl, SqL.of N1.f, rfl, aH, dx, _, rfl, hob, no_passed _ _ _, _, rfl, ?_⟩
  refine ⟨aH, aK, aN, as, st2, tot, aL, helds st, va, a, rfl, T1, Dt.mono e1 _ _ hva, am.bd, C.t0, C.t2, fun x hx => (C.le x hx).1, fun l12 H2 hfr e2 h12 => ?_⟩
  rw [passL_pass] at h12
  have N2 := N1.same e2
  have T2 := T1.same e2
  refine ⟨_, rfl, f, _, _, _, rfl, rfl, SqL.of N2.f, rfl, aH, dx, _, rfl, e2 _ _ hob, no_entitled _ _ _, _, rfl, ?_⟩
  refine ⟨aH, aK, aN, as, st2, tot, aL, helds st, va, a, rfl, T2, C.nd2, Dt.mono (e1.trans e2) _ _ hva, am.bd, C.t0, C.t2, C.le, fun v13 H3 e3 h13 => ?_⟩
  rw [passL_pass] at h13
  have N3 := N2.same e3
  have e13 := e2.trans e3
  -- the first two answers
  refine ⟨_, rfl, _, rfl, .ref l12, .ref l11, _, rfl, Dt.mono e3 _ _ h12, Dt.mono e13 _ _ h11, nice_rows (C.pz a), true, rfl, iteF ?_⟩
  refine sm_ ⟨_, rfl, ?_⟩
  refine lc_rows (p := fun n => !decide (n ∈ nomsL st)) (by rfl) (Dt.mono e13 _ _ h11) (C.pz a) (fun q m x H2 Qb hx e2 hq k2 => tt_out (e2 _ _ N3.no) hq (k2 _ (Same.refl _))) fun L H4 e4 _ hL => ?_
  have ef : (Mth.pass st tot a).filter (fun r => !decide (r.1 ∈ nomsL st)) = (Mth.pass st tot a).filter fun r => !nomOf st2 r.1 := rows_congr (p := fun n => !decide (n ∈ nomsL st)) (q := fun n => !nomOf st2 n) fun r hr => by
    show (!decide (r.name ∈ nomsL st)) = !nomOf st2 r.name
    rw [noms_mem C.nd hr, nomOf_ext C.nd C.ex hr]
  rw [ef] at hL
  have hz13 : ((Mth.pass st tot a).filter fun r => !nomOf st2 r.1).length ≤ 1000 := Nat.le_trans (List.length_filter_le _ _) (C.pz a)
  refine ⟨v13, .ref L, _, rfl, Dt.mono e4 _ _ h13, hL, nice_rows hz13, true, rfl, iteF ?_⟩
  have N4 := N3.same e4
  have whole := Mth.sum_whole C.t0 am.1
  have e04 := ((e1.trans e2).trans e3).trans e4
  -- the sums
  refine ⟨_, rfl, ?_⟩
  refine sum_call (p := fun n => !nomOf st2 n) (q := fun c => !c.nom) C am (fun z hz => by rw [nomOf_ext C.nd C.ex hz]) (Dt.mono e4 _ _ h13) fun v H5 e5 hv => ?_
  rw [Mth.hs_holders C.g, whole] at hv
  refine ⟨_, rfl, frD a, frD a, Dt.dp K _ _ hv, Dt.dp K _ _ (Dt.mono (e04.trans e5) _ _ hva), shaped_frD a, shaped_frD a, false, by rw [eqv_frD a a rfl]; rfl, iteF ?_⟩
  have N5 := N4.same e5
  refine sm_ (sum_ ?_)
  refine lc_rows (p := pTree st none) (by rfl) (Dt.mono ((e3.trans e4).trans e5) _ _ h12) (C.pz a) (fun q m x H2 Qb hx e2 hq k2 => ?_) fun L2 H6 e6 _ hL2 => ?_
  · have hx1 : ∃ z ∈ st, x.1 = z.name := by
      unfold Mth.pass at hx
      obtain ⟨z, hz, rfl⟩ := List.mem_map.mp hx
      exact ⟨z, (List.mem_filter.mp hz).1, rfl⟩
    obtain ⟨z, hz, ez⟩ := hx1
    exact tt_in C rfl rfl (u := none) (by rw [ez]; exact okN z hz) (fun x e => by cases e) (fun Q q => q) (Dt.mono e2 _ _ N5.tr) hq k2
  refine sum_call (q := fun c => decide (c.under = none)) C am (fun z hz => pTree_at C.nd hz _) hL2 fun v2 H7 e7 hv2 => ?_
  rw [Mth.hs_root C.g, whole] at hv2
  have e57 := (e5.trans e6).trans e7
  refine ⟨_, rfl, v2, va, frD a, rfl, hv2, Dt.mono (e04.trans e57) _ _ hva, nice_frD a, true, rfl, iteF ?_⟩
  have N7 := N4.same e57
  have e37 := (e3.trans e4).trans e57
  refine end_ok C N7 am (Dt.mono e37 _ _ h12) ((e04.trans e57) _ _ h9) hl fun c5 c14 c15 H8 e8 => ?_
  exact k l12 c5 _ _ c14 c15 H8 ((e04.trans e57).trans e8) (e1.free hfr) (Dt.mono (e37.trans e8) _ _ h12)
end
end My

set_option Elab.async false
set_option maxRecDepth 100000
set_option maxHeartbeats 4000000
set_option autoImplicit false
namespace My
open PySem L2 Xtra
section
variable {P : Program} {w : World} {K : KF} {mg : Str → Option Value} {base : Heap} {CA CH : Addr}
theorem rows_keep {H : Hp} {p q : Addr} {tl ys : List V} {rows : List (Str × Fr)} (hp : H p = some (.lst tl)) (hq : q ≠ p) (h : Dt H (.ref q) (rowsD rows)) : Dt (upd H p (.lst ys)) (.ref q) (rowsD rows) := by
  cases h with
  | lst ha hx =>
    refine .lst ?_ (DtAll.grow hp (rows_form rows) ys hx)
    rw [upd_ne hq]
    exact ha
abbrev tGot (K : KF) (i : Int) : TE := tCall spGot [] E0 (tCons (tI K (tVar 9) i) (tCons (tJ K (tVar 5) 0) tNil))
abbrev tsTold (K : KF) : TS := tFor (iList K (tI K (tVar 9) 2)) (gName 5) (tIfS (tTest (tOp (rNeD K) (tCall (sp2 Mth.ad) [] E0 (tCons (tGot K 0) (tCons (tGot K 1) tNil))) (tJ K (tVar 5) 1))) (tRet (tC (.bl false))) tNext)
abbrev tNN (K : KF) (CA CH : Addr) (d : Int) : TE := tCall (spNotN CA CH) [] E0 (tCons (t0 K) (tCons (tC (.int d)) tNil))
abbrev tsLast (K : KF) (CA CH : Addr) : TS := tSeq (tsTold K) (tRet (tAndV (tNN K CA CH 6) (tNN K CA CH 8)))
abbrev tsMain (K : KF) (CA CH : Addr) : TS := tSeq (tFor (iList K (tOp rCat (tVar 4) (tLst (tCons (tCall (sp2 Mth.ad) [] E0 (tCons (tI K (tVar 4) 0) (tCons (tI K (tVar 4) 1) tNil))) tNil)))) (gName 10) (tsBody K CA CH)) (tsLast K CA CH)
abbrev tsTail (K : KF) (CA CH : Addr) : TS := tSeq (tAsg (tLst tNil) (gName 9)) (tsMain K CA CH)
theorem mk_amb {st st2 : List Row} {tot : Nat} {a : Fr} (C : Cn st st2 tot) (ha : AmX a) {r : Row} (hr : r ∈ st) : Bd (Mth.mk (a.1 * Mth.held st r) (a.2 * tot)) := by
  refine mk_bd ?_ (Nat.mul_pos ha.1.1 C.t0) ?_
  · have := Nat.mul_lt_mul'' ha.2.1 (Nat.lt_of_le_of_lt (Mth.held_le C.g hr) C.t1)
    rw [← Nat.pow_add] at this
    exact pow_big this (by decide)
  · have := Nat.mul_lt_mul'' ha.2.2 C.t1
    rw [← Nat.pow_add] at this
    exact pow_big this (by decide)
theorem last_ok {s0 s1 s3 s4 s5 s6 s7 s8 s10 s11 s12 s13 s14 s15 : Option V} {f aH aS l6 p7 p8 p9 q0 q1 q2 : Addr} {st st2 : List Row} {tot : Nat} {a b : Fr} {H : Hp} {D : Ends} {Q : VK} (C : Cn st st2 tot) (N : Dn CA CH H f aH aS l6 p7 p8 st st2 tot) (ha : AmX a) (hb : AmX b)
    (h9 : H p9 = some (.lst [.ref q0, .ref q1, .ref q2])) (d0 : Dt H (.ref q0) (rowsD (Mth.pass st tot a))) (d1 : Dt H (.ref q1) (rowsD (Mth.pass st tot b))) (d2 : Dt H (.ref q2) (rowsD (Mth.pass st tot (Mth.ad a b))))
    (hD : D.rt = Q) (k : ∀ H', Q (.bl true) H') : tsLast K CA CH D [s0, s1, some (.ref f), s3, s4, s5, s6, s7, s8, some (.ref p9), s10, s11, s12, s13, s14, s15] H := by
  obtain ⟨z, xs, e0, hL, hlen, hat⟩ := rowsD_at d2
  cases e0
  refine ⟨_, rfl, p9, _, _, _, rfl, rfl, SqL.of h9, rfl, q2, rfl, ⟨_, SqL.of hL⟩, ?_⟩
  refine for_list (K := K) (a := q2) (xs := xs) (fun i σ H' => Same H H' ∧ ∃ c5, σ = [s0, s1, some (.ref f), s3, s4, c5, s6, s7, s8, some (.ref p9), s10, s11, s12, s13, s14, s15])
    ⟨Same.refl _, s5, rfl⟩ (fun i σ H' _ ⟨s1, _⟩ => SqL.of (s1 _ _ hL)) ?_ ?_
  · rintro i y σ H' hi ⟨e1, c5, rfl⟩
    obtain ⟨x, hx, hy⟩ := hat i y hi
    obtain ⟨q, m, rfl, hq, hm⟩ := rowD_at (Dt.mono e1 _ _ hy)
    have hmem := List.mem_of_getElem? hx
    unfold Mth.pass at hmem
    obtain ⟨r, hr, rfl⟩ := List.mem_map.mp hmem
    have hr := (List.mem_filter.mp hr).1
    refine ⟨_, rfl, p9, _, _, _, rfl, rfl, SqL.of (e1 _ _ h9), rfl, _, rfl, q, _, _, _, rfl, rfl, SqT.of hq, rfl, .ref q0, _, r.name, rfl, Dt.mono e1 _ _ d0, fun v0 H1 e2 hv0 => ?_⟩
    have e12 := e1.trans e2
    refine ⟨_, rfl, p9, _, _, _, rfl, rfl, SqL.of (e12 _ _ h9), rfl, _, rfl, q, _, _, _, rfl, rfl, SqT.of (e2 _ _ hq), rfl, .ref q1, _, r.name, rfl, Dt.mono e12 _ _ d1, fun v1 H2 e3 hv1 => ?_⟩
    have b0 : Bd (Mth.got (Mth.pass st tot a) r.name) := by rw [Mth.got_pass C.g C.t0 ha.1.1 hr]; exact mk_amb C ha hr
    have b1 : Bd (Mth.got (Mth.pass st tot b) r.name) := by rw [Mth.got_pass C.g C.t0 hb.1.1 hr]; exact mk_amb C hb hr
    refine ⟨v0, v1, _, _, rfl, Dt.mono e3 _ _ hv0, hv1, b0, b1, fun v2 H3 e4 hv2 => ?_⟩
    rw [Mth.got_add C.g C.t0 ha.1.1 hb.1.1 hr] at hv2
    have e24 := (e2.trans e3).trans e4
    refine ⟨_, rfl, q, _, _, _, rfl, rfl, SqT.of (e24 _ _ hq), rfl, ?_⟩
    refine ⟨_, _, Dt.dp K _ _ hv2, Dt.dp K _ _ (Dt.mono e24 _ _ hm), shaped_frD _, shaped_frD _, false, by rw [eqv_frD _ _ rfl]; rfl, iteF ?_⟩
    exact ⟨e1.trans e24, _, rfl⟩
  · rintro σ H' ⟨e1, c5, rfl⟩
    have N1 := N.same e1
    obtain ⟨aK, aN, as, aL, T1⟩ := N1.n
    refine ⟨_, rfl, f, _, _, _, rfl, rfl, SqL.of N1.f, rfl, aH, aK, aN, as, st2, tot, aL, helds st, 6, rfl, by decide, T1, fun H2 e2 => ⟨true, rfl, iteT ?_⟩⟩
    refine ⟨_, rfl, f, _, _, _, rfl, rfl, SqL.of (e2 _ _ N1.f), rfl, aH, aK, aN, as, st2, tot, aL, helds st, 8, rfl, by decide, T1.same e2, fun H3 _ => ?_⟩
    show D.rt (.bl true) H3
    rw [hD]
    exact k H3
theorem tail_ok {s0 s1 s3 s5 s9 s10 s11 s12 s13 s14 s15 : Option V} {f aH aS p4 l6 p7 p8 : Addr} {st st2 : List Row} {tot : Nat} {va vb : V} {a b : Fr} {H : Hp} {D : Ends} {Q : VK} (C : Cn st st2 tot) (N : Dn CA CH H f aH aS l6 p7 p8 st st2 tot) (ha : AmB a) (hb : AmB b)
    (h4 : H p4 = some (.lst [va, vb])) (hva : Dt H va (frD a)) (hvb : Dt H vb (frD b)) (hD : D.rt = Q) (k : ∀ H', Q (.bl true) H') : tsTail K CA CH D [s0, s1, some (.ref f), s3, some (.ref p4), s5, some (.ref l6), some (.ref p7), some (.ref p8), s9, s10, s11, s12, s13, s14, s15] H := by
  refine ⟨Nat.zero_le _, fun p9 hp9 => ?_⟩
  have e1 : Same H (upd H p9 (.lst [])) := Same.new hp9
  have h9 : (upd H p9 (.lst [])) p9 = some (.lst []) := upd_same
  generalize upd H p9 (.lst []) = H1 at e1 h9
  refine ⟨_, rfl, _, rfl, p4, _, _, _, rfl, rfl, SqL.of (e1 _ _ h4), rfl, _, rfl, p4, _, _, _, rfl, rfl, SqL.of (e1 _ _ h4), rfl, va, vb, a, b, rfl, Dt.mono e1 _ _ hva, Dt.mono e1 _ _ hvb, ha.bd, hb.bd, fun vc H2 e2 hvc => ?_⟩
  refine ⟨(by show 1 ≤ sizeLine; decide), fun l hl => ?_⟩
  have e3 : Same H2 (upd H2 l (.lst [vc])) := Same.new hl
  refine ⟨p4, l, _, _, rfl, rfl, e3 _ _ (e2 _ _ (e1 _ _ h4)), upd_same, (by show 3 ≤ sizeLine; decide), fun pL hpL => ?_⟩
  have e4 : Same (upd H2 l (.lst [vc])) (upd (upd H2 l (.lst [vc])) pL (.lst ([va, vb] ++ [vc]))) := Same.new hpL
  have hL : (upd (upd H2 l (.lst [vc])) pL (.lst ([va, vb] ++ [vc]))) pL = some (.lst [va, vb, vc]) := upd_same
  have hL9 : pL ≠ p9 := (ne_of_none (e3 _ _ (e2 _ _ h9)) hpL).symm
  have e24 := (e2.trans e3).trans e4
  generalize (upd (upd H2 l (.lst [vc])) pL (.lst ([va, vb] ++ [vc]))) = H4 at e4 hL e24
  have hvc4 := Dt.mono (e3.trans e4) _ _ hvc
  -- all but the list of what was told
  have g1 : Same H (del H4 p9) := fun c u hc => by
    rw [del_ne (ne_of_none hc hp9)]
    exact e24 _ _ (e1 _ _ hc)
  have g2 : Same (del H4 p9) H4 := fun c u hc => by
    by_cases z : c = p9
    · rw [z, del_same] at hc
      cases hc
    · rwa [del_ne z] at hc
  have g9 : (del H4 p9) p9 = none := del_same
  have gL : (del H4 p9) pL = some (.lst [va, vb, vc]) := by
    rw [del_ne hL9]
    exact hL
  have gc : Dt (del H4 p9) vc (frD (Mth.ad a b)) := by
    obtain ⟨t, rfl, ht⟩ := frD_at hvc4
    refine frD_of ?_
    rw [del_ne (ne_of ht (e24 _ _ h9) (by intro z; cases z))]
    exact ht
  have ga := Dt.mono g1 _ _ hva
  have gb := Dt.mono g1 _ _ hvb
  have NG := N.same g1
  have h94 := e24 _ _ h9
  generalize del H4 p9 = G at g1 g2 g9 gL gc ga gb NG
  clear e1 e2 e3 e4 e24 hvc4 hL
  refine ⟨pL, rfl, ⟨_, SqL.of (g2 _ _ gL)⟩, ?_⟩
  have amt : ∀ (j : Nat) (x : Fr), [a, b, Mth.ad a b][j]? = some x → AmX x := fun j x hx => by
    match j, hx with
    | 0, hx => cases hx; exact ha.x
    | 1, hx => cases hx; exact hb.x
    | 2, hx => cases hx; exact ha.add hb
  refine for_list (K := K) (a := pL) (xs := [va, vb, vc]) (fun i σ H' => Same G H' ∧ ∃ (tl : List V) (c5 c10 c11 c12 c13 c14 c15 : Option V), σ = [s0, s1, some (.ref f), s3, some (.ref p4), c5, some (.ref l6), some (.ref p7), some (.ref p8), some (.ref p9), c10, c11, c12, c13, c14, c15] ∧ H' p9 = some (.lst tl) ∧ tl.length = i ∧
      ∀ (j : Nat) v x, tl[j]? = some v → [a, b, Mth.ad a b][j]? = some x → ∃ q, v = .ref q ∧ q ≠ p9 ∧ Dt H' (.ref q) (rowsD (Mth.pass st tot x)))
    ⟨g2, [], s5, s10, s11, s12, s13, s14, s15, rfl, h94, rfl, fun j v x hj => (by cases hj)⟩ (fun i σ H' _ ⟨s1, _⟩ => SqL.of (s1 _ _ gL)) ?_ ?_
  · rintro i y σ H' hi ⟨e1, tl, c5, c10, c11, c12, c13, c14, c15, rfl, h9, hlen, hall⟩
    have hil : i < 3 := (List.getElem?_eq_some_iff.mp hi).1
    obtain ⟨x, hx, hy⟩ : ∃ x, [a, b, Mth.ad a b][i]? = some x ∧ Dt G y (frD x) := by
      match i, hi with
      | 0, hi => cases hi; exact ⟨a, rfl, ga⟩
      | 1, hi => cases hi; exact ⟨b, rfl, gb⟩
      | 2, hi => cases hi; exact ⟨_, rfl, gc⟩
    refine g_name ?_
    refine body_ok C (NG.same e1) (amt i x hx) (Dt.mono e1 _ _ hy) h9 (by omega) fun lp d5 d11 d13 d14 d15 H8 e8 fr h12 => ?_
    have lp9 : lp ≠ p9 := (ne_of_none h9 fr).symm
    have h98 := e8 _ _ h9
    refine ⟨fun c u hc => ?_, tl ++ [.ref lp], d5, some y, d11, some (.ref lp), d13, d14, d15, rfl, upd_same, by rw [List.length_append, hlen]; rfl, fun j v x' hj hx' => ?_⟩
    · rw [upd_ne (ne_of_none hc g9)]
      exact e8 _ _ (e1 _ _ hc)
    · by_cases hji : j < tl.length
      · rw [List.getElem?_append_left hji] at hj
        obtain ⟨q, rfl, hq9, hq⟩ := hall j v x' hj hx'
        exact ⟨q, rfl, hq9, rows_keep h98 hq9 (Dt.mono e8 _ _ hq)⟩
      · rw [List.getElem?_append_right (by omega)] at hj
        have hj0 : j - tl.length = 0 := by
          have := (List.getElem?_eq_some_iff.mp hj).1
          simp at this
          omega
        rw [hj0] at hj
        cases hj
        have hji2 : j = i := by omega
        rw [hji2, hx] at hx'
        cases hx'
        exact ⟨lp, rfl, lp9, rows_keep h98 lp9 h12⟩
  · rintro σ H' ⟨e1, tl, c5, c10, c11, c12, c13, c14, c15, rfl, h9, hlen, hall⟩
    match tl, hlen with
    | [v0, v1, v2], _ =>
      obtain ⟨q0, rfl, _, d0⟩ := hall 0 v0 a rfl rfl
      obtain ⟨q1, rfl, _, d1⟩ := hall 1 v1 b rfl rfl
      obtain ⟨q2, rfl, _, d2⟩ := hall 2 v2 _ rfl rfl
      exact last_ok C (NG.same e1) ha.x hb.x h9 d0 d1 d2 hD k
end
end My

set_option Elab.async false
set_option maxRecDepth 100000
set_option maxHeartbeats 4000000
set_option autoImplicit false
namespace My
open PySem L2 Xtra
section
variable {P : Program} {w : World} {K : KF} {mg : Str → Option Value} {base : Heap} {CA CH : Addr}
abbrev tsDeed (K : KF) (CA CH : Addr) (op : TE) : TS := tIfS (tNot (tB (tCall (spDeed CA CH) [] E0 (tCons (tVar 1) (tCons (t0 K) (tCons (tI K (tVar 2) 1) (tCons op tNil))))))) (tRet (tC (.bl false))) tNext
abbrev tTake1 (n : Int) : TE := tCall spTake [] E0 (tCons (tVar 1) (tCons (tC (.int n)) tNil))
abbrev tsLate (K : KF) (CA CH : Addr) : TS := tSeq (tFor (iRng1 (tCons (tTake1 5) tNil)) (gName 3) (tsDeed K CA CH (tC (.int 2)))) (tsTail K CA CH)
abbrev tsNote (K : KF) (CA CH : Addr) : TS := tSeq (tDrop (tMeth CH "note" (spPNote CA CH) [] E0 (t0 K) (tCons (tC (.int 7)) tNil))) (tsLate K CA CH)
abbrev tsMid (K : KF) (CA CH : Addr) : TS := tSeq (tAsg (tLst (tCons (tCall spLFr [] E0 (tCons (tVar 1) (tCons (tC (.int 0)) tNil))) (tCons (tCall spLFr [] E0 (tCons (tVar 1) (tCons (tC (.int 0)) tNil))) tNil))) (gName 4))
  (tSeq (tAsg (tLc (iRows K) (gName 5) tYes (teHeld K) [5]) (gName 6))
  (tSeq (tAsg (tLc (iRows K) (gName 5) (tB (tI K (tVar 5) 2)) (tI K (tVar 5) 0) [5]) (gName 7))
  (tSeq (tAsg (tLc (iRows K) (gName 5) tYes (tLst (tCons (tI K (tVar 5) 0) (tCons (tI K (tVar 5) 1) tNil))) [5]) (gName 8)) (tsNote K CA CH))))
abbrev tMin : TE := tCB (fun xs H Q => ∃ i j, xs = [.int i, .int j] ∧ Q (.int (if j < i then j else i)) H) (tCons (tVar 3) (tCons (tC (.int 6)) tNil))
abbrev tsFirst (K : KF) (CA CH : Addr) : TS := tSeq (tFor (iRng1 (tCons (tTake1 21) tNil)) (gName 3) (tsDeed K CA CH (tOp (rI0 fun i j => .int (i - j)) (tC (.int 9)) tMin))) (tsMid K CA CH)
theorem nx_asg {i : Nat} {x : V} {σ : L2.St} {H : Hp} {te : TE} {g : TG} {u : TS} {D : Ends} {r : VK} {b c : L2.St → Hp → Prop} (h : te (σ.set i (some x)) H fun y H1 => g y (σ.set i (some x)) H1 (u D)) : gName i x σ H (Ends.nx ⟨tSeq (tAsg te g) u D, r, b, c⟩) := h
theorem nx_asg2 {i : Nat} {x : V} {σ : L2.St} {H : Hp} {te : TE} {g : TG} {u : TS} {D : Ends} (h : te (σ.set i (some x)) H fun y H1 => g y (σ.set i (some x)) H1 (u D)) : gName i x σ H (tSeq (tAsg te g) u D) := h
theorem int_small {n m : Nat} (h : n < m) (hm : m ≤ 100) : -(2 ^ 62) ≤ (n : Int) ∧ (n : Int) < 2 ^ 62 := by omega
theorem late_ok {s0 s3 s5 s9 s10 s11 s12 s13 s14 s15 : Option V} {G H : Hp} {aD f aH aS aL p4 l6 p7 p8 : Addr} {ds : List Nat} {st : List Row} {tot : Nat} {va vb : V} {a b : Fr} {D : Ends} {Q : VK} (W : Wd CA CH G H aD aS aH ds st tot [((Sum.inl 7 : Key), V.ref aL)])
    (gf : G f = some (.lst [.ref aH, .ref aS])) (g4 : G p4 = some (.lst [va, vb])) (gva : Dt G va (frD a)) (gvb : Dt G vb (frD b)) (ghe : Dt G (.ref l6) (heldD (helds st))) (gno : G p7 = some (.lst ((nomsL st).map V.str))) (gtr : Dt G (.ref p8) (treeD st)) (gaL : Dt G (.ref aL) (heldD (helds st)))
    (g : Mth.Good ("state" : Str) tot st) (nm : NmOk st) (z : st.length ≤ 30) (t0 : 0 < tot) (t1 : tot < 2 ^ 200) (ha : AmB a) (hb : AmB b) (hD : D.rt = Q) (k : ∀ H', Q (.bl true) H') : tsLate K CA CH D [s0, some (.ref aD), some (.ref f), s3, some (.ref p4), s5, some (.ref l6), some (.ref p7), some (.ref p8), s9, s10, s11, s12, s13, s14, s15] H := by
  refine ⟨_, rfl, aD, 5, ds, rfl, W.dr, by decide, fun n ds1 hn => ⟨(n : Int), rfl, (int_small hn (by decide)).1, (int_small hn (by decide)).2, ?_⟩⟩
  refine for_range (n := (n : Int).toNat) (fun i σ H' => ∃ ds' st' c3, σ = [s0, some (.ref aD), some (.ref f), c3, some (.ref p4), s5, some (.ref l6), some (.ref p7), some (.ref p8), s9, s10, s11, s12, s13, s14, s15] ∧ Wd CA CH G H' aD aS aH ds' st' tot [((Sum.inl 7 : Key), V.ref aL)] ∧ Mth.Good ("state" : Str) tot st' ∧ Mth.Extd st st' ∧ st'.length ≤ st.length + i)
    ⟨ds1, st, s3, rfl, W.pop ds1, g, Mth.Extd.refl st, Nat.le_refl _⟩ ?_ ?_
  · rintro i σ H' hi ⟨ds', st', c3, rfl, W', g', ex, hl⟩
    have hi : i < n := by simpa using hi
    have hf := W'.gs _ _ gf
    refine g_name ?_
    refine ⟨_, rfl, _, rfl, f, _, _, _, rfl, rfl, SqL.of hf, rfl, _, rfl, f, _, _, _, rfl, rfl, SqL.of hf, rfl, G, aD, aS, aH, ds', st', tot, _, 2, rfl, W', g', by omega, fun H2 ds2 st2 W2 g2 ex2 l2 nm2 => ⟨true, rfl, iteF ?_⟩⟩
    exact ⟨ds2, st2, _, rfl, W2, g2, ex.trans ex2, by omega⟩
  · rintro σ H' ⟨ds', st', c3, rfl, W', g', ex, hl⟩
    have C : Cn st st' tot := ⟨g, g'.sh.nd, ex, z, t0, t1, nm⟩
    obtain ⟨aR, rs, aK, aN, as, L, M, _⟩ := W'.ex
    have N : Dn CA CH H' f aH aS l6 p7 p8 st st' tot := ⟨W'.gs _ _ gf, ⟨_, L.sa⟩, ⟨aK, aN, as, aL, M.r, M.n, Dt.mono W'.gs _ _ gaL, C.hz⟩, Dt.mono W'.gs _ _ ghe, W'.gs _ _ gno, Dt.mono W'.gs _ _ gtr⟩
    exact tail_ok C N ha hb (W'.gs _ _ g4) (Dt.mono W'.gs _ _ gva) (Dt.mono W'.gs _ _ gvb) hD k
/-! ### what the second round of deeds leaves alone -/
def cutG (H : Hp) (bad : List Addr) : Hp := fun b => match H b with
  | some (.lst xs) => if b ∈ bad then none else some (.lst xs)
  | some (.tup xs) => some (.tup xs)
  | _ => none
section
variable {H : Hp} {bad : List Addr}
theorem cut_lst {b : Addr} {xs : List V} (h : H b = some (.lst xs)) (hb : b ∉ bad) : cutG H bad b = some (.lst xs) := by
  unfold cutG
  rw [h]
  exact if_neg hb
theorem cut_tup {b : Addr} {xs : List V} (h : H b = some (.tup xs)) : cutG H bad b = some (.tup xs) := by
  unfold cutG
  rw [h]
theorem cut_bad {b : Addr} {xs : List V} (h : H b = some (.lst xs)) (hb : b ∈ bad) : cutG H bad b = none := by
  unfold cutG
  rw [h]
  exact if_pos hb
theorem cut_dK {b : Addr} {kv : List (Key × V)} (h : H b = some (.dK kv)) : cutG H bad b = none := by
  unfold cutG
  rw [h]
theorem cut_ins {b C dx : Addr} {fs : List (Str × V)} (h : H b = some (.ins C dx fs)) : cutG H bad b = none := by
  unfold cutG
  rw [h]
theorem cut_same : Same (cutG H bad) H := fun b u hb => by
  unfold cutG at hb
  split at hb
  · rename_i xs e
    split at hb
    · cases hb
    · rw [e, ← hb]
  · rename_i xs e
    rw [e, ← hb]
  · cases hb
theorem DtAll.mk : ∀ {xs : List V} {ds : List PyData}, xs.length = ds.length → (∀ (i : Nat) y d, xs[i]? = some y → ds[i]? = some d → Dt H y d) → DtAll H xs ds
  | [], [], _, _ => .nil
  | [], _ :: _, h, _ => by cases h
  | _ :: _, [], h, _ => by cases h
  | x :: xs, d :: ds, h, k => .cons (k 0 x d rfl rfl) (DtAll.mk (Nat.succ.inj h) fun i y e hy he => k (i + 1) y e hy he)
theorem cut_fr {v : V} {x : Fr} (h : Dt H v (frD x)) : Dt (cutG H bad) v (frD x) := by
  obtain ⟨p, rfl, hp⟩ := frD_at h
  exact frD_of (cut_tup hp)
theorem cut_held {l : Addr} {hl : List (Str × Nat)} (h : Dt H (.ref l) (heldD hl)) (hb : l ∉ bad) : Dt (cutG H bad) (.ref l) (heldD hl) := by
  obtain ⟨l', xs, e, hL, hlen, hat⟩ := heldD_at h
  cases e
  refine .lst (cut_lst hL hb) (DtAll.mk (by rw [List.length_map]; exact hlen) fun i y d hy hd => ?_)
  obtain ⟨r, p, hr, rfl, hp⟩ := hat i y hy
  rw [List.getElem?_map, hr] at hd
  cases hd
  exact .tup (cut_tup hp) (.cons (.str _) (.cons (.int _) .nil))
end
theorem no_note (tot : Nat) (aK aN : Addr) : (holF tot aK aN).lookup ("note" : Str) = none := hol_no _ _ _ (by decide +kernel)
theorem mid_ok {s0 s3 s4 s5 s6 s7 s8 s9 s10 s11 s12 s13 s14 s15 : Option V} {H : Hp} {aD f aH aS : Addr} {ds : List Nat} {st : List Row} {tot : Nat} {D : Ends} {Q : VK} (W : Wd CA CH (cutF f (.lst [.ref aH, .ref aS])) H aD aS aH ds st tot [])
    (g : Mth.Good ("state" : Str) tot st) (nm : NmOk st) (z : st.length ≤ 30) (t0 : 0 < tot) (t1 : tot < 2 ^ 200) (hD : D.rt = Q) (k : ∀ H', Q (.bl true) H') : tsMid K CA CH D [s0, some (.ref aD), some (.ref f), s3, s4, s5, s6, s7, s8, s9, s10, s11, s12, s13, s14, s15] H := by
  have z1 : st.length ≤ 1000 := Nat.le_trans z (by decide)
  refine ⟨_, rfl, aD, ds, rfl, W.dr, fun va a ds2 H2 ha s2 hva => ?_⟩
  have W2 := (W.pop ds2).same s2
  refine ⟨_, rfl, aD, ds2, rfl, W2.dr, fun vb b ds3 H3 hb s3 hvb => ⟨(by show 2 ≤ sizeLine; decide), fun p4 hp4 => ?_⟩⟩
  have W3 := (W2.pop ds3).same s3
  have hva3 : Dt H3 va (frD a) := by
    obtain ⟨p, rfl, hp⟩ := frD_at hva
    refine frD_of (s3 _ _ ?_)
    rw [upd_ne (ne_of hp W2.dr (by intro z; cases z))]
    exact hp
  obtain ⟨aR, rs, aK, aN, as, L, M, h1, h2, h3, g1, g2, g3, g5⟩ := W3.ex
  have s4 : Same H3 (upd H3 p4 (.lst [va, vb])) := Same.new hp4
  have h4 : (upd H3 p4 (.lst [va, vb])) p4 = some (.lst [va, vb]) := upd_same
  have hf := W3.gs _ _ cutF_self
  have fbad : f ∉ aD :: aR :: rs := fun m => by
    have := @cutF_self f (.lst [.ref aH, .ref aS])
    rcases List.mem_cons.mp m with e | m
    · rw [e] at this
      have q := W.gD
      rw [e, this] at q
      cases q
    · rcases List.mem_cons.mp m with e | m
      · rw [e] at this g1
        rw [this] at g1
        cases g1
      · have q := g2 f m
        rw [this] at q
        cases q
  have known : ∀ b ∈ aD :: aR :: rs, ∃ xs, H3 b = some (.lst xs) := fun b m => by
    rcases List.mem_cons.mp m with rfl | m
    · exact ⟨_, W3.dr⟩
    · rcases List.mem_cons.mp m with rfl | m
      · exact ⟨_, L.ra⟩
      · obtain ⟨o, r, _, ho, e⟩ := L.rp.mem m
        have e : o = .lst (rowV r) := e
        subst e
        exact ⟨_, ho⟩
  have fresh : ∀ b, H3 b = none → b ∉ aD :: aR :: rs := fun b hb m => by
    obtain ⟨xs, hx⟩ := known b m
    rw [hb] at hx
    cases hx
  generalize (upd H3 p4 (.lst [va, vb])) = H4 at s4 h4
  refine nx_asg ?_
  refine lc_held (s4 _ _ hf) (L.same s4) g.sh z1 fun l6 H5 e5 fr5 d6 => ?_
  have s5 := s4.trans e5
  refine nx_asg2 ?_
  refine lc_noms (s5 _ _ hf) (L.same s5) z1 fun p7 H6 e6 fr6 d7 => ?_
  have s6 := s5.trans e6
  refine nx_asg2 ?_
  refine lc_tree (s6 _ _ hf) (L.same s6) z1 fun p8 qs H7 e7 fr7 d8 R fr8 => ?_
  have s7 := s6.trans e7
  have M7 := M.same s7
  obtain ⟨dx, hob⟩ := M7.r.ob
  refine ⟨_, rfl, f, _, _, _, rfl, rfl, SqL.of (s7 _ _ hf), rfl, aH, dx, _, rfl, hob, no_note _ _ _, aH, aK, aN, as, st, tot, rfl, M7, g.sh, z1, fun H8 aL M8 frL dL kp => ?_⟩
  -- what stands in H7 stands in H8, but for the dict of the notes
  have lst8 : ∀ b xs, H7 b = some (.lst xs) → H8 b = some (.lst xs) := fun b xs hb => kp _ _ hb (ne_of hb M7.n (by intro z; cases z))
  have tup8 : ∀ b xs, H7 b = some (.tup xs) → H8 b = some (.tup xs) := fun b xs hb => kp _ _ hb (ne_of hb M7.n (by intro z; cases z))
  have L8 : LawAt H8 aS aR rs st tot := (L.same s7).keep fun b xs hb _ => lst8 _ _ hb
  have e57 := e6.trans e7
  have d6' := Dt.lt lst8 tup8 _ _ (Dt.mono e57 _ _ d6)
  have hva8 := Dt.lt lst8 tup8 _ _ (Dt.mono s7 _ _ hva3)
  have hvb8 := Dt.lt lst8 tup8 _ _ (Dt.mono s7 _ _ hvb)
  have d7' := lst8 _ _ (e7 _ _ d7)
  have W8 : Wd CA CH (cutG H8 (aD :: aR :: rs)) H8 aD aS aH ds3 st tot [((Sum.inl 7 : Key), V.ref aL)] := by
    refine ⟨lst8 _ _ (s7 _ _ W3.dr), ⟨aR, rs, aK, aN, as, L8, M8, h1, h2, h3, cut_bad L8.ra (List.mem_cons_of_mem _ List.mem_cons_self), fun b hb => ?_, cut_dK M8.k, fun b hb => ?_⟩, cut_same, cut_bad (lst8 _ _ (s7 _ _ W3.dr)) List.mem_cons_self⟩
    · obtain ⟨xs, hx⟩ := known b (List.mem_cons_of_mem _ (List.mem_cons_of_mem _ hb))
      exact cut_bad (lst8 _ _ (s7 _ _ hx)) (List.mem_cons_of_mem _ (List.mem_cons_of_mem _ hb))
    · obtain ⟨o, r, _, ho, dy, rfl⟩ := M8.r.ac.mem hb
      exact cut_ins ho
  refine late_ok W8 (cut_lst (lst8 _ _ (s7 _ _ hf)) fbad) (cut_lst (lst8 _ _ (((e5.trans e6).trans e7) _ _ h4)) (fresh _ hp4)) (cut_fr hva8) (cut_fr hvb8) (cut_held d6' (fresh _ (s4.free fr5))) (cut_lst d7' (fresh _ (s5.free fr6)))
    (.lst (cut_lst (lst8 _ _ d8) (fresh _ (s6.free fr7))) (tree_dt ⟨R.len, fun i q r hq hr => ?_⟩)) (cut_held dL (fresh _ (s7.free frL))) g nm z t0 t1 ha hb hD k
  obtain ⟨o, ho, e⟩ := R.at_ i q r hq hr
  have e : o = .lst [.str r.name, uV r.under] := e
  subst e
  exact ⟨_, cut_lst (lst8 _ _ ho) (fresh _ (s6.free (fr8 q (List.mem_of_getElem? hq)))), rfl⟩
theorem first_ok {s0 s3 s4 s5 s6 s7 s8 s9 s10 s11 s12 s13 s14 s15 : Option V} {H : Hp} {aD f aH aS : Addr} {ds : List Nat} {tot : Nat} {D : Ends} {Q : VK} (W : Wd CA CH (cutF f (.lst [.ref aH, .ref aS])) H aD aS aH ds [⟨"state", none, false, tot⟩] tot [])
    (t0 : 0 < tot) (t1 : tot < 2 ^ 200) (hD : D.rt = Q) (k : ∀ H', Q (.bl true) H') : tsFirst K CA CH D [s0, some (.ref aD), some (.ref f), s3, s4, s5, s6, s7, s8, s9, s10, s11, s12, s13, s14, s15] H := by
  refine ⟨_, rfl, aD, 21, ds, rfl, W.dr, by decide, fun n ds1 hn => ⟨(n : Int), rfl, (int_small hn (by decide)).1, (int_small hn (by decide)).2, ?_⟩⟩
  refine for_range (n := (n : Int).toNat) (fun i σ H' => ∃ ds' st' c3, σ = [s0, some (.ref aD), some (.ref f), c3, s4, s5, s6, s7, s8, s9, s10, s11, s12, s13, s14, s15] ∧ Wd CA CH (cutF f (.lst [.ref aH, .ref aS])) H' aD aS aH ds' st' tot [] ∧ Mth.Good ("state" : Str) tot st' ∧ NmOk st' ∧ st'.length ≤ 1 + i)
    ⟨ds1, _, s3, rfl, W.pop ds1, Mth.Good.start, fun m hm => ?_, Nat.le_refl _⟩ ?_ ?_
  · have hm : m ∈ [("state" : Str)] := hm
    rw [List.mem_singleton.mp hm]
    decide +kernel
  · rintro i σ H' hi ⟨ds', st', c3, rfl, W', g', nm, hl⟩
    have hi : i < n := by simpa using hi
    have hf := W'.gs _ _ cutF_self
    refine g_name ?_
    refine ⟨_, rfl, _, rfl, f, _, _, _, rfl, rfl, SqL.of hf, rfl, _, rfl, f, _, _, _, rfl, rfl, SqL.of hf, rfl, _, rfl, _, _, rfl, _, _, rfl, rfl, _, aD, aS, aH, ds', st', tot, _, _, rfl, W', g', by omega, fun H2 ds2 st2 W2 g2 ex2 l2 nm2 => ⟨true, rfl, iteF ?_⟩⟩
    exact ⟨ds2, st2, _, rfl, W2, g2, nm2 nm, by omega⟩
  · rintro σ H' ⟨ds', st', c3, rfl, W', g', nm, hl⟩
    have hl : st'.length ≤ 30 := by
      have : (n : Int).toNat = n := rfl
      omega
    exact mid_ok W' g' nm hl t0 t1 hD k
end
end My

set_option Elab.async false
set_option maxRecDepth 100000
set_option maxHeartbeats 4000000
set_option autoImplicit false
namespace My
open PySem L2 Xtra
section
variable {P : Program} {w : World} {K : KF} {mg : Str → Option Value} {base : Heap} {CA CH : Addr}
theorem room65 {k : Nat} {A : Around} (r : Room k A) : A.units + 65 < cLine := by have := r.un; omega
def spLaw (K : KF) : Sp := fun vs H Q _ => ∃ (a : Addr) (ns : List Int), vs = [.ref a] ∧ SqL K H a (ns.map V.int) ∧ ns.length ≤ 63 ∧ ∀ H', Q (.bl true) H'
theorem ok_law {f : Addr} {fd : FuncData} (F : Fun K "law" "law" sLaw f fd) (B : Blt mg) (T : Txt K mg CA CH) (GR : GF P w K mg base CX0 1 "_law_draws" ["_law_script"] (spDraws K)) (GO : GF P w K mg base CX0 5 "_law_start" ["_law_draws_here"] (spStart CA CH))
    (GT : GTake P w K mg base) (GD : GDeed P w K mg base CA CH) (GFr : GF P w K mg base CX0 2 "_law_fraction" ["_law_draws_here", "_law_least"] spLFr) (GA : GAdd P w K mg base) (GH : GHeld P w K mg base) (GTm : GF P w K mg base CX0 2 "_law_times" ["_law_a", "_law_b"] (sp2 Mth.tm)) (GMk : GMake P w K mg base)
    (GS : GSame P w K mg base) (GSu : GF P w K mg base CX0 3 "_law_sum" ["_law_rows"] spSum) (GG : GF P w K mg base CX0 1 "_law_got" ["_law_rows", "_law_name"] spGot) (GN : GF P w K mg base CX0 6 "_law_not_noted" ["_law_holders", "_law_day"] (spNotN CA CH))
    (MN : MNote P w K mg base CA CH) (MP : MPass P w K mg base CA CH) (ME : MEnt P w K mg base CA CH) : FnOk P w K mg base CX0 7 f fd ["_law_script"] (spLaw K) := by
  refine F.ok scLaw (fun vs H Q E h => ?_) (fun cdv A outer s H vs Q E hr h => ?_)
  · obtain ⟨_, _, rfl, _⟩ := h
    rfl
  · obtain ⟨a, ns, rfl, hS, hlen, k⟩ := h
    have hr1 := hr.mono (show 1 ≤ 6 by decide)
    have hr2 := hr.mono (show 2 ≤ 6 by decide)
    have hr3 := hr.mono (show 3 ≤ 6 by decide)
    have hr4 := hr.mono (show 4 ≤ 6 by decide)
    have hr5 := hr.mono (show 5 ≤ 6 by decide)
    refine ⟨_, (pss_cons (ps_set (i := 1) scLaw.nd rfl (.inl rfl) (pe_call GR.F hr1 (by rfl) GR.m GR.kp GR.b .nil pass0 (pa_cons (pv 0) pa_nil)))
      (pss_cons (ps_set (i := 2) scLaw.nd rfl (.inr rfl) (pe_call GO.F hr5 (by rfl) GO.m GO.kp GO.b .nil pass0 (pa_cons (pv 1) pa_nil)))
      (pss_cons (ps_for PassesOwn.never rfl (pi_range1 rfl B.range (pa_cons (pe_call GT.F hr1 (by rfl) GT.m GT.kp GT.b .nil pass0 (pa_cons (pv 1) (pa_cons pe_int pa_nil))) pa_nil)) (pg_name (i := 3) scLaw.nd rfl (.inl rfl)) (pss_one (ps_if (pt_not (pt_val (pe_call GD.F hr (by rfl) GD.m GD.kp GD.b .nil pass0 (pa_cons (pv 1) (pa_cons (pe_ix (r := rIxL K) ix_list (pv 2) pe_int (fun _ _ => rfl)) (pa_cons (pe_ix (r := rIxL K) ix_list (pv 2) pe_int (fun _ _ => rfl)) (pa_cons (pe_op op_sub pe_int (pe_callB (call_min2 rfl) (by rfl) B.min bt_min (pa_cons (pv 3) (pa_cons pe_int pa_nil)))) pa_nil))))))) (pss_one (ps_ret pe_bl)) pss_nil)))
      (pss_cons (ps_set (i := 4) scLaw.nd rfl (.inl rfl) (pe_lst (pa_cons (pe_call GFr.F hr2 (by rfl) GFr.m GFr.kp GFr.b .nil pass0 (pa_cons (pv 1) (pa_cons pe_int pa_nil))) (pa_cons (pe_call GFr.F hr2 (by rfl) GFr.m GFr.kp GFr.b .nil pass0 (pa_cons (pv 1) (pa_cons pe_int pa_nil))) pa_nil))))
      (pss_cons (ps_setLc (i := 6) (own := [("_law_row", 5)]) (g := gName 5) (tt := tYes) (te := teHeld K) rfl scLaw.nd rfl rfl (sw_true rfl rfl rfl (by decide +kernel)) (pi_list (pe_ix (r := rIxL K) ix_list (pe_ix (r := rIxL K) ix_list (pv 2) pe_int (fun _ _ => rfl)) pe_int (fun _ _ => rfl))) (blkOk_by (own := [("_law_row", 5)]) (N := NL) (sc := defScope sLaw) (by decide +kernel)) (fun _ _ _ _ _ => pg_name (i := 5) scLaw.nd rfl (.inl rfl)) (fun _ _ _ _ _ => pts_nil) (fun _ _ _ _ _ => pe_tup (pa_cons (pe_ix (r := rIxL K) ix_list (pv 5) pe_int (fun _ _ => rfl)) (pa_cons (pe_call GH.F hr3 (by rfl) GH.m GH.kp GH.b .nil pass0 (pa_cons (pe_ix (r := rIxL K) ix_list (pv 2) pe_int (fun _ _ => rfl)) (pa_cons (pe_ix (r := rIxL K) ix_list (pv 5) pe_int (fun _ _ => rfl)) pa_nil))) pa_nil))))
      (pss_cons (ps_set (i := 7) scLaw.nd rfl (.inr rfl) (pe_lc (own := [("_law_row", 5)]) (g := gName 5) (tt := tB (tI K (tVar 5) 2)) (te := tI K (tVar 5) 0) rfl scLaw.nd (pi_list (pe_ix (r := rIxL K) ix_list (pe_ix (r := rIxL K) ix_list (pv 2) pe_int (fun _ _ => rfl)) pe_int (fun _ _ => rfl))) (blkOk_by (own := [("_law_row", 5)]) (N := NL) (sc := defScope sLaw) (by decide +kernel)) (fun _ _ _ _ _ => pg_name (i := 5) scLaw.nd rfl (.inl rfl)) (fun _ _ _ _ _ => pts_one (pt_val (pe_ix (r := rIxL K) ix_list (pv 5) pe_int (fun _ _ => rfl)))) (fun _ _ _ _ _ => (pe_ix (r := rIxL K) ix_list (pv 5) pe_int (fun _ _ => rfl)))))
      (pss_cons (ps_set (i := 8) scLaw.nd rfl (.inr rfl) (pe_lc (own := [("_law_row", 5)]) (g := gName 5) (tt := tYes) (te := tLst (tCons (tI K (tVar 5) 0) (tCons (tI K (tVar 5) 1) tNil))) rfl scLaw.nd (pi_list (pe_ix (r := rIxL K) ix_list (pe_ix (r := rIxL K) ix_list (pv 2) pe_int (fun _ _ => rfl)) pe_int (fun _ _ => rfl))) (blkOk_by (own := [("_law_row", 5)]) (N := NL) (sc := defScope sLaw) (by decide +kernel)) (fun _ _ _ _ _ => pg_name (i := 5) scLaw.nd rfl (.inl rfl)) (fun _ _ _ _ _ => pts_nil) (fun _ _ _ _ _ => (pe_lst (pa_cons (pe_ix (r := rIxL K) ix_list (pv 5) pe_int (fun _ _ => rfl)) (pa_cons (pe_ix (r := rIxL K) ix_list (pv 5) pe_int (fun _ _ => rfl)) pa_nil))))))
      (pss_cons (ps_expr (pe_meth (pe_ix (r := rIxL K) ix_list (pv 2) pe_int (fun _ _ => rfl)) T.clH MN.m MN.F hr4 MN.b .nil pass0 (pa_cons pe_int pa_nil)))
      (pss_cons (ps_for PassesOwn.never rfl (pi_range1 rfl B.range (pa_cons (pe_call GT.F hr1 (by rfl) GT.m GT.kp GT.b .nil pass0 (pa_cons (pv 1) (pa_cons pe_int pa_nil))) pa_nil)) (pg_name (i := 3) scLaw.nd rfl (.inl rfl)) (pss_one (ps_if (pt_not (pt_val (pe_call GD.F hr (by rfl) GD.m GD.kp GD.b .nil pass0 (pa_cons (pv 1) (pa_cons (pe_ix (r := rIxL K) ix_list (pv 2) pe_int (fun _ _ => rfl)) (pa_cons (pe_ix (r := rIxL K) ix_list (pv 2) pe_int (fun _ _ => rfl)) (pa_cons pe_int pa_nil))))))) (pss_one (ps_ret pe_bl)) pss_nil)))
      (pss_cons (ps_set (i := 9) scLaw.nd rfl (.inl rfl) (pe_lst pa_nil))
      (pss_cons (ps_for PassesOwn.never rfl (pi_list (pe_op op_cat (pv 4) (pe_lst (pa_cons (pe_call GA.F hr2 (by rfl) GA.m GA.kp GA.b .nil pass0 (pa_cons (pe_ix (r := rIxL K) ix_list (pv 4) pe_int (fun _ _ => rfl)) (pa_cons (pe_ix (r := rIxL K) ix_list (pv 4) pe_int (fun _ _ => rfl)) pa_nil))) pa_nil)))) (pg_name (i := 10) scLaw.nd rfl (.inr rfl)) (pss_cons (ps_setLc (i := 11) (own := [("_law_row", 5)]) (g := gName 5) (tt := ttPos K) (te := teDue K) rfl scLaw.nd rfl rfl (sw_true rfl rfl rfl (by decide +kernel)) (pi_list (pv 6)) (blkOk_by (own := [("_law_row", 5)]) (N := NL) (sc := defScope sLaw) (by decide +kernel)) (fun _ _ _ _ _ => pg_name (i := 5) scLaw.nd rfl (.inl rfl)) (fun _ _ _ _ _ => (pts_one (pt_cmpR op_gt (pe_ix (r := rIxT K) ix_tup (pv 5) pe_int (fun _ _ => rfl)) pe_int (nomark _)))) (fun _ _ _ _ _ => (pe_tup (pa_cons (pe_ix (r := rIxT K) ix_tup (pv 5) pe_int (fun _ _ => rfl)) (pa_cons (pe_call GTm.F hr2 (by rfl) GTm.m GTm.kp GTm.b .nil pass0 (pa_cons (pv 10) (pa_cons (pe_call GMk.F hr1 (by rfl) GMk.m GMk.kp GMk.b .nil pass0 (pa_cons (pe_ix (r := rIxT K) ix_tup (pv 5) pe_int (fun _ _ => rfl)) (pa_cons (pe_ix (r := rIxL K) ix_list (pe_ix (r := rIxL K) ix_list (pv 2) pe_int (fun _ _ => rfl)) pe_int (fun _ _ => rfl)) pa_nil))) pa_nil))) pa_nil)))))
      (pss_cons (ps_set (i := 12) scLaw.nd rfl (.inl rfl) (pe_meth (pe_ix (r := rIxL K) ix_list (pv 2) pe_int (fun _ _ => rfl)) T.clH MP.m MP.F hr3 MP.b .nil pass0 (pa_cons pe_int (pa_cons (pv 10) pa_nil))))
      (pss_cons (ps_set (i := 13) scLaw.nd rfl (.inl rfl) (pe_meth (pe_ix (r := rIxL K) ix_list (pv 2) pe_int (fun _ _ => rfl)) T.clH ME.m ME.F hr4 ME.b .nil pass0 (pa_cons pe_int (pa_cons (pv 10) pa_nil))))
      (pss_cons (ps_if (PW.pt (pw_or (pt_not (pt_val (pe_call GS.F hr5 (by rfl) GS.m GS.kp GS.b .nil pass0 (pa_cons (pv 12) (pa_cons (pv 11) pa_nil))))) (pw_or1 (pt_not (pt_val (pe_call GS.F hr5 (by rfl) GS.m GS.kp GS.b .nil pass0 (pa_cons (pv 13) (pa_cons (pe_lc (own := [("_law_row", 5)]) (g := gName 5) (tt := ttOut K) (te := tVar 5) rfl scLaw.nd (pi_list (pv 11)) (blkOk_by (own := [("_law_row", 5)]) (N := NL) (sc := defScope sLaw) (by decide +kernel)) (fun _ _ _ _ _ => pg_name (i := 5) scLaw.nd rfl (.inl rfl)) (fun _ _ _ _ _ => (pts_one (pt_cmpR (r := rIn K true) op_notIn_seq (pe_ix (r := rIxT K) ix_tup (pv 5) pe_int (fun _ _ => rfl)) (pv 7) (by rfl)))) (fun _ _ _ _ _ => (pv 5))) pa_nil)))))))) (pss_one (ps_ret pe_bl)) pss_nil)
      (pss_cons (ps_if (PW.pt (pw_or (pt_cmpR (op_neD hr.units) (pe_call GSu.F hr3 (by rfl) GSu.m GSu.kp GSu.b .nil pass0 (pa_cons (pv 13) pa_nil)) (pv 10) (by rfl)) (pw_or1 (pt_not (pt_val (pe_call GS.F hr5 (by rfl) GS.m GS.kp GS.b .nil pass0 (pa_cons (pe_call GSu.F hr3 (by rfl) GSu.m GSu.kp GSu.b .nil pass0 (pa_cons (pe_lc (own := [("_law_row", 5)]) (g := gName 5) (tt := ttIn K (tC .non)) (te := tVar 5) rfl scLaw.nd (pi_list (pv 12)) (blkOk_by (own := [("_law_row", 5)]) (N := NL) (sc := defScope sLaw) (by decide +kernel)) (fun _ _ _ _ _ => pg_name (i := 5) scLaw.nd rfl (.inl rfl)) (fun _ _ _ _ _ => (pts_one (pt_cmpR (r := rInD K) (op_inD (room65 hr)) (pe_lst (pa_cons (pe_ix (r := rIxT K) ix_tup (pv 5) pe_int (fun _ _ => rfl)) (pa_cons pe_non pa_nil))) (pv 8) (by rfl)))) (fun _ _ _ _ _ => (pv 5))) pa_nil)) (pa_cons (pv 10) pa_nil)))))))) (pss_one (ps_ret pe_bl)) pss_nil)
      (pss_cons (ps_for PassesOwn.never rfl (pi_list (pv 7)) (pg_name (i := 14) scLaw.nd rfl (.inr rfl)) (pss_cons (ps_setLc (i := 15) (own := [("_law_row", 5)]) (g := gName 5) (tt := ttIn K (tVar 14)) (te := tVar 5) rfl scLaw.nd rfl rfl (sw_true rfl rfl rfl (by decide +kernel)) (pi_list (pv 12)) (blkOk_by (own := [("_law_row", 5)]) (N := NL) (sc := defScope sLaw) (by decide +kernel)) (fun _ _ _ _ _ => pg_name (i := 5) scLaw.nd rfl (.inl rfl)) (fun _ _ _ _ _ => (pts_one (pt_cmpR (r := rInD K) (op_inD (room65 hr)) (pe_lst (pa_cons (pe_ix (r := rIxT K) ix_tup (pv 5) pe_int (fun _ _ => rfl)) (pa_cons (pv 14) pa_nil))) (pv 8) (by rfl)))) (fun _ _ _ _ _ => (pv 5)))
      (pss_one (ps_if (pt_not (pt_val (pe_call GS.F hr5 (by rfl) GS.m GS.kp GS.b .nil pass0 (pa_cons (pe_call GSu.F hr3 (by rfl) GSu.m GSu.kp GSu.b .nil pass0 (pa_cons (pv 15) pa_nil)) (pa_cons (pe_call GG.F hr1 (by rfl) GG.m GG.kp GG.b .nil pass0 (pa_cons (pv 12) (pa_cons (pv 14) pa_nil))) pa_nil))))) (pss_one (ps_ret pe_bl)) pss_nil))))
      (pss_one (ps_expr (pe_bm PySem.F.plainAttrs_list PySem.F.slot_list_append PySem.F.type_list_append mt_append (pv 9) (pa_cons (pv 12) pa_nil)))))))))))
      (pss_cons (ps_for PassesOwn.never rfl (pi_list (pe_ix (r := rIxL K) ix_list (pv 9) pe_int (fun _ _ => rfl))) (pg_name (i := 5) scLaw.nd rfl (.inl rfl)) (pss_one (ps_if (pt_cmpR (op_neD hr.units) (pe_call GA.F hr2 (by rfl) GA.m GA.kp GA.b .nil pass0 (pa_cons (pe_call GG.F hr1 (by rfl) GG.m GG.kp GG.b .nil pass0 (pa_cons (pe_ix (r := rIxL K) ix_list (pv 9) pe_int (fun _ _ => rfl)) (pa_cons (pe_ix (r := rIxT K) ix_tup (pv 5) pe_int (fun _ _ => rfl)) pa_nil))) (pa_cons (pe_call GG.F hr1 (by rfl) GG.m GG.kp GG.b .nil pass0 (pa_cons (pe_ix (r := rIxL K) ix_list (pv 9) pe_int (fun _ _ => rfl)) (pa_cons (pe_ix (r := rIxT K) ix_tup (pv 5) pe_int (fun _ _ => rfl)) pa_nil))) pa_nil))) (pe_ix (r := rIxT K) ix_tup (pv 5) pe_int (fun _ _ => rfl)) (by rfl)) (pss_one (ps_ret pe_bl)) pss_nil)))
      (pss_one (ps_ret (pe_and (pe_call GN.F hr (by rfl) GN.m GN.kp GN.b .nil pass0 (pa_cons (pe_ix (r := rIxL K) ix_list (pv 2) pe_int (fun _ _ => rfl)) (pa_cons pe_int pa_nil))) (pe_one (pe_call GN.F hr (by rfl) GN.m GN.kp GN.b .nil pass0 (pa_cons (pe_ix (r := rIxL K) ix_list (pv 2) pe_int (fun _ _ => rfl)) (pa_cons pe_int pa_nil))))))))))))))))))), ?_⟩
    refine ⟨_, rfl, a, ns, rfl, hS, hlen, fun aD H1 ds s1 _ hD => ?_⟩
    refine ⟨_, rfl, aD, ds, rfl, hD, fun H2 f aH aS ds2 tot W t0 t1 => ?_⟩
    exact first_ok W t0 t1 rfl k
end
end My

set_option Elab.async false
set_option maxRecDepth 100000
set_option maxHeartbeats 4000000
set_option autoImplicit false
namespace My
open PySem L2 Xtra
/-- which error a clause takes -/
theorem exm_b {K : PySem.W.Frag} {S A : Addr} {b : Bool} (h1 : PySem.W.subIn K (.ref S) (.type "BaseException") = some true) (h2 : PySem.W.isClsIn K S = true) (h3 : PySem.W.typeIn K (.ref S) = some (.type "type")) (h4 : PySem.W.subIn K (.ref A) (.ref S) = some b) :
    PySem.W.exmOne K (.ref A) (.ref S) = some b := by
  have e1 : (PySem.W.subIn K (.ref S) (.type "BaseException") == some true) = true := by rw [h1] <;> rfl
  have e2 : ((PySem.W.clsIn K S).isSome && PySem.W.typeIn K (.ref S) == some (.type "type")) = true := by
    have h2' : (PySem.W.clsIn K S).isSome = true := h2
    rw [h2', h3] <;> rfl
  show (if (PySem.W.subIn K (.ref S) (.type "BaseException") == some true) = true then (if ((PySem.W.clsIn K S).isSome && PySem.W.typeIn K (.ref S) == some (.type "type")) = true then PySem.W.subIn K (.ref A) (.ref S) else none) else none) = some b
  rw [if_pos e1, if_pos e2]
  exact h4
theorem all_mk {l : PySem.W.OpenLaw} {w : World} {K : PySem.W.Frag} {h : Heap} {mg : Str → Option Value} {fa : Addr} (X : K.In h) (G : h.Ns mainGlobals mg) (hfa : mg "law" = some (.ref fa))
    {ffrc : Addr} {ocfrc kVfrc dcfrc pmfrc cdfrc ctfrc : Value} {odfrc anfrc : Option Addr} {slfrc : Array (Option Value)}
    {fptm : Addr} {ocptm kVptm dcptm pmptm cdptm ctptm : Value} {odptm anptm : Option Addr} {slptm : Array (Option Value)}
    {fdrw : Addr} {ocdrw kVdrw dcdrw pmdrw cddrw ctdrw : Value} {oddrw andrw : Option Addr} {sldrw : Array (Option Value)}
    {ftak : Addr} {octak kVtak dctak pmtak cdtak cttak : Value} {odtak antak : Option Addr} {sltak : Array (Option Value)}
    {fmak : Addr} {ocmak kVmak dcmak pmmak cdmak ctmak : Value} {odmak anmak : Option Addr} {slmak : Array (Option Value)}
    {fadd : Addr} {ocadd kVadd dcadd pmadd cdadd ctadd : Value} {odadd anadd : Option Addr} {sladd : Array (Option Value)}
    {ftms : Addr} {octms kVtms dctms pmtms cdtms cttms : Value} {odtms antms : Option Addr} {sltms : Array (Option Value)}
    {flfr : Addr} {oclfr kVlfr dclfr pmlfr cdlfr ctlfr : Value} {odlfr anlfr : Option Addr} {sllfr : Array (Option Value)}
    {fsam : Addr} {ocsam kVsam dcsam pmsam cdsam ctsam : Value} {odsam ansam : Option Addr} {slsam : Array (Option Value)}
    {facc : Addr} {ocacc kVacc dcacc pmacc cdacc ctacc : Value} {odacc anacc : Option Addr} {slacc : Array (Option Value)}
    {fabv : Addr} {ocabv kVabv dcabv pmabv cdabv ctabv : Value} {odabv anabv : Option Addr} {slabv : Array (Option Value)}
    {fhld : Addr} {ochld kVhld dchld pmhld cdhld cthld : Value} {odhld anhld : Option Addr} {slhld : Array (Option Value)}
    {fopn : Addr} {ocopn kVopn dcopn pmopn cdopn ctopn : Value} {odopn anopn : Option Addr} {slopn : Array (Option Value)}
    {fmov : Addr} {ocmov kVmov dcmov pmmov cdmov ctmov : Value} {odmov anmov : Option Addr} {slmov : Array (Option Value)}
    {fwrd : Addr} {ocwrd kVwrd dcwrd pmwrd cdwrd ctwrd : Value} {odwrd anwrd : Option Addr} {slwrd : Array (Option Value)}
    {ftel : Addr} {octel kVtel dctel pmtel cdtel cttel : Value} {odtel antel : Option Addr} {sltel : Array (Option Value)}
    {fded : Addr} {ocded kVded dcded pmded cdded ctded : Value} {odded anded : Option Addr} {slded : Array (Option Value)}
    {fsta : Addr} {ocsta kVsta dcsta pmsta cdsta ctsta : Value} {odsta ansta : Option Addr} {slsta : Array (Option Value)}
    {fsum : Addr} {ocsum kVsum dcsum pmsum cdsum ctsum : Value} {odsum ansum : Option Addr} {slsum : Array (Option Value)}
    {fgot : Addr} {ocgot kVgot dcgot pmgot cdgot ctgot : Value} {odgot angot : Option Addr} {slgot : Array (Option Value)}
    {fnnt : Addr} {ocnnt kVnnt dcnnt pmnnt cdnnt ctnnt : Value} {odnnt annnt : Option Addr} {slnnt : Array (Option Value)}
    {flaw : Addr} {oclaw kVlaw dclaw pmlaw cdlaw ctlaw : Value} {odlaw anlaw : Option Addr} {sllaw : Array (Option Value)}
    {tT : Addr} {tc : Value} {td : Option Addr} {ti : _} {tn : Nat} {ts : Array (Option Value)}
    {CA CH : Addr}
    {fmai : Addr} {ocmai kVmai dcmai pmmai cdmai ctmai : Value} {odmai anmai : Option Addr} {slmai : Array (Option Value)}
    {fmhi : Addr} {ocmhi kVmhi dcmhi pmmhi cdmhi ctmhi : Value} {odmhi anmhi : Option Addr} {slmhi : Array (Option Value)}
    {fmac : Addr} {ocmac kVmac dcmac pmmac cdmac ctmac : Value} {odmac anmac : Option Addr} {slmac : Array (Option Value)}
    {fmop : Addr} {ocmop kVmop dcmop pmmop cdmop ctmop : Value} {odmop anmop : Option Addr} {slmop : Array (Option Value)}
    {fmmv : Addr} {ocmmv kVmmv dcmmv pmmmv cdmmv ctmmv : Value} {odmmv anmmv : Option Addr} {slmmv : Array (Option Value)}
    {fmab : Addr} {ocmab kVmab dcmab pmmab cdmab ctmab : Value} {odmab anmab : Option Addr} {slmab : Array (Option Value)}
    {fmhe : Addr} {ocmhe kVmhe dcmhe pmmhe cdmhe ctmhe : Value} {odmhe anmhe : Option Addr} {slmhe : Array (Option Value)}
    {fmno : Addr} {ocmno kVmno dcmno pmmno cdmno ctmno : Value} {odmno anmno : Option Addr} {slmno : Array (Option Value)}
    {fmnd : Addr} {ocmnd kVmnd dcmnd pmmnd cdmnd ctmnd : Value} {odmnd anmnd : Option Addr} {slmnd : Array (Option Value)}
    {fmpa : Addr} {ocmpa kVmpa dcmpa pmmpa cdmpa ctmpa : Value} {odmpa anmpa : Option Addr} {slmpa : Array (Option Value)}
    {fmen : Addr} {ocmen kVmen dcmen pmmen cdmen ctmen : Value} {odmen anmen : Option Addr} {slmen : Array (Option Value)}
    {cB : Addr}
    {Cdup : Addr}
    {nmdup qdup : Str} {Ndup : Addr} {bsdup : List Value} {sndup : List Str} {subdup : List Value} {abdup : Bool} {coldup : Option Bool} {dddup : Option Addr} {u0dup u1dup u2dup u3dup u5dup : Option Value}
    {fedup : Addr} {ocedup kVedup dcedup pmedup cdedup ctedup : Value} {odedup anedup : Option Addr} {sledup : Array (Option Value)}
    {Cunk : Addr}
    {nmunk qunk : Str} {Nunk : Addr} {bsunk : List Value} {snunk : List Str} {subunk : List Value} {abunk : Bool} {colunk : Option Bool} {ddunk : Option Addr} {u0unk u1unk u2unk u3unk u5unk : Option Value}
    {feunk : Addr} {oceunk kVeunk dceunk pmeunk cdeunk cteunk : Value} {odeunk aneunk : Option Addr} {sleunk : Array (Option Value)}
    {Cnom : Addr}
    {nmnom qnom : Str} {Nnom : Addr} {bsnom : List Value} {snnom : List Str} {subnom : List Value} {abnom : Bool} {colnom : Option Bool} {ddnom : Option Addr} {u0nom u1nom u2nom u3nom u5nom : Option Value}
    {fenom : Addr} {ocenom kVenom dcenom pmenom cdenom ctenom : Value} {odenom anenom : Option Addr} {slenom : Array (Option Value)}
    {Chol : Addr}
    {nmhol qhol : Str} {Nhol : Addr} {bshol : List Value} {snhol : List Str} {subhol : List Value} {abhol : Bool} {colhol : Option Bool} {ddhol : Option Addr} {u0hol u1hol u2hol u3hol u5hol : Option Value}
    {fehol : Addr} {ocehol kVehol dcehol pmehol cdehol ctehol : Value} {odehol anehol : Option Addr} {slehol : Array (Option Value)}
    {Cnn : Addr}
    {nmnn qnn : Str} {Nnn : Addr} {bsnn : List Value} {snnn : List Str} {subnn : List Value} {abnn : Bool} {colnn : Option Bool} {ddnn : Option Addr} {u0nn u1nn u2nn u3nn u5nn : Option Value}
    {fenn : Addr} {ocenn kVenn dcenn pmenn cdenn ctenn : Value} {odenn anenn : Option Addr} {slenn : Array (Option Value)}
    {Cfew : Addr}
    {nmfew qfew : Str} {Nfew : Addr} {bsfew : List Value} {snfew : List Str} {subfew : List Value} {abfew : Bool} {colfew : Option Bool} {ddfew : Option Addr} {u0few u1few u2few u3few u5few : Option Value}
    {fefew : Addr} {ocefew kVefew dcefew pmefew cdefew ctefew : Value} {odefew anefew : Option Addr} {slefew : Array (Option Value)}
    {Cdee : Addr}
    {Cuni : Addr}
    {tm : _}
    (afrc : PySem.W.nsIn K mainGlobals "fraction" = some (some (.ref ffrc)))
    (lfrc : K.lookup ffrc = some ⟨ocfrc, odfrc, .func (PySem.W.fnOf "fraction" "fraction" (defArgs sFraction) (defBody sFraction) (defScope sFraction) (.ref tT) kVfrc dcfrc pmfrc anfrc cdfrc ctfrc), slfrc⟩)
    (cfrc : PySem.W.codeIn K cdfrc "fraction" = true)
    (kfrc : PySem.W.keepIn K (.ref ffrc) = true)
    (aptm : PySem.W.nsIn K mainGlobals "times" = some (some (.ref fptm)))
    (lptm : K.lookup fptm = some ⟨ocptm, odptm, .func (PySem.W.fnOf "times" "times" (defArgs sPTimes) (defBody sPTimes) (defScope sPTimes) .none kVptm dcptm pmptm anptm cdptm ctptm), slptm⟩)
    (cptm : PySem.W.codeIn K cdptm "times" = true)
    (kptm : PySem.W.keepIn K (.ref fptm) = true)
    (adrw : PySem.W.nsIn K mainGlobals "_law_draws" = some (some (.ref fdrw)))
    (ldrw : K.lookup fdrw = some ⟨ocdrw, oddrw, .func (PySem.W.fnOf "_law_draws" "_law_draws" (defArgs sDraws) (defBody sDraws) (defScope sDraws) .none kVdrw dcdrw pmdrw andrw cddrw ctdrw), sldrw⟩)
    (cdrw : PySem.W.codeIn K cddrw "_law_draws" = true)
    (kdrw : PySem.W.keepIn K (.ref fdrw) = true)
    (atak : PySem.W.nsIn K mainGlobals "_law_take" = some (some (.ref ftak)))
    (ltak : K.lookup ftak = some ⟨octak, odtak, .func (PySem.W.fnOf "_law_take" "_law_take" (defArgs sTake) (defBody sTake) (defScope sTake) .none kVtak dctak pmtak antak cdtak cttak), sltak⟩)
    (ctak : PySem.W.codeIn K cdtak "_law_take" = true)
    (ktak : PySem.W.keepIn K (.ref ftak) = true)
    (amak : PySem.W.nsIn K mainGlobals "_law_make" = some (some (.ref fmak)))
    (lmak : K.lookup fmak = some ⟨ocmak, odmak, .func (PySem.W.fnOf "_law_make" "_law_make" (defArgs sMake) (defBody sMake) (defScope sMake) .none kVmak dcmak pmmak anmak cdmak ctmak), slmak⟩)
    (cmak : PySem.W.codeIn K cdmak "_law_make" = true)
    (kmak : PySem.W.keepIn K (.ref fmak) = true)
    (aadd : PySem.W.nsIn K mainGlobals "_law_add" = some (some (.ref fadd)))
    (ladd : K.lookup fadd = some ⟨ocadd, odadd, .func (PySem.W.fnOf "_law_add" "_law_add" (defArgs sAdd) (defBody sAdd) (defScope sAdd) .none kVadd dcadd pmadd anadd cdadd ctadd), sladd⟩)
    (cadd : PySem.W.codeIn K cdadd "_law_add" = true)
    (kadd : PySem.W.keepIn K (.ref fadd) = true)
    (atms : PySem.W.nsIn K mainGlobals "_law_times" = some (some (.ref ftms)))
    (ltms : K.lookup ftms = some ⟨octms, odtms, .func (PySem.W.fnOf "_law_times" "_law_times" (defArgs sTimes) (defBody sTimes) (defScope sTimes) .none kVtms dctms pmtms antms cdtms cttms), sltms⟩)
    (ctms : PySem.W.codeIn K cdtms "_law_times" = true)
    (ktms : PySem.W.keepIn K (.ref ftms) = true)
    (alfr : PySem.W.nsIn K mainGlobals "_law_fraction" = some (some (.ref flfr)))
    (llfr : K.lookup flfr = some ⟨oclfr, odlfr, .func (PySem.W.fnOf "_law_fraction" "_law_fraction" (defArgs sLFr) (defBody sLFr) (defScope sLFr) .none kVlfr dclfr pmlfr anlfr cdlfr ctlfr), sllfr⟩)
    (clfr : PySem.W.codeIn K cdlfr "_law_fraction" = true)
    (klfr : PySem.W.keepIn K (.ref flfr) = true)
    (asam : PySem.W.nsIn K mainGlobals "_law_same" = some (some (.ref fsam)))
    (lsam : K.lookup fsam = some ⟨ocsam, odsam, .func (PySem.W.fnOf "_law_same" "_law_same" (defArgs sSame) (defBody sSame) (defScope sSame) .none kVsam dcsam pmsam ansam cdsam ctsam), slsam⟩)
    (csam : PySem.W.codeIn K cdsam "_law_same" = true)
    (ksam : PySem.W.keepIn K (.ref fsam) = true)
    (aacc : PySem.W.nsIn K mainGlobals "_law_account" = some (some (.ref facc)))
    (lacc : K.lookup facc = some ⟨ocacc, odacc, .func (PySem.W.fnOf "_law_account" "_law_account" (defArgs sAccount) (defBody sAccount) (defScope sAccount) .none kVacc dcacc pmacc anacc cdacc ctacc), slacc⟩)
    (cacc : PySem.W.codeIn K cdacc "_law_account" = true)
    (kacc : PySem.W.keepIn K (.ref facc) = true)
    (aabv : PySem.W.nsIn K mainGlobals "_law_above" = some (some (.ref fabv)))
    (labv : K.lookup fabv = some ⟨ocabv, odabv, .func (PySem.W.fnOf "_law_above" "_law_above" (defArgs sAboveL) (defBody sAboveL) (defScope sAboveL) .none kVabv dcabv pmabv anabv cdabv ctabv), slabv⟩)
    (cabv : PySem.W.codeIn K cdabv "_law_above" = true)
    (kabv : PySem.W.keepIn K (.ref fabv) = true)
    (ahld : PySem.W.nsIn K mainGlobals "_law_held" = some (some (.ref fhld)))
    (lhld : K.lookup fhld = some ⟨ochld, odhld, .func (PySem.W.fnOf "_law_held" "_law_held" (defArgs sHeldL) (defBody sHeldL) (defScope sHeldL) .none kVhld dchld pmhld anhld cdhld cthld), slhld⟩)
    (chld : PySem.W.codeIn K cdhld "_law_held" = true)
    (khld : PySem.W.keepIn K (.ref fhld) = true)
    (aopn : PySem.W.nsIn K mainGlobals "_law_open" = some (some (.ref fopn)))
    (lopn : K.lookup fopn = some ⟨ocopn, odopn, .func (PySem.W.fnOf "_law_open" "_law_open" (defArgs sOpenL) (defBody sOpenL) (defScope sOpenL) .none kVopn dcopn pmopn anopn cdopn ctopn), slopn⟩)
    (copn : PySem.W.codeIn K cdopn "_law_open" = true)
    (kopn : PySem.W.keepIn K (.ref fopn) = true)
    (amov : PySem.W.nsIn K mainGlobals "_law_move" = some (some (.ref fmov)))
    (lmov : K.lookup fmov = some ⟨ocmov, odmov, .func (PySem.W.fnOf "_law_move" "_law_move" (defArgs sMoveL) (defBody sMoveL) (defScope sMoveL) .none kVmov dcmov pmmov anmov cdmov ctmov), slmov⟩)
    (cmov : PySem.W.codeIn K cdmov "_law_move" = true)
    (kmov : PySem.W.keepIn K (.ref fmov) = true)
    (awrd : PySem.W.nsIn K mainGlobals "_law_words" = some (some (.ref fwrd)))
    (lwrd : K.lookup fwrd = some ⟨ocwrd, odwrd, .func (PySem.W.fnOf "_law_words" "_law_words" (defArgs sWords) (defBody sWords) (defScope sWords) .none kVwrd dcwrd pmwrd anwrd cdwrd ctwrd), slwrd⟩)
    (cwrd : PySem.W.codeIn K cdwrd "_law_words" = true)
    (kwrd : PySem.W.keepIn K (.ref fwrd) = true)
    (atel : PySem.W.nsIn K mainGlobals "_law_tell" = some (some (.ref ftel)))
    (ltel : K.lookup ftel = some ⟨octel, odtel, .func (PySem.W.fnOf "_law_tell" "_law_tell" (defArgs sTell) (defBody sTell) (defScope sTell) .none kVtel dctel pmtel antel cdtel cttel), sltel⟩)
    (ctel : PySem.W.codeIn K cdtel "_law_tell" = true)
    (ktel : PySem.W.keepIn K (.ref ftel) = true)
    (aded : PySem.W.nsIn K mainGlobals "_law_deed" = some (some (.ref fded)))
    (lded : K.lookup fded = some ⟨ocded, odded, .func (PySem.W.fnOf "_law_deed" "_law_deed" (defArgs sDeed) (defBody sDeed) (defScope sDeed) .none kVded dcded pmded anded cdded ctded), slded⟩)
    (cded : PySem.W.codeIn K cdded "_law_deed" = true)
    (kded : PySem.W.keepIn K (.ref fded) = true)
    (asta : PySem.W.nsIn K mainGlobals "_law_start" = some (some (.ref fsta)))
    (lsta : K.lookup fsta = some ⟨ocsta, odsta, .func (PySem.W.fnOf "_law_start" "_law_start" (defArgs sStart) (defBody sStart) (defScope sStart) .none kVsta dcsta pmsta ansta cdsta ctsta), slsta⟩)
    (csta : PySem.W.codeIn K cdsta "_law_start" = true)
    (ksta : PySem.W.keepIn K (.ref fsta) = true)
    (asum : PySem.W.nsIn K mainGlobals "_law_sum" = some (some (.ref fsum)))
    (lsum : K.lookup fsum = some ⟨ocsum, odsum, .func (PySem.W.fnOf "_law_sum" "_law_sum" (defArgs sSum) (defBody sSum) (defScope sSum) .none kVsum dcsum pmsum ansum cdsum ctsum), slsum⟩)
    (csum : PySem.W.codeIn K cdsum "_law_sum" = true)
    (ksum : PySem.W.keepIn K (.ref fsum) = true)
    (agot : PySem.W.nsIn K mainGlobals "_law_got" = some (some (.ref fgot)))
    (lgot : K.lookup fgot = some ⟨ocgot, odgot, .func (PySem.W.fnOf "_law_got" "_law_got" (defArgs sGot) (defBody sGot) (defScope sGot) .none kVgot dcgot pmgot angot cdgot ctgot), slgot⟩)
    (cgot : PySem.W.codeIn K cdgot "_law_got" = true)
    (kgot : PySem.W.keepIn K (.ref fgot) = true)
    (annt : PySem.W.nsIn K mainGlobals "_law_not_noted" = some (some (.ref fnnt)))
    (lnnt : K.lookup fnnt = some ⟨ocnnt, odnnt, .func (PySem.W.fnOf "_law_not_noted" "_law_not_noted" (defArgs sNotN) (defBody sNotN) (defScope sNotN) .none kVnnt dcnnt pmnnt annnt cdnnt ctnnt), slnnt⟩)
    (cnnt : PySem.W.codeIn K cdnnt "_law_not_noted" = true)
    (knnt : PySem.W.keepIn K (.ref fnnt) = true)
    (alaw : PySem.W.nsIn K mainGlobals "law" = some (some (.ref flaw)))
    (llaw : K.lookup flaw = some ⟨oclaw, odlaw, .func (PySem.W.fnOf "law" "law" (defArgs sLaw) (defBody sLaw) (defScope sLaw) .none kVlaw dclaw pmlaw anlaw cdlaw ctlaw), sllaw⟩)
    (claw : PySem.W.codeIn K cdlaw "law" = true)
    (klaw : PySem.W.keepIn K (.ref flaw) = true)
    (lT : K.lookup tT = some ⟨tc, td, .seq #[.int 1 ti] tn, ts⟩)
    (aCA : PySem.W.nsIn K mainGlobals "Account" = some (some (.ref CA)))
    (pgCA : PySem.W.plainGet K CA Str.empty = true)
    (hdCA : PySem.W.hasDictIn K CA = true)
    (poCA : PySem.W.plainOver K CA = true)
    (saCA : PySem.W.findIn K (.ref CA) "__setattr__" = some (some (.builtin "object.__setattr__")))
    (mkCA : PySem.W.makesIn K CA = true)
    (kcCA : PySem.W.keepIn K (.ref CA) = true)
    (aCH : PySem.W.nsIn K mainGlobals "Holders" = some (some (.ref CH)))
    (pgCH : PySem.W.plainGet K CH Str.empty = true)
    (hdCH : PySem.W.hasDictIn K CH = true)
    (poCH : PySem.W.plainOver K CH = true)
    (saCH : PySem.W.findIn K (.ref CH) "__setattr__" = some (some (.builtin "object.__setattr__")))
    (mkCH : PySem.W.makesIn K CH = true)
    (kcCH : PySem.W.keepIn K (.ref CH) = true)
    (nCA_name : PySem.W.findIn K (.ref CA) "name" = some none)
    (nCA_under : PySem.W.findIn K (.ref CA) "under" = some none)
    (nCA_nominee : PySem.W.findIn K (.ref CA) "nominee" = some none)
    (nCA_units : PySem.W.findIn K (.ref CA) "units" = some none)
    (nCH_issuer : PySem.W.findIn K (.ref CH) "issuer" = some none)
    (nCH_units : PySem.W.findIn K (.ref CH) "units" = some none)
    (nCH_known : PySem.W.findIn K (.ref CH) "known" = some none)
    (nCH_notes : PySem.W.findIn K (.ref CH) "notes" = some none)
    (amai : PySem.W.findIn K (.ref CA) "__init__" = some (some (.ref fmai)))
    (imai : PySem.W.isFn K (.ref fmai) = true)
    (lmai : K.lookup fmai = some ⟨ocmai, odmai, .func (PySem.W.fnOf "__init__" "Account.__init__" (defArgs sAccI) (defBody sAccI) (defScope sAccI) .none kVmai dcmai pmmai anmai cdmai ctmai), slmai⟩)
    (cmai : PySem.W.codeIn K cdmai "Account.__init__" = true)
    (kmai : PySem.W.keepIn K (.ref fmai) = true)
    (amhi : PySem.W.findIn K (.ref CH) "__init__" = some (some (.ref fmhi)))
    (imhi : PySem.W.isFn K (.ref fmhi) = true)
    (lmhi : K.lookup fmhi = some ⟨ocmhi, odmhi, .func (PySem.W.fnOf "__init__" "Holders.__init__" (defArgs sHolI) (defBody sHolI) (defScope sHolI) .none kVmhi dcmhi pmmhi anmhi cdmhi ctmhi), slmhi⟩)
    (cmhi : PySem.W.codeIn K cdmhi "Holders.__init__" = true)
    (kmhi : PySem.W.keepIn K (.ref fmhi) = true)
    (amac : PySem.W.findIn K (.ref CH) "account" = some (some (.ref fmac)))
    (imac : PySem.W.isFn K (.ref fmac) = true)
    (lmac : K.lookup fmac = some ⟨ocmac, odmac, .func (PySem.W.fnOf "account" "Holders.account" (defArgs sPAcc) (defBody sPAcc) (defScope sPAcc) .none kVmac dcmac pmmac anmac cdmac ctmac), slmac⟩)
    (cmac : PySem.W.codeIn K cdmac "Holders.account" = true)
    (kmac : PySem.W.keepIn K (.ref fmac) = true)
    (amop : PySem.W.findIn K (.ref CH) "open_account" = some (some (.ref fmop)))
    (imop : PySem.W.isFn K (.ref fmop) = true)
    (lmop : K.lookup fmop = some ⟨ocmop, odmop, .func (PySem.W.fnOf "open_account" "Holders.open_account" (defArgs sPOpen) (defBody sPOpen) (defScope sPOpen) .none kVmop dcmop pmmop anmop cdmop ctmop), slmop⟩)
    (cmop : PySem.W.codeIn K cdmop "Holders.open_account" = true)
    (kmop : PySem.W.keepIn K (.ref fmop) = true)
    (ammv : PySem.W.findIn K (.ref CH) "move" = some (some (.ref fmmv)))
    (immv : PySem.W.isFn K (.ref fmmv) = true)
    (lmmv : K.lookup fmmv = some ⟨ocmmv, odmmv, .func (PySem.W.fnOf "move" "Holders.move" (defArgs sPMove) (defBody sPMove) (defScope sPMove) .none kVmmv dcmmv pmmmv anmmv cdmmv ctmmv), slmmv⟩)
    (cmmv : PySem.W.codeIn K cdmmv "Holders.move" = true)
    (kmmv : PySem.W.keepIn K (.ref fmmv) = true)
    (amab : PySem.W.findIn K (.ref CH) "above" = some (some (.ref fmab)))
    (imab : PySem.W.isFn K (.ref fmab) = true)
    (lmab : K.lookup fmab = some ⟨ocmab, odmab, .func (PySem.W.fnOf "above" "Holders.above" (defArgs sPAbove) (defBody sPAbove) (defScope sPAbove) .none kVmab dcmab pmmab anmab cdmab ctmab), slmab⟩)
    (cmab : PySem.W.codeIn K cdmab "Holders.above" = true)
    (kmab : PySem.W.keepIn K (.ref fmab) = true)
    (amhe : PySem.W.findIn K (.ref CH) "held" = some (some (.ref fmhe)))
    (imhe : PySem.W.isFn K (.ref fmhe) = true)
    (lmhe : K.lookup fmhe = some ⟨ocmhe, odmhe, .func (PySem.W.fnOf "held" "Holders.held" (defArgs sPHeld) (defBody sPHeld) (defScope sPHeld) .none kVmhe dcmhe pmmhe anmhe cdmhe ctmhe), slmhe⟩)
    (cmhe : PySem.W.codeIn K cdmhe "Holders.held" = true)
    (kmhe : PySem.W.keepIn K (.ref fmhe) = true)
    (amno : PySem.W.findIn K (.ref CH) "note" = some (some (.ref fmno)))
    (imno : PySem.W.isFn K (.ref fmno) = true)
    (lmno : K.lookup fmno = some ⟨ocmno, odmno, .func (PySem.W.fnOf "note" "Holders.note" (defArgs sPNote) (defBody sPNote) (defScope sPNote) .none kVmno dcmno pmmno anmno cdmno ctmno), slmno⟩)
    (cmno : PySem.W.codeIn K cdmno "Holders.note" = true)
    (kmno : PySem.W.keepIn K (.ref fmno) = true)
    (amnd : PySem.W.findIn K (.ref CH) "noted" = some (some (.ref fmnd)))
    (imnd : PySem.W.isFn K (.ref fmnd) = true)
    (lmnd : K.lookup fmnd = some ⟨ocmnd, odmnd, .func (PySem.W.fnOf "noted" "Holders.noted" (defArgs sPNoted) (defBody sPNoted) (defScope sPNoted) .none kVmnd dcmnd pmmnd anmnd cdmnd ctmnd), slmnd⟩)
    (cmnd : PySem.W.codeIn K cdmnd "Holders.noted" = true)
    (kmnd : PySem.W.keepIn K (.ref fmnd) = true)
    (ampa : PySem.W.findIn K (.ref CH) "passed" = some (some (.ref fmpa)))
    (impa : PySem.W.isFn K (.ref fmpa) = true)
    (lmpa : K.lookup fmpa = some ⟨ocmpa, odmpa, .func (PySem.W.fnOf "passed" "Holders.passed" (defArgs sPPass) (defBody sPPass) (defScope sPPass) .none kVmpa dcmpa pmmpa anmpa cdmpa ctmpa), slmpa⟩)
    (cmpa : PySem.W.codeIn K cdmpa "Holders.passed" = true)
    (kmpa : PySem.W.keepIn K (.ref fmpa) = true)
    (amen : PySem.W.findIn K (.ref CH) "entitled" = some (some (.ref fmen)))
    (imen : PySem.W.isFn K (.ref fmen) = true)
    (lmen : K.lookup fmen = some ⟨ocmen, odmen, .func (PySem.W.fnOf "entitled" "Holders.entitled" (defArgs sPEnt) (defBody sPEnt) (defScope sPEnt) .none kVmen dcmen pmmen anmen cdmen ctmen), slmen⟩)
    (cmen : PySem.W.codeIn K cdmen "Holders.entitled" = true)
    (kmen : PySem.W.keepIn K (.ref fmen) = true)
    (aCdup : PySem.W.nsIn K mainGlobals "DuplicateAccount" = some (some (.ref Cdup)))
    (kCdup : PySem.W.keepIn K (.ref Cdup) = true)
    (eCdup : PySem.W.subIn K (.ref Cdup) (.type "BaseException") = some true)
    (tCdup : PySem.W.typeIn K (.ref Cdup) = some (.type "type"))
    (iCdup : PySem.W.isClsIn K Cdup = true)
    (xdup : K.lookup Cdup = some (excClassObj nmdup qdup Cdup Ndup bsdup [.ref cB, .type "ValueError", .type "Exception", .type "BaseException", .type "object"] true sndup subdup abdup coldup dddup u0dup u1dup u2dup u3dup u5dup "ValueError.__new__"))
    (sCdup : PySem.W.findIn K (.ref Cdup) "__setattr__" = some (some (.builtin "object.__setattr__")))
    (gadup : PySem.W.findIn K (.ref Cdup) "__getattribute__" = some (some (.builtin "BaseException.__getattribute__")))
    (ggdup : PySem.W.findIn K (.ref Cdup) "__getattr__" = some none)
    (hCdup : PySem.W.hasDictIn K Cdup = true)
    (ndup_name : PySem.W.findIn K (.ref Cdup) "name" = some none)
    (aedup : PySem.W.findIn K (.ref Cdup) "__init__" = some (some (.ref fedup)))
    (tedup : PySem.W.typeIn K (.ref fedup) = some (.type "function"))
    (ledup : K.lookup fedup = some ⟨ocedup, odedup, .func (PySem.W.fnOf "__init__" "DuplicateAccount.__init__" (defArgs (inClass (top 4) 0)) (defBody (inClass (top 4) 0)) (defScope (inClass (top 4) 0)) .none kVedup dcedup pmedup anedup cdedup ctedup), sledup⟩)
    (cedup : PySem.W.codeIn K cdedup "DuplicateAccount.__init__" = true)
    (kedup : PySem.W.keepIn K (.ref fedup) = true)
    (aCunk : PySem.W.nsIn K mainGlobals "UnknownAccount" = some (some (.ref Cunk)))
    (kCunk : PySem.W.keepIn K (.ref Cunk) = true)
    (eCunk : PySem.W.subIn K (.ref Cunk) (.type "BaseException") = some true)
    (tCunk : PySem.W.typeIn K (.ref Cunk) = some (.type "type"))
    (iCunk : PySem.W.isClsIn K Cunk = true)
    (xunk : K.lookup Cunk = some (excClassObj nmunk qunk Cunk Nunk bsunk [.ref cB, .type "ValueError", .type "Exception", .type "BaseException", .type "object"] true snunk subunk abunk colunk ddunk u0unk u1unk u2unk u3unk u5unk "ValueError.__new__"))
    (sCunk : PySem.W.findIn K (.ref Cunk) "__setattr__" = some (some (.builtin "object.__setattr__")))
    (gaunk : PySem.W.findIn K (.ref Cunk) "__getattribute__" = some (some (.builtin "BaseException.__getattribute__")))
    (ggunk : PySem.W.findIn K (.ref Cunk) "__getattr__" = some none)
    (hCunk : PySem.W.hasDictIn K Cunk = true)
    (nunk_name : PySem.W.findIn K (.ref Cunk) "name" = some none)
    (aeunk : PySem.W.findIn K (.ref Cunk) "__init__" = some (some (.ref feunk)))
    (teunk : PySem.W.typeIn K (.ref feunk) = some (.type "function"))
    (leunk : K.lookup feunk = some ⟨oceunk, odeunk, .func (PySem.W.fnOf "__init__" "UnknownAccount.__init__" (defArgs (inClass (top 5) 0)) (defBody (inClass (top 5) 0)) (defScope (inClass (top 5) 0)) .none kVeunk dceunk pmeunk aneunk cdeunk cteunk), sleunk⟩)
    (ceunk : PySem.W.codeIn K cdeunk "UnknownAccount.__init__" = true)
    (keunk : PySem.W.keepIn K (.ref feunk) = true)
    (aCnom : PySem.W.nsIn K mainGlobals "NotANominee" = some (some (.ref Cnom)))
    (kCnom : PySem.W.keepIn K (.ref Cnom) = true)
    (eCnom : PySem.W.subIn K (.ref Cnom) (.type "BaseException") = some true)
    (tCnom : PySem.W.typeIn K (.ref Cnom) = some (.type "type"))
    (iCnom : PySem.W.isClsIn K Cnom = true)
    (xnom : K.lookup Cnom = some (excClassObj nmnom qnom Cnom Nnom bsnom [.ref cB, .type "ValueError", .type "Exception", .type "BaseException", .type "object"] true snnom subnom abnom colnom ddnom u0nom u1nom u2nom u3nom u5nom "ValueError.__new__"))
    (sCnom : PySem.W.findIn K (.ref Cnom) "__setattr__" = some (some (.builtin "object.__setattr__")))
    (ganom : PySem.W.findIn K (.ref Cnom) "__getattribute__" = some (some (.builtin "BaseException.__getattribute__")))
    (ggnom : PySem.W.findIn K (.ref Cnom) "__getattr__" = some none)
    (hCnom : PySem.W.hasDictIn K Cnom = true)
    (nnom_name : PySem.W.findIn K (.ref Cnom) "name" = some none)
    (aenom : PySem.W.findIn K (.ref Cnom) "__init__" = some (some (.ref fenom)))
    (tenom : PySem.W.typeIn K (.ref fenom) = some (.type "function"))
    (lenom : K.lookup fenom = some ⟨ocenom, odenom, .func (PySem.W.fnOf "__init__" "NotANominee.__init__" (defArgs (inClass (top 6) 0)) (defBody (inClass (top 6) 0)) (defScope (inClass (top 6) 0)) .none kVenom dcenom pmenom anenom cdenom ctenom), slenom⟩)
    (cenom : PySem.W.codeIn K cdenom "NotANominee.__init__" = true)
    (kenom : PySem.W.keepIn K (.ref fenom) = true)
    (aChol : PySem.W.nsIn K mainGlobals "NotAHolder" = some (some (.ref Chol)))
    (kChol : PySem.W.keepIn K (.ref Chol) = true)
    (eChol : PySem.W.subIn K (.ref Chol) (.type "BaseException") = some true)
    (tChol : PySem.W.typeIn K (.ref Chol) = some (.type "type"))
    (iChol : PySem.W.isClsIn K Chol = true)
    (xhol : K.lookup Chol = some (excClassObj nmhol qhol Chol Nhol bshol [.ref cB, .type "ValueError", .type "Exception", .type "BaseException", .type "object"] true snhol subhol abhol colhol ddhol u0hol u1hol u2hol u3hol u5hol "ValueError.__new__"))
    (sChol : PySem.W.findIn K (.ref Chol) "__setattr__" = some (some (.builtin "object.__setattr__")))
    (gahol : PySem.W.findIn K (.ref Chol) "__getattribute__" = some (some (.builtin "BaseException.__getattribute__")))
    (gghol : PySem.W.findIn K (.ref Chol) "__getattr__" = some none)
    (hChol : PySem.W.hasDictIn K Chol = true)
    (nhol_name : PySem.W.findIn K (.ref Chol) "name" = some none)
    (aehol : PySem.W.findIn K (.ref Chol) "__init__" = some (some (.ref fehol)))
    (tehol : PySem.W.typeIn K (.ref fehol) = some (.type "function"))
    (lehol : K.lookup fehol = some ⟨ocehol, odehol, .func (PySem.W.fnOf "__init__" "NotAHolder.__init__" (defArgs (inClass (top 7) 0)) (defBody (inClass (top 7) 0)) (defScope (inClass (top 7) 0)) .none kVehol dcehol pmehol anehol cdehol ctehol), slehol⟩)
    (cehol : PySem.W.codeIn K cdehol "NotAHolder.__init__" = true)
    (kehol : PySem.W.keepIn K (.ref fehol) = true)
    (aCnn : PySem.W.nsIn K mainGlobals "NotNoted" = some (some (.ref Cnn)))
    (kCnn : PySem.W.keepIn K (.ref Cnn) = true)
    (eCnn : PySem.W.subIn K (.ref Cnn) (.type "BaseException") = some true)
    (tCnn : PySem.W.typeIn K (.ref Cnn) = some (.type "type"))
    (iCnn : PySem.W.isClsIn K Cnn = true)
    (xnn : K.lookup Cnn = some (excClassObj nmnn qnn Cnn Nnn bsnn [.ref cB, .type "ValueError", .type "Exception", .type "BaseException", .type "object"] true snnn subnn abnn colnn ddnn u0nn u1nn u2nn u3nn u5nn "ValueError.__new__"))
    (sCnn : PySem.W.findIn K (.ref Cnn) "__setattr__" = some (some (.builtin "object.__setattr__")))
    (gann : PySem.W.findIn K (.ref Cnn) "__getattribute__" = some (some (.builtin "BaseException.__getattribute__")))
    (ggnn : PySem.W.findIn K (.ref Cnn) "__getattr__" = some none)
    (hCnn : PySem.W.hasDictIn K Cnn = true)
    (nnn_day : PySem.W.findIn K (.ref Cnn) "day" = some none)
    (aenn : PySem.W.findIn K (.ref Cnn) "__init__" = some (some (.ref fenn)))
    (tenn : PySem.W.typeIn K (.ref fenn) = some (.type "function"))
    (lenn : K.lookup fenn = some ⟨ocenn, odenn, .func (PySem.W.fnOf "__init__" "NotNoted.__init__" (defArgs (inClass (top 8) 0)) (defBody (inClass (top 8) 0)) (defScope (inClass (top 8) 0)) .none kVenn dcenn pmenn anenn cdenn ctenn), slenn⟩)
    (cenn : PySem.W.codeIn K cdenn "NotNoted.__init__" = true)
    (kenn : PySem.W.keepIn K (.ref fenn) = true)
    (aCfew : PySem.W.nsIn K mainGlobals "TooFew" = some (some (.ref Cfew)))
    (kCfew : PySem.W.keepIn K (.ref Cfew) = true)
    (eCfew : PySem.W.subIn K (.ref Cfew) (.type "BaseException") = some true)
    (tCfew : PySem.W.typeIn K (.ref Cfew) = some (.type "type"))
    (iCfew : PySem.W.isClsIn K Cfew = true)
    (xfew : K.lookup Cfew = some (excClassObj nmfew qfew Cfew Nfew bsfew [.ref cB, .type "ValueError", .type "Exception", .type "BaseException", .type "object"] true snfew subfew abfew colfew ddfew u0few u1few u2few u3few u5few "ValueError.__new__"))
    (sCfew : PySem.W.findIn K (.ref Cfew) "__setattr__" = some (some (.builtin "object.__setattr__")))
    (gafew : PySem.W.findIn K (.ref Cfew) "__getattribute__" = some (some (.builtin "BaseException.__getattribute__")))
    (ggfew : PySem.W.findIn K (.ref Cfew) "__getattr__" = some none)
    (hCfew : PySem.W.hasDictIn K Cfew = true)
    (nfew_name : PySem.W.findIn K (.ref Cfew) "name" = some none)
    (nfew_held : PySem.W.findIn K (.ref Cfew) "held" = some none)
    (aefew : PySem.W.findIn K (.ref Cfew) "__init__" = some (some (.ref fefew)))
    (tefew : PySem.W.typeIn K (.ref fefew) = some (.type "function"))
    (lefew : K.lookup fefew = some ⟨ocefew, odefew, .func (PySem.W.fnOf "__init__" "TooFew.__init__" (defArgs (inClass (top 9) 0)) (defBody (inClass (top 9) 0)) (defScope (inClass (top 9) 0)) .none kVefew dcefew pmefew anefew cdefew ctefew), slefew⟩)
    (cefew : PySem.W.codeIn K cdefew "TooFew.__init__" = true)
    (kefew : PySem.W.keepIn K (.ref fefew) = true)
    (aCdee : PySem.W.nsIn K mainGlobals "TooDeep" = some (some (.ref Cdee)))
    (kCdee : PySem.W.keepIn K (.ref Cdee) = true)
    (eCdee : PySem.W.subIn K (.ref Cdee) (.type "BaseException") = some true)
    (tCdee : PySem.W.typeIn K (.ref Cdee) = some (.type "type"))
    (iCdee : PySem.W.isClsIn K Cdee = true)
    (xdee : PySem.W.excIn K Cdee [.type "ValueError", .type "Exception", .type "BaseException", .type "object"] "ValueError.__new__" = true)
    (aCuni : PySem.W.nsIn K mainGlobals "InvalidUnits" = some (some (.ref Cuni)))
    (kCuni : PySem.W.keepIn K (.ref Cuni) = true)
    (eCuni : PySem.W.subIn K (.ref Cuni) (.type "BaseException") = some true)
    (tCuni : PySem.W.typeIn K (.ref Cuni) = some (.type "type"))
    (iCuni : PySem.W.isClsIn K Cuni = true)
    (xuni : PySem.W.excIn K Cuni [.type "ValueError", .type "Exception", .type "BaseException", .type "object"] "ValueError.__new__" = true)
    (sdup_dup : PySem.W.subIn K (.ref Cdup) (.ref Cdup) = some true)
    (sunk_dup : PySem.W.subIn K (.ref Cunk) (.ref Cdup) = some false)
    (sunk_unk : PySem.W.subIn K (.ref Cunk) (.ref Cunk) = some true)
    (snom_dup : PySem.W.subIn K (.ref Cnom) (.ref Cdup) = some false)
    (snom_unk : PySem.W.subIn K (.ref Cnom) (.ref Cunk) = some false)
    (snom_nom : PySem.W.subIn K (.ref Cnom) (.ref Cnom) = some true)
    (shol_dup : PySem.W.subIn K (.ref Chol) (.ref Cdup) = some false)
    (shol_unk : PySem.W.subIn K (.ref Chol) (.ref Cunk) = some false)
    (shol_nom : PySem.W.subIn K (.ref Chol) (.ref Cnom) = some false)
    (shol_hol : PySem.W.subIn K (.ref Chol) (.ref Chol) = some true)
    (sfew_dup : PySem.W.subIn K (.ref Cfew) (.ref Cdup) = some false)
    (sfew_unk : PySem.W.subIn K (.ref Cfew) (.ref Cunk) = some false)
    (sfew_nom : PySem.W.subIn K (.ref Cfew) (.ref Cnom) = some false)
    (sfew_hol : PySem.W.subIn K (.ref Cfew) (.ref Chol) = some false)
    (sfew_few : PySem.W.subIn K (.ref Cfew) (.ref Cfew) = some true)
    (sdee_dup : PySem.W.subIn K (.ref Cdee) (.ref Cdup) = some false)
    (sdee_unk : PySem.W.subIn K (.ref Cdee) (.ref Cunk) = some false)
    (sdee_nom : PySem.W.subIn K (.ref Cdee) (.ref Cnom) = some false)
    (sdee_hol : PySem.W.subIn K (.ref Cdee) (.ref Chol) = some false)
    (sdee_few : PySem.W.subIn K (.ref Cdee) (.ref Cfew) = some false)
    (sdee_dee : PySem.W.subIn K (.ref Cdee) (.ref Cdee) = some true)
    (suni_dup : PySem.W.subIn K (.ref Cuni) (.ref Cdup) = some false)
    (suni_unk : PySem.W.subIn K (.ref Cuni) (.ref Cunk) = some false)
    (suni_nom : PySem.W.subIn K (.ref Cuni) (.ref Cnom) = some false)
    (suni_hol : PySem.W.subIn K (.ref Cuni) (.ref Chol) = some false)
    (suni_few : PySem.W.subIn K (.ref Cuni) (.ref Cfew) = some false)
    (suni_dee : PySem.W.subIn K (.ref Cuni) (.ref Cdee) = some false)
    (suni_uni : PySem.W.subIn K (.ref Cuni) (.ref Cuni) = some true)
    (snn_nn : PySem.W.subIn K (.ref Cnn) (.ref Cnn) = some true)
    (z_len : PySem.W.nsIn K mainGlobals "len" = some none)
    (z_int : PySem.W.nsIn K mainGlobals "int" = some none)
    (z_abs : PySem.W.nsIn K mainGlobals "abs" = some none)
    (z_range : PySem.W.nsIn K mainGlobals "range" = some none)
    (z_list : PySem.W.nsIn K mainGlobals "list" = some none)
    (z_reversed : PySem.W.nsIn K mainGlobals "reversed" = some none)
    (z_isinstance : PySem.W.nsIn K mainGlobals "isinstance" = some none)
    (z_tuple : PySem.W.nsIn K mainGlobals "tuple" = some none)
    (z_bool : PySem.W.nsIn K mainGlobals "bool" = some none)
    (z_str : PySem.W.nsIn K mainGlobals "str" = some none)
    (z_sum : PySem.W.nsIn K mainGlobals "sum" = some none)
    (z_min : PySem.W.nsIn K mainGlobals "min" = some none)
    (z_max : PySem.W.nsIn K mainGlobals "max" = some none)
    (mgcd : PySem.W.nsIn K mainGlobals "gcd" = some (some (.builtin "math.gcd")))
    (mmost : PySem.W.nsIn K mainGlobals "MOST_ABOVE" = some (some (.int 3 tm))) :
    ∃ fd : FuncData, (∀ (s : Shared) (v : Value), BindsTo s fd ⟨[v], []⟩ [("_law_script", v)]) ∧ ∀ base : Heap, K.In base → base.Ns mainGlobals mg → FnOk l.prog w K mg base CX0 7 fa fd ["_law_script"] (spLaw K) := by
  have e := hfa.symm.trans (PySem.W.mg_of X G alaw)
  cases e
  have T : Txt K mg CA CH := ⟨⟨pgCA, hdCA, poCA, saCA⟩, nCA_name, nCA_under, nCA_nominee, nCA_units, PySem.W.mg_of X G aCA, ⟨pgCH, hdCH, poCH, saCH⟩, nCH_issuer, nCH_units, nCH_known, nCH_notes, PySem.W.mg_of X G aCH⟩
  have B : Blt mg := ⟨PySem.W.mg_none_of X G z_len, PySem.W.mg_none_of X G z_int, PySem.W.mg_none_of X G z_abs, PySem.W.mg_none_of X G z_range, PySem.W.mg_none_of X G z_list, PySem.W.mg_none_of X G z_reversed, PySem.W.mg_none_of X G z_isinstance, PySem.W.mg_none_of X G z_tuple, PySem.W.mg_none_of X G z_bool, PySem.W.mg_none_of X G z_str, PySem.W.mg_none_of X G z_sum, PySem.W.mg_none_of X G z_min, PySem.W.mg_none_of X G z_max⟩
  have Fptm := fun_mk (st := sPTimes) lptm cptm kptm
  have bptm := Fptm.binds (ps := ["a", "b"]) fun _ _ _ _ _ _ us hl => match us, hl with | [_, _], _ => rfl
  have Fdrw := fun_mk (st := sDraws) ldrw cdrw kdrw
  have bdrw := Fdrw.binds (ps := ["_law_script"]) fun _ _ _ _ _ _ us hl => match us, hl with | [_], _ => rfl
  have Ftak := fun_mk (st := sTake) ltak ctak ktak
  have btak := Ftak.binds (ps := ["_law_draws_here", "_law_bound"]) fun _ _ _ _ _ _ us hl => match us, hl with | [_, _], _ => rfl
  have Fmak := fun_mk (st := sMake) lmak cmak kmak
  have bmak := Fmak.binds (ps := ["_law_p", "_law_q"]) fun _ _ _ _ _ _ us hl => match us, hl with | [_, _], _ => rfl
  have Fadd := fun_mk (st := sAdd) ladd cadd kadd
  have badd := Fadd.binds (ps := ["_law_a", "_law_b"]) fun _ _ _ _ _ _ us hl => match us, hl with | [_, _], _ => rfl
  have Ftms := fun_mk (st := sTimes) ltms ctms ktms
  have btms := Ftms.binds (ps := ["_law_a", "_law_b"]) fun _ _ _ _ _ _ us hl => match us, hl with | [_, _], _ => rfl
  have Flfr := fun_mk (st := sLFr) llfr clfr klfr
  have blfr := Flfr.binds (ps := ["_law_draws_here", "_law_least"]) fun _ _ _ _ _ _ us hl => match us, hl with | [_, _], _ => rfl
  have Fsam := fun_mk (st := sSame) lsam csam ksam
  have bsam := Fsam.binds (ps := ["_law_value", "_law_due"]) fun _ _ _ _ _ _ us hl => match us, hl with | [_, _], _ => rfl
  have Facc := fun_mk (st := sAccount) lacc cacc kacc
  have bacc := Facc.binds (ps := ["_law_state", "_law_name"]) fun _ _ _ _ _ _ us hl => match us, hl with | [_, _], _ => rfl
  have Fabv := fun_mk (st := sAboveL) labv cabv kabv
  have babv := Fabv.binds (ps := ["_law_state", "_law_name"]) fun _ _ _ _ _ _ us hl => match us, hl with | [_, _], _ => rfl
  have Fhld := fun_mk (st := sHeldL) lhld chld khld
  have bhld := Fhld.binds (ps := ["_law_state", "_law_name"]) fun _ _ _ _ _ _ us hl => match us, hl with | [_, _], _ => rfl
  have Fopn := fun_mk (st := sOpenL) lopn copn kopn
  have bopn := Fopn.binds (ps := ["_law_state", "_law_name", "_law_under", "_law_nominee"]) fun _ _ _ _ _ _ us hl => match us, hl with | [_, _, _, _], _ => rfl
  have Fmov := fun_mk (st := sMoveL) lmov cmov kmov
  have bmov := Fmov.binds (ps := ["_law_state", "_law_source", "_law_target", "_law_units"]) fun _ _ _ _ _ _ us hl => match us, hl with | [_, _, _, _], _ => rfl
  have Fwrd := fun_mk (st := sWords) lwrd cwrd kwrd
  have bwrd := Fwrd.binds (ps := []) fun _ _ _ _ _ _ us hl => match us, hl with | [], _ => rfl
  have Ftel := fun_mk (st := sTell) ltel ctel ktel
  have btel := Ftel.binds (ps := ["_law_holders", "_law_kind", "_law_rows"]) fun _ _ _ _ _ _ us hl => match us, hl with | [_, _, _], _ => rfl
  have Fded := fun_mk (st := sDeed) lded cded kded
  have bded := Fded.binds (ps := ["_law_draws_here", "_law_holders", "_law_state", "_law_opening"]) fun _ _ _ _ _ _ us hl => match us, hl with | [_, _, _, _], _ => rfl
  have Fsta := fun_mk (st := sStart) lsta csta ksta
  have bsta := Fsta.binds (ps := ["_law_draws_here"]) fun _ _ _ _ _ _ us hl => match us, hl with | [_], _ => rfl
  have Fsum := fun_mk (st := sSum) lsum csum ksum
  have bsum := Fsum.binds (ps := ["_law_rows"]) fun _ _ _ _ _ _ us hl => match us, hl with | [_], _ => rfl
  have Fgot := fun_mk (st := sGot) lgot cgot kgot
  have bgot := Fgot.binds (ps := ["_law_rows", "_law_name"]) fun _ _ _ _ _ _ us hl => match us, hl with | [_, _], _ => rfl
  have Fnnt := fun_mk (st := sNotN) lnnt cnnt knnt
  have bnnt := Fnnt.binds (ps := ["_law_holders", "_law_day"]) fun _ _ _ _ _ _ us hl => match us, hl with | [_, _], _ => rfl
  have Flaw := fun_mk (st := sLaw) llaw claw klaw
  have blaw := Flaw.binds (ps := ["_law_script"]) fun _ _ _ _ _ _ us hl => match us, hl with | [_], _ => rfl
  have Ffrc : FunD K "fraction" "fraction" (defArgs sFraction) (defBody sFraction) (defScope sFraction) [.int 1] [] ffrc _ := ⟨⟨_, _, _, _, _, _, _, _, _, _, rfl, lfrc, cfrc, .inr ⟨by simp, tT, _, [.int 1 ti], tn, rfl, lT, rfl, .cons ⟨ti, rfl⟩ .nil⟩, .inl rfl⟩, kfrc⟩
  obtain ⟨ds, hds, bfrc⟩ := Ffrc.binds1 (ps := ["p", "q"]) 2 1 (by simp) rfl fun T kV doc pm an cdv ct us its h1 h2 => match us, its, h1, h2 with | [_, _], [_], _, _ => ⟨_, rfl, rfl⟩
  cases hds
  have Fmai := fun_mk (st := sAccI) lmai cmai kmai
  have bmai := Fmai.binds (ps := ["self", "name", "under", "nominee"]) fun _ _ _ _ _ _ us hl => match us, hl with | [_, _, _, _], _ => rfl
  have Fmhi := fun_mk (st := sHolI) lmhi cmhi kmhi
  have bmhi := Fmhi.binds (ps := ["self", "issuer", "units"]) fun _ _ _ _ _ _ us hl => match us, hl with | [_, _, _], _ => rfl
  have Fmac := fun_mk (st := sPAcc) lmac cmac kmac
  have bmac := Fmac.binds (ps := ["self", "name"]) fun _ _ _ _ _ _ us hl => match us, hl with | [_, _], _ => rfl
  have Fmmv := fun_mk (st := sPMove) lmmv cmmv kmmv
  have bmmv := Fmmv.binds (ps := ["self", "source", "target", "units"]) fun _ _ _ _ _ _ us hl => match us, hl with | [_, _, _, _], _ => rfl
  have Fmab := fun_mk (st := sPAbove) lmab cmab kmab
  have bmab := Fmab.binds (ps := ["self", "name"]) fun _ _ _ _ _ _ us hl => match us, hl with | [_, _], _ => rfl
  have Fmhe := fun_mk (st := sPHeld) lmhe cmhe kmhe
  have bmhe := Fmhe.binds (ps := ["self", "name"]) fun _ _ _ _ _ _ us hl => match us, hl with | [_, _], _ => rfl
  have Fmno := fun_mk (st := sPNote) lmno cmno kmno
  have bmno := Fmno.binds (ps := ["self", "day"]) fun _ _ _ _ _ _ us hl => match us, hl with | [_, _], _ => rfl
  have Fmnd := fun_mk (st := sPNoted) lmnd cmnd kmnd
  have bmnd := Fmnd.binds (ps := ["self", "day"]) fun _ _ _ _ _ _ us hl => match us, hl with | [_, _], _ => rfl
  have Fmpa := fun_mk (st := sPPass) lmpa cmpa kmpa
  have bmpa := Fmpa.binds (ps := ["self", "day", "amount"]) fun _ _ _ _ _ _ us hl => match us, hl with | [_, _, _], _ => rfl
  have Fmen := fun_mk (st := sPEnt) lmen cmen kmen
  have bmen := Fmen.binds (ps := ["self", "day", "amount"]) fun _ _ _ _ _ _ us hl => match us, hl with | [_, _, _], _ => rfl
  have Fmop : FunD K "open_account" "Holders.open_account" (defArgs sPOpen) (defBody sPOpen) (defScope sPOpen) [] [] fmop _ := ⟨⟨_, _, _, _, _, _, _, _, _, _, rfl, lmop, cmop, .inl ⟨rfl, rfl⟩, .inl rfl⟩, kmop⟩
  have bmop : KBn K (PySem.W.fnOf "open_account" "Holders.open_account" (defArgs sPOpen) (defBody sPOpen) (defScope sPOpen) .none kVmop dcmop pmmop anmop cdmop ctmop) ["self", "name", "under", "nominee"] 2 ["under", "nominee"] (fun us ws => us ++ ws) (fun vs zs => vs ++ zs) :=
    ⟨fun s us ws _ h1 h2 => match us, ws, h1, h2 with | [_, _], [_, _], _, _ => .of_eq rfl, fun a b => a.append b⟩
  have Fedup := fun_mk (st := inClass (top 4) 0) ledup cedup kedup
  have bedup := Fedup.binds (ps := ["self", "name"]) fun _ _ _ _ _ _ us hl => match us, hl with | [_, _], _ => rfl
  have Feunk := fun_mk (st := inClass (top 5) 0) leunk ceunk keunk
  have beunk := Feunk.binds (ps := ["self", "name"]) fun _ _ _ _ _ _ us hl => match us, hl with | [_, _], _ => rfl
  have Fenom := fun_mk (st := inClass (top 6) 0) lenom cenom kenom
  have benom := Fenom.binds (ps := ["self", "name"]) fun _ _ _ _ _ _ us hl => match us, hl with | [_, _], _ => rfl
  have Fehol := fun_mk (st := inClass (top 7) 0) lehol cehol kehol
  have behol := Fehol.binds (ps := ["self", "name"]) fun _ _ _ _ _ _ us hl => match us, hl with | [_, _], _ => rfl
  have Fenn := fun_mk (st := inClass (top 8) 0) lenn cenn kenn
  have benn := Fenn.binds (ps := ["self", "day"]) fun _ _ _ _ _ _ us hl => match us, hl with | [_, _], _ => rfl
  have Fefew := fun_mk (st := inClass (top 9) 0) lefew cefew kefew
  have befew := Fefew.binds (ps := ["self", "name", "held"]) fun _ _ _ _ _ _ us hl => match us, hl with | [_, _, _], _ => rfl
  let c : Cs := ⟨Cdup, Cunk, Cnom, Chol, Cfew, Cdee, Cuni, Cnn⟩
  have Xm : Exm K c := ⟨exm_b eCdup iCdup tCdup sdup_dup, exm_b eCdup iCdup tCdup sunk_dup, exm_b eCunk iCunk tCunk sunk_unk, exm_b eCdup iCdup tCdup snom_dup, exm_b eCunk iCunk tCunk snom_unk, exm_b eCnom iCnom tCnom snom_nom, exm_b eCdup iCdup tCdup shol_dup, exm_b eCunk iCunk tCunk shol_unk, exm_b eCnom iCnom tCnom shol_nom, exm_b eChol iChol tChol shol_hol, exm_b eCdup iCdup tCdup sfew_dup, exm_b eCunk iCunk tCunk sfew_unk, exm_b eCnom iCnom tCnom sfew_nom, exm_b eChol iChol tChol sfew_hol, exm_b eCfew iCfew tCfew sfew_few, exm_b eCdup iCdup tCdup sdee_dup, exm_b eCunk iCunk tCunk sdee_unk, exm_b eCnom iCnom tCnom sdee_nom, exm_b eChol iChol tChol sdee_hol, exm_b eCfew iCfew tCfew sdee_few, exm_b eCdee iCdee tCdee sdee_dee, exm_b eCdup iCdup tCdup suni_dup, exm_b eCunk iCunk tCunk suni_unk, exm_b eCnom iCnom tCnom suni_nom, exm_b eChol iChol tChol suni_hol, exm_b eCfew iCfew tCfew suni_few, exm_b eCdee iCdee tCdee suni_dee, exm_b eCuni iCuni tCuni suni_uni⟩
  have Xn : PySem.W.exmOne K (.ref c.nn) (.ref c.nn) = some true := exm_b eCnn iCnn tCnn snn_nn
  refine ⟨_, fun s v => .of_eq (fd := PySem.W.fnOf "law" "law" (defArgs sLaw) (defBody sLaw) (defScope sLaw) .none kVlaw dclaw pmlaw anlaw cdlaw ctlaw) rfl, fun base _ _ => ?_⟩
  have Zr : Ers l.prog w K mg base c := {
    iDup := fedup,
    fDup := _,
    gDup := ok_err1 (st := inClass (top 4) 0) Fedup ⟨rfl, rfl, rfl, by decide +kernel, rfl, by decide +kernel, by decide +kernel⟩ rfl rfl rfl rfl rfl,
    bDup := bedup,
    eDup := ⟨⟨⟨_, _, _, _, _, _, _, _, _, _, _, _, _, _, _, xdup, rfl⟩, sCdup, eCdup, tCdup, kCdup⟩, PySem.W.mg_of X G aCdup, aedup, tedup, ⟨gadup, ggdup, eCdup, hCdup⟩⟩,
    nDup := ndup_name,
    iUnk := feunk,
    fUnk := _,
    gUnk := ok_err1 (st := inClass (top 5) 0) Feunk ⟨rfl, rfl, rfl, by decide +kernel, rfl, by decide +kernel, by decide +kernel⟩ rfl rfl rfl rfl rfl,
    bUnk := beunk,
    eUnk := ⟨⟨⟨_, _, _, _, _, _, _, _, _, _, _, _, _, _, _, xunk, rfl⟩, sCunk, eCunk, tCunk, kCunk⟩, PySem.W.mg_of X G aCunk, aeunk, teunk, ⟨gaunk, ggunk, eCunk, hCunk⟩⟩,
    nUnk := nunk_name,
    iNom := fenom,
    fNom := _,
    gNom := ok_err1 (st := inClass (top 6) 0) Fenom ⟨rfl, rfl, rfl, by decide +kernel, rfl, by decide +kernel, by decide +kernel⟩ rfl rfl rfl rfl rfl,
    bNom := benom,
    eNom := ⟨⟨⟨_, _, _, _, _, _, _, _, _, _, _, _, _, _, _, xnom, rfl⟩, sCnom, eCnom, tCnom, kCnom⟩, PySem.W.mg_of X G aCnom, aenom, tenom, ⟨ganom, ggnom, eCnom, hCnom⟩⟩,
    nNom := nnom_name,
    iHol := fehol,
    fHol := _,
    gHol := ok_err1 (st := inClass (top 7) 0) Fehol ⟨rfl, rfl, rfl, by decide +kernel, rfl, by decide +kernel, by decide +kernel⟩ rfl rfl rfl rfl rfl,
    bHol := behol,
    eHol := ⟨⟨⟨_, _, _, _, _, _, _, _, _, _, _, _, _, _, _, xhol, rfl⟩, sChol, eChol, tChol, kChol⟩, PySem.W.mg_of X G aChol, aehol, tehol, ⟨gahol, gghol, eChol, hChol⟩⟩,
    nHol := nhol_name,
    iNN := fenn,
    fNN := _,
    gNN := ok_err1 (st := inClass (top 8) 0) Fenn ⟨rfl, rfl, rfl, by decide +kernel, rfl, by decide +kernel, by decide +kernel⟩ rfl rfl rfl rfl rfl,
    bNN := benn,
    eNN := ⟨⟨⟨_, _, _, _, _, _, _, _, _, _, _, _, _, _, _, xnn, rfl⟩, sCnn, eCnn, tCnn, kCnn⟩, PySem.W.mg_of X G aCnn, aenn, tenn, ⟨gann, ggnn, eCnn, hCnn⟩⟩,
    nNN := nnn_day,
    iFew := fefew,
    fFew := _,
    gFew := ok_err2 (st := inClass (top 9) 0) Fefew ⟨rfl, rfl, rfl, by decide +kernel, rfl, by decide +kernel, by decide +kernel⟩ rfl rfl rfl rfl rfl rfl rfl rfl,
    bFew := befew,
    eFew := ⟨⟨⟨_, _, _, _, _, _, _, _, _, _, _, _, _, _, _, xfew, rfl⟩, sCfew, eCfew, tCfew, kCfew⟩, PySem.W.mg_of X G aCfew, aefew, tefew, ⟨gafew, ggfew, eCfew, hCfew⟩⟩,
    nFew := nfew_name,
    hFew := nfew_held,
    zDeep := ⟨PySem.W.mg_of X G aCdee, xdee, kCdee, eCdee, tCdee⟩,
    zUnits := ⟨PySem.W.mg_of X G aCuni, xuni, kCuni, eCuni, tCuni⟩ }
  have Gtak : GTake l.prog w K mg base := ⟨ftak, _, ok_take Ftak B, PySem.W.mg_of X G atak, ktak, btak⟩
  have Gmak : GMake l.prog w K mg base := ⟨fmak, _, ok_make Fmak B, PySem.W.mg_of X G amak, kmak, bmak⟩
  have Gadd : GAdd l.prog w K mg base := ⟨fadd, _, ok_add Fadd Gmak, PySem.W.mg_of X G aadd, kadd, badd⟩
  have Gtms : GF l.prog w K mg base CX0 2 "_law_times" ["_law_a", "_law_b"] (sp2 Mth.tm) := ⟨ftms, _, ok_times Ftms Gmak, PySem.W.mg_of X G atms, ktms, btms⟩
  have Gfrc : GFrac l.prog w K mg base := ⟨ffrc, _, ok_fraction Ffrc (PySem.W.mg_of X G mgcd), PySem.W.mg_of X G afrc, kfrc, bfrc⟩
  have Gptm : GPTm l.prog w K mg base := ⟨fptm, _, ok_ptimes Fptm Gfrc, PySem.W.mg_of X G aptm, kptm, bptm⟩
  have Glfr : GF l.prog w K mg base CX0 2 "_law_fraction" ["_law_draws_here", "_law_least"] spLFr := ⟨flfr, _, ok_lfr Flfr Gtak Gmak, PySem.W.mg_of X G alfr, klfr, blfr⟩
  have Gsam : GSame l.prog w K mg base := ⟨fsam, _, ok_same Fsam B (PySem.W.mg_of X G asam) bsam 4, PySem.W.mg_of X G asam, ksam, bsam⟩
  have Gacc : GAcc l.prog w K mg base := ⟨facc, _, ok_account Facc, PySem.W.mg_of X G aacc, kacc, bacc⟩
  have Gabv : GAbv l.prog w K mg base := ⟨fabv, _, ok_aboveL Fabv B Gacc, PySem.W.mg_of X G aabv, kabv, babv⟩
  have Ghld : GHeld l.prog w K mg base := ⟨fhld, _, ok_heldL Fhld B Gacc Gabv, PySem.W.mg_of X G ahld, khld, bhld⟩
  have Gopn : GOpenL l.prog w K mg base := ⟨fopn, _, ok_openL Fopn B Gacc Gabv, PySem.W.mg_of X G aopn, kopn, bopn⟩
  have Gmov : GMoveL l.prog w K mg base := ⟨fmov, _, ok_moveL Fmov Gacc, PySem.W.mg_of X G amov, kmov, bmov⟩
  have Gwrd : GWords l.prog w K mg base := ⟨fwrd, _, ok_words Fwrd, PySem.W.mg_of X G awrd, kwrd, bwrd⟩
  have Gsum : GF l.prog w K mg base CX0 3 "_law_sum" ["_law_rows"] spSum := ⟨fsum, _, ok_sum Fsum Gadd, PySem.W.mg_of X G asum, ksum, bsum⟩
  have Ggot : GF l.prog w K mg base CX0 1 "_law_got" ["_law_rows", "_law_name"] spGot := ⟨fgot, _, ok_got Fgot, PySem.W.mg_of X G agot, kgot, bgot⟩
  have Gdrw : GF l.prog w K mg base CX0 1 "_law_draws" ["_law_script"] (spDraws K) := ⟨fdrw, _, ok_draws Fdrw B, PySem.W.mg_of X G adrw, kdrw, bdrw⟩
  have MkA : Mk K CA fmai := ⟨mkCA, amai, imai, kcCA⟩
  have MkH : Mk K CH fmhi := ⟨mkCH, amhi, imhi, kcCH⟩
  have Kai := ok_accI (P := l.prog) (w := w) (base := base) Fmai T
  have Khi := ok_holI (P := l.prog) (w := w) (base := base) Fmhi T MkA Kai bmai
  have Mac0 : MAcc0 l.prog w K mg base CA CH := ⟨fmac, _, ok_pacc0 Fmac T, ⟨amac, imac, kmac⟩, bmac⟩
  have Mac : MAcc l.prog w K mg base CA CH c := ⟨fmac, _, ok_pacc Fmac T Zr, ⟨amac, imac, kmac⟩, bmac⟩
  have Mab : MAbove l.prog w K mg base CA CH := ⟨fmab, _, ok_pabove Fmab T Mac0, ⟨amab, imab, kmab⟩, bmab⟩
  have Mhe : MHeld l.prog w K mg base CA CH := ⟨fmhe, _, ok_pheld Fmhe T B Mac0 Mab, ⟨amhe, imhe, kmhe⟩, bmhe⟩
  have Mno : MNote l.prog w K mg base CA CH := ⟨fmno, _, ok_pnote Fmno T B Mhe, ⟨amno, imno, kmno⟩, bmno⟩
  have Mnd : MNoted l.prog w K mg base CA CH := ⟨fmnd, _, ok_pnoted Fmnd T, ⟨amnd, imnd, kmnd⟩, bmnd⟩
  have MndX : MNotedX l.prog w K mg base CA CH c := ⟨fmnd, _, ok_pnotedX Fmnd T Zr, ⟨amnd, imnd, kmnd⟩, bmnd⟩
  have Mpa : MPass l.prog w K mg base CA CH := ⟨fmpa, _, ok_ppass Fmpa T Mnd Gfrc Gptm, ⟨ampa, impa, kmpa⟩, bmpa⟩
  have MpaX : MPassX l.prog w K mg base CA CH c := ⟨fmpa, _, ok_ppassX Fmpa T MndX, ⟨ampa, impa, kmpa⟩, bmpa⟩
  have Men : MEnt l.prog w K mg base CA CH := ⟨fmen, _, ok_pent Fmen T Mpa, ⟨amen, imen, kmen⟩, bmen⟩
  have MenX : MEntX l.prog w K mg base CA CH c := ⟨fmen, _, ok_pentX Fmen T MpaX, ⟨amen, imen, kmen⟩, bmen⟩
  have Mop : MOpen l.prog w K mg base CA CH c := ⟨fmop, _, ok_popen Fmop T B Zr ⟨tm, PySem.W.mg_of X G mmost⟩ MkA Kai bmai Mac Mab, ⟨amop, imop, kmop⟩, bmop⟩
  have Mmv : MMove l.prog w K mg base CA CH c := ⟨fmmv, _, ok_pmove Fmmv T Zr Mac, ⟨ammv, immv, kmmv⟩, bmmv⟩
  have Gtel : GTell l.prog w K mg base CA CH := ⟨ftel, _, ok_tell Ftel T Zr Xm Mop Mmv, PySem.W.mg_of X G atel, ktel, btel⟩
  have Gded : GDeed l.prog w K mg base CA CH := ⟨fded, _, ok_deed Fded B Gtak Gwrd Gopn Gmov Ghld Gsam Gtel, PySem.W.mg_of X G aded, kded, bded⟩
  have Gsta : GF l.prog w K mg base CX0 5 "_law_start" ["_law_draws_here"] (spStart CA CH) := ⟨fsta, _, ok_start Fsta T Gtak MkH Khi bmhi, PySem.W.mg_of X G asta, ksta, bsta⟩
  have Gnnt : GF l.prog w K mg base CX0 6 "_law_not_noted" ["_law_holders", "_law_day"] (spNotN CA CH) := ⟨fnnt, _, ok_notN Fnnt T Zr Xn MenX MpaX, PySem.W.mg_of X G annt, knnt, bnnt⟩
  exact ok_law Flaw B T Gdrw Gsta Gtak Gded Glfr Gadd Ghld Gtms Gmak Gsam Gsum Ggot Gnnt Mno Mpa Men
theorem walk {l : PySem.W.OpenLaw} {q : Program} {loose : List Str} {XP : (Str → Option Value) → Heap → Prop} {YP : World → Heap → Prop} {d : DefRec} {K : Params → PySem.W.Frag} (hn : l.most = some 63) (hdf : d.params.defaults = [])
    (hY : ∀ (w : World) (h : Heap), YP w h → (K w.params).In h)
    (F : ∀ (w : World) (mg : Str → Option Value) (fa : Addr) (h : Heap), (K w.params).In h → h.Ns mainGlobals mg → mg d.name = some (.ref fa) →
      ∃ fd : FuncData, (∀ (s : Shared) (u : Value), BindsTo s fd ⟨[u], []⟩ [("_law_script", u)]) ∧ ∀ base : Heap, (K w.params).In base → base.Ns mainGlobals mg → FnOk l.prog w (K w.params) mg base CX0 7 fa fd ["_law_script"] (spLaw (K w.params))) :
    PySem.W.WalkO q loose XP YP l.row.toRowW d [] (fun f vs => PySem.call f vs) :=
  L2.walk_of (n := 63) (k := 7) (x := "_law_script") (CX := fun _ => CX0) (sp := fun w => spLaw (K w.params)) hn (by decide) hdf ⟨rfl, by decide, by decide⟩ hY F (fun _ _ a ns hl _ hS => ⟨a, ns, rfl, hS, hl, fun _ => rfl⟩) fun _ _ _ _ _ z => z
end My

open PySem PySem.W PyProof.Rows
set_option maxRecDepth 100000 in
set_option maxHeartbeats 0 in
theorem PySem.Challenge.cw_consol_k52_whole_entitlements_sum_holds : PySem.Challenge.rw_consol_k52_whole_entitlements_sum.Holds := by
  w_on; o_law; k_head; (case hw => w_witness2)
  k_fill
  refine My.walk (l := PySem.Challenge.rw_consol_k52_whole_entitlements_sum) rfl rfl (fun w h Y => PySem.W.kIn_of Y) ?F
  case F =>
    intro w mg fa h KX G hmg
    refine' My.all_mk KX G hmg ?afrc ?lfrc ?cfrc ?kfrc ?aptm ?lptm ?cptm ?kptm ?adrw ?ldrw ?cdrw ?kdrw ?atak ?ltak ?ctak ?ktak ?amak ?lmak ?cmak ?kmak ?aadd ?ladd ?cadd ?kadd ?atms ?ltms ?ctms ?ktms ?alfr ?llfr ?clfr ?klfr ?asam ?lsam ?csam ?ksam ?aacc ?lacc ?cacc ?kacc ?aabv ?labv ?cabv ?kabv ?ahld ?lhld ?chld ?khld ?aopn ?lopn ?copn ?kopn ?amov ?lmov ?cmov ?kmov ?awrd ?lwrd ?cwrd ?kwrd ?atel ?ltel ?ctel ?ktel ?aded ?lded ?cded ?kded ?asta ?lsta ?csta ?ksta ?asum ?lsum ?csum ?ksum ?agot ?lgot ?cgot ?kgot ?annt ?lnnt ?cnnt ?knnt ?alaw ?llaw ?claw ?klaw ?lT ?aCA ?pgCA ?hdCA ?poCA ?saCA ?mkCA ?kcCA ?aCH ?pgCH ?hdCH ?poCH ?saCH ?mkCH ?kcCH ?nCA_name ?nCA_under ?nCA_nominee ?nCA_units ?nCH_issuer ?nCH_units ?nCH_known ?nCH_notes ?amai ?imai ?lmai ?cmai ?kmai ?amhi ?imhi ?lmhi ?cmhi ?kmhi ?amac ?imac ?lmac ?cmac ?kmac ?amop ?imop ?lmop ?cmop ?kmop ?ammv ?immv ?lmmv ?cmmv ?kmmv ?amab ?imab ?lmab ?cmab ?kmab ?amhe ?imhe ?lmhe ?cmhe ?kmhe ?amno ?imno ?lmno ?cmno ?kmno ?amnd ?imnd ?lmnd ?cmnd ?kmnd ?ampa ?impa ?lmpa ?cmpa ?kmpa ?amen ?imen ?lmen ?cmen ?kmen ?aCdup ?kCdup ?eCdup ?tCdup ?iCdup ?xdup ?sCdup ?gadup ?ggdup ?hCdup ?ndup_name ?aedup ?tedup ?ledup ?cedup ?kedup ?aCunk ?kCunk ?eCunk ?tCunk ?iCunk ?xunk ?sCunk ?gaunk ?ggunk ?hCunk ?nunk_name ?aeunk ?teunk ?leunk ?ceunk ?keunk ?aCnom ?kCnom ?eCnom ?tCnom ?iCnom ?xnom ?sCnom ?ganom ?ggnom ?hCnom ?nnom_name ?aenom ?tenom ?lenom ?cenom ?kenom ?aChol ?kChol ?eChol ?tChol ?iChol ?xhol ?sChol ?gahol ?gghol ?hChol ?nhol_name ?aehol ?tehol ?lehol ?cehol ?kehol ?aCnn ?kCnn ?eCnn ?tCnn ?iCnn ?xnn ?sCnn ?gann ?ggnn ?hCnn ?nnn_day ?aenn ?tenn ?lenn ?cenn ?kenn ?aCfew ?kCfew ?eCfew ?tCfew ?iCfew ?xfew ?sCfew ?gafew ?ggfew ?hCfew ?nfew_name ?nfew_held ?aefew ?tefew ?lefew ?cefew ?kefew ?aCdee ?kCdee ?eCdee ?tCdee ?iCdee ?xdee ?aCuni ?kCuni ?eCuni ?tCuni ?iCuni ?xuni ?sdup_dup ?sunk_dup ?sunk_unk ?snom_dup ?snom_unk ?snom_nom ?shol_dup ?shol_unk ?shol_nom ?shol_hol ?sfew_dup ?sfew_unk ?sfew_nom ?sfew_hol ?sfew_few ?sdee_dup ?sdee_unk ?sdee_nom ?sdee_hol ?sdee_few ?sdee_dee ?suni_dup ?suni_unk ?suni_nom ?suni_hol ?suni_few ?suni_dee ?suni_uni ?snn_nn ?z_len ?z_int ?z_abs ?z_range ?z_list ?z_reversed ?z_isinstance ?z_tuple ?z_bool ?z_str ?z_sum ?z_min ?z_max ?mgcd ?mmost
    (case afrc => k_is)
    (case lfrc => k_is)
    (case cfrc => k_is)
    (case kfrc => k_is)
    (case aptm => k_is)
    (case lptm => k_is)
    (case cptm => k_is)
    (case kptm => k_is)
    (case adrw => k_is)
    (case ldrw => k_is)
    (case cdrw => k_is)
    (case kdrw => k_is)
    (case atak => k_is)
    (case ltak => k_is)
    (case ctak => k_is)
    (case ktak => k_is)
    (case amak => k_is)
    (case lmak => k_is)
    (case cmak => k_is)
    (case kmak => k_is)
    (case aadd => k_is)
    (case ladd => k_is)
    (case cadd => k_is)
    (case kadd => k_is)
    (case atms => k_is)
    (case ltms => k_is)
    (case ctms => k_is)
    (case ktms => k_is)
    (case alfr => k_is)
    (case llfr => k_is)
    (case clfr => k_is)
    (case klfr => k_is)
    (case asam => k_is)
    (case lsam => k_is)
    (case csam => k_is)
    (case ksam => k_is)
    (case aacc => k_is)
    (case lacc => k_is)
    (case cacc => k_is)
    (case kacc => k_is)
    (case aabv => k_is)
    (case labv => k_is)
    (case cabv => k_is)
    (case kabv => k_is)
    (case ahld => k_is)
    (case lhld => k_is)
    (case chld => k_is)
    (case khld => k_is)
    (case aopn => k_is)
    (case lopn => k_is)
    (case copn => k_is)
    (case kopn => k_is)
    (case amov => k_is)
    (case lmov => k_is)
    (case cmov => k_is)
    (case kmov => k_is)
    (case awrd => k_is)
    (case lwrd => k_is)
    (case cwrd => k_is)
    (case kwrd => k_is)
    (case atel => k_is)
    (case ltel => k_is)
    (case ctel => k_is)
    (case ktel => k_is)
    (case aded => k_is)
    (case lded => k_is)
    (case cded => k_is)
    (case kded => k_is)
    (case asta => k_is)
    (case lsta => k_is)
    (case csta => k_is)
    (case ksta => k_is)
    (case asum => k_is)
    (case lsum => k_is)
    (case csum => k_is)
    (case ksum => k_is)
    (case agot => k_is)
    (case lgot => k_is)
    (case cgot => k_is)
    (case kgot => k_is)
    (case annt => k_is)
    (case lnnt => k_is)
    (case cnnt => k_is)
    (case knnt => k_is)
    (case alaw => k_is)
    (case llaw => k_is)
    (case claw => k_is)
    (case klaw => k_is)
    (case lT => k_is)
    (case aCA => k_is)
    (case pgCA => k_is)
    (case hdCA => k_is)
    (case poCA => k_is)
    (case saCA => k_is)
    (case mkCA => k_is)
    (case kcCA => k_is)
    (case aCH => k_is)
    (case pgCH => k_is)
    (case hdCH => k_is)
    (case poCH => k_is)
    (case saCH => k_is)
    (case mkCH => k_is)
    (case kcCH => k_is)
    (case nCA_name => k_is)
    (case nCA_under => k_is)
    (case nCA_nominee => k_is)
    (case nCA_units => k_is)
    (case nCH_issuer => k_is)
    (case nCH_units => k_is)
    (case nCH_known => k_is)
    (case nCH_notes => k_is)
    (case amai => k_is)
    (case imai => k_is)
    (case lmai => k_is)
    (case cmai => k_is)
    (case kmai => k_is)
    (case amhi => k_is)
    (case imhi => k_is)
    (case lmhi => k_is)
    (case cmhi => k_is)
    (case kmhi => k_is)
    (case amac => k_is)
    (case imac => k_is)
    (case lmac => k_is)
    (case cmac => k_is)
    (case kmac => k_is)
    (case amop => k_is)
    (case imop => k_is)
    (case lmop => k_is)
    (case cmop => k_is)
    (case kmop => k_is)
    (case ammv => k_is)
    (case immv => k_is)
    (case lmmv => k_is)
    (case cmmv => k_is)
    (case kmmv => k_is)
    (case amab => k_is)
    (case imab => k_is)
    (case lmab => k_is)
    (case cmab => k_is)
    (case kmab => k_is)
    (case amhe => k_is)
    (case imhe => k_is)
    (case lmhe => k_is)
    (case cmhe => k_is)
    (case kmhe => k_is)
    (case amno => k_is)
    (case imno => k_is)
    (case lmno => k_is)
    (case cmno => k_is)
    (case kmno => k_is)
    (case amnd => k_is)
    (case imnd => k_is)
    (case lmnd => k_is)
    (case cmnd => k_is)
    (case kmnd => k_is)
    (case ampa => k_is)
    (case impa => k_is)
    (case lmpa => k_is)
    (case cmpa => k_is)
    (case kmpa => k_is)
    (case amen => k_is)
    (case imen => k_is)
    (case lmen => k_is)
    (case cmen => k_is)
    (case kmen => k_is)
    (case aCdup => k_is)
    (case kCdup => k_is)
    (case eCdup => k_is)
    (case tCdup => k_is)
    (case iCdup => k_is)
    (case xdup => k_is)
    (case sCdup => k_is)
    (case gadup => k_is)
    (case ggdup => k_is)
    (case hCdup => k_is)
    (case ndup_name => k_is)
    (case aedup => k_is)
    (case tedup => k_is)
    (case ledup => k_is)
    (case cedup => k_is)
    (case kedup => k_is)
    (case aCunk => k_is)
    (case kCunk => k_is)
    (case eCunk => k_is)
    (case tCunk => k_is)
    (case iCunk => k_is)
    (case xunk => k_is)
    (case sCunk => k_is)
    (case gaunk => k_is)
    (case ggunk => k_is)
    (case hCunk => k_is)
    (case nunk_name => k_is)
    (case aeunk => k_is)
    (case teunk => k_is)
    (case leunk => k_is)
    (case ceunk => k_is)
    (case keunk => k_is)
    (case aCnom => k_is)
    (case kCnom => k_is)
    (case eCnom => k_is)
    (case tCnom => k_is)
    (case iCnom => k_is)
    (case xnom => k_is)
    (case sCnom => k_is)
    (case ganom => k_is)
    (case ggnom => k_is)
    (case hCnom => k_is)
    (case nnom_name => k_is)
    (case aenom => k_is)
    (case tenom => k_is)
    (case lenom => k_is)
    (case cenom => k_is)
    (case kenom => k_is)
    (case aChol => k_is)
    (case kChol => k_is)
    (case eChol => k_is)
    (case tChol => k_is)
    (case iChol => k_is)
    (case xhol => k_is)
    (case sChol => k_is)
    (case gahol => k_is)
    (case gghol => k_is)
    (case hChol => k_is)
    (case nhol_name => k_is)
    (case aehol => k_is)
    (case tehol => k_is)
    (case lehol => k_is)
    (case cehol => k_is)
    (case kehol => k_is)
    (case aCnn => k_is)
    (case kCnn => k_is)
    (case eCnn => k_is)
    (case tCnn => k_is)
    (case iCnn => k_is)
    (case xnn => k_is)
    (case sCnn => k_is)
    (case gann => k_is)
    (case ggnn => k_is)
    (case hCnn => k_is)
    (case nnn_day => k_is)
    (case aenn => k_is)
    (case tenn => k_is)
    (case lenn => k_is)
    (case cenn => k_is)
    (case kenn => k_is)
    (case aCfew => k_is)
    (case kCfew => k_is)
    (case eCfew => k_is)
    (case tCfew => k_is)
    (case iCfew => k_is)
    (case xfew => k_is)
    (case sCfew => k_is)
    (case gafew => k_is)
    (case ggfew => k_is)
    (case hCfew => k_is)
    (case nfew_name => k_is)
    (case nfew_held => k_is)
    (case aefew => k_is)
    (case tefew => k_is)
    (case lefew => k_is)
    (case cefew => k_is)
    (case kefew => k_is)
    (case aCdee => k_is)
    (case kCdee => k_is)
    (case eCdee => k_is)
    (case tCdee => k_is)
    (case iCdee => k_is)
    (case xdee => k_exc)
    (case aCuni => k_is)
    (case kCuni => k_is)
    (case eCuni => k_is)
    (case tCuni => k_is)
    (case iCuni => k_is)
    (case xuni => k_exc)
    (case sdup_dup => first | rfl | k_is)
    (case sunk_dup => k_is)
    (case sunk_unk => first | rfl | k_is)
    (case snom_dup => k_is)
    (case snom_unk => k_is)
    (case snom_nom => first | rfl | k_is)
    (case shol_dup => k_is)
    (case shol_unk => k_is)
    (case shol_nom => k_is)
    (case shol_hol => first | rfl | k_is)
    (case sfew_dup => k_is)
    (case sfew_unk => k_is)
    (case sfew_nom => k_is)
    (case sfew_hol => k_is)
    (case sfew_few => first | rfl | k_is)
    (case sdee_dup => k_is)
    (case sdee_unk => k_is)
    (case sdee_nom => k_is)
    (case sdee_hol => k_is)
    (case sdee_few => k_is)
    (case sdee_dee => first | rfl | k_is)
    (case suni_dup => k_is)
    (case suni_unk => k_is)
    (case suni_nom => k_is)
    (case suni_hol => k_is)
    (case suni_few => k_is)
    (case suni_dee => k_is)
    (case suni_uni => first | rfl | k_is)
    (case snn_nn => first | rfl | k_is)
    (case z_len => k_is)
    (case z_int => k_is)
    (case z_abs => k_is)
    (case z_range => k_is)
    (case z_list => k_is)
    (case z_reversed => k_is)
    (case z_isinstance => k_is)
    (case z_tuple => k_is)
    (case z_bool => k_is)
    (case z_str => k_is)
    (case z_sum => k_is)
    (case z_min => k_is)
    (case z_max => k_is)
    (case mgcd => k_is)
    (case mmost => k_is)
