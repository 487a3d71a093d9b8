/-
  The fewest loads that cover a range.
-/
import Derived.Test.YtdmnmhkonfadhaaCoa
set_option linter.unusedVariables false
set_option linter.unusedSimpArgs false
set_option linter.deprecated false
namespace Go.Sp
open Go Go.Proofs
theorem pw_adj : ∀ {l : List Int}, (∀ i : Nat, i < l.length → 0 < i → l.getD (i - 1) 0 < l.getD i 0) → l.Pairwise (· < ·)
  | [], _ => .nil
  | x :: t, h => by
    have ht : t.Pairwise (· < ·) := pw_adj fun i hi h0 => by
      have := h (i + 1) (by simp only [List.length_cons]; omega) (by omega)
      obtain ⟨j, rfl⟩ : ∃ j, i = j + 1 := ⟨i - 1, by omega⟩
      simpa using this
    refine List.pairwise_cons.2 ⟨fun y hy => ?_, ht⟩
    match t, ht, hy, h with
    | z :: u, ht, hy, h =>
      have h1 : x < z := by simpa using h 1 (by simp) (by omega)
      rcases List.mem_cons.1 hy with rfl | hy
      · exact h1
      · have := (List.pairwise_cons.1 ht).1 y hy; omega
theorem incrB_pw {l : List Int} : incrB l = true ↔ l.Pairwise (· < ·) := by
  constructor
  · intro h
    refine pw_adj fun i hi h0 => ?_
    have := of_decide_eq_true (List.all_eq_true.1 h i (List.mem_range.2 hi))
    omega
  · intro h
    refine incrB_yes fun i hi h0 => ?_
    rw [List.getD_eq_getElem?_getD, List.getElem?_eq_getElem (by omega), List.getD_eq_getElem?_getD, List.getElem?_eq_getElem hi]
    exact List.pairwise_iff_getElem.1 h (i - 1) i (by omega) hi (by omega)
theorem inc_iff {s : Sn} {t : List Int} : Inc 0 ((s.weights.length + 1 : Nat) : Int) t ↔ allIn s t = true ∧ incrB t = true := by
  unfold Inc
  rw [incrB_pw, allIn_iff]
  constructor
  · rintro ⟨h1, h2⟩; exact ⟨fun k hk => by have := h2 k hk; omega, h1⟩
  · rintro ⟨h1, h2⟩; exact ⟨h2, fun k hk => by have := h1 k hk; omega⟩
theorem prove_iff {s : Sn} {r : Int × Int} (h : rangedF s r = 0) {t : List Int} {many : Int} : proveF s r t many = true ↔ Inc 0 ((s.weights.length + 1 : Nat) : Int) t ∧ (t.length : Int) ≤ many ∧ coversF s r t = true := by
  unfold proveF
  rw [decide_eq_true_eq, inc_iff]
  constructor
  · rintro ⟨_, a, b, c, d⟩; exact ⟨⟨b, c⟩, a, d⟩
  · rintro ⟨⟨b, c⟩, a, d⟩; exact ⟨h, a, b, c, d⟩
theorem getD_mem' {l : List Int} {i : Nat} (h : i < l.length) : l.getD i 0 ∈ l := by
  rw [List.getD_eq_getElem?_getD, List.getElem?_eq_getElem h]; exact List.getElem_mem h
/-- What is said of one load. -/
theorem one_spec {s : Sn} (hs : VS s) {r : Int × Int} (h1 : 1 ≤ r.1) (h12 : r.1 ≤ r.2) (h2 : r.2 ≤ 2000) (hrg : rangedF s r = 0) {i : Nat} (hi : i ≤ s.weights.length) : (1 ≤ vdF s r i ∧ vdF s r i ≤ 3) ∧ (proveF s r [(i : Int)] 1 = true ↔ vdF s r i = 1) ∧ (proveF s r [(i : Int)] 1 = true → ∀ l : List Int, Least (coversF s r) ((s.weights.length + 1 : Nat) : Int) l → l.length ≤ 1) := by
  refine ⟨?_, ?_, fun hp l hl => ?_⟩
  · rw [vd_eq hs h1 h12 h2]
    rcases rv_cases (s := s) (r := r) (k := i) with e | e | e <;> omega
  · rw [prove_iff hrg, vd_eq hs h1 h12 h2, rv_1, coversF_iff hs h1 h2]
    constructor
    · rintro ⟨_, _, g⟩ d g1 g2
      obtain ⟨k, hk, e⟩ := g d g1 g2
      rw [List.mem_singleton.1 hk] at e; exact e
    · intro g
      refine ⟨⟨by simp, fun x hx => ?_⟩, by simp, fun d g1 g2 => ⟨_, List.mem_singleton.2 rfl, g d g1 g2⟩⟩
      rw [List.mem_singleton.1 hx]; omega
  · obtain ⟨a, _, c⟩ := (prove_iff hrg).1 hp
    have := hl.least _ a c
    unfold lessF at this
    split at this
    · rename_i e; simp only [List.length_singleton] at e; omega
    · have := of_decide_eq_false this; simp only [List.length_singleton] at this; omega
theorem least_floats {s : Sn} (hs : VS s) {r : Int × Int} (h1 : 1 ≤ r.1) (h12 : r.1 ≤ r.2) (h2 : r.2 ≤ 2000) {l : List Int} (hl : Least (coversF s r) ((s.weights.length + 1 : Nat) : Int) l) {x : Int} (hx : x ∈ l) : (0 ≤ x ∧ x ≤ s.weights.length) ∧ ¬ vdF s r x.toNat = 2 := by
  have hb := hl.inc.2 x hx
  refine ⟨by omega, fun e => ?_⟩
  rw [vd_eq hs h1 h12 h2, rv_2 h12, show ((x.toNat : Nat) : Int) = x by omega] at e
  have hlt : (l.filter fun y => decide (y ≠ x)).length < l.length := by
    rw [List.length_filter_lt_length_iff_exists]
    exact ⟨x, hx, by simp⟩
  have hless := hl.least (l.filter fun y => decide (y ≠ x)) ⟨hl.inc.1.filter _, fun y hy => hl.inc.2 y (List.mem_filter.1 hy).1⟩ (by
    rw [coversF_iff hs h1 h2]
    intro d g1 g2
    obtain ⟨k, hk, ek⟩ := (coversF_iff hs h1 h2).1 hl.ok d g1 g2
    refine ⟨k, List.mem_filter.2 ⟨hk, decide_eq_true fun hh => ?_⟩, ek⟩
    subst hh; exact e d g1 g2 ek)
  unfold lessF at hless
  rw [if_neg (by omega)] at hless
  exact absurd hlt (of_decide_eq_false hless)
theorem wider_spec {s : Sn} (hs : VS s) {r u : Int × Int} (hu1 : 1 ≤ u.1) (hur : u.1 ≤ r.1) (hru : r.2 ≤ u.2) (hu2 : u.2 ≤ 2000) {m : List Int} (hm : Least (coversF s u) ((s.weights.length + 1 : Nat) : Int) m) : (∃ l, coverO s r = some l) ∧ ∀ l : List Int, Least (coversF s r) ((s.weights.length + 1 : Nat) : Int) l → l.length ≤ m.length := by
  have hc : coversF s r m = true := by
    rw [coversF_iff hs (by omega) (by omega)]
    intro d g1 g2
    exact (coversF_iff hs hu1 hu2).1 hm.ok d (by omega) (by omega)
  constructor
  · rcases h : coverO s r with _ | l
    · rw [coverO_none h hm.inc] at hc; cases hc
    · exact ⟨l, rfl⟩
  · intro l hl
    have := hl.least _ hm.inc hc
    unfold lessF at this
    split at this
    · omega
    · have := of_decide_eq_false this; omega
theorem ranged_ok {s : Sn} (hs : VS s) {r : Int × Int} (h1 : 1 ≤ r.1) (h12 : r.1 ≤ r.2) (h2 : r.2 ≤ 2000) : rangedF s r = 0 := by
  unfold rangedF emptyF
  rw [if_neg (fun h => h (chkF_valid.2 hs)), if_neg (by simp only [decide_eq_true_eq]; omega)]
theorem fewest_spec {s : Sn} (hs : VS s) {r u : Int × Int} (h1 : 1 ≤ r.1) (h12 : r.1 ≤ r.2) (h2 : r.2 ≤ 2000) (hu1 : 1 ≤ u.1) (hur : u.1 ≤ r.1) (hru : r.2 ≤ u.2) (hu2 : u.2 ≤ 2000) {vl cl ml : List Int} {e f g : Int}
    (hV : verdictsE s r = (vl, g)) (hC : coverE s r = (cl, e)) (hU : coverE s u = (ml, f)) (tl : List Int) :
    g = 0 ∧ vl = verdictsL s r (s.weights.length + 1) ∧
    (∀ i : Nat, i ≤ s.weights.length → (1 ≤ vdF s r i ∧ vdF s r i ≤ 3) ∧ ((proveF s r [(i : Int)] 1 = true ∧ vdF s r i = 1 ∧ cl.length ≤ 1) ∨ (proveF s r [(i : Int)] 1 = false ∧ ¬ vdF s r i = 1))) ∧
    ((e = 10 ∧ f = 10 ∧ cl.length = 0 ∧ proveF s r tl 9 = false) ∨ (e = 0 ∧ (f = 10 ∨ f = 0 ∧ cl.length ≤ ml.length) ∧ cl.length ≤ 7 ∧
      (∀ j : Nat, j < cl.length → (0 ≤ cl.getD j 0 ∧ cl.getD j 0 ≤ s.weights.length) ∧ ¬ vdF s r (cl.getD j 0).toNat = 2) ∧
      proveF s r cl cl.length = true ∧ proveF s r cl ((cl.length : Int) - 1) = false ∧ (proveF s r tl 9 = false ∨ (proveF s r tl 9 = true ∧ lessF tl cl = false)))) := by
  have hrg := ranged_ok hs h1 h12 h2
  have hug := ranged_ok hs hu1 (by omega : u.1 ≤ u.2) hu2
  unfold verdictsE at hV
  rw [if_neg (by omega)] at hV
  cases hV
  have hmin : ∀ l : List Int, coverO s r = some l → Least (coversF s r) ((s.weights.length + 1 : Nat) : Int) l := fun l h => coverO_some h
  have hU' : f = 10 ∨ f = 0 ∧ ∃ m, coverO s u = some m ∧ m = ml := by
    rcases ho : coverO s u with _ | m
    · rw [cover_e1 hug ho] at hU; cases hU; exact .inl rfl
    · rw [cover_e0 hug ho] at hU; cases hU; exact .inr ⟨rfl, _, rfl, rfl⟩
  have hone : ∀ i : Nat, i ≤ s.weights.length → (coverO s r = none ∧ cl = [] ∨ coverO s r = some cl) → (1 ≤ vdF s r i ∧ vdF s r i ≤ 3) ∧ ((proveF s r [(i : Int)] 1 = true ∧ vdF s r i = 1 ∧ cl.length ≤ 1) ∨ (proveF s r [(i : Int)] 1 = false ∧ ¬ vdF s r i = 1)) := fun i hi hc => by
    obtain ⟨g1, g2, g3⟩ := one_spec hs h1 h12 h2 hrg hi
    refine ⟨g1, ?_⟩
    cases hp : proveF s r [(i : Int)] 1
    · right
      rw [hp] at g2
      exact ⟨rfl, fun hh => absurd (g2.2 hh) Bool.false_ne_true⟩
    · left
      refine ⟨rfl, g2.1 hp, ?_⟩
      rcases hc with ⟨_, rfl⟩ | hc
      · exact Nat.zero_le _
      · exact g3 hp _ (hmin _ hc)
  rcases ho : coverO s r with _ | l
  · rw [cover_e1 hrg ho] at hC
    cases hC
    refine ⟨rfl, rfl, fun i hi => hone i hi (.inl ⟨ho, rfl⟩), .inl ⟨rfl, ?_, rfl, ?_⟩⟩
    · rcases hU' with h | ⟨_, m, hm, _⟩
      · exact h
      · obtain ⟨⟨l, hl⟩, _⟩ := wider_spec hs hu1 hur hru hu2 (coverO_some hm)
        rw [ho] at hl; cases hl
    · cases hp : proveF s r tl 9
      · rfl
      · obtain ⟨q1, _, q3⟩ := (prove_iff hrg).1 hp
        rw [coverO_none ho q1] at q3; cases q3
  · rw [cover_e0 hrg ho] at hC
    cases hC
    have hl := hmin _ ho
    have hlen := hl.inc.len (by omega)
    have hn := hs.n
    refine ⟨rfl, rfl, fun i hi => hone i hi (.inr ho), .inr ⟨rfl, ?_, by omega, fun j hj => least_floats hs h1 h12 h2 hl (getD_mem' hj), ?_, ?_, ?_⟩⟩
    · rcases hU' with h | ⟨h, m, hm, rfl⟩
      · exact .inl h
      · exact .inr ⟨h, (wider_spec hs hu1 hur hru hu2 (coverO_some hm)).2 _ hl⟩
    · exact (prove_iff hrg).2 ⟨hl.inc, by omega, hl.ok⟩
    · cases hp : proveF s r cl ((cl.length : Int) - 1)
      · rfl
      · have := ((prove_iff hrg).1 hp).2.1; omega
    · cases hp : proveF s r tl 9
      · exact .inl rfl
      · obtain ⟨q1, _, q3⟩ := (prove_iff hrg).1 hp
        exact .inr ⟨rfl, hl.least _ q1 q3⟩
end Go.Sp
