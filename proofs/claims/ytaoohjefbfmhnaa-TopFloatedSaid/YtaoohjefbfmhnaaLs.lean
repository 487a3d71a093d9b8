/-
  The smallest list that passes: in order of length, then lexicographic; found by search, and by all bits.
-/
import Derived.Test.YtaoohjefbfmhnaaN
set_option linter.unusedVariables false
set_option linter.unusedSimpArgs false
set_option linter.deprecated false
namespace Go.Sp
open Go Go.Proofs
/-- An increasing list of numbers from lo on, below N. -/
def Inc (lo N : Int) (t : List Int) : Prop := t.Pairwise (· < ·) ∧ ∀ x ∈ t, lo ≤ x ∧ x < N
theorem Inc.nil {lo N : Int} : Inc lo N [] := ⟨.nil, by simp⟩
theorem Inc.cons_iff {lo N x : Int} {t : List Int} : Inc lo N (x :: t) ↔ lo ≤ x ∧ x < N ∧ Inc (x + 1) N t := by
  unfold Inc
  rw [List.pairwise_cons]
  constructor
  · rintro ⟨⟨h1, h2⟩, h3⟩
    have hx := h3 x List.mem_cons_self
    exact ⟨hx.1, hx.2, h2, fun y hy => ⟨by have := h1 y hy; omega, (h3 y (List.mem_cons_of_mem _ hy)).2⟩⟩
  · rintro ⟨h1, h2, h3, h4⟩
    refine ⟨⟨fun y hy => by have := h4 y hy; omega, h3⟩, fun y hy => ?_⟩
    rcases List.mem_cons.1 hy with rfl | hy
    · exact ⟨h1, h2⟩
    · have := h4 y hy; omega
theorem Inc.len {N : Int} : ∀ {lo : Int} {t : List Int}, Inc lo N t → lo ≤ N → (t.length : Int) ≤ N - lo
  | lo, [], _, h => by simp; omega
  | lo, x :: t, h, _ => by
    obtain ⟨h1, h2, h3⟩ := Inc.cons_iff.1 h
    have := h3.len (by omega)
    simp only [List.length_cons]; omega
theorem inc_ext : ∀ {a b : List Int}, a.Pairwise (· < ·) → b.Pairwise (· < ·) → (∀ x, x ∈ a ↔ x ∈ b) → a = b
  | [], [], _, _, _ => rfl
  | [], y :: b, _, _, h => absurd ((h y).2 List.mem_cons_self) List.not_mem_nil
  | x :: a, [], _, _, h => absurd ((h x).1 List.mem_cons_self) List.not_mem_nil
  | x :: a, y :: b, ha, hb, h => by
    rw [List.pairwise_cons] at ha hb
    have hxy : x = y := by
      rcases List.mem_cons.1 ((h x).1 List.mem_cons_self) with e | e
      · exact e
      · rcases List.mem_cons.1 ((h y).2 List.mem_cons_self) with e' | e'
        · exact e'.symm
        · have := hb.1 x e; have := ha.1 y e'; omega
    subst hxy
    congr 1
    refine inc_ext ha.2 hb.2 fun z => ?_
    have hz := h z
    constructor
    · intro hm
      rcases List.mem_cons.1 (hz.1 (List.mem_cons_of_mem _ hm)) with e | e
      · have := ha.1 z hm; omega
      · exact e
    · intro hm
      rcases List.mem_cons.1 (hz.2 (List.mem_cons_of_mem _ hm)) with e | e
      · have := hb.1 z hm; omega
      · exact e
/-! the order -/
theorem lex_irr : ∀ a : List Int, lexLt a a = false
  | [] => by simp [lexLt]
  | x :: a => by simp [lexLt, lex_irr a]
theorem lex_tri : ∀ a b : List Int, a.length = b.length → lexLt a b = false → lexLt b a = false → a = b
  | [], [], _, _, _ => rfl
  | [], _ :: _, h, _, _ => by simp at h
  | _ :: _, [], h, _, _ => by simp at h
  | x :: a, y :: b, h, h1, h2 => by
    simp only [lexLt] at h1 h2
    by_cases e : x = y
    · subst e
      rw [if_pos rfl] at h1 h2
      rw [lex_tri a b (by simpa using h) h1 h2]
    · rw [if_neg e] at h1
      rw [if_neg (Ne.symm e)] at h2
      have g1 := of_decide_eq_false h1
      have g2 := of_decide_eq_false h2
      omega
theorem lex_trans : ∀ a b c : List Int, lexLt a b = true → lexLt b c = true → lexLt a c = true
  | [], _, _, h, _ => by simp [lexLt] at h
  | _ :: _, [], _, h, _ => by simp [lexLt] at h
  | _ :: _, _ :: _, [], _, h => by simp [lexLt] at h
  | x :: a, y :: b, z :: c, h1, h2 => by
    simp only [lexLt] at h1 h2 ⊢
    by_cases e : x = y
    · subst e
      rw [if_pos rfl] at h1
      by_cases e2 : x = z
      · rw [if_pos e2] at h2 ⊢; exact lex_trans a b c h1 h2
      · rw [if_neg e2] at h2 ⊢; exact h2
    · rw [if_neg e] at h1
      have g1 := of_decide_eq_true h1
      by_cases e2 : y = z
      · subst e2; rw [if_neg e]; exact h1
      · rw [if_neg e2] at h2
        have g2 := of_decide_eq_true h2
        rw [if_neg (by omega)]
        exact decide_eq_true (by omega)
theorem less_irr (a : List Int) : lessF a a = false := by unfold lessF; rw [if_pos rfl]; exact lex_irr a
theorem less_tri {a b : List Int} (h1 : lessF a b = false) (h2 : lessF b a = false) : a = b := by
  unfold lessF at h1 h2
  by_cases e : a.length = b.length
  · rw [if_pos e] at h1
    rw [if_pos e.symm] at h2
    exact lex_tri a b e h1 h2
  · rw [if_neg e] at h1
    rw [if_neg (Ne.symm e)] at h2
    have g1 := of_decide_eq_false h1
    have g2 := of_decide_eq_false h2
    omega
theorem less_trans {a b c : List Int} (h1 : lessF a b = true) (h2 : lessF b c = true) : lessF a c = true := by
  unfold lessF at h1 h2 ⊢
  by_cases e : a.length = b.length
  · rw [if_pos e] at h1
    by_cases e2 : b.length = c.length
    · rw [if_pos e2] at h2; rw [if_pos (e.trans e2)]; exact lex_trans a b c h1 h2
    · rw [if_neg e2] at h2; rw [if_neg (by omega), e]; exact h2
  · rw [if_neg e] at h1
    have g1 := of_decide_eq_true h1
    by_cases e2 : b.length = c.length
    · rw [if_neg (by omega), ← e2]; exact h1
    · rw [if_neg e2] at h2
      have g2 := of_decide_eq_true h2
      rw [if_neg (by omega)]; exact decide_eq_true (by omega)
/-! the search -/
theorem srch_some {p : List Int → Bool} {N : Int} : ∀ (m : Nat) (l : List Int) (fr : Int) (r : List Int), srch p N m l fr = some r →
    ∃ t, r = l ++ t ∧ Inc fr N t ∧ t.length = m ∧ p r = true ∧ ∀ t', Inc fr N t' → t'.length = m → p (l ++ t') = true → lexLt t' t = false := by
  intro m
  induction m with
  | zero =>
    intro l fr r h
    unfold srch at h
    split at h
    · rename_i hp
      cases h
      exact ⟨[], by simp, Inc.nil, rfl, hp, fun t' _ ht _ => by rw [List.eq_nil_of_length_eq_zero ht]; rfl⟩
    · cases h
  | succ m ih =>
    intro l fr r h
    unfold srch at h
    obtain ⟨l1, j, l2, e, hj, hno⟩ := List.findSome?_eq_some_iff.1 h
    have hjm : j ∈ List.range (N - m - fr).toNat := by rw [e]; simp
    have hjl := List.mem_range.1 hjm
    have hbefore : ∀ k, k < j → srch p N m (l ++ [fr + (k : Int)]) (fr + (k : Int) + 1) = none := fun k hk => by
      refine hno k ?_
      have hl1 : l1 = List.range l1.length ∧ l1.length = j := by
        have h1 : l1 = (List.range (N - m - fr).toNat).take l1.length := by rw [e]; simp
        have h2 : (List.range (N - m - fr).toNat)[l1.length]? = some j := by rw [e]; simp
        have hlt : l1.length < (N - m - fr).toNat := by
          rcases Nat.lt_or_ge l1.length (N - m - fr).toNat with h | h
          · exact h
          · rw [List.getElem?_eq_none (by simpa using h)] at h2; cases h2
        rw [List.getElem?_range hlt] at h2
        have e2 : l1.length = j := by injection h2
        refine ⟨?_, e2⟩
        rw [h1]
        simp only [List.length_take, List.length_range]
        rw [List.take_range, Nat.min_eq_left (by omega)]
      rw [hl1.1, hl1.2]
      exact List.mem_range.2 hk
    obtain ⟨t, rfl, h1, h2, h3, h4⟩ := ih _ _ _ hj
    refine ⟨(fr + (j : Int)) :: t, by simp, Inc.cons_iff.2 ⟨by omega, by omega, h1⟩, by simp [h2], h3, fun t' ht hl hp => ?_⟩
    match t', hl with
    | x :: t'', hl =>
      obtain ⟨g1, g2, g3⟩ := Inc.cons_iff.1 ht
      have hlen := g3.len (by omega)
      simp only [List.length_cons] at hl
      simp only [lexLt]
      by_cases e2 : x = fr + (j : Int)
      · rw [if_pos e2]
        subst e2
        exact h4 t'' g3 (by omega) (by simpa using hp)
      · rw [if_neg e2]
        refine decide_eq_false fun hlt => ?_
        have hn := hbefore (x - fr).toNat (by omega)
        rw [show fr + ((x - fr).toNat : Int) = x by omega] at hn
        have hk : ∀ (m : Nat) (l : List Int) (fr : Int), srch p N m l fr = none → ∀ t', Inc fr N t' → t'.length = m → p (l ++ t') = false := by
          intro m
          induction m with
          | zero =>
            intro l fr h t' _ hl
            rw [List.eq_nil_of_length_eq_zero hl, List.append_nil]
            unfold srch at h
            split at h
            · cases h
            · simpa using ‹¬ p l = true›
          | succ m ih2 =>
            intro l fr h t' ht hl
            match t', hl with
            | y :: t3, hl =>
              obtain ⟨k1, k2, k3⟩ := Inc.cons_iff.1 ht
              have hl3 := k3.len (by omega)
              simp only [List.length_cons] at hl
              unfold srch at h
              rw [List.findSome?_eq_none_iff] at h
              have := h (y - fr).toNat (List.mem_range.2 (by omega))
              rw [show fr + ((y - fr).toNat : Int) = y by omega] at this
              have := ih2 _ _ this t3 k3 (by omega)
              simpa using this
        have := hk m _ _ hn t'' g3 (by omega)
        rw [List.append_assoc] at this
        simp only [List.cons_append, List.nil_append] at this
        rw [this] at hp
        cases hp
theorem srch_none {p : List Int → Bool} {N : Int} : ∀ (m : Nat) (l : List Int) (fr : Int), srch p N m l fr = none → ∀ t', Inc fr N t' → t'.length = m → p (l ++ t') = false := by
  intro m
  induction m with
  | zero =>
    intro l fr h t' _ hl
    rw [List.eq_nil_of_length_eq_zero hl, List.append_nil]
    unfold srch at h
    split at h
    · cases h
    · simpa using ‹¬ p l = true›
  | succ m ih2 =>
    intro l fr h t' ht hl
    match t', hl with
    | y :: t3, hl =>
      obtain ⟨k1, k2, k3⟩ := Inc.cons_iff.1 ht
      have hl3 := k3.len (by omega)
      simp only [List.length_cons] at hl
      unfold srch at h
      rw [List.findSome?_eq_none_iff] at h
      have := h (y - fr).toNat (List.mem_range.2 (by omega))
      rw [show fr + ((y - fr).toNat : Int) = y by omega] at this
      have := ih2 _ _ this t3 k3 (by omega)
      simpa using this
/-- r is the smallest list below N that passes. -/
structure Least (p : List Int → Bool) (N : Int) (r : List Int) : Prop where
  inc : Inc 0 N r
  ok : p r = true
  least : ∀ t, Inc 0 N t → p t = true → lessF t r = false
theorem Least.uniq {p : List Int → Bool} {N : Int} {a b : List Int} (ha : Least p N a) (hb : Least p N b) : a = b := less_tri (hb.least a ha.inc ha.ok) (ha.least b hb.inc hb.ok)
theorem search_some {p : List Int → Bool} {N : Nat} {r : List Int} {M : Nat} (hM : N < M) (h : ((List.range M).findSome? fun (k : Nat) => srch p N k [] 0) = some r) : Least p N r := by
  obtain ⟨l1, k, l2, e, hk, hno⟩ := List.findSome?_eq_some_iff.1 h
  obtain ⟨t, h0, h1, h2, h3, h4⟩ := srch_some _ _ _ _ hk
  rw [List.nil_append] at h0
  subst h0
  have hl1 : l1 = List.range k := by
    have h1 : l1 = (List.range M).take l1.length := by rw [e]; simp
    have h2 : (List.range M)[l1.length]? = some k := by rw [e]; simp
    have hlt : l1.length < M := by
      rcases Nat.lt_or_ge l1.length M with h | h
      · exact h
      · rw [List.getElem?_eq_none (by simpa using h)] at h2; cases h2
    rw [List.getElem?_range hlt] at h2
    have e2 : l1.length = k := by injection h2
    rw [h1, List.take_range, e2, Nat.min_eq_left (by omega)]
  refine ⟨h1, h3, fun t' ht hp => ?_⟩
  unfold lessF
  split
  · exact h4 t' ht (by omega) (by simpa using hp)
  · refine decide_eq_false fun hlt => ?_
    have := srch_none _ _ _ (hno t'.length (by rw [hl1]; exact List.mem_range.2 (by omega))) t' ht rfl
    rw [List.nil_append, hp] at this; cases this
theorem search_none {p : List Int → Bool} {N : Nat} {M : Nat} (hM : N < M) (h : ((List.range M).findSome? fun (k : Nat) => srch p N k [] 0) = none) {t : List Int} (ht : Inc 0 N t) : p t = false := by
  have hl := ht.len (by omega)
  rw [List.findSome?_eq_none_iff] at h
  have := srch_none _ _ _ (h t.length (List.mem_range.2 (by omega))) t ht rfl
  simpa using this
/-! bits -/
theorem bitB_nat (n i : Nat) : bitB n i = n.testBit i := by
  unfold bitB
  rw [Nat.testBit_eq_decide_div_mod_eq]
  exact decide_eq_decide.2 (by
    have : ((n : Int) / 2 ^ i % 2) = ((n / 2 ^ i % 2 : Nat) : Int) := by simp
    rw [this]; omega)
theorem bits_exist (f : Nat → Bool) : ∀ N : Nat, ∃ n, n < 2 ^ N ∧ ∀ i, i < N → n.testBit i = f i
  | 0 => ⟨0, by simp, by simp⟩
  | N + 1 => by
    obtain ⟨n, h1, h2⟩ := bits_exist f N
    cases hf : f N
    · refine ⟨n, by rw [Nat.pow_succ]; omega, fun i hi => ?_⟩
      rcases Nat.lt_succ_iff_lt_or_eq.1 hi with h | rfl
      · exact h2 i h
      · rw [hf]; exact Nat.testBit_lt_two_pow h1
    · refine ⟨2 ^ N + n, by rw [Nat.pow_succ]; omega, fun i hi => ?_⟩
      rcases Nat.lt_succ_iff_lt_or_eq.1 hi with h | rfl
      · rw [Nat.testBit_two_pow_add_gt h]; exact h2 i h
      · rw [Nat.testBit_two_pow_add_eq, Nat.testBit_lt_two_pow h1, hf]; rfl
theorem bitsL_sorted (n : Int) : (bitsL n).Pairwise (· < ·) := by
  unfold bitsL bitsN
  rw [List.pairwise_map]
  exact (List.pairwise_lt_range.filter _).imp fun h => by omega
theorem bitsL_inc {n m : Nat} (h : n < 2 ^ m) : Inc 0 m (bitsL n) := ⟨bitsL_sorted _, fun _ hx => bitsL_mem h hx⟩
theorem bitsL_iff {n i : Nat} (hi : i < 16) : (i : Int) ∈ bitsL n ↔ n.testBit i = true := by
  unfold bitsL bitsN
  rw [List.mem_map]
  constructor
  · rintro ⟨j, hj, e⟩
    obtain rfl : j = i := by omega
    rw [← bitB_nat]; exact (List.mem_filter.1 hj).2
  · intro h
    exact ⟨i, List.mem_filter.2 ⟨List.mem_range.2 hi, by rw [bitB_nat]; exact h⟩, rfl⟩
theorem bits_of_inc {N : Nat} (hN : N ≤ 16) {t : List Int} (ht : Inc 0 N t) : ∃ n : Nat, n < 2 ^ N ∧ bitsL n = t := by
  obtain ⟨n, h1, h2⟩ := bits_exist (fun i => decide ((i : Int) ∈ t)) N
  refine ⟨n, h1, inc_ext (bitsL_sorted _) ht.1 fun x => ?_⟩
  constructor
  · intro hx
    have hb := bitsL_mem h1 hx
    obtain ⟨i, rfl⟩ : ∃ i : Nat, x = i := ⟨x.toNat, by omega⟩
    have := (bitsL_iff (by omega)).1 hx
    rw [h2 i (by omega)] at this
    exact of_decide_eq_true this
  · intro hx
    have hb := ht.2 x hx
    obtain ⟨i, rfl⟩ : ∃ i : Nat, x = i := ⟨x.toNat, by omega⟩
    rw [bitsL_iff (by omega), h2 i (by omega)]
    exact decide_eq_true hx
/-- What a fold over all bits keeps: the smallest so far. -/
theorem fold_least {p : List Int → Bool} {N : Nat} (hN : N ≤ 16) {r : List Int} (hr : ∃ n : Nat, n < 2 ^ N ∧ r = bitsL n) (hp : p r = true) (hl : ∀ n : Nat, n < 2 ^ N → p (bitsL n) = true → lessF (bitsL n) r = false) : Least p N r := by
  obtain ⟨n, h1, rfl⟩ := hr
  exact ⟨bitsL_inc h1, hp, fun t ht hpt => by
    obtain ⟨m, h2, rfl⟩ := bits_of_inc hN ht
    exact hl m h2 hpt⟩
end Go.Sp
