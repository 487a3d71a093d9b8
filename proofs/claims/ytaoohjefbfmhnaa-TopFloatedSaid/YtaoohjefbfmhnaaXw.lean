/-
  TopFloated: a trial in one liquid with a spindle without errors, plainly.
-/
import Derived.Test.YtaoohjefbfmhnaaXr
import Derived.Test.YtaoohjefbfmhnaaLea
import Derived.Test.YtaoohjefbfmhnaaBka
set_option linter.unusedVariables false
set_option linter.unusedSimpArgs false
set_option linter.deprecated false
namespace Go.Sp
open Go Go.Proofs
abbrev oneT (s : Sn) (r : Int × Int) (l : List (Int × Int)) : Tr := ⟨s, [0], 0, [r], l.map fun x => (0, x.1, x.2)⟩
theorem can_fit {s : Sn} (hs : VS s) {r : Int × Int} {l : List (Int × Int)} {k n d : Int} (hk : 0 ≤ k ∧ k ≤ s.weights.length) (hn : 0 ≤ n ∧ n ≤ s.divisions) (hd : 1 ≤ d ∧ d ≤ 2000) : canF (oneT s r l) (0, 0, 0) k d n = rFit s (k, n) d := by
  have h0 : ofF (oneT s r l) (0, 0, 0) n = 0 := rfl
  unfold canF
  rw [h0]
  show decide ((readT s k d).1 ≤ n - 0 ∧ n - 0 ≤ (readT s k d).2) = _
  rw [Int.sub_zero]
  unfold readT
  rcases h : seeF s k d with ⟨⟨r1, r2⟩, e⟩
  dsimp only
  rcases see_spec hs hk.1 hk.2 hd.1 hd.2 h with ⟨_, rfl, _, _, _, _, hi⟩ | ⟨hf, rfl, _, _⟩
  · rw [if_pos rfl]
    have := hi n hn.1 hn.2
    cases hr : rFit s (k, n) d
    · rw [hr] at this
      exact decide_eq_false (fun hh => by have := this.2 hh; cases this)
    · exact decide_eq_true (this.1 hr)
  · rw [if_neg (by omega)]
    dsimp only
    unfold rFit
    have h2 : rFlo s k d < 0 := by unfold rFlo at hf ⊢; split <;> rename_i g1; omega; rw [if_neg g1] at hf; split <;> rename_i g2; omega; rw [if_neg g2] at hf; omega
    rw [if_pos (.inr h2), decide_eq_false (by omega)]
    exact (decide_eq_false (by show ¬ rFlo s k d = n; omega)).symm
theorem tests_get (l : List (Int × Int)) {j : Nat} (h : j < l.length) : (l.map fun x => ((0 : Int), x.1, x.2)).getD j (0, 0, 0) = (0, (l.getD j (0, 0)).1, (l.getD j (0, 0)).2) := by
  rw [List.getD_eq_getElem?_getD, List.getD_eq_getElem?_getD, List.getElem?_map, List.getElem?_eq_getElem h]; rfl
section
variable {s : Sn} (hs : VS s) {r : Int × Int} {l : List (Int × Int)} (hok : l.all (rdOk s) = true) (hpos : ∀ x ∈ l, 0 ≤ x.2) (hr : 1 ≤ r.1 ∧ r.1 ≤ r.2 ∧ r.2 ≤ 2000)
include hs hok hpos
theorem pass_iff {out : List Int} {d : Int} (hd : 1 ≤ d ∧ d ≤ 2000) : passN (oneT s r l) (0, 0, 0) 0 out d (oneT s r l).tests.length = true ↔ ∀ i : Nat, i < l.length → (i : Int) ∈ out ∨ rFit s (l.getD i (0, 0)) d = true := by
  unfold passN
  rw [List.all_eq_true]
  have key : ∀ i : Nat, i < l.length → passF (oneT s r l) (0, 0, 0) 0 out d i = (decide ((i : Int) ∈ out) || rFit s (l.getD i (0, 0)) d) := fun i hi => by
    have hm : l.getD i (0, 0) ∈ l := by rw [List.getD_eq_getElem?_getD, List.getElem?_eq_getElem hi]; exact List.getElem_mem hi
    have h1 := of_decide_eq_true (List.all_eq_true.1 hok _ hm)
    have h2 := hpos _ hm
    unfold passF
    show (decide (¬ ((l.map fun x => ((0 : Int), x.1, x.2)).getD i (0, 0, 0)).1 = ((0 : Nat) : Int)) || (decide ((i : Int) ∈ out) || rightF (oneT s r l) (0, 0, 0) ((l.map fun x => ((0 : Int), x.1, x.2)).getD i (0, 0, 0)) d)) = _
    rw [tests_get l hi, decide_eq_false (by simp), Bool.false_or]
    unfold rightF
    dsimp only
    rw [if_neg (by omega), can_fit hs h1.1 ⟨h2, h1.2.2⟩ hd]
  have hlen : (oneT s r l).tests.length = l.length := List.length_map _
  rw [hlen]
  constructor
  · intro h i hi
    have := h i (List.mem_range.2 hi)
    rw [key i hi, Bool.or_eq_true, decide_eq_true_eq] at this
    exact this
  · intro h i hi
    have hi := List.mem_range.1 hi
    rw [key i hi, Bool.or_eq_true, decide_eq_true_eq]
    exact h i hi
include hr
theorem dense_mem {out : List Int} {d : Int} : d ∈ denseL (oneT s r l) (0, 0, 0) 0 out ↔ (r.1 ≤ d ∧ d ≤ r.2) ∧ ∀ i : Nat, i < l.length → (i : Int) ∈ out ∨ rFit s (l.getD i (0, 0)) d = true := by
  have hq : lqAt (oneT s r l) 0 = r := rfl
  unfold denseL denseN
  rw [List.mem_map]
  constructor
  · rintro ⟨j, hj, rfl⟩
    have hj2 := List.mem_filter.1 hj
    have hj1 := List.mem_range.1 hj2.1
    unfold lqC at hj1
    rw [hq] at hj1 ⊢
    have := hj2.2
    rw [hq] at this
    exact ⟨by omega, (pass_iff hs hok hpos (by omega)).1 this⟩
  · rintro ⟨h1, h2⟩
    refine ⟨(d - r.1).toNat, List.mem_filter.2 ⟨List.mem_range.2 (by unfold lqC; rw [hq]; omega), ?_⟩, by rw [hq]; omega⟩
    rw [hq, show r.1 + ((d - r.1).toNat : Int) = d from by omega]
    exact (pass_iff hs hok hpos (by omega)).2 h2
omit hs hok hpos hr in
theorem every_one : everyL (oneT s r l) = [(0, 0, 0)] := rfl
omit hs hok hpos hr in
theorem truths_one {out : List Int} : truthsL (oneT s r l) out = if (denseL (oneT s r l) (0, 0, 0) 0 out).length = 0 then [] else [(0, 0, 0)] := by
  have hd : denOk (oneT s r l) (0, 0, 0) out = !(denseL (oneT s r l) (0, 0, 0) 0 out).isEmpty := by
    unfold denOk
    show [0].all _ = _
    simp
  unfold truthsL
  rw [every_one, List.filter_cons, hd, List.filter_nil]
  rcases denseL (oneT s r l) (0, 0, 0) 0 out with _ | ⟨a, b⟩ <;> rfl
theorem fitsT_iff {out : List Int} : fitsT (oneT s r l) out = true ↔ ∃ d : Int, (r.1 ≤ d ∧ d ≤ r.2) ∧ ∀ i : Nat, i < l.length → (i : Int) ∈ out ∨ rFit s (l.getD i (0, 0)) d = true := by
  unfold fitsT
  rw [truths_one, decide_eq_true_eq]
  constructor
  · intro h
    split at h
    · cases h
    · rename_i h1
      obtain ⟨d, hd⟩ := List.exists_mem_of_length_pos (show 0 < (denseL (oneT s r l) (0, 0, 0) 0 out).length by omega)
      exact ⟨d, (dense_mem hs hok hpos hr).1 hd⟩
  · rintro ⟨d, hd⟩
    have := List.length_pos_of_mem ((dense_mem hs hok hpos hr (out := out)).2 hd)
    rw [if_neg (by omega)]
    exact Nat.zero_lt_one
end
theorem fold_wid : ∀ (L : List Int) (a b A B : Int), (∀ d ∈ L, A ≤ d ∧ d ≤ B) → A ≤ a → b ≤ B → (a = A ∨ A ∈ L) → (b = B ∨ B ∈ L) → L.foldl (fun (r : Int × Int) d => (min r.1 d, max r.2 d)) (a, b) = (A, B)
  | [], a, b, A, B, _, _, _, h4, h5 => by
    rcases h4 with rfl | h; rcases h5 with rfl | h; rfl; simp at h; simp at h
  | x :: L, a, b, A, B, h1, h2, h3, h4, h5 => by
    have hx := h1 x List.mem_cons_self
    refine fold_wid L (min a x) (max b x) A B (fun d hd => h1 d (List.mem_cons_of_mem _ hd)) (by omega) (by omega) ?_ ?_
    · rcases h4 with h | h
      · left; omega
      · rcases List.mem_cons.1 h with h | h
        · left; omega
        · exact .inr h
    · rcases h5 with h | h
      · left; omega
      · rcases List.mem_cons.1 h with h | h
        · left; omega
        · exact .inr h
/-- What the law says. -/
theorem floated_plain {s : Sn} {l : List (Int × Int)} (hpos : ∀ x ∈ l, 0 ≤ x.2) {r : Int × Int} (hr : 1 ≤ r.1 ∧ r.1 ≤ r.2 ∧ r.2 ≤ 2000) (hT : chkT (oneT s r l) = 0) {n1 n2 e g : Int} {x : List Int} (hN : narrowE s l = ((n1, n2), e)) (hL : leaveE s l = (x, g)) :
    (e = 0 ∨ e = 11) ∧ g = 0 ∧ x.length ≤ (leaveTL (oneT s r l)).length ∧
    ((¬ (e = 0 ∧ max n1 r.1 ≤ min n2 r.2) ∧ askedE (oneT s r l) = 11 ∧ 0 < (leaveTL (oneT s r l)).length) ∨
     ((e = 0 ∧ max n1 r.1 ≤ min n2 r.2) ∧ askedE (oneT s r l) = 0 ∧ densR (oneT s r l) 1 = [(max n1 r.1, min n2 r.2)] ∧ (leaveTL (oneT s r l)).length = 0)) := by
  have hv := chkT_0.1 hT
  have hs : VS s := hv.s
  have hl : l.length ≤ 6 := by have := hv.t6; simpa using this
  have hok : l.all (rdOk s) = true := List.all_eq_true.2 fun y hy => by
    have h1 := List.all_eq_true.1 hv.ts (0, y.1, y.2) (List.mem_map.2 ⟨y, hy, rfl⟩)
    have h2 := of_decide_eq_true h1
    have h3 := hpos y hy
    unfold rdOk
    refine decide_eq_true ⟨h2.2.1, ?_⟩
    have := h2.2.2
    dsimp only at this
    omega
  have hread : readF s l = 0 := by
    unfold readF
    rw [chkF_valid.2 hs, if_neg (fun h => h rfl), if_neg (by omega), if_pos hok]
  obtain ⟨rfl, rfl⟩ : x = leaveL s l ∧ g = 0 := by
    unfold leaveE at hL
    rw [if_neg (fun h => h hread)] at hL
    cases hL; exact ⟨rfl, rfl⟩
  have hP := leaveL_least (s := s) (l := l) (by omega)
  have hQ := (leaveTL_some hv).2
  have htl : (oneT s r l).tests.length = l.length := List.length_map _
  rw [htl] at hQ
  have hle : (leaveL s l).length ≤ (leaveTL (oneT s r l)).length := by
    have h1 : fitsP s l (leaveTL (oneT s r l)) = true := by
      obtain ⟨d, hd, hf⟩ := (fitsT_iff hs hok hpos hr).1 hQ.ok
      exact (fitsP_iff hs hok).2 ⟨d, by omega, by omega, hf⟩
    have h2 := hP.least _ hQ.inc h1
    unfold lessF at h2
    split at h2
    · omega
    · have := of_decide_eq_false h2; omega
  have hnil : fitsT (oneT s r l) [] = true ↔ (leaveTL (oneT s r l)).length = 0 := by
    constructor
    · intro h
      have h2 := hQ.least [] Inc.nil h
      unfold lessF at h2
      split at h2
      · rename_i h3; simpa using h3.symm
      · have := of_decide_eq_false h2; simp at this; simp [this]
    · intro h
      have := hQ.ok
      rw [List.eq_nil_of_length_eq_zero h] at this
      exact this
  have hnn : ∀ d : Int, 1 ≤ d → d ≤ 2000 → ((narF s l [] l.length).1 ≤ d ∧ d ≤ (narF s l [] l.length).2 ↔ ∀ i : Nat, i < l.length → (i : Int) ∈ ([] : List Int) ∨ rFit s (l.getD i (0, 0)) d = true) := fun d h1 h2 => nar_mem hs hok [] h1 h2 l.length (Nat.le_refl _)
  have hb := nar_bd hs l [] l.length
  have he := narrowE_ok hs hl hok hN
  have hask : askedE (oneT s r l) = if fitsT (oneT s r l) [] = true then 0 else 11 := by
    unfold askedE fitsT
    rw [if_neg (by omega)]
    by_cases h : (truthsL (oneT s r l) []).length = 0
    · rw [if_pos h, if_neg (by simp [h])]
    · rw [if_neg h, if_pos (decide_eq_true (by omega))]
  refine ⟨by omega, rfl, hle, ?_⟩
  have hnar : e = 0 → n1 = (narF s l [] l.length).1 ∧ n2 = (narF s l [] l.length).2 := fun h0 => by
    unfold narrowE at hN
    rw [if_neg (fun h => h hread)] at hN
    split at hN
    · have := congrArg Prod.snd hN; dsimp only at this; omega
    · have := congrArg Prod.fst hN; dsimp only at this; exact ⟨congrArg Prod.fst this.symm, congrArg Prod.snd this.symm⟩
  by_cases hf : fitsT (oneT s r l) [] = true
  · obtain ⟨d, hd, hdf⟩ := (fitsT_iff hs hok hpos hr).1 hf
    have hfp : fitsP s l [] = true := (fitsP_iff hs hok).2 ⟨d, by omega, by omega, hdf⟩
    have he0 : e = 0 := by rcases he with h | h; exact h.1; rw [hfp] at h; cases h.2
    obtain ⟨rfl, rfl⟩ := hnar he0
    have hd2 := (hnn d (by omega) (by omega)).2 hdf
    refine .inr ⟨⟨he0, by omega⟩, by rw [hask, if_pos hf], ?_, hnil.1 hf⟩
    have hmem : ∀ d : Int, d ∈ denseL (oneT s r l) (0, 0, 0) 0 [] ↔ max (narF s l [] l.length).1 r.1 ≤ d ∧ d ≤ min (narF s l [] l.length).2 r.2 := fun d => by
      rw [dense_mem hs hok hpos hr]
      constructor
      · rintro ⟨h1, h2⟩
        have := (hnn d (by omega) (by omega)).2 h2
        omega
      · intro h
        exact ⟨by omega, (hnn d (by omega) (by omega)).1 (by omega)⟩
    have htr : truthsL (oneT s r l) [] = [(0, 0, 0)] := by
      have := of_decide_eq_true hf
      rw [truths_one] at this ⊢
      split at this
      · cases this
      · rename_i h; rw [if_neg h]
    unfold densR bouN
    rw [htr]
    show [widN (denseL (oneT s r l) (0, 0, 0) 0 []) (r.2, r.1) (denseL (oneT s r l) (0, 0, 0) 0 []).length] = _
    unfold widN
    rw [List.take_length, fold_wid _ r.2 r.1 (max (narF s l [] l.length).1 r.1) (min (narF s l [] l.length).2 r.2) (fun d h => (hmem d).1 h) (by omega) (by omega) (.inr ((hmem _).2 (by omega))) (.inr ((hmem _).2 (by omega)))]
  · refine .inl ⟨?_, by rw [hask, if_neg hf], ?_⟩
    · rintro ⟨he0, hm⟩
      obtain ⟨rfl, rfl⟩ := hnar he0
      apply hf
      exact (fitsT_iff hs hok hpos hr).2 ⟨max (narF s l [] l.length).1 r.1, by omega, (hnn _ (by omega) (by omega)).1 (by omega)⟩
    · rcases Nat.eq_zero_or_pos (leaveTL (oneT s r l)).length with h | h
      · exact absurd (hnil.2 h) hf
      · exact h
end Go.Sp
