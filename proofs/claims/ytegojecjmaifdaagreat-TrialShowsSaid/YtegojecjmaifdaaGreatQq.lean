
/-
  The reference of trials: what can be shown.
-/
import Derived.Test.YtegojecjmaifdaaGreatM4
set_option linter.unusedVariables false
set_option linter.unusedSimpArgs false
set_option linter.deprecated false
namespace Go.Sp
open Go Go.Proofs
theorem canF_fit {t : Tr} (hv : VT t) {e : E3} {k d x : Int} (hk : 0 ≤ k ∧ k ≤ t.s.weights.length) (hd : 1 ≤ d ∧ d ≤ 2000) :
    canF t e k d x = (decide (0 ≤ x - ofF t e x ∧ x - ofF t e x ≤ t.s.divisions) && rFit t.s (k, x - ofF t e x) d) := by
  unfold canF readT
  generalize x - ofF t e x = n
  rcases h : seeF t.s k d with ⟨⟨r1, r2⟩, f⟩
  dsimp only
  rcases see_spec hv.s hk.1 hk.2 hd.1 hd.2 h with ⟨_, rfl, h0, h1, h2, _, hi⟩ | ⟨hf, rfl, _, _⟩
  · rw [if_pos rfl]
    by_cases hn : 0 ≤ n ∧ n ≤ t.s.divisions
    · rw [decide_eq_true hn, Bool.true_and]
      have := hi n hn.1 hn.2
      cases hr : rFit t.s (k, n) d
      · rw [hr] at this
        exact decide_eq_false (fun hh => by have := this.2 hh; cases this)
      · exact decide_eq_true (this.1 hr)
    · rw [decide_eq_false hn, Bool.false_and]
      exact decide_eq_false (fun hh => hn (by dsimp only at hh; omega))
  · rw [if_neg (by omega)]
    dsimp only
    rw [decide_eq_false (by omega)]
    by_cases hn : 0 ≤ n ∧ n ≤ t.s.divisions
    · rw [decide_eq_true hn, Bool.true_and]
      unfold rFit
      have h2 : rFlo t.s k d < 0 := by unfold rFlo at hf ⊢; split <;> rename_i g1; omega; rw [if_neg g1] at hf; split <;> rename_i g2; omega; rw [if_neg g2] at hf; omega
      rw [if_pos (.inr h2)]
      exact (decide_eq_false (by show ¬ rFlo t.s k d = n; omega)).symm
    · rw [decide_eq_false hn, Bool.false_and]
def partA (ps : List Int) (d : Int) : Nat → Nat
  | 0 => 0
  | n + 1 => if ps.getD n 0 ≤ d then n else partA ps d n
theorem partA_of (ps : List Int) (d : Int) : ∀ n, partA ps d (n + 1) = ofFrom ps d n
  | 0 => by show (if ps.getD 0 0 ≤ d then 0 else 0) = 0; split <;> rfl
  | n + 1 => by
    rw [ofFrom_succ]
    show (if ps.getD (n + 1) 0 ≤ d then n + 1 else partA ps d (n + 1)) = _
    rw [partA_of ps d n]
    by_cases h : ps.getD (n + 1) 0 ≤ d
    · rw [if_pos h, if_neg (by omega)]
    · rw [if_neg h, if_pos (by omega)]
theorem partA_le (ps : List Int) (d : Int) : ∀ n, partA ps d n ≤ n - 1
  | 0 => Nat.le_refl _
  | n + 1 => by
    show (if ps.getD n 0 ≤ d then n else partA ps d n) ≤ n
    split
    · exact Nat.le_refl _
    · have := partA_le ps d n; omega
theorem part9_c (t : Tr) (hn : NT t) (d : Int) (sl pl ll tl : Value) (w : World) (hp : RdI w pl t.parts) : CnV Tryz.prog 127 #[trV t sl pl ll tl, vi d] w (vi (partA t.parts d t.parts.length)) := by
  have hps := hn.ps
  obtain ⟨ad, cap, b0, o, rfl, had, hcell⟩ := hp.open
  refine cnv (vs := [_, _]) Tryz.func127 rfl rfl ?_
  all_goals refine tc_seq fun K1 hK1 => ?_; refine tc_region ?_; refine tl_e (e_box rfl rfl rfl) rfl (fun b2 _ => ?_); refine tl_q (y_assign rfl) rfl ?_; refine tl_nil ?_; ((refine hK1 ?_; try (clear hK1; clear K1)))
  all_goals refine tc_seq fun K2 hK2 => ?_; refine tc_region ?_; refine tl_q (y_assign rfl) rfl ?_; refine tl_nil ?_; ((refine hK2 ?_; try (clear hK2; clear K2)))
  all_goals refine tc_seq fun K3 hK3 => ?_; refine tc_seq fun K4 hK4 => ?_; refine tc_region ?_; refine tl_q (y_assign rfl) rfl ?_; refine tl_nil ?_; ((refine hK4 ?_; try (clear hK4; clear K4)))
  all_goals refine tc_block ?_
  all_goals (
   refine tc_loop (fun n : Nat => n ≤ t.parts.length) (fun n => [(1, vi d), (2, ptr b2), (5, vi (partA t.parts d n)), (6, vi n)]) (fun _ => [(w, [])]) (fun _ => [(b2, .cells (trV t sl (.slice ad t.parts.length cap) ll tl).cells 28 (0, 0))]) (fun n => t.parts.length - n) ?_ ?_
   · exact tk_start 0 (Nat.zero_le _) (.cons rfl (.cons rfl (.cons rfl (.cons rfl .nil)))) (fun _ h => h)
   · rintro n hn'
     all_goals refine tc_seq fun K5 hK5 => ?_; refine tc_seq fun K6 hK6 => ?_; refine tc_region ?_; refine tl_q (y_move rfl) rfl ?_; refine tl_q (y_field rfl) rfl ?_; refine tl_q (y_load1 rfl (by repeat constructor) (by rfl)) rfl ?_; refine tl_q (y_len rfl) rfl ?_; refine tl_q (y_lss rfl rfl) rfl ?_; refine tl_nil ?_; ((refine hK6 ?_; try (clear hK6; clear K6)))
     all_goals (
      refine tc_cond rfl (fun hc => ?_) (fun hc => ?_)
      · try simp only [decide_eq_true_eq, decide_eq_false_iff_not, Int.not_lt, Int.not_le, Bool.not_eq_true', Bool.not_eq_false', Decidable.not_not, not_true_eq_false] at hc
        all_goals refine tc_skip ?_; ((refine hK5 ?_; try (clear hK5; clear K5)))
        all_goals refine tc_seq fun K7 hK7 => ?_; refine tc_block ?_; refine tc_seq fun K8 hK8 => ?_; have had' := had (by omega)
        all_goals refine tc_region ?_; refine tl_q (y_field rfl) rfl ?_; refine tl_q (y_load1 rfl (by repeat constructor) (by rfl)) rfl ?_; refine tl_q (y_move rfl) rfl ?_; refine tl_q (y_index rfl rfl (by omega) had') rfl ?_; ((refine tl_q (y_load1o (v := vi (t.parts.getD n 0)) rfl (fun w' hw' => by rw [show Int.toNat (n : Int) * 1 = n from by omega]; exact hcell w' (hw'.fr (w0 := w) (S := []) (MI.m (by repeat constructor))) n (by omega))) rfl ?_))
        all_goals refine tl_q (y_move rfl) rfl ?_; refine tl_q (y_leq rfl rfl) rfl ?_; refine tl_nil ?_; ((refine hK8 ?_; try (clear hK8; clear K8)))
        all_goals (
         refine tc_cond rfl (fun hc => ?_) (fun hc => ?_)
         · try simp only [decide_eq_true_eq, decide_eq_false_iff_not, Int.not_lt, Int.not_le, Bool.not_eq_true', Bool.not_eq_false', Decidable.not_not, not_true_eq_false] at hc
           all_goals refine tc_region ?_; refine tl_q (y_move rfl) rfl ?_; refine tl_q (y_assign rfl) rfl ?_; refine tl_nil ?_; ((refine hK7 ?_; try (clear hK7; clear K7)))
           all_goals refine tc_region ?_; refine tl_q (y_move rfl) rfl ?_; refine tl_q (y_add rfl rfl (by omega)) rfl ?_; refine tl_q (y_assign rfl) rfl ?_; refine tl_nil ?_
           all_goals (
            refine tk_round (n + 1) (by omega) (by omega) (.cons rfl (.cons rfl (.cons ?_ (.cons rfl .nil)))) (fun _ h => h.subl (SB.s (by repeat constructor)) (SB.s (by repeat constructor)))
            have hs : partA t.parts d (n + 1) = if t.parts.getD n 0 ≤ d then n else partA t.parts d n := rfl
            first
            | (rw [hs, if_pos hc]; rfl)
            | (rw [hs, if_neg (by omega)]; rfl))
         · try simp only [decide_eq_true_eq, decide_eq_false_iff_not, Int.not_lt, Int.not_le, Bool.not_eq_true', Bool.not_eq_false', Decidable.not_not, not_true_eq_false] at hc
           all_goals refine tc_skip ?_; ((refine hK7 ?_; try (clear hK7; clear K7)))
           all_goals refine tc_region ?_; refine tl_q (y_move rfl) rfl ?_; refine tl_q (y_add rfl rfl (by omega)) rfl ?_; refine tl_q (y_assign rfl) rfl ?_; refine tl_nil ?_
           all_goals (
            refine tk_round (n + 1) (by omega) (by omega) (.cons rfl (.cons rfl (.cons ?_ (.cons rfl .nil)))) (fun _ h => h.subl (SB.s (by repeat constructor)) (SB.s (by repeat constructor)))
            have hs : partA t.parts d (n + 1) = if t.parts.getD n 0 ≤ d then n else partA t.parts d n := rfl
            first
            | (rw [hs, if_pos hc]; rfl)
            | (rw [hs, if_neg (by omega)]; rfl)))
      · try simp only [decide_eq_true_eq, decide_eq_false_iff_not, Int.not_lt, Int.not_le, Bool.not_eq_true', Bool.not_eq_false', Decidable.not_not, not_true_eq_false] at hc
        all_goals refine tc_exit ?_; ((refine hK3 ?_; try (clear hK3; clear K3)))
        all_goals refine tc_seq fun K9 hK9 => ?_; (have hnl : n = t.parts.length := by omega)
        all_goals subst hnl
        all_goals refine tc_region ?_; refine tl_q (y_move rfl) rfl ?_; refine tl_q (y_assign rfl) rfl ?_; refine tl_nil ?_; ((refine hK9 ?_; try (clear hK9; clear K9)))
        all_goals refine tc_ret ?_; (repeat (first | refine tk_then_ret ?_))
        all_goals (refine tk_ret rfl rfl (.cons (.tmp rfl) .nil) ?_)
        all_goals (
         exact fun w' hw' => ⟨rfl, hw'.fr (by simp)⟩)))
theorem er3_get {l : List Int} (h : l.length ≤ 3) {i : Nat} (hi : i < 3) : get3 (er3 l) i = l.getD i 0 := by
  rcases (by omega : i = 0 ∨ i = 1 ∨ i = 2) with rfl | rfl | rfl <;> rfl
theorem errB_v {t : Tr} {l : List Int} (h : errB t l = true) : l.length = t.parts.length ∧ ∀ i : Nat, i < l.length → -t.worst ≤ l.getD i 0 ∧ l.getD i 0 ≤ t.worst := by
  unfold errB at h
  rw [Bool.and_eq_true, decide_eq_true_eq, List.all_eq_true] at h
  refine ⟨h.1, fun i hi => ?_⟩
  have := of_decide_eq_true (h.2 (l.getD i 0) (by rw [List.getD_eq_getElem?_getD, List.getElem?_eq_getElem hi]; exact List.getElem_mem hi))
  exact this
theorem can9_c (t : Tr) (hv : VT t) (l : List Int) (hl : errB t l = true) (k d x : Int) (hk : 0 ≤ k ∧ k ≤ t.s.weights.length) (hd : 1 ≤ d ∧ d ≤ 2000) (hx : 0 ≤ x ∧ x ≤ t.s.divisions) (sl pl ll tl lv : Value) (w : World) (hr : RdTr w t sl pl ll tl) (hL : RdI w lv l) :
    CnV Tryz.prog 74 #[trV t sl pl ll tl, lv, vi k, vi d, vi x] w (.bool (canF t (er3 l) k d x)) := by
  have hr0 := hr
  have hp1 := hv.p1
  have hp3 := hv.p3
  have hw := hv.w
  have hd2 := hv.s.d2
  obtain ⟨hll, hlb⟩ := errB_v hl
  obtain ⟨aw, cw, _, _, rfl, _, _⟩ := hr.ws.open
  obtain ⟨ad, cap, b0, o, rfl, had, hcell⟩ := hL.open
  obtain ⟨j, hj⟩ : ∃ j, j = partA t.parts x t.parts.length := ⟨_, rfl⟩
  have hjl : j < l.length := by have := partA_le t.parts x t.parts.length; omega
  have had' := had (by omega)
  have hjb := hlb j hjl
  have hof : ofF t (er3 l) x = l.getD j 0 := by
    unfold ofF
    rw [← partA_of, show t.parts.length - 1 + 1 = t.parts.length from by omega, ← hj, er3_get (by omega) (by omega)]
  have hcf := canF_fit hv (e := er3 l) (k := k) (d := d) (x := x) hk hd
  rw [hof] at hcf
  refine cnv (vs := [_, _, _, _, _]) Tryz.func74 rfl rfl ?_
  all_goals refine tc_seq fun K1 hK1 => ?_; refine tc_region ?_; refine tl_e (e_box rfl rfl rfl) rfl (fun b5 _ => ?_); refine tl_q (y_assign rfl) rfl ?_; refine tl_nil ?_; ((refine hK1 ?_; try (clear hK1; clear K1)))
  all_goals refine tc_seq fun K2 hK2 => ?_; refine tc_seq fun K3 hK3 => ?_; refine tc_region ?_; refine tl_q (y_move rfl) rfl ?_; refine tl_q (y_geq rfl rfl) rfl ?_; refine tl_nil ?_; ((refine hK3 ?_; try (clear hK3; clear K3)))
  all_goals (
   refine tc_cond rfl (fun hc => ?_) (fun hc => ?_)
   · try simp only [decide_eq_true_eq, decide_eq_false_iff_not, Int.not_lt, Int.not_le, Bool.not_eq_true', Bool.not_eq_false', Decidable.not_not, not_true_eq_false] at hc
     all_goals refine tc_seq fun K4 hK4 => ?_; refine tc_region ?_; refine tl_q (y_move rfl) rfl ?_; refine tl_q (y_move rfl) rfl ?_; refine tl_q (y_loadW rfl (by repeat constructor) (by rfl)) rfl ?_; refine tl_q (y_move rfl) rfl ?_; (refine tl_e (e_callV rfl (.cons rfl (.cons rfl .nil)) (fun w' hw' => by have h := part9_c t hv.nt x (.slice aw t.s.weights.length cw) pl ll tl w' (hr0.fr (hw'.fr (by simp))).ps; rw [← hj] at h; exact h)) rfl (fun _ _ => ?_))
     all_goals (refine tl_q (y_index rfl rfl (by omega) had') rfl ?_); ((refine tl_q (y_load1o (v := vi (l.getD j 0)) rfl (fun w' hw' => by rw [show Int.toNat (j : Int) * 1 = j from by omega]; exact hcell w' (hw'.fr (w0 := w) (S := []) (by simp)) j hjl)) rfl ?_))
     all_goals refine tl_q (y_sub rfl rfl (by omega)) rfl ?_; refine tl_q (y_assign rfl) rfl ?_; refine tl_nil ?_; ((refine hK4 ?_; try (clear hK4; clear K4)))
     all_goals refine tc_seq fun K5 hK5 => ?_; refine tc_region ?_; refine tl_q (y_move rfl) rfl ?_; refine tl_q (y_geq rfl rfl) rfl ?_; refine tl_q (y_move rfl) rfl ?_; ((refine tl_gs rfl rfl (fun hc => ?_) (fun hc => ?_) <;> (try simp only [decide_eq_true_eq, decide_eq_false_iff_not, Int.not_lt, Int.not_le, Bool.not_eq_true', Bool.not_eq_false', Decidable.not_not, not_true_eq_false] at hc) <;> (first | refine tl_sk rfl rfl rfl rfl ?_ | refine tl_qg rfl rfl (y_move rfl) rfl ?_)))
     all_goals (first | refine tl_sk rfl rfl rfl rfl ?_ | refine tl_qg rfl rfl (y_field rfl) rfl ?_); (first | refine tl_sk rfl rfl rfl rfl ?_ | refine tl_qg rfl rfl (y_field rfl) rfl ?_); (first | refine tl_sk rfl rfl rfl rfl ?_ | refine tl_qg rfl rfl (y_load1 rfl (by repeat constructor) (by rfl)) rfl ?_); (first | refine tl_sk rfl rfl rfl rfl ?_ | refine tl_qg rfl rfl (y_leq rfl rfl) rfl ?_); (first | refine tl_q (y_pick_t rfl rfl) rfl ?_ | refine tl_q (y_pick_f rfl rfl) rfl ?_); refine tl_q (y_move rfl) rfl ?_; ((first | refine tl_sk rfl rfl rfl rfl ?_ | (refine tl_gs rfl rfl (fun hc => ?_) (fun hc => ?_) <;> (try simp only [decide_eq_true_eq, decide_eq_false_iff_not, Int.not_lt, Int.not_le, Bool.not_eq_true', Bool.not_eq_false', Decidable.not_not, not_true_eq_false] at hc) <;> (first | refine tl_sk rfl rfl rfl rfl ?_ | refine tl_qg rfl rfl (y_field rfl) rfl ?_))))
     all_goals ((first | refine tl_sk rfl rfl rfl rfl ?_ | refine tl_qg rfl rfl (y_loadN rfl (by repeat constructor) (by (repeat (first | exact .nil | apply CA.cons rfl)); done)) rfl ?_))
     all_goals (first | refine tl_sk rfl rfl rfl rfl ?_ | refine tl_qg rfl rfl (y_move rfl) rfl ?_); (first | refine tl_sk rfl rfl rfl rfl ?_ | refine tl_qg rfl rfl (y_move rfl) rfl ?_); (first | refine tl_sk rfl rfl rfl rfl ?_ | refine tl_qg rfl rfl (y_build_2 rfl rfl rfl rfl) rfl ?_); (first | refine tl_sk rfl rfl rfl rfl ?_ | refine tl_qg rfl rfl (y_move rfl) rfl ?_); ((first | refine tl_sk rfl rfl rfl rfl ?_ | refine tl_eg rfl rfl rfl (e_callV rfl (.cons rfl (.cons rfl (.cons rfl .nil))) (fun w' hw' => fits_c t.s hv.s (k, x - l.getD j 0) (decide_eq_true ⟨hk, by dsimp only; omega⟩) d hd.1 hd.2 _ w' (hr0.fr (hw'.fr (by simp))).ws)) (fun _ _ => ?_)))
     all_goals (first | refine tl_q (y_pick_t rfl rfl) rfl ?_ | refine tl_q (y_pick_f rfl rfl) rfl ?_); refine tl_q (y_assign rfl) rfl ?_; refine tl_nil ?_; ((refine hK5 ?_; try (clear hK5; clear K5)))
     all_goals refine tc_ret ?_; (repeat (refine tk_then_ret ?_))
     all_goals (refine tk_ret rfl rfl (.cons (.tmp rfl) .nil) ?_)
     all_goals (
      refine fun w' hw' => ⟨congrArg (fun b => Ending.returned (Value.bool b)) ?_, hw'.fr (by simp)⟩
      rw [hcf]
      first
      | (rw [decide_eq_true (by omega), Bool.true_and])
      | (rw [decide_eq_false (by omega), Bool.false_and]))
   · try simp only [decide_eq_true_eq, decide_eq_false_iff_not, Int.not_lt, Int.not_le, Bool.not_eq_true', Bool.not_eq_false', Decidable.not_not, not_true_eq_false] at hc
     all_goals ((exfalso; omega))
     all_goals skip)
end Go.Sp
