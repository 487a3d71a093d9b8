/-
  Floats, See, Mean.
-/
import Derived.Test.YtaoohjefbfmhnaaC
set_option linter.unusedVariables false
set_option linter.unusedSimpArgs false
set_option linter.deprecated false
namespace Go.Sp
open Go Go.Proofs

def atF (s : Sn) (k d : Int) : Int := if (floF s k).1 ≤ d ∧ d ≤ (floF s k).2 then 0 else if 1000 * massF s k < d * s.volume then -2 else -1
def askF (s : Sn) (k d : Int) : Int := if ¬ chkF s = 0 then chkF s else if (0 ≤ k ∧ k ≤ s.weights.length) ∧ (1 ≤ d ∧ d ≤ 2000) then 0 else 2
theorem askF_0 {s : Sn} {k d : Int} (h : askF s k d = 0) : VS s ∧ 0 ≤ k ∧ k ≤ s.weights.length ∧ 1 ≤ d ∧ d ≤ 2000 := by
  unfold askF at h
  split at h
  · rename_i h1; exact absurd h h1
  · rename_i h1
    split at h
    · rename_i h2; exact ⟨chkF_valid.1 (by simpa using h1), h2.1.1, h2.1.2, h2.2.1, h2.2.2⟩
    · cases h
def floatsF (s : Sn) (k d : Int) : Int × Int := if ¬ askF s k d = 0 then (0, askF s k d) else (atF s k d, 0)
def seeStep (s : Sn) (k d : Int) (r : Int × Int) (x : Nat) : Int × Int := if (meanF s k x).1 ≤ d ∧ d ≤ (meanF s k x).2 then (min r.1 x, max r.2 x) else r
def seeAcc (s : Sn) (k d : Int) (n : Nat) : Int × Int := (List.range n).foldl (seeStep s k d) (s.divisions, 0)
theorem seeAcc_succ (s : Sn) (k d : Int) (n : Nat) : seeAcc s k d (n + 1) = seeStep s k d (seeAcc s k d n) n := by simp [seeAcc, List.range_succ]
def seeF (s : Sn) (k d : Int) : (Int × Int) × Int := if ¬ askF s k d = 0 then ((0, 0), askF s k d) else if ¬ atF s k d = 0 then ((0, 0), 10) else (seeAcc s k d (s.divisions.toNat + 1), 0)
def meanE (s : Sn) (k seen : Int) : (Int × Int) × Int := if ¬ chkF s = 0 then ((0, 0), chkF s) else if ¬ ((0 ≤ k ∧ k ≤ s.weights.length) ∧ (-2 ≤ seen ∧ seen ≤ s.divisions)) then ((0, 0), 2)
  else if (meanF s k seen).2 < (meanF s k seen).1 then ((0, 0), 7) else (meanF s k seen, 0)
theorem RdI.one {w : World} {sl : Value} {xs : List Int} (h : RdI w sl xs) : sl.oneCell' = true := by obtain ⟨_, ad, cap, rfl, _⟩ := h; rfl
def NB (s : Sn) : Prop := (s.weights.length : Int) ≤ 9000000000000000000

theorem asked_c (s : Sn) (hn : NB s) (k d : Int) (sl : Value) (w : World) (hr : RdI w sl s.weights) : CnV Try.prog 90 #[spV s sl, vi k, vi d] w (vi (askF s k d)) := by
  refine cnv (vs := [_, _, _]) Try.func90 rfl rfl ?_
  all_goals refine tc_seq fun K1 hK1 => ?_
  all_goals refine tc_region ?_
  all_goals refine tl_e (e_box rfl rfl rfl) rfl (fun _ _ => ?_)
  all_goals refine tl_q (y_assign rfl) rfl ?_
  all_goals refine tl_nil ?_
  all_goals (refine hK1 ?_; try (clear hK1; clear K1))
  all_goals refine tc_seq fun K2 hK2 => ?_
  all_goals refine tc_seq fun K3 hK3 => ?_
  all_goals refine tc_region ?_
  all_goals (refine tl_q (y_loadW rfl (by repeat constructor) (by rfl)) rfl ?_)
  all_goals refine tl_e (e_callV rfl (.cons rfl .nil) (fun w' hw' => chk_c s hn _ w' (hr.fr (hw'.fr (by simp))))) rfl (fun _ _ => ?_)
  all_goals refine tl_q (y_assign rfl) rfl ?_
  all_goals refine tl_nil ?_
  all_goals (refine hK3 ?_; try (clear hK3; clear K3))
  all_goals refine tc_seq fun K4 hK4 => ?_
  all_goals refine tc_region ?_
  all_goals refine tl_q (y_move rfl) rfl ?_
  all_goals refine tl_q (y_neq rfl rfl) rfl ?_
  all_goals refine tl_nil ?_
  all_goals (refine hK4 ?_; try (clear hK4; clear K4))
  all_goals (
   refine tc_cond rfl (fun hc => ?_) (fun hc => ?_)
   · try simp only [decide_eq_true_eq, decide_eq_false_iff_not, Int.not_lt, Int.not_le, Bool.not_eq_true', Bool.not_eq_false', Decidable.not_not, not_true_eq_false] at hc
     all_goals first | (exfalso; with_reducible exact bft hc) | (exfalso; with_reducible exact btf hc) | (exfalso; omega) | skip
     all_goals refine tc_seq fun K5 hK5 => ?_
     all_goals refine tc_region ?_
     all_goals refine tl_q (y_move rfl) rfl ?_
     all_goals refine tl_q (y_assign rfl) rfl ?_
     all_goals refine tl_nil ?_
     all_goals (refine hK5 ?_; try (clear hK5; clear K5))
     all_goals refine tc_ret ?_
     all_goals (repeat (refine tk_then_ret ?_))
     all_goals first | refine tk_ret rfl rfl (.cons (.tmp rfl) .nil) ?_ | refine tk_retM rfl (by repeat constructor) rfl (.cons (.tmp rfl) .nil) ?_
     all_goals (
      refine fun w' hw' => ⟨congrArg (fun n => Ending.returned (vi n)) ?_, hw'.fr (by simp)⟩
      unfold askF
      first | rw [if_pos (by omega)] | rw [if_neg (by omega), if_neg (by omega)] | rw [if_neg (by omega), if_pos (by omega)])
   · try simp only [decide_eq_true_eq, decide_eq_false_iff_not, Int.not_lt, Int.not_le, Bool.not_eq_true', Bool.not_eq_false', Decidable.not_not, not_true_eq_false] at hc
     all_goals first | (exfalso; with_reducible exact bft hc) | (exfalso; with_reducible exact btf hc) | (exfalso; omega) | skip
     all_goals refine tc_skip ?_
     all_goals (refine hK2 ?_; try (clear hK2; clear K2))
     all_goals refine tc_seq fun K6 hK6 => ?_
     all_goals refine tc_seq fun K7 hK7 => ?_
     all_goals refine tc_region ?_
     all_goals (refine tl_q (y_loadW rfl (by repeat constructor) (by rfl)) rfl ?_)
     all_goals refine tl_q (y_move rfl) rfl ?_
     all_goals refine tl_e (e_callV rfl (.cons rfl (.cons rfl .nil)) (fun w' hw' => load_c s _ _ w' (hr.fr (hw'.fr (by simp))))) rfl (fun _ _ => ?_)
     all_goals (refine tl_q (y_not_dec rfl) rfl ?_)
     all_goals refine tl_q (y_move rfl) rfl ?_
     all_goals (refine tl_gs rfl rfl (fun hc => ?_) (fun hc => ?_) <;> (try simp only [decide_eq_true_eq, decide_eq_false_iff_not, Int.not_lt, Int.not_le, Bool.not_eq_true', Bool.not_eq_false', Decidable.not_not, not_true_eq_false] at hc) <;> (first | refine tl_sk rfl rfl rfl rfl ?_ | refine tl_qg rfl rfl (y_move rfl) rfl ?_))
     all_goals (first | refine tl_sk rfl rfl rfl rfl ?_ | refine tl_eg rfl rfl rfl (e_callV rfl (.cons rfl .nil) (fun w' hw' => density_c _ w')) (fun _ _ => ?_))
     all_goals (first | refine tl_sk rfl rfl rfl rfl ?_ | refine tl_qg rfl rfl (y_not_dec rfl) rfl ?_)
     all_goals (first | refine tl_q (y_pick_t rfl rfl) rfl ?_ | refine tl_q (y_pick_f rfl rfl) rfl ?_)
     all_goals refine tl_nil ?_
     all_goals (refine hK7 ?_; try (clear hK7; clear K7))
     all_goals (
      refine tc_cond rfl (fun hc => ?_) (fun hc => ?_)
      · try simp only [decide_eq_true_eq, decide_eq_false_iff_not, Int.not_lt, Int.not_le, Bool.not_eq_true', Bool.not_eq_false', Decidable.not_not, not_true_eq_false] at hc
        all_goals first | (exfalso; with_reducible exact bft hc) | (exfalso; with_reducible exact btf hc) | (exfalso; omega) | skip
        all_goals refine tc_seq fun K8 hK8 => ?_
        all_goals refine tc_region ?_
        all_goals refine tl_q (y_assign rfl) rfl ?_
        all_goals refine tl_nil ?_
        all_goals (refine hK8 ?_; try (clear hK8; clear K8))
        all_goals refine tc_ret ?_
        all_goals (repeat (refine tk_then_ret ?_))
        all_goals first | refine tk_ret rfl rfl (.cons (.tmp rfl) .nil) ?_ | refine tk_retM rfl (by repeat constructor) rfl (.cons (.tmp rfl) .nil) ?_
        all_goals (
         refine fun w' hw' => ⟨congrArg (fun n => Ending.returned (vi n)) ?_, hw'.fr (by simp)⟩
         unfold askF
         first | rw [if_pos (by omega)] | rw [if_neg (by omega), if_neg (by omega)] | rw [if_neg (by omega), if_pos (by omega)])
      · try simp only [decide_eq_true_eq, decide_eq_false_iff_not, Int.not_lt, Int.not_le, Bool.not_eq_true', Bool.not_eq_false', Decidable.not_not, not_true_eq_false] at hc
        all_goals first | (exfalso; with_reducible exact bft hc) | (exfalso; with_reducible exact btf hc) | (exfalso; omega) | skip
        all_goals refine tc_skip ?_
        all_goals (refine hK6 ?_; try (clear hK6; clear K6))
        all_goals refine tc_seq fun K9 hK9 => ?_
        all_goals refine tc_region ?_
        all_goals refine tl_q (y_assign rfl) rfl ?_
        all_goals refine tl_nil ?_
        all_goals (refine hK9 ?_; try (clear hK9; clear K9))
        all_goals refine tc_ret ?_
        all_goals (repeat (first | refine tk_then_ret ?_))
        all_goals first | refine tk_ret rfl rfl (.cons (.tmp rfl) .nil) ?_ | refine tk_retM rfl (by repeat constructor) rfl (.cons (.tmp rfl) .nil) ?_
        all_goals (
         refine fun w' hw' => ⟨congrArg (fun n => Ending.returned (vi n)) ?_, hw'.fr (by simp)⟩
         unfold askF
         first | rw [if_pos (by omega)] | rw [if_neg (by omega), if_neg (by omega)] | rw [if_neg (by omega), if_pos (by omega)])))
theorem at_c (s : Sn) (hs : VS s) (k d : Int) (h0 : 0 ≤ k) (h1 : k ≤ s.weights.length) (h2 : 1 ≤ d) (h3 : d ≤ 2000) (sl : Value) (w : World) (hr : RdI w sl s.weights) : CnV Try.prog 91 #[spV s sl, vi k, vi d] w (vi (atF s k d)) := by
  have hbd := massF_bd hs h0 h1
  have hv1 := hs.v1
  have hv2 := hs.v2
  have hdv : 0 ≤ d * s.volume ∧ d * s.volume ≤ 10000000 := ⟨Int.mul_nonneg (by omega) (by omega), by have := Int.mul_le_mul (a := d) (c := 2000) (b := s.volume) (d := 5000) (by omega) (by omega) (by omega) (by omega); omega⟩
  refine cnv (vs := [_, _, _]) Try.func91 rfl rfl ?_
  all_goals refine tc_seq fun K1 hK1 => ?_
  all_goals refine tc_region ?_
  all_goals refine tl_e (e_box rfl rfl rfl) rfl (fun _ _ => ?_)
  all_goals refine tl_q (y_assign rfl) rfl ?_
  all_goals refine tl_nil ?_
  all_goals (refine hK1 ?_; try (clear hK1; clear K1))
  all_goals refine tc_seq fun K2 hK2 => ?_
  all_goals refine tc_region ?_
  all_goals (refine tl_q (y_loadW rfl (by repeat constructor) (by rfl)) rfl ?_)
  all_goals refine tl_q (y_move rfl) rfl ?_
  all_goals refine tl_e (e_callV rfl (.cons rfl (.cons rfl .nil)) (fun w' hw' => floating_c s hs k h0 h1 _ w' (hr.fr (hw'.fr (by simp))))) rfl (fun _ _ => ?_)
  all_goals refine tl_e (e_allocN rfl) rfl (fun _ _ => ?_)
  all_goals refine tl_e (e_storeW rfl rfl (by repeat constructor) (by rfl) (by rfl) (by simp [Value.oneCell'])) rfl (fun _ _ => ?_)
  all_goals refine tl_nil ?_
  all_goals (refine hK2 ?_; try (clear hK2; clear K2))
  all_goals refine tc_seq fun K3 hK3 => ?_
  all_goals refine tc_region ?_
  all_goals (refine tl_q (y_loadW rfl (by repeat constructor) (by rfl)) rfl ?_)
  all_goals refine tl_q (y_move rfl) rfl ?_
  all_goals refine tl_e (e_callV rfl (.cons rfl (.cons rfl .nil)) (fun w' hw' => mass_c s hs k h0 h1 _ w' (hr.fr (hw'.fr (by simp))))) rfl (fun _ _ => ?_)
  all_goals refine tl_q (y_mul rfl rfl (by omega)) rfl ?_
  all_goals refine tl_q (y_assign rfl) rfl ?_
  all_goals refine tl_nil ?_
  all_goals (refine hK3 ?_; try (clear hK3; clear K3))
  all_goals refine tc_seq fun K4 hK4 => ?_
  all_goals refine tc_block ?_
  all_goals refine tc_seq fun K5 hK5 => ?_
  all_goals refine tc_region ?_
  all_goals refine tl_q (y_move rfl) rfl ?_
  all_goals refine tl_q (y_field rfl) rfl ?_
  all_goals refine tl_q (y_load1 rfl (by repeat constructor) (by rfl)) rfl ?_
  all_goals refine tl_q (y_field rfl) rfl ?_
  all_goals refine tl_q (y_load1 rfl (by repeat constructor) (by rfl)) rfl ?_
  all_goals refine tl_e (e_callV rfl (.cons rfl (.cons rfl (.cons rfl .nil))) (fun w hw => within_c _ _ _ w)) rfl (fun _ _ => ?_)
  all_goals refine tl_q (y_assign rfl) rfl ?_
  all_goals refine tl_nil ?_
  all_goals (refine hK5 ?_; try (clear hK5; clear K5))
  all_goals (
   refine tc_cond rfl (fun hc => ?_) (fun hc => ?_)
   · try simp only [decide_eq_true_eq, decide_eq_false_iff_not, Int.not_lt, Int.not_le, Bool.not_eq_true', Bool.not_eq_false', Decidable.not_not, not_true_eq_false] at hc
     all_goals first | (exfalso; with_reducible exact bft hc) | (exfalso; with_reducible exact btf hc) | (exfalso; omega) | skip
     all_goals refine tc_seq fun K6 hK6 => ?_
     all_goals refine tc_region ?_
     all_goals refine tl_q (y_assign rfl) rfl ?_
     all_goals refine tl_nil ?_
     all_goals (refine hK6 ?_; try (clear hK6; clear K6))
     all_goals refine tc_ret ?_
     all_goals (repeat (first | refine tk_then_ret ?_ | refine tk_block_ret ?_))
     all_goals first | refine tk_ret rfl rfl (.cons (.tmp rfl) .nil) ?_ | refine tk_retM rfl (by repeat constructor) rfl (.cons (.tmp rfl) .nil) ?_
     all_goals (
      refine fun w' hw' => ⟨congrArg (fun n => Ending.returned (vi n)) ?_, hw'.fr (by simp)⟩
      unfold atF
      first | rw [if_pos (by omega)] | rw [if_neg (by omega), if_pos (by omega)] | rw [if_neg (by omega), if_neg (by omega)])
   · try simp only [decide_eq_true_eq, decide_eq_false_iff_not, Int.not_lt, Int.not_le, Bool.not_eq_true', Bool.not_eq_false', Decidable.not_not, not_true_eq_false] at hc
     all_goals first | (exfalso; with_reducible exact bft hc) | (exfalso; with_reducible exact btf hc) | (exfalso; omega) | skip
     all_goals refine tc_seq fun K7 hK7 => ?_
     all_goals refine tc_region ?_
     all_goals refine tl_q (y_move rfl) rfl ?_
     all_goals refine tl_q (y_move rfl) rfl ?_
     all_goals refine tl_q (y_field rfl) rfl ?_
     all_goals refine tl_q (y_load1 rfl (by repeat constructor) (by rfl)) rfl ?_
     all_goals refine tl_q (y_mul rfl rfl (by omega)) rfl ?_
     all_goals refine tl_q (y_lss rfl rfl) rfl ?_
     all_goals refine tl_q (y_assign rfl) rfl ?_
     all_goals refine tl_nil ?_
     all_goals (refine hK7 ?_; try (clear hK7; clear K7))
     all_goals (
      refine tc_cond rfl (fun hc => ?_) (fun hc => ?_)
      · try simp only [decide_eq_true_eq, decide_eq_false_iff_not, Int.not_lt, Int.not_le, Bool.not_eq_true', Bool.not_eq_false', Decidable.not_not, not_true_eq_false] at hc
        all_goals first | (exfalso; with_reducible exact bft hc) | (exfalso; with_reducible exact btf hc) | (exfalso; omega) | skip
        all_goals refine tc_seq fun K8 hK8 => ?_
        all_goals refine tc_region ?_
        all_goals refine tl_q (y_assign rfl) rfl ?_
        all_goals refine tl_nil ?_
        all_goals (refine hK8 ?_; try (clear hK8; clear K8))
        all_goals refine tc_ret ?_
        all_goals (repeat (first | refine tk_then_ret ?_ | refine tk_block_ret ?_))
        all_goals first | refine tk_ret rfl rfl (.cons (.tmp rfl) .nil) ?_ | refine tk_retM rfl (by repeat constructor) rfl (.cons (.tmp rfl) .nil) ?_
        all_goals (
         refine fun w' hw' => ⟨congrArg (fun n => Ending.returned (vi n)) ?_, hw'.fr (by simp)⟩
         unfold atF
         first | rw [if_pos (by omega)] | rw [if_neg (by omega), if_pos (by omega)] | rw [if_neg (by omega), if_neg (by omega)])
      · try simp only [decide_eq_true_eq, decide_eq_false_iff_not, Int.not_lt, Int.not_le, Bool.not_eq_true', Bool.not_eq_false', Decidable.not_not, not_true_eq_false] at hc
        all_goals first | (exfalso; with_reducible exact bft hc) | (exfalso; with_reducible exact btf hc) | (exfalso; omega) | skip
        all_goals refine tc_skip ?_
        all_goals (refine hK4 ?_; try (clear hK4; clear K4))
        all_goals refine tc_seq fun K9 hK9 => ?_
        all_goals refine tc_region ?_
        all_goals refine tl_q (y_assign rfl) rfl ?_
        all_goals refine tl_nil ?_
        all_goals (refine hK9 ?_; try (clear hK9; clear K9))
        all_goals refine tc_ret ?_
        all_goals (repeat (first | refine tk_then_ret ?_))
        all_goals first | refine tk_ret rfl rfl (.cons (.tmp rfl) .nil) ?_ | refine tk_retM rfl (by repeat constructor) rfl (.cons (.tmp rfl) .nil) ?_
        all_goals (
         refine fun w' hw' => ⟨congrArg (fun n => Ending.returned (vi n)) ?_, hw'.fr (by simp)⟩
         unfold atF
         first | rw [if_pos (by omega)] | rw [if_neg (by omega), if_pos (by omega)] | rw [if_neg (by omega), if_neg (by omega)])))
theorem see_c (s : Sn) (hn : NB s) (k d : Int) (sl : Value) (w : World) (hr : RdI w sl s.weights) : CnV Try.prog 89 #[spV s sl, vi k, vi d] w (.tuple #[rV (seeF s k d).1, vi (seeF s k d).2]) := by
  refine cnv (vs := [_, _, _]) Try.func89 rfl rfl ?_
  all_goals refine tc_seq fun K1 hK1 => ?_
  all_goals refine tc_region ?_
  all_goals refine tl_e (e_box rfl rfl rfl) rfl (fun _ _ => ?_)
  all_goals refine tl_e (e_allocN rfl) rfl (fun b6 _ => ?_)
  all_goals refine tl_q (y_assign rfl) rfl ?_
  all_goals refine tl_nil ?_
  all_goals (refine hK1 ?_; try (clear hK1; clear K1))
  all_goals refine tc_seq fun K2 hK2 => ?_
  all_goals refine tc_seq fun K3 hK3 => ?_
  all_goals refine tc_region ?_
  all_goals (refine tl_q (y_loadW rfl (by repeat constructor) (by rfl)) rfl ?_)
  all_goals refine tl_q (y_move rfl) rfl ?_
  all_goals refine tl_q (y_move rfl) rfl ?_
  all_goals refine tl_e (e_callV rfl (.cons rfl (.cons rfl (.cons rfl .nil))) (fun w' hw' => asked_c s hn k d _ w' (hr.fr (hw'.fr (by simp))))) rfl (fun _ _ => ?_)
  all_goals refine tl_q (y_assign rfl) rfl ?_
  all_goals refine tl_nil ?_
  all_goals (refine hK3 ?_; try (clear hK3; clear K3))
  all_goals refine tc_seq fun K4 hK4 => ?_
  all_goals refine tc_region ?_
  all_goals refine tl_q (y_move rfl) rfl ?_
  all_goals refine tl_q (y_neq rfl rfl) rfl ?_
  all_goals refine tl_nil ?_
  all_goals (refine hK4 ?_; try (clear hK4; clear K4))
  all_goals (
   refine tc_cond rfl (fun hc => ?_) (fun hc => ?_)
   · try simp only [decide_eq_true_eq, decide_eq_false_iff_not, Int.not_lt, Int.not_le, Bool.not_eq_true', Bool.not_eq_false', Decidable.not_not, not_true_eq_false] at hc
     all_goals first | (exfalso; with_reducible exact bft hc) | (exfalso; with_reducible exact btf hc) | (exfalso; omega) | skip
     all_goals refine tc_seq fun K5 hK5 => ?_
     all_goals refine tc_region ?_
     all_goals refine tl_q (y_build_0) rfl ?_
     all_goals refine tl_q (y_move rfl) rfl ?_
     all_goals refine tl_e (e_storeW rfl rfl (by repeat constructor) (by rfl) (by rfl) (by simp [Value.oneCell'])) rfl (fun _ _ => ?_)
     all_goals refine tl_q (y_assign rfl) rfl ?_
     all_goals refine tl_nil ?_
     all_goals (refine hK5 ?_; try (clear hK5; clear K5))
     all_goals refine tc_ret ?_
     all_goals (repeat (refine tk_then_ret ?_))
     all_goals first | refine tk_ret rfl rfl (.cons (.agg inferInstance rfl (by repeat constructor) (by rfl)) (.cons (.tmp rfl) .nil)) ?_ | refine tk_retM rfl (by repeat constructor) rfl (.cons (.agg inferInstance rfl (by repeat constructor) (by rfl)) (.cons (.tmp rfl) .nil)) ?_
     all_goals (
      refine fun w' hw' => ⟨?_, hw'.fr (by simp)⟩
      unfold seeF
      first
      | (rw [if_pos (by omega)]; rfl)
      | (rw [if_neg (by omega), if_pos (by omega)]; rfl)
      | (rw [if_neg (by omega), if_neg (by omega), show s.divisions.toNat + 1 = i from by omega]; rfl))
   · try simp only [decide_eq_true_eq, decide_eq_false_iff_not, Int.not_lt, Int.not_le, Bool.not_eq_true', Bool.not_eq_false', Decidable.not_not, not_true_eq_false] at hc
     all_goals first | (exfalso; with_reducible exact bft hc) | (exfalso; with_reducible exact btf hc) | (exfalso; omega) | skip
     all_goals refine tc_skip ?_
     all_goals (refine hK2 ?_; try (clear hK2; clear K2))
     all_goals refine tc_seq fun K6 hK6 => ?_
     all_goals refine tc_seq fun K7 hK7 => ?_
     have hv := askF_0 hc
     all_goals refine tc_region ?_
     all_goals (refine tl_q (y_loadW rfl (by repeat constructor) (by rfl)) rfl ?_)
     all_goals refine tl_q (y_move rfl) rfl ?_
     all_goals refine tl_q (y_move rfl) rfl ?_
     all_goals refine tl_e (e_callV rfl (.cons rfl (.cons rfl (.cons rfl .nil))) (fun w' hw' => at_c s hv.1 k d hv.2.1 hv.2.2.1 hv.2.2.2.1 hv.2.2.2.2 _ w' (hr.fr (hw'.fr (by simp))))) rfl (fun _ _ => ?_)
     all_goals refine tl_q (y_neq rfl rfl) rfl ?_
     all_goals refine tl_nil ?_
     all_goals (refine hK7 ?_; try (clear hK7; clear K7))
     all_goals (
      refine tc_cond rfl (fun hc => ?_) (fun hc => ?_)
      · try simp only [decide_eq_true_eq, decide_eq_false_iff_not, Int.not_lt, Int.not_le, Bool.not_eq_true', Bool.not_eq_false', Decidable.not_not, not_true_eq_false] at hc
        all_goals first | (exfalso; with_reducible exact bft hc) | (exfalso; with_reducible exact btf hc) | (exfalso; omega) | skip
        all_goals refine tc_seq fun K8 hK8 => ?_
        all_goals refine tc_region ?_
        all_goals refine tl_q (y_build_0) rfl ?_
        all_goals refine tl_e (e_storeW rfl rfl (by repeat constructor) (by rfl) (by rfl) (by simp [Value.oneCell'])) rfl (fun _ _ => ?_)
        all_goals refine tl_q (y_assign rfl) rfl ?_
        all_goals refine tl_nil ?_
        all_goals (refine hK8 ?_; try (clear hK8; clear K8))
        all_goals refine tc_ret ?_
        all_goals (repeat (refine tk_then_ret ?_))
        all_goals first | refine tk_ret rfl rfl (.cons (.agg inferInstance rfl (by repeat constructor) (by rfl)) (.cons (.tmp rfl) .nil)) ?_ | refine tk_retM rfl (by repeat constructor) rfl (.cons (.agg inferInstance rfl (by repeat constructor) (by rfl)) (.cons (.tmp rfl) .nil)) ?_
        all_goals (
         refine fun w' hw' => ⟨?_, hw'.fr (by simp)⟩
         unfold seeF
         first
         | (rw [if_pos (by omega)]; rfl)
         | (rw [if_neg (by omega), if_pos (by omega)]; rfl)
         | (rw [if_neg (by omega), if_neg (by omega), show s.divisions.toNat + 1 = i from by omega]; rfl))
      · try simp only [decide_eq_true_eq, decide_eq_false_iff_not, Int.not_lt, Int.not_le, Bool.not_eq_true', Bool.not_eq_false', Decidable.not_not, not_true_eq_false] at hc
        all_goals first | (exfalso; with_reducible exact bft hc) | (exfalso; with_reducible exact btf hc) | (exfalso; omega) | skip
        all_goals refine tc_skip ?_
        all_goals (refine hK6 ?_; try (clear hK6; clear K6))
        all_goals refine tc_seq fun K9 hK9 => ?_
        all_goals refine tc_region ?_
        all_goals (refine tl_q (y_loadW rfl (by repeat constructor) (by rfl)) rfl ?_)
        all_goals refine tl_e (e_callN rfl (.cons rfl .nil) (fun w' hw' => work_c s _ hr.one w')) rfl (fun x _ => ?_)
        all_goals refine tl_q (y_assign rfl) rfl ?_
        all_goals refine tl_nil ?_
        all_goals (refine hK9 ?_; try (clear hK9; clear K9))
        all_goals refine tc_seq fun K10 hK10 => ?_
        all_goals refine tc_region ?_
        all_goals refine tl_q (y_field rfl) rfl ?_
        all_goals refine tl_q (y_load1 rfl (by repeat constructor) (by rfl)) rfl ?_
        all_goals refine tl_q (y_build_2 rfl rfl rfl rfl) rfl ?_
        all_goals refine tl_e (e_allocN rfl) rfl (fun b10 _ => ?_)
        all_goals refine tl_e (e_storeW rfl rfl (by repeat constructor) (by rfl) (by rfl) (by simp [Value.oneCell'])) rfl (fun _ _ => ?_)
        all_goals refine tl_nil ?_
        all_goals (refine hK10 ?_; try (clear hK10; clear K10))
        all_goals refine tc_seq fun K11 hK11 => ?_
        all_goals refine tc_seq fun K12 hK12 => ?_
        have hd1 := hv.1.d1
        have hd2 := hv.1.d2
        all_goals refine tc_region ?_
        all_goals refine tl_q (y_field rfl) rfl ?_
        all_goals refine tl_q (y_load1 rfl (by repeat constructor) (by rfl)) rfl ?_
        all_goals refine tl_q (y_add rfl rfl (by omega)) rfl ?_
        all_goals refine tl_q (y_move rfl) rfl ?_
        all_goals refine tl_nil ?_
        all_goals (refine hK12 ?_; try (clear hK12; clear K12))
        all_goals refine tc_block ?_
        all_goals (
         refine tc_loop (fun p : Nat × Array MapEntry × Nat => p.1 ≤ s.divisions.toNat + 1 ∧ Cache (meanV s) p.2.1.toList) (fun p => [(1, vi k), (2, vi d), (6, ptr b6), (9, ptr x.1), (10, ptr b10), (34, vi (s.divisions + 1)), (35, vi p.1)]) (fun _ => [(w, [])]) (fun p => [(b10, .cells #[vi (seeAcc s k d p.1).1, vi (seeAcc s k d p.1).2] 41 (0, 0)), (x.1, wkO s sl x.2), (x.2, .map p.2.1 p.2.2), (b6, .cells #[vi 0, vi 0] 41 (0, 0))]) (fun p => s.divisions.toNat + 1 - p.1) ?_ ?_
         · exact tk_start (0, #[], 0) ⟨Nat.zero_le _, fun e he => by simp at he⟩ (.cons rfl (.cons rfl (.cons rfl (.cons rfl (.cons rfl (.cons rfl (.cons rfl .nil))))))) (fun _ h => h.sub (fun _ h => h) (SB.s (by repeat constructor)))
         · rintro ⟨i, es, ck⟩ ⟨hi, hcache⟩
           dsimp only at hi hcache ⊢
           all_goals refine tc_seq fun K13 hK13 => ?_
           all_goals refine tc_region ?_
           all_goals refine tl_q (y_lss rfl rfl) rfl ?_
           all_goals refine tl_nil ?_
           all_goals (refine hK13 ?_; try (clear hK13; clear K13))
           all_goals refine tc_seq fun K14 hK14 => ?_
           all_goals (
            refine tc_cond rfl (fun hc => ?_) (fun hc => ?_)
            · try simp only [decide_eq_true_eq, decide_eq_false_iff_not, Int.not_lt, Int.not_le, Bool.not_eq_true', Bool.not_eq_false', Decidable.not_not, not_true_eq_false] at hc
              all_goals first | (exfalso; with_reducible exact bft hc) | (exfalso; with_reducible exact btf hc) | (exfalso; omega) | skip
              all_goals refine tc_skip ?_
              all_goals (refine hK14 ?_; try (clear hK14; clear K14))
              all_goals refine tc_seq fun K15 hK15 => ?_
              all_goals refine tc_block ?_
              all_goals refine tc_seq fun K16 hK16 => ?_
              all_goals refine tc_region ?_
              all_goals refine tl_q (y_move rfl) rfl ?_
              all_goals refine tl_q (y_assign rfl) rfl ?_
              all_goals refine tl_nil ?_
              all_goals (refine hK16 ?_; try (clear hK16; clear K16))
              all_goals refine tc_seq fun K17 hK17 => ?_
              all_goals refine tc_region ?_
              all_goals refine tl_q (y_move rfl) rfl ?_
              all_goals refine tl_q (y_move rfl) rfl ?_
              all_goals refine tl_q (y_move rfl) rfl ?_
              all_goals refine tl_q (y_build_2 rfl rfl rfl rfl) rfl ?_
              all_goals refine tl_e (e_callU rfl (.cons rfl (.cons rfl .nil)) (fun w' hw' => mean_c s hv.1 k i hv.2.1 hv.2.2.1 (by omega) (by omega) _ hr.one w' (hr.fr (hw'.fr (by simp))) x.1 x.2 es ck (hw'.heap _ (HM.mem (by repeat constructor))) (hw'.heap _ (HM.mem (by repeat constructor))) hcache) (fun _ => (by repeat constructor))) rfl (fun y hy => ?_)
              all_goals refine tl_e (e_allocN rfl) rfl (fun _ _ => ?_)
              all_goals refine tl_e (e_storeW rfl rfl (by repeat constructor) (by rfl) (by rfl) (by simp [Value.oneCell'])) rfl (fun _ _ => ?_)
              all_goals refine tl_nil ?_
              all_goals (refine hK17 ?_; try (clear hK17; clear K17))
              all_goals refine tc_seq fun K18 hK18 => ?_
              all_goals refine tc_region ?_
              all_goals refine tl_q (y_move rfl) rfl ?_
              all_goals refine tl_q (y_field rfl) rfl ?_
              all_goals refine tl_q (y_load1 rfl (by repeat constructor) (by rfl)) rfl ?_
              all_goals refine tl_q (y_field rfl) rfl ?_
              all_goals refine tl_q (y_load1 rfl (by repeat constructor) (by rfl)) rfl ?_
              all_goals refine tl_e (e_callV rfl (.cons rfl (.cons rfl (.cons rfl .nil))) (fun w hw => within_c _ _ _ w)) rfl (fun _ _ => ?_)
              all_goals refine tl_nil ?_
              all_goals (refine hK18 ?_; try (clear hK18; clear K18))
              all_goals (
               refine tc_cond rfl (fun hc => ?_) (fun hc => ?_)
               · try simp only [decide_eq_true_eq, decide_eq_false_iff_not, Int.not_lt, Int.not_le, Bool.not_eq_true', Bool.not_eq_false', Decidable.not_not, not_true_eq_false] at hc
                 all_goals first | (exfalso; with_reducible exact bft hc) | (exfalso; with_reducible exact btf hc) | (exfalso; omega) | skip
                 all_goals refine tc_draw (by kernel_rfl) ?_
                 all_goals refine tx_p 0 rfl (by kernel_rfl) (y_field rfl) rfl (fun _ _ _ h => h) (fun _ h => h) ?_
                 all_goals refine tx_q 1 rfl (by kernel_rfl) (y_load1 rfl (by repeat constructor) (by rfl)) rfl (fun _ _ _ h => h) (fun _ h => h) ?_
                 all_goals refine tx_p 2 rfl (by kernel_rfl) (y_move rfl) rfl (fun _ _ _ h => h) (fun _ h => h) ?_
                 all_goals refine tx_p 5 rfl (by kernel_rfl) (y_field rfl) rfl (fun _ _ _ h => h) (fun _ h => h) ?_
                 all_goals refine tx_q 6 rfl (by kernel_rfl) (y_load1 rfl (by repeat constructor) (by rfl)) rfl (fun _ _ _ h => h) (fun _ h => h) ?_
                 all_goals refine tx_p 7 rfl (by kernel_rfl) (y_move rfl) rfl (fun _ _ _ h => h) (fun _ h => h) ?_
                 all_goals refine tx_p 8 rfl (by kernel_rfl) (y_max rfl rfl) rfl (fun _ _ _ h => h) (fun _ h => h) ?_
                 all_goals refine tx_e 3 rfl (by kernel_rfl) rfl (e_bslice rfl (by (repeat (first | exact .nil | apply PV.one rfl rfl)); done) rfl rfl) (.inr qq1) (fun _ _ => ?_)
                 all_goals refine tx_e 4 rfl (by kernel_rfl) rfl (e_callV rfl (.cons rfl .nil) (fun w' hw' => minimum_c (seeAcc s k d i).1 i _ w' (RdI.own0 (xs := [(seeAcc s k d i).1, (i : Int)]) hw' (by repeat constructor)))) (.inr fun _ _ h => h) (fun _ _ => ?_)
                 all_goals refine tx_p 9 rfl (by kernel_rfl) (y_build_2 rfl rfl rfl rfl) rfl (fun _ _ _ h => h) (fun _ h => h) ?_
                 all_goals refine tx_e 10 rfl (by kernel_rfl) rfl (e_storeW rfl rfl (by repeat constructor) (by rfl) (by rfl) (by simp [Value.oneCell'])) (.inl (by kernel_rfl)) (fun _ _ => ?_)
                 all_goals refine tx_done (by kernel_rfl) ?_
                 all_goals (refine hK15 ?_; try (clear hK15; clear K15))
                 all_goals refine tc_region ?_
                 all_goals refine tl_q (y_add rfl rfl (by omega)) rfl ?_
                 all_goals refine tl_q (y_move rfl) rfl ?_
                 all_goals refine tl_nil ?_
                 all_goals (
                  have hstep := seeAcc_succ s k d i
                  first
                  | (rw [show seeStep s k d (seeAcc s k d i) i = (min (seeAcc s k d i).1 i, max (seeAcc s k d i).2 i) from by unfold seeStep; rw [if_pos (by omega)]] at hstep
                     refine tk_round (i + 1, y.1, y.2) ⟨by omega, hy⟩ (by omega) (.cons rfl (.cons rfl (.cons rfl (.cons rfl (.cons rfl (.cons rfl (.cons rfl .nil))))))) (fun _ h => ?_)
                     dsimp only
                     rw [hstep]
                     exact h.sub (fun _ h => h) (SB.s (by repeat constructor)))
                  | (rw [show seeStep s k d (seeAcc s k d i) i = seeAcc s k d i from by unfold seeStep; rw [if_neg (by omega)]] at hstep
                     refine tk_round (i + 1, y.1, y.2) ⟨by omega, hy⟩ (by omega) (.cons rfl (.cons rfl (.cons rfl (.cons rfl (.cons rfl (.cons rfl (.cons rfl .nil))))))) (fun _ h => ?_)
                     dsimp only
                     rw [hstep]
                     exact h.sub (fun _ h => h) (SB.s (by repeat constructor))))
               · try simp only [decide_eq_true_eq, decide_eq_false_iff_not, Int.not_lt, Int.not_le, Bool.not_eq_true', Bool.not_eq_false', Decidable.not_not, not_true_eq_false] at hc
                 all_goals first | (exfalso; with_reducible exact bft hc) | (exfalso; with_reducible exact btf hc) | (exfalso; omega) | skip
                 all_goals refine tc_skip ?_
                 all_goals (refine hK15 ?_; try (clear hK15; clear K15))
                 all_goals refine tc_region ?_
                 all_goals refine tl_q (y_add rfl rfl (by omega)) rfl ?_
                 all_goals refine tl_q (y_move rfl) rfl ?_
                 all_goals refine tl_nil ?_
                 all_goals (
                  have hstep := seeAcc_succ s k d i
                  first
                  | (rw [show seeStep s k d (seeAcc s k d i) i = (min (seeAcc s k d i).1 i, max (seeAcc s k d i).2 i) from by unfold seeStep; rw [if_pos (by omega)]] at hstep
                     refine tk_round (i + 1, y.1, y.2) ⟨by omega, hy⟩ (by omega) (.cons rfl (.cons rfl (.cons rfl (.cons rfl (.cons rfl (.cons rfl (.cons rfl .nil))))))) (fun _ h => ?_)
                     dsimp only
                     rw [hstep]
                     exact h.sub (fun _ h => h) (SB.s (by repeat constructor)))
                  | (rw [show seeStep s k d (seeAcc s k d i) i = seeAcc s k d i from by unfold seeStep; rw [if_neg (by omega)]] at hstep
                     refine tk_round (i + 1, y.1, y.2) ⟨by omega, hy⟩ (by omega) (.cons rfl (.cons rfl (.cons rfl (.cons rfl (.cons rfl (.cons rfl (.cons rfl .nil))))))) (fun _ h => ?_)
                     dsimp only
                     rw [hstep]
                     exact h.sub (fun _ h => h) (SB.s (by repeat constructor)))))
            · try simp only [decide_eq_true_eq, decide_eq_false_iff_not, Int.not_lt, Int.not_le, Bool.not_eq_true', Bool.not_eq_false', Decidable.not_not, not_true_eq_false] at hc
              all_goals first | (exfalso; with_reducible exact bft hc) | (exfalso; with_reducible exact btf hc) | (exfalso; omega) | skip
              all_goals refine tc_exit ?_
              all_goals (refine hK11 ?_; try (clear hK11; clear K11))
              all_goals refine tc_seq fun K19 hK19 => ?_
              all_goals refine tc_region ?_
              all_goals (refine tl_q (y_loadW rfl (by repeat constructor) (by rfl)) rfl ?_)
              all_goals refine tl_e (e_storeW rfl rfl (by repeat constructor) (by rfl) (by rfl) (by simp [Value.oneCell'])) rfl (fun _ _ => ?_)
              all_goals refine tl_q (y_assign rfl) rfl ?_
              all_goals refine tl_nil ?_
              all_goals (refine hK19 ?_; try (clear hK19; clear K19))
              all_goals refine tc_ret ?_
              all_goals (repeat (first | refine tk_then_ret ?_))
              all_goals first | refine tk_ret rfl rfl (.cons (.agg inferInstance rfl (by repeat constructor) (by rfl)) (.cons (.tmp rfl) .nil)) ?_ | refine tk_retM rfl (by repeat constructor) rfl (.cons (.agg inferInstance rfl (by repeat constructor) (by rfl)) (.cons (.tmp rfl) .nil)) ?_
              all_goals (
               refine fun w' hw' => ⟨?_, hw'.fr (by simp)⟩
               unfold seeF
               first
               | (rw [if_pos (by omega)]; rfl)
               | (rw [if_neg (by omega), if_pos (by omega)]; rfl)
               | (rw [if_neg (by omega), if_neg (by omega), show s.divisions.toNat + 1 = i from by omega]; rfl))))))
end Go.Sp
