/-
  Contracts with known values.
-/
import Derived.Test.YtdmnmhkonfadhaaR
set_option linter.unusedVariables false
set_option linter.unusedSimpArgs false
set_option linter.deprecated false
namespace Go.Sp
open Go Go.Proofs
theorem meet_all {m : Int × Int} (h1 : 1 ≤ m.1) (h2 : m.2 ≤ 2000) : meetF (1, 2000) m = m := by
  obtain ⟨a, b⟩ := m
  simp only [meetF, Prod.mk.injEq] at h1 h2 ⊢
  omega
theorem nar_one {s : Sn} (hs : VS s) (k seen : Int) : narF s [(k, seen)] [] [(k, seen)].length = meanF s k seen := by
  have hb := mean_lo hs (k := k) (seen := seen)
  show narStep s [(k, seen)] [] (1, 2000) 0 = _
  unfold narStep
  rw [if_neg (by simp)]
  exact meet_all hb.1 hb.2
theorem rAll_one {s : Sn} (hs : VS s) {k seen : Int} (hok : rdOk s (k, seen) = true) :
    rAll s [(k, seen)] 0 = if (meanF s k seen).1 ≤ (meanF s k seen).2 then (meanF s k seen, (meanF s k seen).2 - (meanF s k seen).1 + 1) else ((2001, 0), 0) := by
  have h := rAll_nar hs (l := [(k, seen)]) (List.all_eq_true.2 fun x hx => by rw [List.mem_singleton.1 hx]; exact hok) (out := 0) (o := []) (fun i _ => by rw [outB_0]; exact ⟨fun h => absurd h Bool.false_ne_true, fun h => absurd h List.not_mem_nil⟩)
  rw [nar_one hs] at h
  exact h
theorem rall_v (s : Sn) (hs : VS s) (l : List (Int × Int)) (hl : (l.length : Int) ≤ 60) (hok : l.all (rdOk s) = true) (out : Int) (ho : 0 ≤ out) {rr : Int × Int} {mm : Int} (hA : rAll s l out = (rr, mm)) (sl lv : Value) (w : World) (hr : RdI w sl s.weights) (hR : RdR w lv l) :
    CnV Try.prog 30 #[spV s sl, lv, vi out] w (.tuple #[rV rr, vi mm]) := by
  have h := rall_c s hs l hl hok out ho sl lv w hr hR
  rw [hA] at h; exact h
theorem mean_v (s : Sn) (hn : NB s) (k seen : Int) {rr : Int × Int} {e : Int} (hE : meanE s k seen = (rr, e)) (sl : Value) (w : World) (hr : RdI w sl s.weights) : CnV Try.prog 27 #[spV s sl, vi k, vi seen] w (.tuple #[rV rr, vi e]) := by
  have h := mean_e s hn k seen sl w hr
  rw [hE] at h; exact h
theorem nb9 {s : Sn} (h : (s.weights.length : Int) ≤ 9) : NB s := by unfold NB; omega
theorem ready2_c (s : Sn) (sl : Value) (w : World) (hr : RdI w sl s.weights) : CnV Try.prog 41 #[spV s sl] w (.bool (decide (chkF s = 0))) := by
  by_cases h9 : (s.weights.length : Int) ≤ 9
  · exact ready_c s (nb9 h9) sl w hr
  · refine cnv (vs := [_]) Try.func41 rfl rfl ?_
    all_goals refine tc_seq fun K1 hK1 => ?_
    all_goals refine tc_region ?_
    all_goals refine tl_e (e_box rfl rfl rfl) rfl (fun _ _ => ?_)
    all_goals refine tl_q (y_assign rfl) rfl ?_
    all_goals refine tl_nil ?_
    all_goals (refine hK1 ?_; try (clear hK1; clear K1))
    all_goals refine tc_seq fun K2 hK2 => ?_
    all_goals refine tc_region ?_
    all_goals (first | refine tl_q (y_loadW rfl (by repeat constructor) (by rfl)) rfl ?_ | refine tl_q (y_loadN rfl (by repeat constructor) (by (repeat (first | exact .nil | apply CA.cons rfl)); done)) rfl ?_)
    all_goals refine tl_e (e_callV rfl (.cons rfl .nil) (fun w' hw' => thin_c s _ w' (hr.fr (hw'.fr (by simp))))) rfl (fun _ _ => ?_)
    all_goals refine tl_q (y_move rfl) rfl ?_
    all_goals (first | refine tl_sk rfl rfl rfl rfl ?_ | refine tl_qg rfl rfl (y_loadW rfl (by repeat constructor) (by rfl)) rfl ?_ | refine tl_qg rfl rfl (y_loadN rfl (by repeat constructor) (by (repeat (first | exact .nil | apply CA.cons rfl)); done)) rfl ?_ | refine tl_su rfl rfl rfl ?_ | (refine tl_gs rfl rfl (fun hc => ?_) (fun hc => ?_) <;> (try simp only [decide_eq_true_eq, decide_eq_false_iff_not, Int.not_lt, Int.not_le, Bool.not_eq_true', Bool.not_eq_false', Decidable.not_not, not_true_eq_false] at hc) <;> (first | (exfalso; omega) | refine tl_sk rfl rfl rfl rfl ?_ | refine tl_qg rfl rfl (y_loadW rfl (by repeat constructor) (by rfl)) rfl ?_ | refine tl_qg rfl rfl (y_loadN rfl (by repeat constructor) (by (repeat (first | exact .nil | apply CA.cons rfl)); done)) rfl ?_ | refine tl_su rfl rfl rfl ?_)))
    all_goals (first | refine tl_sk rfl rfl rfl rfl ?_ | refine tl_eg rfl rfl rfl (e_noContractFor49) (fun _ _ => ?_) | refine tl_su rfl rfl rfl ?_ | (refine tl_gs rfl rfl (fun hc => ?_) (fun hc => ?_) <;> (try simp only [decide_eq_true_eq, decide_eq_false_iff_not, Int.not_lt, Int.not_le, Bool.not_eq_true', Bool.not_eq_false', Decidable.not_not, not_true_eq_false] at hc) <;> (first | (exfalso; omega) | refine tl_sk rfl rfl rfl rfl ?_ | refine tl_eg rfl rfl rfl (e_noContractFor49) (fun _ _ => ?_) | refine tl_su rfl rfl rfl ?_)))
    all_goals (first | refine tl_sk rfl rfl rfl rfl ?_ | refine tl_qg rfl rfl (y_eql rfl rfl) rfl ?_ | refine tl_su rfl rfl rfl ?_ | (refine tl_gs rfl rfl (fun hc => ?_) (fun hc => ?_) <;> (try simp only [decide_eq_true_eq, decide_eq_false_iff_not, Int.not_lt, Int.not_le, Bool.not_eq_true', Bool.not_eq_false', Decidable.not_not, not_true_eq_false] at hc) <;> (first | (exfalso; omega) | refine tl_sk rfl rfl rfl rfl ?_ | refine tl_qg rfl rfl (y_eql rfl rfl) rfl ?_ | refine tl_su rfl rfl rfl ?_)))
    all_goals (first | refine tl_q (y_pick_t rfl rfl) rfl ?_ | refine tl_q (y_pick_f rfl rfl) rfl ?_)
    all_goals refine tl_q (y_assign rfl) rfl ?_
    all_goals refine tl_nil ?_
    all_goals (refine hK2 ?_; try (clear hK2; clear K2))
    all_goals refine tc_ret ?_
    all_goals (repeat (first | refine tk_then_ret ?_ | refine tk_block_ret ?_ | refine tk_scope_ret ?_))
    all_goals first | refine tk_ret rfl rfl (.cons (.tmp rfl) .nil) ?_ | refine tk_retM rfl (by repeat constructor) rfl (.cons (.tmp rfl) .nil) ?_
    all_goals (
     have h3 : chkF s = 3 := chk3 (by omega)
     exact fun w' hw' => ⟨by rw [h3]; rfl, hw'.fr (by simp)⟩)
end Go.Sp
