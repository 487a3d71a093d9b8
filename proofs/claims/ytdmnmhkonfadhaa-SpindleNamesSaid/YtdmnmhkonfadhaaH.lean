/-
  The loads, Verdicts.
-/
import Derived.Test.YtdmnmhkonfadhaaG
set_option linter.unusedVariables false
set_option linter.unusedSimpArgs false
set_option linter.deprecated false
namespace Go.Sp
open Go Go.Proofs
def rangedF (s : Sn) (r : Int × Int) : Int := if ¬ chkF s = 0 then chkF s else if emptyF r = true ∨ ¬ (1 ≤ r.1 ∧ r.1 ≤ 2000) ∨ ¬ (1 ≤ r.2 ∧ r.2 ≤ 2000) then 2 else 0
theorem ranged_c (s : Sn) (hn : NB s) (r : Int × Int) (sl : Value) (w : World) (hr : RdI w sl s.weights) : CnV Try.prog 75 #[spV s sl, rV r] w (vi (rangedF s r)) := by
  refine cnv (vs := [_, _]) Try.func75 rfl rfl ?_
  all_goals refine tc_seq fun K1 hK1 => ?_
  all_goals refine tc_region ?_
  all_goals refine tl_e (e_box rfl rfl rfl) rfl (fun _ _ => ?_)
  all_goals refine tl_e (e_box rfl rfl rfl) rfl (fun _ _ => ?_)
  all_goals refine tl_q (y_assign rfl) rfl ?_
  all_goals refine tl_nil ?_
  all_goals (refine hK1 ?_; try (clear hK1; clear K1))
  all_goals refine tc_seq fun K2 hK2 => ?_
  all_goals refine tc_seq fun K3 hK3 => ?_
  all_goals refine tc_region ?_
  all_goals (first | refine tl_q (y_loadW rfl (by repeat constructor) (by rfl)) rfl ?_ | refine tl_q (y_loadN rfl (by repeat constructor) (by (repeat (first | exact .nil | apply CA.cons rfl)); done)) rfl ?_)
  all_goals refine tl_e (e_callV rfl (.cons rfl .nil) (fun w' hw' => chk_c s hn _ w' (hr.fr (hw'.fr (by simp))))) rfl (fun _ _ => ?_)
  all_goals refine tl_q (y_assign rfl) rfl ?_
  all_goals refine tl_nil ?_
  all_goals (refine hK3 ?_; try (clear hK3; clear K3))
  all_goals refine tc_seq fun K4 hK4 => ?_
  all_goals refine tc_region ?_
  all_goals refine tl_q (y_move rfl) rfl ?_
  all_goals refine tl_q (y_neq rfl rfl) rfl ?_
  all_goals refine tl_nil ?_
  all_goals (refine hK4 ?_; try (clear hK4; clear K4))
  all_goals (
   refine tc_cond rfl (fun hc => ?_) (fun hc => ?_)
   · try simp only [decide_eq_true_eq, decide_eq_false_iff_not, Int.not_lt, Int.not_le, Bool.not_eq_true', Bool.not_eq_false', Decidable.not_not, not_true_eq_false] at hc
     all_goals first | (exfalso; with_reducible exact bft hc) | (exfalso; with_reducible exact btf hc) | (exfalso; omega) | skip
     all_goals refine tc_seq fun K5 hK5 => ?_
     all_goals refine tc_region ?_
     all_goals refine tl_q (y_move rfl) rfl ?_
     all_goals refine tl_q (y_assign rfl) rfl ?_
     all_goals refine tl_nil ?_
     all_goals (refine hK5 ?_; try (clear hK5; clear K5))
     all_goals refine tc_ret ?_
     all_goals (repeat (first | refine tk_then_ret ?_ | refine tk_block_ret ?_ | refine tk_scope_ret ?_))
     all_goals first | refine tk_ret rfl rfl (.cons (.tmp rfl) .nil) ?_ | refine tk_retM rfl (by repeat constructor) rfl (.cons (.tmp rfl) .nil) ?_
     all_goals (
      refine fun w' hw' => ⟨congrArg (fun n => Ending.returned (vi n)) ?_, hw'.fr (by simp)⟩
      unfold rangedF emptyF
      simp only [decide_eq_true_eq, decide_eq_false_iff_not] at *
      first
      | rw [if_pos (by omega)]
      | rw [if_neg (by omega), if_pos (by omega)]
      | rw [if_neg (by omega), if_neg (by omega)])
   · try simp only [decide_eq_true_eq, decide_eq_false_iff_not, Int.not_lt, Int.not_le, Bool.not_eq_true', Bool.not_eq_false', Decidable.not_not, not_true_eq_false] at hc
     all_goals first | (exfalso; with_reducible exact bft hc) | (exfalso; with_reducible exact btf hc) | (exfalso; omega) | skip
     all_goals refine tc_skip ?_
     all_goals (refine hK2 ?_; try (clear hK2; clear K2))
     all_goals refine tc_seq fun K6 hK6 => ?_
     all_goals refine tc_seq fun K7 hK7 => ?_
     all_goals refine tc_region ?_
     all_goals (first | refine tl_q (y_loadW rfl (by repeat constructor) (by rfl)) rfl ?_ | refine tl_q (y_loadN rfl (by repeat constructor) (by (repeat (first | exact .nil | apply CA.cons rfl)); done)) rfl ?_)
     all_goals refine tl_e (e_callV rfl (.cons rfl .nil) (fun w' hw' => empty_c _ _ w')) rfl (fun _ _ => ?_)
     all_goals refine tl_q (y_move rfl) rfl ?_
     all_goals (first | refine tl_sk rfl rfl rfl rfl ?_ | refine tl_qg rfl rfl (y_field rfl) rfl ?_ | refine tl_su rfl rfl rfl ?_ | (refine tl_gs rfl rfl (fun hc => ?_) (fun hc => ?_) <;> (try simp only [decide_eq_true_eq, decide_eq_false_iff_not, Int.not_lt, Int.not_le, Bool.not_eq_true', Bool.not_eq_false', Decidable.not_not, not_true_eq_false] at hc) <;> (first | (exfalso; omega) | refine tl_sk rfl rfl rfl rfl ?_ | refine tl_qg rfl rfl (y_field rfl) rfl ?_ | refine tl_su rfl rfl rfl ?_)))
     all_goals (first | refine tl_sk rfl rfl rfl rfl ?_ | refine tl_qg rfl rfl (y_load1 rfl (by repeat constructor) (by rfl)) rfl ?_ | refine tl_su rfl rfl rfl ?_ | (refine tl_gs rfl rfl (fun hc => ?_) (fun hc => ?_) <;> (try simp only [decide_eq_true_eq, decide_eq_false_iff_not, Int.not_lt, Int.not_le, Bool.not_eq_true', Bool.not_eq_false', Decidable.not_not, not_true_eq_false] at hc) <;> (first | (exfalso; omega) | refine tl_sk rfl rfl rfl rfl ?_ | refine tl_qg rfl rfl (y_load1 rfl (by repeat constructor) (by rfl)) rfl ?_ | refine tl_su rfl rfl rfl ?_)))
     all_goals (first | refine tl_sk rfl rfl rfl rfl ?_ | refine tl_eg rfl rfl rfl (e_callV rfl (.cons rfl .nil) (fun w' hw' => density_c _ w')) (fun _ _ => ?_) | refine tl_su rfl rfl rfl ?_ | (refine tl_gs rfl rfl (fun hc => ?_) (fun hc => ?_) <;> (try simp only [decide_eq_true_eq, decide_eq_false_iff_not, Int.not_lt, Int.not_le, Bool.not_eq_true', Bool.not_eq_false', Decidable.not_not, not_true_eq_false] at hc) <;> (first | (exfalso; omega) | refine tl_sk rfl rfl rfl rfl ?_ | refine tl_eg rfl rfl rfl (e_callV rfl (.cons rfl .nil) (fun w' hw' => density_c _ w')) (fun _ _ => ?_) | refine tl_su rfl rfl rfl ?_)))
     all_goals (first | refine tl_sk rfl rfl rfl rfl ?_ | refine tl_qg rfl rfl (y_not_dec rfl) rfl ?_ | refine tl_qg rfl rfl (y_not rfl) rfl ?_ | refine tl_su rfl rfl rfl ?_ | (refine tl_gs rfl rfl (fun hc => ?_) (fun hc => ?_) <;> (try simp only [decide_eq_true_eq, decide_eq_false_iff_not, Int.not_lt, Int.not_le, Bool.not_eq_true', Bool.not_eq_false', Decidable.not_not, not_true_eq_false] at hc) <;> (first | (exfalso; omega) | refine tl_sk rfl rfl rfl rfl ?_ | refine tl_qg rfl rfl (y_not_dec rfl) rfl ?_ | refine tl_qg rfl rfl (y_not rfl) rfl ?_ | refine tl_su rfl rfl rfl ?_)))
     all_goals (first | refine tl_q (y_pick_t rfl rfl) rfl ?_ | refine tl_q (y_pick_f rfl rfl) rfl ?_)
     all_goals refine tl_q (y_move rfl) rfl ?_
     all_goals (first | refine tl_sk rfl rfl rfl rfl ?_ | refine tl_qg rfl rfl (y_field rfl) rfl ?_ | refine tl_su rfl rfl rfl ?_ | (refine tl_gs rfl rfl (fun hc => ?_) (fun hc => ?_) <;> (try simp only [decide_eq_true_eq, decide_eq_false_iff_not, Int.not_lt, Int.not_le, Bool.not_eq_true', Bool.not_eq_false', Decidable.not_not, not_true_eq_false] at hc) <;> (first | (exfalso; omega) | refine tl_sk rfl rfl rfl rfl ?_ | refine tl_qg rfl rfl (y_field rfl) rfl ?_ | refine tl_su rfl rfl rfl ?_)))
     all_goals (first | refine tl_sk rfl rfl rfl rfl ?_ | refine tl_qg rfl rfl (y_load1 rfl (by repeat constructor) (by rfl)) rfl ?_ | refine tl_su rfl rfl rfl ?_ | (refine tl_gs rfl rfl (fun hc => ?_) (fun hc => ?_) <;> (try simp only [decide_eq_true_eq, decide_eq_false_iff_not, Int.not_lt, Int.not_le, Bool.not_eq_true', Bool.not_eq_false', Decidable.not_not, not_true_eq_false] at hc) <;> (first | (exfalso; omega) | refine tl_sk rfl rfl rfl rfl ?_ | refine tl_qg rfl rfl (y_load1 rfl (by repeat constructor) (by rfl)) rfl ?_ | refine tl_su rfl rfl rfl ?_)))
     all_goals (first | refine tl_sk rfl rfl rfl rfl ?_ | refine tl_eg rfl rfl rfl (e_callV rfl (.cons rfl .nil) (fun w' hw' => density_c _ w')) (fun _ _ => ?_) | refine tl_su rfl rfl rfl ?_ | (refine tl_gs rfl rfl (fun hc => ?_) (fun hc => ?_) <;> (try simp only [decide_eq_true_eq, decide_eq_false_iff_not, Int.not_lt, Int.not_le, Bool.not_eq_true', Bool.not_eq_false', Decidable.not_not, not_true_eq_false] at hc) <;> (first | (exfalso; omega) | refine tl_sk rfl rfl rfl rfl ?_ | refine tl_eg rfl rfl rfl (e_callV rfl (.cons rfl .nil) (fun w' hw' => density_c _ w')) (fun _ _ => ?_) | refine tl_su rfl rfl rfl ?_)))
     all_goals (first | refine tl_sk rfl rfl rfl rfl ?_ | refine tl_qg rfl rfl (y_not_dec rfl) rfl ?_ | refine tl_qg rfl rfl (y_not rfl) rfl ?_ | refine tl_su rfl rfl rfl ?_ | (refine tl_gs rfl rfl (fun hc => ?_) (fun hc => ?_) <;> (try simp only [decide_eq_true_eq, decide_eq_false_iff_not, Int.not_lt, Int.not_le, Bool.not_eq_true', Bool.not_eq_false', Decidable.not_not, not_true_eq_false] at hc) <;> (first | (exfalso; omega) | refine tl_sk rfl rfl rfl rfl ?_ | refine tl_qg rfl rfl (y_not_dec rfl) rfl ?_ | refine tl_qg rfl rfl (y_not rfl) rfl ?_ | refine tl_su rfl rfl rfl ?_)))
     all_goals (first | refine tl_q (y_pick_t rfl rfl) rfl ?_ | refine tl_q (y_pick_f rfl rfl) rfl ?_)
     all_goals refine tl_nil ?_
     all_goals (refine hK7 ?_; try (clear hK7; clear K7))
     all_goals (
      refine tc_cond rfl (fun hc => ?_) (fun hc => ?_)
      · try simp only [decide_eq_true_eq, decide_eq_false_iff_not, Int.not_lt, Int.not_le, Bool.not_eq_true', Bool.not_eq_false', Decidable.not_not, not_true_eq_false] at hc
        all_goals first | (exfalso; with_reducible exact bft hc) | (exfalso; with_reducible exact btf hc) | (exfalso; omega) | skip
        all_goals refine tc_seq fun K8 hK8 => ?_
        all_goals refine tc_region ?_
        all_goals refine tl_q (y_assign rfl) rfl ?_
        all_goals refine tl_nil ?_
        all_goals (refine hK8 ?_; try (clear hK8; clear K8))
        all_goals refine tc_ret ?_
        all_goals (repeat (first | refine tk_then_ret ?_ | refine tk_block_ret ?_ | refine tk_scope_ret ?_))
        all_goals first | refine tk_ret rfl rfl (.cons (.tmp rfl) .nil) ?_ | refine tk_retM rfl (by repeat constructor) rfl (.cons (.tmp rfl) .nil) ?_
        all_goals (
         refine fun w' hw' => ⟨congrArg (fun n => Ending.returned (vi n)) ?_, hw'.fr (by simp)⟩
         unfold rangedF emptyF
         simp only [decide_eq_true_eq, decide_eq_false_iff_not] at *
         first
         | rw [if_pos (by omega)]
         | rw [if_neg (by omega), if_pos (by omega)]
         | rw [if_neg (by omega), if_neg (by omega)])
      · try simp only [decide_eq_true_eq, decide_eq_false_iff_not, Int.not_lt, Int.not_le, Bool.not_eq_true', Bool.not_eq_false', Decidable.not_not, not_true_eq_false] at hc
        all_goals first | (exfalso; with_reducible exact bft hc) | (exfalso; with_reducible exact btf hc) | (exfalso; omega) | skip
        all_goals refine tc_skip ?_
        all_goals (refine hK6 ?_; try (clear hK6; clear K6))
        all_goals refine tc_seq fun K9 hK9 => ?_
        all_goals refine tc_region ?_
        all_goals refine tl_q (y_assign rfl) rfl ?_
        all_goals refine tl_nil ?_
        all_goals (refine hK9 ?_; try (clear hK9; clear K9))
        all_goals refine tc_ret ?_
        all_goals (repeat (first | refine tk_then_ret ?_ | refine tk_block_ret ?_ | refine tk_scope_ret ?_))
        all_goals first | refine tk_ret rfl rfl (.cons (.tmp rfl) .nil) ?_ | refine tk_retM rfl (by repeat constructor) rfl (.cons (.tmp rfl) .nil) ?_
        all_goals (
         refine fun w' hw' => ⟨congrArg (fun n => Ending.returned (vi n)) ?_, hw'.fr (by simp)⟩
         unfold rangedF emptyF
         simp only [decide_eq_true_eq, decide_eq_false_iff_not] at *
         first
         | rw [if_pos (by omega)]
         | rw [if_neg (by omega), if_pos (by omega)]
         | rw [if_neg (by omega), if_neg (by omega)])))
theorem loads_c (s : Sn) (sl : Value) (w : World) : CnX Try.prog 77 #[spV s sl] w [] (fun b : Nat => .func (.func 96) #[] #[ptr b])
    (fun b w' => True ∧ w.heap.size ≤ b ∧ w'.heap[b]? = some (.cells #[vi s.mass, vi s.volume, vi s.step, vi s.divisions, vi s.width, sl] 30 (0, 0))) := by
  refine cnx0 (vs := [_]) Try.func77 rfl rfl ?_
  all_goals refine tc_seq fun K1 hK1 => ?_
  all_goals refine tc_region ?_
  all_goals refine tl_e (e_box rfl rfl rfl) rfl (fun b _ => ?_)
  all_goals refine tl_q (y_assign rfl) rfl ?_
  all_goals refine tl_nil ?_
  all_goals (refine hK1 ?_; try (clear hK1; clear K1))
  all_goals refine tc_seq fun K2 hK2 => ?_
  all_goals refine tc_region ?_
  all_goals refine tl_q (y_fn .nil (.cons rfl .nil)) rfl ?_
  all_goals refine tl_q (y_assign rfl) rfl ?_
  all_goals refine tl_nil ?_
  all_goals (refine hK2 ?_; try (clear hK2; clear K2))
  all_goals refine tc_ret ?_
  all_goals (repeat (first | refine tk_then_ret ?_ | refine tk_block_ret ?_ | refine tk_scope_ret ?_))
  all_goals first | refine tk_ret rfl rfl (.cons (.tmp rfl) .nil) ?_ | refine tk_retM rfl (by repeat constructor) rfl (.cons (.tmp rfl) .nil) ?_
  all_goals (
   exact fun w' hw' => ⟨b, rfl, hw'.fr (by simp), trivial, (hw'.own _ (HM.mem (b := b) (by repeat constructor)) (w, []) (by simp)).resolve_left (by simp), hw'.heap _ (HM.mem (by repeat constructor))⟩)
theorem KnS.mem {H : List (Nat × Obj)} {S : List Nat} {w1 : World} (h : KnS H S w1 w1) : ∀ p ∈ H, p.1 ∈ S := fun p hp =>
  (h.own p.1 (List.mem_map.2 ⟨p, hp, rfl⟩)).resolve_right (fun hh => by
    have := h.kn p hp
    rw [Array.getElem?_eq_none hh] at this; cases this)
theorem loads_seq (s : Sn) (sl : Value) (hsl : ∃ ad cp, sl = .slice ad s.weights.length cp) (hl : (s.weights.length : Int) ≤ 1000000) (w : World) (b : Nat) (hb : w.heap[b]? = some (.cells #[vi s.mass, vi s.volume, vi s.step, vi s.divisions, vi s.width, sl] 30 (0, 0))) (S0 : List Nat) (hS0 : b ∉ S0) :
    Seq Try.prog 96 #[ptr b] (fun k : Nat => [vi k]) (List.range (s.weights.length + 1)) S0 w := by
  intro σ l S Hx I J s0 w1 f0 hS hK0 h0 hY
  obtain ⟨ad, cp, rfl⟩ := hsl
  have hbS : b ∉ S := fun h => (hS b h).elim hS0 (fun h => by
    have : b < w.heap.size := (Array.getElem?_eq_some_iff.1 hb).1
    omega)
  have hb1 := f0.keep hb
  rw [show (#[.func (.yield l) #[] #[]] ++ #[ptr b] : Array Value) = #[.func (.yield l) #[] #[], ptr b] from by simp]
  refine cnxS (vs := [_, _]) (S := S) (Hx s0) Try.func96 rfl rfl ⟨hK0.kn, hK0.nd, hK0.mem⟩ ?_
  all_goals refine tc_seq fun K1 hK1 => ?_
  all_goals refine tc_region ?_
  all_goals refine tl_q (y_field rfl) rfl ?_
  all_goals (first | refine tl_q (y_load1 rfl (by repeat constructor) (by rfl)) rfl ?_ | refine tl_q (y_load1o rfl (fun w' hw' => cell0 ((hw'.fr (w0 := w1) (S := S) (by simp)).keepS hbS hb1) rfl)) rfl ?_)
  all_goals refine tl_q (y_len rfl) rfl ?_
  all_goals refine tl_q (y_add rfl rfl (by omega)) rfl ?_
  all_goals refine tl_q (y_move rfl) rfl ?_
  all_goals refine tl_nil ?_
  all_goals (refine hK1 ?_; try (clear hK1; clear K1))
  all_goals refine tc_block ?_
  all_goals (
   refine tc_loop (fun p : Nat × σ => p.1 ≤ s.weights.length + 1 ∧ I p.1 p.2) (fun p => [(0, .func (.yield l) #[] #[]), (7, vi ((s.weights.length : Int) + 1)), (8, vi p.1)]) (fun _ => [(w1, S)]) (fun p => Hx p.2) (fun p => s.weights.length + 1 - p.1) ?_ ?_
   · exact tk_start (0, s0) ⟨Nat.zero_le _, h0⟩ (.cons rfl (.cons rfl (.cons rfl .nil))) (fun _ h => h)
   · rintro ⟨k, st⟩ ⟨hkl, hI⟩
     dsimp only at hkl hI ⊢
     all_goals refine tc_seq fun K2 hK2 => ?_
     all_goals refine tc_region ?_
     all_goals refine tl_q (y_lss rfl rfl) rfl ?_
     all_goals refine tl_nil ?_
     all_goals (refine hK2 ?_; try (clear hK2; clear K2))
     all_goals refine tc_seq fun K3 hK3 => ?_
     all_goals (
      refine tc_cond rfl (fun hc => ?_) (fun hc => ?_)
      · try simp only [decide_eq_true_eq, decide_eq_false_iff_not, Int.not_lt, Int.not_le, Bool.not_eq_true', Bool.not_eq_false', Decidable.not_not, not_true_eq_false] at hc
        all_goals first | (exfalso; with_reducible exact bft hc) | (exfalso; with_reducible exact btf hc) | (exfalso; omega) | skip
        all_goals refine tc_skip ?_
        all_goals (refine hK3 ?_; try (clear hK3; clear K3))
        all_goals refine tc_seq fun K4 hK4 => ?_
        all_goals refine tc_block ?_
        all_goals refine tc_seq fun K5 hK5 => ?_
        all_goals refine tc_region ?_
        all_goals refine tl_q (y_move rfl) rfl ?_
        all_goals refine tl_q (y_assign rfl) rfl ?_
        all_goals refine tl_nil ?_
        all_goals (refine hK5 ?_; try (clear hK5; clear K5))
        all_goals refine tc_seq fun K6 hK6 => ?_
        all_goals refine tc_region ?_
        all_goals refine tl_q (y_move rfl) rfl ?_
        all_goals refine tl_q (y_move rfl) rfl ?_
        all_goals refine tl_r (e_yield [] k st k rfl rfl rfl (.cons rfl .nil) rfl (List.getElem?_range (by omega)) hI hY (by simp) (List.append_nil _).symm) rfl (fun q hq => ?_)
        all_goals (first | refine tl_q (y_not_dec rfl) rfl ?_ | refine tl_q (y_not rfl) rfl ?_)
        all_goals refine tl_nil ?_
        all_goals (refine hK6 ?_; try (clear hK6; clear K6))
        all_goals (
         refine tc_cond rfl (fun hc => ?_) (fun hc => ?_)
         · try simp only [decide_eq_true_eq, decide_eq_false_iff_not, Int.not_lt, Int.not_le, Bool.not_eq_true', Bool.not_eq_false', Decidable.not_not, not_true_eq_false] at hc
           all_goals first | (exfalso; with_reducible exact bft hc) | (exfalso; with_reducible exact btf hc) | (exfalso; omega) | skip
           all_goals refine tc_ret ?_
           all_goals (repeat (first | refine tk_then_ret ?_ | refine tk_block_ret ?_ | refine tk_scope_ret ?_))
           all_goals first | refine tk_ret rfl rfl .nil ?_ | refine tk_retM rfl (by repeat constructor) rfl .nil ?_
           all_goals (
            first
            | (rcases hq with hq | hq
               · rw [hq.1] at hc; cases hc
               · exact fun w' hw' => ⟨q.2, rfl, hw'.fr (by simp), (by rw [List.append_nil] at hw'; exact hw'.knS (by simp)), .inr hq.2⟩)
            | (have hke : k = s.weights.length + 1 := by omega
               subst hke
               exact fun w' hw' => ⟨st, rfl, hw'.fr (by simp), hw'.knS (by simp), .inl (by simpa using hI)⟩))
         · try simp only [decide_eq_true_eq, decide_eq_false_iff_not, Int.not_lt, Int.not_le, Bool.not_eq_true', Bool.not_eq_false', Decidable.not_not, not_true_eq_false] at hc
           all_goals first | (exfalso; with_reducible exact bft hc) | (exfalso; with_reducible exact btf hc) | (exfalso; omega) | skip
           all_goals refine tc_skip ?_
           all_goals (refine hK4 ?_; try (clear hK4; clear K4))
           all_goals refine tc_region ?_
           all_goals refine tl_q (y_add rfl rfl (by omega)) rfl ?_
           all_goals refine tl_q (y_move rfl) rfl ?_
           all_goals refine tl_nil ?_
           all_goals (
            rcases hq with hq | hq
            · exact tk_round (k + 1, q.2) ⟨by omega, hq.2⟩ (by omega) (.cons rfl (.cons rfl (.cons rfl .nil))) (fun _ h => by simpa using h)
            · rw [hq.1] at hc; cases hc))
      · try simp only [decide_eq_true_eq, decide_eq_false_iff_not, Int.not_lt, Int.not_le, Bool.not_eq_true', Bool.not_eq_false', Decidable.not_not, not_true_eq_false] at hc
        all_goals first | (exfalso; with_reducible exact bft hc) | (exfalso; with_reducible exact btf hc) | (exfalso; omega) | skip
        all_goals refine tc_exit ?_
        all_goals first | refine tk_end rfl rfl .nil ?_ | refine tk_endM rfl (by repeat constructor) rfl .nil ?_
        all_goals (
         first
         | (rcases hq with hq | hq
            · rw [hq.1] at hc; cases hc
            · exact fun w' hw' => ⟨q.2, rfl, hw'.fr (by simp), (by rw [List.append_nil] at hw'; exact hw'.knS (by simp)), .inr hq.2⟩)
         | (have hke : k = s.weights.length + 1 := by omega
            subst hke
            exact fun w' hw' => ⟨st, rfl, hw'.fr (by simp), hw'.knS (by simp), .inl (by simpa using hI)⟩))))
def vdF (s : Sn) (r : Int × Int) (k : Nat) : Int := if meetF (floF s k) r = r then 1 else if emptyF (meetF (floF s k) r) = true then 2 else 3
def verdictsL (s : Sn) (r : Int × Int) (n : Nat) : List Int := (List.range n).map (vdF s r)
def verdictsE (s : Sn) (r : Int × Int) : List Int × Int := if ¬ rangedF s r = 0 then ([], rangedF s r) else (verdictsL s r (s.weights.length + 1), 0)
theorem rangedF_0 {s : Sn} {r : Int × Int} (h : rangedF s r = 0) : VS s ∧ (r.1 ≤ r.2) ∧ (1 ≤ r.1 ∧ r.1 ≤ 2000) ∧ (1 ≤ r.2 ∧ r.2 ≤ 2000) := by
  unfold rangedF emptyF at h
  split at h
  · exact absurd h ‹_›
  · split at h
    · cases h
    · rename_i h1 h2
      simp only [decide_eq_true_eq] at h2
      exact ⟨chkF_valid.1 (by omega), by omega, by omega, by omega⟩
theorem vdF_1 {s : Sn} {r : Int × Int} {k : Nat} (h : max (floF s k).1 r.1 = r.1 ∧ min (floF s k).2 r.2 = r.2) : vdF s r k = 1 := by
  unfold vdF meetF; rw [if_pos (by rw [h.1, h.2])]
theorem vdF_2 {s : Sn} {r : Int × Int} {k : Nat} (h : ¬ (max (floF s k).1 r.1 = r.1 ∧ min (floF s k).2 r.2 = r.2)) (h2 : min (floF s k).2 r.2 < max (floF s k).1 r.1) : vdF s r k = 2 := by
  unfold vdF meetF emptyF; rw [if_neg (fun e => h ⟨congrArg Prod.fst e, congrArg Prod.snd e⟩), if_pos (by simpa using h2)]
theorem vdF_3 {s : Sn} {r : Int × Int} {k : Nat} (h : ¬ (max (floF s k).1 r.1 = r.1 ∧ min (floF s k).2 r.2 = r.2)) (h2 : max (floF s k).1 r.1 ≤ min (floF s k).2 r.2) : vdF s r k = 3 := by
  unfold vdF meetF emptyF; rw [if_neg (fun e => h ⟨congrArg Prod.fst e, congrArg Prod.snd e⟩), if_neg (by simpa using h2)]
theorem verdictsL_succ (s : Sn) (r : Int × Int) (n : Nat) : verdictsL s r (n + 1) = verdictsL s r n ++ [vdF s r n] := by simp [verdictsL, List.range_succ]
theorem verdictsL_len (s : Sn) (r : Int × Int) (n : Nat) : (verdictsL s r n).length = n := by simp [verdictsL]
/-- The slice out of a loop that appends: none yet, or a block of its own. -/
abbrev OutS := Nat × Option (Nat × Nat × List Value)
def outV' : OutS → Value
  | (_, none) => .slice none 0 0
  | (n, some (b, cap, _)) => .slice (some ⟨b, 0, none⟩) n cap
def outOk : OutS → Prop
  | (n, none) => n = 0
  | (n, some (_, cap, junk)) => n ≤ cap ∧ junk.length = cap - n
def outH (f : Nat → List Int) (bo : Nat) (H : List (Nat × Obj)) : OutS → List (Nat × Obj)
  | (_, none) => (bo, .cells #[.slice none 0 0] 22 (0, 0)) :: H
  | (n, some (b, cap, junk)) => (b, .cells ((f n).map vi ++ junk).toArray 3 (0, 0)) :: (bo, .cells #[.slice (some ⟨b, 0, none⟩) n cap] 22 (0, 0)) :: H
theorem HG.sw {bs : List (World × List Nat)} {p q : Nat × Obj} {H : List (Nat × Obj)} {w : World} (h : HG bs (p :: q :: H) w) : HG bs (q :: p :: H) w := h.perm (List.Perm.swap _ _ _)
theorem verdicts_e (s : Sn) (hn : NB s) (r : Int × Int) (sl : Value) (w : World) (hr : RdI w sl s.weights) :
    CnX Try.prog 50 #[spV s sl, rV r] w [] (fun v : Value => .tuple #[v, vi (verdictsE s r).2]) (fun v w' => RdI w' v (verdictsE s r).1) := by
  have hr0 := hr
  obtain ⟨ad, cp, b0, o0, rfl, had, hcell⟩ := hr.open
  refine cnx0 (vs := [_, _]) Try.func50 rfl rfl ?_
  all_goals refine tc_seq fun K1 hK1 => ?_
  all_goals refine tc_region ?_
  all_goals refine tl_e (e_box rfl rfl rfl) rfl (fun b2 _ => ?_)
  all_goals refine tl_e (e_box rfl rfl rfl) rfl (fun b3 _ => ?_)
  all_goals refine tl_q (y_assign rfl) rfl ?_
  all_goals refine tl_q (y_assign rfl) rfl ?_
  all_goals refine tl_nil ?_
  all_goals (refine hK1 ?_; try (clear hK1; clear K1))
  all_goals refine tc_seq fun K2 hK2 => ?_
  all_goals refine tc_seq fun K3 hK3 => ?_
  all_goals refine tc_region ?_
  all_goals (first | refine tl_q (y_loadW rfl (by repeat constructor) (by rfl)) rfl ?_ | refine tl_q (y_loadN rfl (by repeat constructor) (by (repeat (first | exact .nil | apply CA.cons rfl)); done)) rfl ?_)
  all_goals (first | refine tl_q (y_loadW rfl (by repeat constructor) (by rfl)) rfl ?_ | refine tl_q (y_loadN rfl (by repeat constructor) (by (repeat (first | exact .nil | apply CA.cons rfl)); done)) rfl ?_)
  all_goals refine tl_e (e_callV rfl (.cons rfl (.cons rfl .nil)) (fun w' hw' => ranged_c s hn r _ w' (hr0.fr (hw'.fr (by simp))))) rfl (fun _ _ => ?_)
  all_goals refine tl_q (y_assign rfl) rfl ?_
  all_goals refine tl_nil ?_
  all_goals (refine hK3 ?_; try (clear hK3; clear K3))
  all_goals refine tc_seq fun K4 hK4 => ?_
  all_goals refine tc_region ?_
  all_goals refine tl_q (y_move rfl) rfl ?_
  all_goals refine tl_q (y_neq rfl rfl) rfl ?_
  all_goals refine tl_nil ?_
  all_goals (refine hK4 ?_; try (clear hK4; clear K4))
  all_goals (
   refine tc_cond rfl (fun hc => ?_) (fun hc => ?_)
   · try simp only [decide_eq_true_eq, decide_eq_false_iff_not, Int.not_lt, Int.not_le, Bool.not_eq_true', Bool.not_eq_false', Decidable.not_not, not_true_eq_false] at hc
     all_goals first | (exfalso; with_reducible exact bft hc) | (exfalso; with_reducible exact btf hc) | (exfalso; omega) | skip
     all_goals refine tc_seq fun K5 hK5 => ?_
     all_goals refine tc_region ?_
     all_goals refine tl_q (y_move rfl) rfl ?_
     all_goals refine tl_q (y_assign rfl) rfl ?_
     all_goals refine tl_q (y_assign rfl) rfl ?_
     all_goals refine tl_nil ?_
     all_goals (refine hK5 ?_; try (clear hK5; clear K5))
     all_goals refine tc_ret ?_
     all_goals (repeat (first | refine tk_then_ret ?_ | refine tk_block_ret ?_ | refine tk_scope_ret ?_))
     all_goals first | refine tk_ret rfl rfl (.cons (.tmp rfl) (.cons (.tmp rfl) .nil)) ?_ | refine tk_retM rfl (by repeat constructor) rfl (.cons (.tmp rfl) (.cons (.tmp rfl) .nil)) ?_
     all_goals (
      first
      | (have e1 : verdictsE s r = ([], rangedF s r) := by unfold verdictsE; rw [if_pos hc]
         exact fun w' hw' => ⟨.slice none 0 0, by rw [e1]; rfl, hw'.fr (by simp), by rw [e1]; exact RdI.nil _⟩)
      | (have e1 : verdictsE s r = (verdictsL s r (s.weights.length + 1), 0) := by unfold verdictsE; rw [if_neg (by omega)]
         refine fun w' hw' => ⟨.slice (some ⟨bd, 0, none⟩) (s.weights.length + 1) cap, by rw [e1]; rfl, hw'.fr (by simp), ?_⟩
         rw [e1]
         have := RdI.own (xs := verdictsL s r (s.weights.length + 1)) (cap := cap) hw' (by repeat constructor)
         rw [verdictsL_len] at this
         exact this))
   · try simp only [decide_eq_true_eq, decide_eq_false_iff_not, Int.not_lt, Int.not_le, Bool.not_eq_true', Bool.not_eq_false', Decidable.not_not, not_true_eq_false] at hc
     all_goals first | (exfalso; with_reducible exact bft hc) | (exfalso; with_reducible exact btf hc) | (exfalso; omega) | skip
     all_goals refine tc_skip ?_
     all_goals (refine hK2 ?_; try (clear hK2; clear K2))
     all_goals refine tc_seq fun K6 hK6 => ?_
     have hq := rangedF_0 (s := s) (r := r) (by omega)
     have hv6 : (s.weights.length : Int) ≤ 6 := by have := hq.1.n; omega
     all_goals refine tc_region ?_
     all_goals refine tl_e (e_alloc1 rfl) rfl (fun bo _ => ?_)
     all_goals refine tl_nil ?_
     all_goals (refine hK6 ?_; try (clear hK6; clear K6))
     all_goals refine tc_seq fun K7 hK7 => ?_
     all_goals refine tc_seq fun K8 hK8 => ?_
     all_goals refine tc_region ?_
     all_goals (first | refine tl_q (y_loadW rfl (by repeat constructor) (by rfl)) rfl ?_ | refine tl_q (y_loadN rfl (by repeat constructor) (by (repeat (first | exact .nil | apply CA.cons rfl)); done)) rfl ?_)
     all_goals refine tl_e (e_callB rfl (.cons rfl .nil) (fun w' hw' => loads_c s _ w')) rfl (fun bL _ => ?_)
     all_goals refine tl_nil ?_
     all_goals (refine hK8 ?_; try (clear hK8; clear K8))
     all_goals refine tc_block ?_
     all_goals (
      refine tc_range (α := Nat) (σ := OutS) (gf := 96) (lb := #[ptr bL]) (enc := fun k => [vi k]) (List.range (s.weights.length + 1)) [bo, b3, b2] (outH (verdictsL s r) bo [(b3, .cells #[vi r.1, vi r.2] 33 (0, 0)), (b2, .cells (spV s (.slice ad s.weights.length cp)).cells 30 (0, 0))]) (fun i st => st.1 = i ∧ outOk st) (fun _ _ => False) (0, none) rfl rfl (fun _ => rfl) ⟨rfl, rfl⟩ (by simp [outH]) (fun _ h => h.sub (fun _ h => h) (SB.s (by repeat constructor))) (fun w' hw' => loads_seq s _ ⟨_, _, rfl⟩ (by omega) w' bL (hw'.heap _ (HM.mem (by repeat constructor))) _ (by have := hw'.nodup; simp at this ⊢; omega)) ?_ ?_ ?_
      · intro l R0 R1 i st x w2 hx hI K hK
        obtain ⟨rfl, hok⟩ := hI
        obtain ⟨hxl, hxe⟩ := List.getElem?_eq_some_iff.1 hx
        simp only [List.length_range, List.getElem_range] at hxl hxe
        subst hxe
        obtain ⟨n, o⟩ := st
        rcases o with _ | ⟨bd, cap, junk⟩
        all_goals (dsimp only [outOk] at hok; dsimp only [outH] at hxl hK ⊢)
        all_goals refine tc_region ?_
        all_goals refine tl_q (y_assign rfl) rfl ?_
        all_goals refine tl_nil ?_
        all_goals refine hK ?_
        all_goals clear hK
        all_goals refine tc_block ?_
        all_goals refine tc_seq fun K9 hK9 => ?_
        all_goals refine tc_draw (by kernel_rfl) ?_
        all_goals (first | refine tx_qS 0 rfl (by kernel_rfl) (y_loadW rfl (by repeat constructor) (by rfl)) rfl (fun _ _ _ h => h) (fun _ h => h.subl (SB.s (by repeat constructor)) (SB.s (by repeat constructor))) ?_ | refine tx_qS 0 rfl (by kernel_rfl) (y_loadN rfl (by repeat constructor) (by (repeat (first | exact .nil | apply CA.cons rfl)); done)) rfl (fun _ _ _ h => h) (fun _ h => h.subl (SB.s (by repeat constructor)) (SB.s (by repeat constructor))) ?_)
        all_goals refine tx_p 1 rfl (by kernel_rfl) (y_move rfl) rfl (fun _ _ _ h => h) (fun _ h => h.subl (SB.s (by repeat constructor)) (SB.s (by repeat constructor))) ?_
        all_goals (first | refine tx_qS 3 rfl (by kernel_rfl) (y_loadW rfl (by repeat constructor) (by rfl)) rfl (fun _ _ _ h => h) (fun _ h => h.subl (SB.s (by repeat constructor)) (SB.s (by repeat constructor))) ?_ | refine tx_qS 3 rfl (by kernel_rfl) (y_loadN rfl (by repeat constructor) (by (repeat (first | exact .nil | apply CA.cons rfl)); done)) rfl (fun _ _ _ h => h) (fun _ h => h.subl (SB.s (by repeat constructor)) (SB.s (by repeat constructor))) ?_)
        all_goals (
         refine tx_pair 2 5 (by kernel_rfl) ?_ ?_
         rotate_left
         focus (
          (first | refine to_e rfl rfl (e_allocN rfl) (.inr ⟨fun _ _ h => h.subl (SB.s (by repeat constructor)) (SB.s (by repeat constructor)), fun _ h => h⟩) (fun _ _ => ?_))
          all_goals refine tx_single 2 (by kernel_rfl) (to_e rfl rfl (e_callV rfl (.cons rfl (.cons rfl .nil)) (fun w' hw' => floating_c s hq.1 n (by omega) (by omega) _ w' (hr0.fr (hw'.fr (w0 := w) (S := []) (by simp))))) (.inr ⟨fun _ _ h => h.subl (SB.s (by repeat constructor)) (SB.s (by repeat constructor)), fun _ h => h⟩) (fun _ _ => ?_))
          all_goals refine tx_single 4 (by kernel_rfl) (to_e rfl rfl (e_callV rfl (.cons rfl (.cons rfl .nil)) (fun w' _ => meet_c _ _ _ _ w')) (.inr ⟨fun _ _ h => h.subl (SB.s (by repeat constructor)) (SB.s (by repeat constructor)), fun _ h => h⟩) (fun _ _ => ?_))
          all_goals refine tx_single 6 (by kernel_rfl) (to_e (S' := HG [] []) rfl rfl (e_storeW rfl rfl (by repeat constructor) (by rfl) (by rfl) (by simp [Value.oneCell'])) (.inl (by kernel_rfl)) (fun _ _ => ?_))
          all_goals refine tx_done (by kernel_rfl) ?_)
         rotate_right
         focus (
          (first | refine to_e rfl rfl (e_callV rfl (.cons rfl (.cons rfl .nil)) (fun w' hw' => floating_c s hq.1 n (by omega) (by omega) _ w' (hr0.fr (hw'.fr (w0 := w) (S := []) (by simp))))) (.inr ⟨fun _ _ h => h.subl (SB.s (by repeat constructor)) (SB.s (by repeat constructor)), fun _ h => h⟩) (fun _ _ => ?_))
          all_goals (
           refine tx_pair 4 5 (by kernel_rfl) ?_ ?_
           rotate_left
           focus (
            (first | refine to_e rfl rfl (e_allocN rfl) (.inr ⟨fun _ _ h => h.subl (SB.s (by repeat constructor)) (SB.s (by repeat constructor)), fun _ h => h⟩) (fun _ _ => ?_))
            all_goals refine tx_single 4 (by kernel_rfl) (to_e rfl rfl (e_callV rfl (.cons rfl (.cons rfl .nil)) (fun w' _ => meet_c _ _ _ _ w')) (.inr ⟨fun _ _ h => h.subl (SB.s (by repeat constructor)) (SB.s (by repeat constructor)), fun _ h => h⟩) (fun _ _ => ?_))
            all_goals refine tx_single 6 (by kernel_rfl) (to_e (S' := HG [] []) rfl rfl (e_storeW rfl rfl (by repeat constructor) (by rfl) (by rfl) (by simp [Value.oneCell'])) (.inl (by kernel_rfl)) (fun _ _ => ?_))
            all_goals refine tx_done (by kernel_rfl) ?_)
           rotate_right
           focus (
            (first | refine to_e rfl rfl (e_callV rfl (.cons rfl (.cons rfl .nil)) (fun w' _ => meet_c _ _ _ _ w')) (.inr ⟨fun _ _ h => h.subl (SB.s (by repeat constructor)) (SB.s (by repeat constructor)), fun _ h => h⟩) (fun _ _ => ?_))
            all_goals refine tx_single 5 (by kernel_rfl) (to_e rfl rfl (e_allocN rfl) (.inr ⟨fun _ _ h => h.subl (SB.s (by repeat constructor)) (SB.s (by repeat constructor)), fun _ h => h⟩) (fun _ _ => ?_))
            all_goals refine tx_single 6 (by kernel_rfl) (to_e (S' := HG [] []) rfl rfl (e_storeW rfl rfl (by repeat constructor) (by rfl) (by rfl) (by simp [Value.oneCell'])) (.inl (by kernel_rfl)) (fun _ _ => ?_))
            all_goals refine tx_done (by kernel_rfl) ?_))))
        all_goals (refine hK9 ?_; try (clear hK9; clear K9))
        all_goals refine tc_block ?_
        all_goals refine tc_seq fun K10 hK10 => ?_
        all_goals refine tc_region ?_
        all_goals (first | refine tl_q (y_loadW rfl (by repeat constructor) (by rfl)) rfl ?_ | refine tl_q (y_loadN rfl (by repeat constructor) (by (repeat (first | exact .nil | apply CA.cons rfl)); done)) rfl ?_)
        all_goals (first | refine tl_q (y_loadW rfl (by repeat constructor) (by rfl)) rfl ?_ | refine tl_q (y_loadN rfl (by repeat constructor) (by (repeat (first | exact .nil | apply CA.cons rfl)); done)) rfl ?_)
        all_goals refine tl_q (y_eql2 rfl rfl) rfl ?_
        all_goals refine tl_q (y_assign rfl) rfl ?_
        all_goals refine tl_nil ?_
        all_goals (refine hK10 ?_; try (clear hK10; clear K10))
        all_goals (
         refine tc_cond rfl (fun hc => ?_) (fun hc => ?_)
         · try simp only [decide_eq_true_eq, decide_eq_false_iff_not, Int.not_lt, Int.not_le, Bool.not_eq_true', Bool.not_eq_false', Decidable.not_not, not_true_eq_false] at hc
           all_goals first | (exfalso; with_reducible exact bft hc) | (exfalso; with_reducible exact btf hc) | (exfalso; omega) | skip
           all_goals refine tc_region ?_
           all_goals refine tl_q (y_load1 rfl (by repeat constructor) (by rfl)) rfl ?_
           all_goals refine tl_e (e_bslice rfl (by (repeat (first | exact .nil | apply PV.one rfl rfl | apply PV.two rfl)); done) rfl rfl) rfl (fun _ _ => ?_)
           all_goals (first | refine tl_e (e_append_own (old := (verdictsL s r n).map vi) (junk := junk) rfl rfl rfl (by repeat constructor) (by simp [verdictsL_len]) (by omega) hok.1 (fun w' hw' => RdI.own0 (xs := [_]) hw' (by repeat constructor)) (fun u hu => by obtain ⟨_, _, rfl⟩ := List.mem_map.1 hu; rfl) (by simp only [List.length_cons, List.length_nil]; omega) rfl) rfl (fun y hy => ?_) | refine tl_e (e_append_nil rfl rfl rfl (fun w' hw' => RdI.own0 (xs := [_]) hw' (by repeat constructor)) (fun u hu => by obtain ⟨_, _, rfl⟩ := List.mem_map.1 hu; rfl) Nat.zero_lt_one (Nat.le_of_ble_eq_true rfl) rfl) rfl (fun y hy => ?_))
           all_goals refine tl_e (e_store1 rfl rfl (by repeat constructor) (by repeat constructor) (by rfl) (by rfl)) rfl (fun _ _ => ?_)
           all_goals refine tl_nil ?_
           all_goals (
            repeat (refine tk_ib ?_)
            refine tk_rq (n + 1, some (y.1, y.2.1, y.2.2)) ⟨rfl, by dsimp only [outOk]; simp only [List.length_cons, List.length_nil] at hy; omega⟩ (fun _ h => ?_)
            dsimp only [outH]
            first
            | rw [verdictsL_succ, vdF_1 (by assumption), List.map_append]
            | rw [verdictsL_succ, vdF_2 (by assumption) (by assumption), List.map_append]
            | rw [verdictsL_succ, vdF_3 (by assumption) (by assumption), List.map_append]
            first
            | (subst hok; exact (h.sub (fun _ h => h) (SB.s (by repeat constructor))).sw)
            | exact (h.sub (fun _ h => h) (SB.s (by repeat constructor))).sw)
         · try simp only [decide_eq_true_eq, decide_eq_false_iff_not, Int.not_lt, Int.not_le, Bool.not_eq_true', Bool.not_eq_false', Decidable.not_not, not_true_eq_false] at hc
           all_goals first | (exfalso; with_reducible exact bft hc) | (exfalso; with_reducible exact btf hc) | (exfalso; omega) | skip
           all_goals refine tc_seq fun K11 hK11 => ?_
           all_goals refine tc_region ?_
           all_goals (first | refine tl_q (y_loadW rfl (by repeat constructor) (by rfl)) rfl ?_ | refine tl_q (y_loadN rfl (by repeat constructor) (by (repeat (first | exact .nil | apply CA.cons rfl)); done)) rfl ?_)
           all_goals refine tl_e (e_callV rfl (.cons rfl .nil) (fun w' _ => empty_c _ _ w')) rfl (fun _ _ => ?_)
           all_goals refine tl_q (y_assign rfl) rfl ?_
           all_goals refine tl_nil ?_
           all_goals (refine hK11 ?_; try (clear hK11; clear K11))
           all_goals (
            refine tc_cond rfl (fun hc => ?_) (fun hc => ?_)
            · try simp only [decide_eq_true_eq, decide_eq_false_iff_not, Int.not_lt, Int.not_le, Bool.not_eq_true', Bool.not_eq_false', Decidable.not_not, not_true_eq_false] at hc
              all_goals first | (exfalso; with_reducible exact bft hc) | (exfalso; with_reducible exact btf hc) | (exfalso; omega) | skip
              all_goals refine tc_region ?_
              all_goals refine tl_q (y_load1 rfl (by repeat constructor) (by rfl)) rfl ?_
              all_goals refine tl_e (e_bslice rfl (by (repeat (first | exact .nil | apply PV.one rfl rfl | apply PV.two rfl)); done) rfl rfl) rfl (fun _ _ => ?_)
              all_goals (first | refine tl_e (e_append_own (old := (verdictsL s r n).map vi) (junk := junk) rfl rfl rfl (by repeat constructor) (by simp [verdictsL_len]) (by omega) hok.1 (fun w' hw' => RdI.own0 (xs := [_]) hw' (by repeat constructor)) (fun u hu => by obtain ⟨_, _, rfl⟩ := List.mem_map.1 hu; rfl) (by simp only [List.length_cons, List.length_nil]; omega) rfl) rfl (fun y hy => ?_) | refine tl_e (e_append_nil rfl rfl rfl (fun w' hw' => RdI.own0 (xs := [_]) hw' (by repeat constructor)) (fun u hu => by obtain ⟨_, _, rfl⟩ := List.mem_map.1 hu; rfl) Nat.zero_lt_one (Nat.le_of_ble_eq_true rfl) rfl) rfl (fun y hy => ?_))
              all_goals refine tl_e (e_store1 rfl rfl (by repeat constructor) (by repeat constructor) (by rfl) (by rfl)) rfl (fun _ _ => ?_)
              all_goals refine tl_nil ?_
              all_goals (
               repeat (refine tk_ib ?_)
               refine tk_rq (n + 1, some (y.1, y.2.1, y.2.2)) ⟨rfl, by dsimp only [outOk]; simp only [List.length_cons, List.length_nil] at hy; omega⟩ (fun _ h => ?_)
               dsimp only [outH]
               first
               | rw [verdictsL_succ, vdF_1 (by assumption), List.map_append]
               | rw [verdictsL_succ, vdF_2 (by assumption) (by assumption), List.map_append]
               | rw [verdictsL_succ, vdF_3 (by assumption) (by assumption), List.map_append]
               first
               | (subst hok; exact (h.sub (fun _ h => h) (SB.s (by repeat constructor))).sw)
               | exact (h.sub (fun _ h => h) (SB.s (by repeat constructor))).sw)
            · try simp only [decide_eq_true_eq, decide_eq_false_iff_not, Int.not_lt, Int.not_le, Bool.not_eq_true', Bool.not_eq_false', Decidable.not_not, not_true_eq_false] at hc
              all_goals first | (exfalso; with_reducible exact bft hc) | (exfalso; with_reducible exact btf hc) | (exfalso; omega) | skip
              all_goals refine tc_region ?_
              all_goals refine tl_q (y_load1 rfl (by repeat constructor) (by rfl)) rfl ?_
              all_goals refine tl_e (e_bslice rfl (by (repeat (first | exact .nil | apply PV.one rfl rfl | apply PV.two rfl)); done) rfl rfl) rfl (fun _ _ => ?_)
              all_goals (first | refine tl_e (e_append_own (old := (verdictsL s r n).map vi) (junk := junk) rfl rfl rfl (by repeat constructor) (by simp [verdictsL_len]) (by omega) hok.1 (fun w' hw' => RdI.own0 (xs := [_]) hw' (by repeat constructor)) (fun u hu => by obtain ⟨_, _, rfl⟩ := List.mem_map.1 hu; rfl) (by simp only [List.length_cons, List.length_nil]; omega) rfl) rfl (fun y hy => ?_) | refine tl_e (e_append_nil rfl rfl rfl (fun w' hw' => RdI.own0 (xs := [_]) hw' (by repeat constructor)) (fun u hu => by obtain ⟨_, _, rfl⟩ := List.mem_map.1 hu; rfl) Nat.zero_lt_one (Nat.le_of_ble_eq_true rfl) rfl) rfl (fun y hy => ?_))
              all_goals refine tl_e (e_store1 rfl rfl (by repeat constructor) (by repeat constructor) (by rfl) (by rfl)) rfl (fun _ _ => ?_)
              all_goals refine tl_nil ?_
              all_goals (
               repeat (refine tk_ib ?_)
               refine tk_rq (n + 1, some (y.1, y.2.1, y.2.2)) ⟨rfl, by dsimp only [outOk]; simp only [List.length_cons, List.length_nil] at hy; omega⟩ (fun _ h => ?_)
               dsimp only [outH]
               first
               | rw [verdictsL_succ, vdF_1 (by assumption), List.map_append]
               | rw [verdictsL_succ, vdF_2 (by assumption) (by assumption), List.map_append]
               | rw [verdictsL_succ, vdF_3 (by assumption) (by assumption), List.map_append]
               first
               | (subst hok; exact (h.sub (fun _ h => h) (SB.s (by repeat constructor))).sw)
               | exact (h.sub (fun _ h => h) (SB.s (by repeat constructor))).sw)))
      · intro D st hI
        obtain ⟨n, o⟩ := st
        obtain ⟨hn1, hok⟩ := hI
        simp only [List.length_range] at hn1
        subst hn1
        rcases o with _ | ⟨bd, cap, junk⟩
        all_goals (dsimp only [outH, outOk] at hok ⊢)
        · exact absurd hok (by omega)
        all_goals (refine hK7 ?_; try (clear hK7; clear K7))
        all_goals refine tc_seq fun K12 hK12 => ?_
        all_goals refine tc_region ?_
        all_goals refine tl_q (y_load1 rfl (by repeat constructor) (by rfl)) rfl ?_
        all_goals refine tl_q (y_assign rfl) rfl ?_
        all_goals refine tl_q (y_assign rfl) rfl ?_
        all_goals refine tl_nil ?_
        all_goals (refine hK12 ?_; try (clear hK12; clear K12))
        all_goals refine tc_ret ?_
        all_goals (repeat (first | refine tk_then_ret ?_ | refine tk_block_ret ?_ | refine tk_scope_ret ?_))
        all_goals first | refine tk_ret rfl rfl (.cons (.tmp rfl) (.cons (.tmp rfl) .nil)) ?_ | refine tk_retM rfl (by repeat constructor) rfl (.cons (.tmp rfl) (.cons (.tmp rfl) .nil)) ?_
        all_goals (
         first
         | (have e1 : verdictsE s r = ([], rangedF s r) := by unfold verdictsE; rw [if_pos hc]
            exact fun w' hw' => ⟨.slice none 0 0, by rw [e1]; rfl, hw'.fr (by simp), by rw [e1]; exact RdI.nil _⟩)
         | (have e1 : verdictsE s r = (verdictsL s r (s.weights.length + 1), 0) := by unfold verdictsE; rw [if_neg (by omega)]
            refine fun w' hw' => ⟨.slice (some ⟨bd, 0, none⟩) (s.weights.length + 1) cap, by rw [e1]; rfl, hw'.fr (by simp), ?_⟩
            rw [e1]
            have := RdI.own (xs := verdictsL s r (s.weights.length + 1)) (cap := cap) hw' (by repeat constructor)
            rw [verdictsL_len] at this
            exact this))
      · intro D c s hJ; exact hJ.elim))
end Go.Sp
