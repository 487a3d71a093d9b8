/-
  The reference: lists by bits, which is less; the smallest set, the fewest loads.
-/
import Derived.Test.YtdmnmhkonfadhaaM
set_option linter.unusedVariables false
set_option linter.unusedSimpArgs false
set_option linter.deprecated false
namespace Go.Sp
open Go Go.Proofs
/-- The first difference decides. -/
def lexLt : List Int → List Int → Bool
  | [], _ => false
  | _, [] => false
  | x :: xs, y :: ys => if x = y then lexLt xs ys else decide (x < y)
def lessF (a b : List Int) : Bool := if a.length = b.length then lexLt a b else decide (a.length < b.length)
theorem lex_hit : ∀ (a b : List Int) (i : Nat), a.length = b.length → i < a.length → (∀ j, j < i → a.getD j 0 = b.getD j 0) → a.getD i 0 ≠ b.getD i 0 → lexLt a b = decide (a.getD i 0 < b.getD i 0)
  | [], _, i, _, hi, _, _ => absurd hi (Nat.not_lt_zero i)
  | _ :: _, [], _, h, _, _, _ => by simp at h
  | x :: xs, y :: ys, 0, _, _, _, hne => by simp at hne; simp [lexLt, hne]
  | x :: xs, y :: ys, i + 1, h, hi, hj, hne => by
    have h0 : x = y := by simpa using hj 0 (Nat.succ_pos i)
    have ih := lex_hit xs ys i (by simpa using h) (by simpa using hi) (fun j hj' => by simpa using hj (j + 1) (by omega)) (by simpa using hne)
    simp only [lexLt, if_pos h0, ih, List.getD_cons_succ]
theorem lex_eq : ∀ (a b : List Int), a.length = b.length → (∀ j, j < a.length → a.getD j 0 = b.getD j 0) → lexLt a b = false
  | [], _, _, _ => by simp [lexLt]
  | _ :: _, [], h, _ => by simp at h
  | x :: xs, y :: ys, h, hj => by
    have h0 : x = y := by simpa using hj 0 (by simp)
    have ih := lex_eq xs ys (by simpa using h) (fun j hj' => by simpa using hj (j + 1) (by simpa using hj'))
    simp only [lexLt, if_pos h0, ih]
theorem less_c (a b : List Int) (ha : (a.length : Int) ≤ 9000000000000000000) (hb : (b.length : Int) ≤ 9000000000000000000) (av bv : Value) (w : World) (hA : RdI w av a) (hB : RdI w bv b) :
    CnV Try.prog 44 #[av, bv] w (.bool (lessF a b)) := by
  obtain ⟨ad, cap, b0, o, rfl, had, hcell⟩ := hA.open
  obtain ⟨ad2, cap2, b02, o2, rfl, had2, hcell2⟩ := hB.open
  refine cnv (vs := [_, _]) Try.func44 rfl rfl ?_
  all_goals refine tc_seq fun K1 hK1 => ?_
  all_goals refine tc_region ?_
  all_goals refine tl_q (y_assign rfl) rfl ?_
  all_goals refine tl_nil ?_
  all_goals (refine hK1 ?_; try (clear hK1; clear K1))
  all_goals refine tc_seq fun K2 hK2 => ?_
  all_goals refine tc_seq fun K3 hK3 => ?_
  all_goals refine tc_region ?_
  all_goals refine tl_q (y_assign rfl) rfl ?_
  all_goals refine tl_nil ?_
  all_goals (refine hK3 ?_; try (clear hK3; clear K3))
  all_goals refine tc_block ?_
  all_goals (
   refine tc_loop (fun n : Nat => n ≤ a.length ∧ (a.length = b.length ∨ n = 0) ∧ ∀ j : Nat, j < n → a.getD j 0 = b.getD j 0) (fun n => [(0, .slice ad a.length cap), (1, .slice ad2 b.length cap2), (5, vi n)]) (fun _ => [(w, [])]) (fun _ => []) (fun n => a.length - n) ?_ ?_
   · exact tk_start 0 ⟨Nat.zero_le _, .inr rfl, fun i hi => absurd hi (Nat.not_lt_zero i)⟩ (.cons rfl (.cons rfl (.cons rfl .nil))) (fun _ h => h)
   · rintro n ⟨hn, hab, hI⟩
     all_goals refine tc_seq fun K4 hK4 => ?_
     all_goals refine tc_seq fun K5 hK5 => ?_
     all_goals refine tc_region ?_
     all_goals refine tl_q (y_move rfl) rfl ?_
     all_goals refine tl_q (y_move rfl) rfl ?_
     all_goals refine tl_q (y_len rfl) rfl ?_
     all_goals refine tl_q (y_lss rfl rfl) rfl ?_
     all_goals refine tl_q (y_move rfl) rfl ?_
     all_goals (first | refine tl_sk rfl rfl rfl rfl ?_ | refine tl_qg rfl rfl (y_move rfl) rfl ?_ | refine tl_su rfl rfl rfl ?_ | (refine tl_gs rfl rfl (fun hc => ?_) (fun hc => ?_) <;> (try simp only [decide_eq_true_eq, decide_eq_false_iff_not, Int.not_lt, Int.not_le, Bool.not_eq_true', Bool.not_eq_false', Decidable.not_not, not_true_eq_false] at hc) <;> (first | (exfalso; omega) | refine tl_sk rfl rfl rfl rfl ?_ | refine tl_qg rfl rfl (y_move rfl) rfl ?_ | refine tl_su rfl rfl rfl ?_)))
     all_goals (first | refine tl_sk rfl rfl rfl rfl ?_ | refine tl_qg rfl rfl (y_len rfl) rfl ?_ | refine tl_su rfl rfl rfl ?_ | (refine tl_gs rfl rfl (fun hc => ?_) (fun hc => ?_) <;> (try simp only [decide_eq_true_eq, decide_eq_false_iff_not, Int.not_lt, Int.not_le, Bool.not_eq_true', Bool.not_eq_false', Decidable.not_not, not_true_eq_false] at hc) <;> (first | (exfalso; omega) | refine tl_sk rfl rfl rfl rfl ?_ | refine tl_qg rfl rfl (y_len rfl) rfl ?_ | refine tl_su rfl rfl rfl ?_)))
     all_goals (first | refine tl_sk rfl rfl rfl rfl ?_ | refine tl_qg rfl rfl (y_move rfl) rfl ?_ | refine tl_su rfl rfl rfl ?_ | (refine tl_gs rfl rfl (fun hc => ?_) (fun hc => ?_) <;> (try simp only [decide_eq_true_eq, decide_eq_false_iff_not, Int.not_lt, Int.not_le, Bool.not_eq_true', Bool.not_eq_false', Decidable.not_not, not_true_eq_false] at hc) <;> (first | (exfalso; omega) | refine tl_sk rfl rfl rfl rfl ?_ | refine tl_qg rfl rfl (y_move rfl) rfl ?_ | refine tl_su rfl rfl rfl ?_)))
     all_goals (first | refine tl_sk rfl rfl rfl rfl ?_ | refine tl_qg rfl rfl (y_len rfl) rfl ?_ | refine tl_su rfl rfl rfl ?_ | (refine tl_gs rfl rfl (fun hc => ?_) (fun hc => ?_) <;> (try simp only [decide_eq_true_eq, decide_eq_false_iff_not, Int.not_lt, Int.not_le, Bool.not_eq_true', Bool.not_eq_false', Decidable.not_not, not_true_eq_false] at hc) <;> (first | (exfalso; omega) | refine tl_sk rfl rfl rfl rfl ?_ | refine tl_qg rfl rfl (y_len rfl) rfl ?_ | refine tl_su rfl rfl rfl ?_)))
     all_goals (first | refine tl_sk rfl rfl rfl rfl ?_ | refine tl_qg rfl rfl (y_eql rfl rfl) rfl ?_ | refine tl_su rfl rfl rfl ?_ | (refine tl_gs rfl rfl (fun hc => ?_) (fun hc => ?_) <;> (try simp only [decide_eq_true_eq, decide_eq_false_iff_not, Int.not_lt, Int.not_le, Bool.not_eq_true', Bool.not_eq_false', Decidable.not_not, not_true_eq_false] at hc) <;> (first | (exfalso; omega) | refine tl_sk rfl rfl rfl rfl ?_ | refine tl_qg rfl rfl (y_eql rfl rfl) rfl ?_ | refine tl_su rfl rfl rfl ?_)))
     all_goals (first | refine tl_q (y_pick_t rfl rfl) rfl ?_ | refine tl_q (y_pick_f rfl rfl) rfl ?_)
     all_goals refine tl_nil ?_
     all_goals (refine hK5 ?_; try (clear hK5; clear K5))
     all_goals (
      refine tc_cond rfl (fun hc => ?_) (fun hc => ?_)
      · try simp only [decide_eq_true_eq, decide_eq_false_iff_not, Int.not_lt, Int.not_le, Bool.not_eq_true', Bool.not_eq_false', Decidable.not_not, not_true_eq_false] at hc
        all_goals first | (exfalso; with_reducible exact bft hc) | (exfalso; with_reducible exact btf hc) | (exfalso; omega) | skip
        all_goals refine tc_skip ?_
        all_goals (refine hK4 ?_; try (clear hK4; clear K4))
        all_goals refine tc_seq fun K6 hK6 => ?_
        all_goals refine tc_block ?_
        all_goals refine tc_seq fun K7 hK7 => ?_
        all_goals (have had' := had (by omega); have had2' := had2 (by omega))
        all_goals refine tc_draw (by kernel_rfl) ?_
        all_goals refine tx_p 0 rfl (by kernel_rfl) (y_move rfl) rfl (fun _ _ _ h => h) (fun _ h => h) ?_
        all_goals refine tx_p 1 rfl (by kernel_rfl) (y_move rfl) rfl (fun _ _ _ h => h) (fun _ h => h) ?_
        all_goals (first | refine tx_p 2 rfl (by kernel_rfl) (y_index rfl rfl (by omega) had') rfl (fun _ _ _ h => h) (fun _ h => h) ?_ | refine tx_p 2 rfl (by kernel_rfl) (y_index rfl rfl (by omega) had2') rfl (fun _ _ _ h => h) (fun _ h => h) ?_ | refine tx_p 2 rfl (by kernel_rfl) (y_index rfl rfl (by omega) rfl) rfl (fun _ _ _ h => h) (fun _ h => h) ?_ | refine tx_p 2 rfl (by kernel_rfl) (y_indexA rfl rfl (by omega)) rfl (fun _ _ _ h => h) (fun _ h => h) ?_)
        all_goals (first | refine tx_q 3 rfl (by kernel_rfl) (y_load1 rfl (by repeat constructor) (by rfl)) rfl (fun _ _ _ h => h) (fun _ h => h) ?_ | refine tx_q 3 rfl (by kernel_rfl) (y_load1o (v := vi (a.getD n 0)) rfl (fun w' hw' => by rw [show Int.toNat (n : Int) * 1 = n from by omega]; exact hcell w' (hw'.fr (by simp)) n (by omega))) rfl (fun _ _ _ h => h) (fun _ h => h) ?_ | refine tx_q 3 rfl (by kernel_rfl) (y_load1o (v := vi (b.getD n 0)) rfl (fun w' hw' => by rw [show Int.toNat (n : Int) * 1 = n from by omega]; exact hcell2 w' (hw'.fr (by simp)) n (by omega))) rfl (fun _ _ _ h => h) (fun _ h => h) ?_)
        all_goals refine tx_p 4 rfl (by kernel_rfl) (y_move rfl) rfl (fun _ _ _ h => h) (fun _ h => h) ?_
        all_goals refine tx_p 5 rfl (by kernel_rfl) (y_move rfl) rfl (fun _ _ _ h => h) (fun _ h => h) ?_
        all_goals (first | refine tx_p 6 rfl (by kernel_rfl) (y_index rfl rfl (by omega) had') rfl (fun _ _ _ h => h) (fun _ h => h) ?_ | refine tx_p 6 rfl (by kernel_rfl) (y_index rfl rfl (by omega) had2') rfl (fun _ _ _ h => h) (fun _ h => h) ?_ | refine tx_p 6 rfl (by kernel_rfl) (y_index rfl rfl (by omega) rfl) rfl (fun _ _ _ h => h) (fun _ h => h) ?_ | refine tx_p 6 rfl (by kernel_rfl) (y_indexA rfl rfl (by omega)) rfl (fun _ _ _ h => h) (fun _ h => h) ?_)
        all_goals (first | refine tx_q 7 rfl (by kernel_rfl) (y_load1 rfl (by repeat constructor) (by rfl)) rfl (fun _ _ _ h => h) (fun _ h => h) ?_ | refine tx_q 7 rfl (by kernel_rfl) (y_load1o (v := vi (a.getD n 0)) rfl (fun w' hw' => by rw [show Int.toNat (n : Int) * 1 = n from by omega]; exact hcell w' (hw'.fr (by simp)) n (by omega))) rfl (fun _ _ _ h => h) (fun _ h => h) ?_ | refine tx_q 7 rfl (by kernel_rfl) (y_load1o (v := vi (b.getD n 0)) rfl (fun w' hw' => by rw [show Int.toNat (n : Int) * 1 = n from by omega]; exact hcell2 w' (hw'.fr (by simp)) n (by omega))) rfl (fun _ _ _ h => h) (fun _ h => h) ?_)
        all_goals refine tx_p 8 rfl (by kernel_rfl) (y_neq rfl rfl) rfl (fun _ _ _ h => h) (fun _ h => h) ?_
        all_goals refine tx_done (by kernel_rfl) ?_
        all_goals (refine hK7 ?_; try (clear hK7; clear K7))
        all_goals (
         refine tc_cond rfl (fun hc => ?_) (fun hc => ?_)
         · try simp only [decide_eq_true_eq, decide_eq_false_iff_not, Int.not_lt, Int.not_le, Bool.not_eq_true', Bool.not_eq_false', Decidable.not_not, not_true_eq_false] at hc
           all_goals first | (exfalso; with_reducible exact bft hc) | (exfalso; with_reducible exact btf hc) | (exfalso; omega) | skip
           all_goals refine tc_seq fun K8 hK8 => ?_
           all_goals refine tc_draw (by kernel_rfl) ?_
           all_goals refine tx_p 0 rfl (by kernel_rfl) (y_move rfl) rfl (fun _ _ _ h => h) (fun _ h => h) ?_
           all_goals refine tx_p 1 rfl (by kernel_rfl) (y_move rfl) rfl (fun _ _ _ h => h) (fun _ h => h) ?_
           all_goals (first | refine tx_p 2 rfl (by kernel_rfl) (y_index rfl rfl (by omega) had') rfl (fun _ _ _ h => h) (fun _ h => h) ?_ | refine tx_p 2 rfl (by kernel_rfl) (y_index rfl rfl (by omega) had2') rfl (fun _ _ _ h => h) (fun _ h => h) ?_ | refine tx_p 2 rfl (by kernel_rfl) (y_index rfl rfl (by omega) rfl) rfl (fun _ _ _ h => h) (fun _ h => h) ?_ | refine tx_p 2 rfl (by kernel_rfl) (y_indexA rfl rfl (by omega)) rfl (fun _ _ _ h => h) (fun _ h => h) ?_)
           all_goals (first | refine tx_q 3 rfl (by kernel_rfl) (y_load1 rfl (by repeat constructor) (by rfl)) rfl (fun _ _ _ h => h) (fun _ h => h) ?_ | refine tx_q 3 rfl (by kernel_rfl) (y_load1o (v := vi (a.getD n 0)) rfl (fun w' hw' => by rw [show Int.toNat (n : Int) * 1 = n from by omega]; exact hcell w' (hw'.fr (by simp)) n (by omega))) rfl (fun _ _ _ h => h) (fun _ h => h) ?_ | refine tx_q 3 rfl (by kernel_rfl) (y_load1o (v := vi (b.getD n 0)) rfl (fun w' hw' => by rw [show Int.toNat (n : Int) * 1 = n from by omega]; exact hcell2 w' (hw'.fr (by simp)) n (by omega))) rfl (fun _ _ _ h => h) (fun _ h => h) ?_)
           all_goals refine tx_p 4 rfl (by kernel_rfl) (y_move rfl) rfl (fun _ _ _ h => h) (fun _ h => h) ?_
           all_goals refine tx_p 5 rfl (by kernel_rfl) (y_move rfl) rfl (fun _ _ _ h => h) (fun _ h => h) ?_
           all_goals (first | refine tx_p 6 rfl (by kernel_rfl) (y_index rfl rfl (by omega) had') rfl (fun _ _ _ h => h) (fun _ h => h) ?_ | refine tx_p 6 rfl (by kernel_rfl) (y_index rfl rfl (by omega) had2') rfl (fun _ _ _ h => h) (fun _ h => h) ?_ | refine tx_p 6 rfl (by kernel_rfl) (y_index rfl rfl (by omega) rfl) rfl (fun _ _ _ h => h) (fun _ h => h) ?_ | refine tx_p 6 rfl (by kernel_rfl) (y_indexA rfl rfl (by omega)) rfl (fun _ _ _ h => h) (fun _ h => h) ?_)
           all_goals (first | refine tx_q 7 rfl (by kernel_rfl) (y_load1 rfl (by repeat constructor) (by rfl)) rfl (fun _ _ _ h => h) (fun _ h => h) ?_ | refine tx_q 7 rfl (by kernel_rfl) (y_load1o (v := vi (a.getD n 0)) rfl (fun w' hw' => by rw [show Int.toNat (n : Int) * 1 = n from by omega]; exact hcell w' (hw'.fr (by simp)) n (by omega))) rfl (fun _ _ _ h => h) (fun _ h => h) ?_ | refine tx_q 7 rfl (by kernel_rfl) (y_load1o (v := vi (b.getD n 0)) rfl (fun w' hw' => by rw [show Int.toNat (n : Int) * 1 = n from by omega]; exact hcell2 w' (hw'.fr (by simp)) n (by omega))) rfl (fun _ _ _ h => h) (fun _ h => h) ?_)
           all_goals refine tx_p 8 rfl (by kernel_rfl) (y_lss rfl rfl) rfl (fun _ _ _ h => h) (fun _ h => h) ?_
           all_goals refine tx_p 9 rfl (by kernel_rfl) (y_assign rfl) rfl (fun _ _ _ h => h) (fun _ h => h) ?_
           all_goals refine tx_done (by kernel_rfl) ?_
           all_goals (refine hK8 ?_; try (clear hK8; clear K8))
           all_goals refine tc_ret ?_
           all_goals (repeat (first | refine tk_then_ret ?_ | refine tk_block_ret ?_ | refine tk_scope_ret ?_))
           all_goals first | refine tk_ret rfl rfl (.cons (.tmp rfl) .nil) ?_ | refine tk_retM rfl (by repeat constructor) rfl (.cons (.tmp rfl) .nil) ?_
           all_goals (
            refine fun w' hw' => ⟨congrArg (fun n => Ending.returned (Value.bool n)) ?_, hw'.fr (by simp)⟩
            unfold lessF
            by_cases hlen : a.length = b.length
            all_goals first
            | (exfalso; omega)
            | (rw [if_pos (by omega), lex_hit a b n (by omega) (by omega) hI (by omega)]; done)
            | (rw [if_pos (by omega), lex_eq a b (by omega) (fun j hj => hI j (by omega))]; exact decide_eq_false (by omega))
            | (rw [if_neg (by omega)]; simp only [decide_eq_decide]; omega))
         · try simp only [decide_eq_true_eq, decide_eq_false_iff_not, Int.not_lt, Int.not_le, Bool.not_eq_true', Bool.not_eq_false', Decidable.not_not, not_true_eq_false] at hc
           all_goals first | (exfalso; with_reducible exact bft hc) | (exfalso; with_reducible exact btf hc) | (exfalso; omega) | skip
           all_goals refine tc_skip ?_
           all_goals (refine hK6 ?_; try (clear hK6; clear K6))
           all_goals refine tc_region ?_
           all_goals refine tl_q (y_move rfl) rfl ?_
           all_goals refine tl_q (y_add rfl rfl (by omega)) rfl ?_
           all_goals refine tl_q (y_assign rfl) rfl ?_
           all_goals refine tl_nil ?_
           all_goals (
            exact tk_round (n + 1) ⟨by omega, .inl (by omega), fun i hi => by
              rcases Nat.lt_succ_iff_lt_or_eq.1 hi with h | rfl
              · exact hI i h
              · exact hc⟩ (by omega) (.cons rfl (.cons rfl (.cons rfl .nil))) (fun _ h => h)))
      · try simp only [decide_eq_true_eq, decide_eq_false_iff_not, Int.not_lt, Int.not_le, Bool.not_eq_true', Bool.not_eq_false', Decidable.not_not, not_true_eq_false] at hc
        all_goals first | (exfalso; with_reducible exact bft hc) | (exfalso; with_reducible exact btf hc) | (exfalso; omega) | skip
        all_goals refine tc_exit ?_
        all_goals (refine hK2 ?_; try (clear hK2; clear K2))
        all_goals refine tc_seq fun K9 hK9 => ?_
        all_goals refine tc_region ?_
        all_goals refine tl_q (y_move rfl) rfl ?_
        all_goals refine tl_q (y_len rfl) rfl ?_
        all_goals refine tl_q (y_move rfl) rfl ?_
        all_goals refine tl_q (y_len rfl) rfl ?_
        all_goals refine tl_q (y_lss rfl rfl) rfl ?_
        all_goals refine tl_q (y_assign rfl) rfl ?_
        all_goals refine tl_nil ?_
        all_goals (refine hK9 ?_; try (clear hK9; clear K9))
        all_goals refine tc_ret ?_
        all_goals (repeat (first | refine tk_then_ret ?_ | refine tk_block_ret ?_ | refine tk_scope_ret ?_))
        all_goals first | refine tk_ret rfl rfl (.cons (.tmp rfl) .nil) ?_ | refine tk_retM rfl (by repeat constructor) rfl (.cons (.tmp rfl) .nil) ?_
        all_goals (
         refine fun w' hw' => ⟨congrArg (fun n => Ending.returned (Value.bool n)) ?_, hw'.fr (by simp)⟩
         unfold lessF
         by_cases hlen : a.length = b.length
         all_goals first
         | (exfalso; omega)
         | (rw [if_pos (by omega), lex_hit a b n (by omega) (by omega) hI (by omega)]; done)
         | (rw [if_pos (by omega), lex_eq a b (by omega) (fun j hj => hI j (by omega))]; exact decide_eq_false (by omega))
         | (rw [if_neg (by omega)]; simp only [decide_eq_decide]; omega))))
def bitB (b : Int) (i : Nat) : Bool := decide (b / 2 ^ i % 2 = 1)
def bitsN (b : Int) (n : Nat) : List Int := ((List.range n).filter (bitB b)).map fun (i : Nat) => (i : Int)
def bitsL (b : Int) : List Int := bitsN b 16
theorem bitsN_succ (b : Int) (n : Nat) : bitsN b (n + 1) = if bitB b n = true then bitsN b n ++ [(n : Int)] else bitsN b n := by
  unfold bitsN
  rw [List.range_succ, List.filter_append, List.map_append]
  cases h : bitB b n <;> simp [h]
theorem bitsN_len (b : Int) (n : Nat) : (bitsN b n).length ≤ n := by
  unfold bitsN
  rw [List.length_map]
  exact Nat.le_trans (List.length_filter_le _ _) (by simp)
theorem bits_c (b : Int) (hb : 0 ≤ b) (w : World) : CnX Try.prog 45 #[vi b] w [] (fun v : Value => v) (fun v w' => RdI w' v (bitsL b)) := by
  refine cnx0 (vs := [_]) Try.func45 rfl rfl ?_
  all_goals refine tc_seq fun K1 hK1 => ?_
  all_goals refine tc_region ?_
  all_goals refine tl_q (y_assign rfl) rfl ?_
  all_goals refine tl_nil ?_
  all_goals (refine hK1 ?_; try (clear hK1; clear K1))
  all_goals refine tc_seq fun K2 hK2 => ?_
  all_goals refine tc_region ?_
  all_goals refine tl_q (y_assign rfl) rfl ?_
  all_goals refine tl_nil ?_
  all_goals (refine hK2 ?_; try (clear hK2; clear K2))
  all_goals refine tc_seq fun K3 hK3 => ?_
  all_goals refine tc_seq fun K4 hK4 => ?_
  all_goals refine tc_region ?_
  all_goals refine tl_q (y_assign rfl) rfl ?_
  all_goals refine tl_nil ?_
  all_goals (refine hK4 ?_; try (clear hK4; clear K4))
  all_goals refine tc_block ?_
  all_goals (
   refine tc_loop (fun p : Nat × Option (Nat × Nat × List Value) => p.1 ≤ 16 ∧ outOk ((bitsN b p.1).length, p.2)) (fun p => [(0, vi b), (3, outV' ((bitsN b p.1).length, p.2)), (4, vi p.1)]) (fun _ => [(w, [])]) (fun p => match p.2 with | none => [] | some (b0, cap, junk) => [(b0, .cells ((bitsN b p.1).map vi ++ junk).toArray 3 (0, 0))]) (fun p => 16 - p.1) ?_ ?_
   · exact tk_start (0, none) ⟨Nat.zero_le _, rfl⟩ (.cons rfl (.cons rfl (.cons rfl .nil))) (fun _ h => h)
   · rintro ⟨n, o⟩ ⟨hn, hok⟩
     have hlen := bitsN_len b n
     have hdv : 0 ≤ b / 2 ^ (n : Int).toNat := Int.ediv_nonneg hb (Int.le_of_lt (Int.pow_pos (by decide)))
     rcases o with _ | ⟨b0, cap, junk⟩
     all_goals (dsimp only [outOk] at hn hok ⊢; dsimp only [outV'])
     all_goals refine tc_seq fun K5 hK5 => ?_
     all_goals refine tc_seq fun K6 hK6 => ?_
     all_goals refine tc_region ?_
     all_goals refine tl_q (y_move rfl) rfl ?_
     all_goals refine tl_q (y_lss rfl rfl) rfl ?_
     all_goals refine tl_nil ?_
     all_goals (refine hK6 ?_; try (clear hK6; clear K6))
     all_goals (
      refine tc_cond rfl (fun hc => ?_) (fun hc => ?_)
      · simp only [decide_eq_true_eq, decide_eq_false_iff_not, Int.not_lt, Int.toNat_natCast] at hc
        all_goals first | (exfalso; with_reducible exact bft hc) | (exfalso; with_reducible exact btf hc) | (exfalso; omega) | skip
        all_goals refine tc_skip ?_
        all_goals (refine hK5 ?_; try (clear hK5; clear K5))
        all_goals refine tc_seq fun K7 hK7 => ?_
        all_goals refine tc_block ?_
        all_goals refine tc_seq fun K8 hK8 => ?_
        all_goals refine tc_region ?_
        all_goals refine tl_q (y_move rfl) rfl ?_
        all_goals refine tl_q (y_move rfl) rfl ?_
        all_goals (first | refine tl_q (y_conv64 rfl (by omega)) rfl ?_ | refine tl_q (y_conv rfl (by simp only [IntKind.wrap, IntKind.bits, IntKind.signed, Bool.false_and, Bool.true_and, Bool.false_eq_true, if_false, decide_eq_true_eq]; omega)) rfl ?_)
        all_goals refine tl_q (y_shr rfl rfl (by omega)) rfl ?_
        all_goals refine tl_q (y_rem rfl rfl (by omega) (by omega)) rfl ?_
        all_goals refine tl_q (y_eql rfl rfl) rfl ?_
        all_goals refine tl_nil ?_
        all_goals (refine hK8 ?_; try (clear hK8; clear K8))
        all_goals (
         refine tc_cond rfl (fun hc => ?_) (fun hc => ?_)
         · simp only [decide_eq_true_eq, decide_eq_false_iff_not, Int.not_lt, Int.toNat_natCast] at hc
           all_goals first | (exfalso; with_reducible exact bft hc) | (exfalso; with_reducible exact btf hc) | (exfalso; omega) | skip
           all_goals refine tc_region ?_
           all_goals refine tl_q (y_move rfl) rfl ?_
           all_goals refine tl_q (y_move rfl) rfl ?_
           all_goals refine tl_e (e_bslice rfl (by (repeat (first | exact .nil | apply PV.one rfl rfl | apply PV.two rfl)); done) rfl rfl) rfl (fun _ _ => ?_)
           all_goals (first | refine tl_e (e_append_own (old := (bitsN b n).map vi) (junk := junk) rfl rfl rfl (by repeat constructor) (by simp) (by omega) hok.1 (fun w' hw' => RdI.own0 (xs := [(n : Int)]) hw' (by repeat constructor)) (fun u hu => by obtain ⟨_, _, rfl⟩ := List.mem_map.1 hu; rfl) (by simp only [List.length_cons, List.length_nil]; omega) rfl) rfl (fun y hy => ?_) | refine tl_e (e_append_nil rfl rfl rfl (fun w' hw' => RdI.own0 (xs := [(n : Int)]) hw' (by repeat constructor)) (fun u hu => by obtain ⟨_, _, rfl⟩ := List.mem_map.1 hu; rfl) Nat.zero_lt_one (Nat.le_of_ble_eq_true rfl) rfl) rfl (fun y hy => ?_))
           all_goals refine tl_q (y_assign rfl) rfl ?_
           all_goals refine tl_nil ?_
           all_goals (refine hK7 ?_; try (clear hK7; clear K7))
           all_goals refine tc_region ?_
           all_goals refine tl_q (y_move rfl) rfl ?_
           all_goals refine tl_q (y_add rfl rfl (by omega)) rfl ?_
           all_goals refine tl_q (y_assign rfl) rfl ?_
           all_goals refine tl_nil ?_
           all_goals (
            first
            | (have hs : bitsN b (n + 1) = bitsN b n ++ [(n : Int)] := by rw [bitsN_succ, if_pos (show bitB b n = true from decide_eq_true hc)]
               refine tk_round (n + 1, some (y.1, y.2.1, y.2.2)) ⟨by omega, ?_⟩ (by omega) (.cons rfl (.cons ?_ (.cons rfl .nil))) (fun _ h => ?_)
               · dsimp only [outOk]; rw [hs, List.length_append]; simp only [List.length_cons, List.length_nil] at hy ⊢; omega
               · dsimp only [outV']; rw [hs, List.length_append]; first | rfl | (rw [hok]; rfl)
               · dsimp only; rw [hs, List.map_append]; first | (rw [show bitsN b n = [] from List.eq_nil_of_length_eq_zero hok, List.map_nil, List.nil_append]; exact h.sub (fun _ h => h) (SB.s (by repeat constructor))) | exact h.sub (fun _ h => h) (SB.s (by repeat constructor)))
            | (have hs : bitsN b (n + 1) = bitsN b n := by rw [bitsN_succ, if_neg (show ¬ bitB b n = true from fun h => hc (of_decide_eq_true h))]
               first
               | (refine tk_round (n + 1, none) ⟨by omega, by dsimp only [outOk]; rw [hs]; exact hok⟩ (by omega) (.cons rfl (.cons rfl (.cons rfl .nil))) (fun _ h => h.sub (fun _ h => h) (SB.s (by repeat constructor))))
               | (refine tk_round (n + 1, some (b0, cap, junk)) ⟨by omega, by dsimp only [outOk]; rw [hs]; exact hok⟩ (by omega) (.cons rfl (.cons ?_ (.cons rfl .nil))) (fun _ h => ?_)
                  · dsimp only [outV']; rw [hs]; rfl
                  · dsimp only; rw [hs]; exact h.sub (fun _ h => h) (SB.s (by repeat constructor)))))
         · simp only [decide_eq_true_eq, decide_eq_false_iff_not, Int.not_lt, Int.toNat_natCast] at hc
           all_goals first | (exfalso; with_reducible exact bft hc) | (exfalso; with_reducible exact btf hc) | (exfalso; omega) | skip
           all_goals refine tc_skip ?_
           all_goals (refine hK7 ?_; try (clear hK7; clear K7))
           all_goals refine tc_region ?_
           all_goals refine tl_q (y_move rfl) rfl ?_
           all_goals refine tl_q (y_add rfl rfl (by omega)) rfl ?_
           all_goals refine tl_q (y_assign rfl) rfl ?_
           all_goals refine tl_nil ?_
           all_goals (
            first
            | (have hs : bitsN b (n + 1) = bitsN b n ++ [(n : Int)] := by rw [bitsN_succ, if_pos (show bitB b n = true from decide_eq_true hc)]
               refine tk_round (n + 1, some (y.1, y.2.1, y.2.2)) ⟨by omega, ?_⟩ (by omega) (.cons rfl (.cons ?_ (.cons rfl .nil))) (fun _ h => ?_)
               · dsimp only [outOk]; rw [hs, List.length_append]; simp only [List.length_cons, List.length_nil] at hy ⊢; omega
               · dsimp only [outV']; rw [hs, List.length_append]; first | rfl | (rw [hok]; rfl)
               · dsimp only; rw [hs, List.map_append]; first | (rw [show bitsN b n = [] from List.eq_nil_of_length_eq_zero hok, List.map_nil, List.nil_append]; exact h.sub (fun _ h => h) (SB.s (by repeat constructor))) | exact h.sub (fun _ h => h) (SB.s (by repeat constructor)))
            | (have hs : bitsN b (n + 1) = bitsN b n := by rw [bitsN_succ, if_neg (show ¬ bitB b n = true from fun h => hc (of_decide_eq_true h))]
               first
               | (refine tk_round (n + 1, none) ⟨by omega, by dsimp only [outOk]; rw [hs]; exact hok⟩ (by omega) (.cons rfl (.cons rfl (.cons rfl .nil))) (fun _ h => h.sub (fun _ h => h) (SB.s (by repeat constructor))))
               | (refine tk_round (n + 1, some (b0, cap, junk)) ⟨by omega, by dsimp only [outOk]; rw [hs]; exact hok⟩ (by omega) (.cons rfl (.cons ?_ (.cons rfl .nil))) (fun _ h => ?_)
                  · dsimp only [outV']; rw [hs]; rfl
                  · dsimp only; rw [hs]; exact h.sub (fun _ h => h) (SB.s (by repeat constructor))))))
      · simp only [decide_eq_true_eq, decide_eq_false_iff_not, Int.not_lt, Int.toNat_natCast] at hc
        all_goals first | (exfalso; with_reducible exact bft hc) | (exfalso; with_reducible exact btf hc) | (exfalso; omega) | skip
        all_goals refine tc_exit ?_
        all_goals (refine hK3 ?_; try (clear hK3; clear K3))
        all_goals refine tc_seq fun K9 hK9 => ?_
        all_goals refine tc_region ?_
        all_goals refine tl_q (y_move rfl) rfl ?_
        all_goals refine tl_q (y_assign rfl) rfl ?_
        all_goals refine tl_nil ?_
        all_goals (refine hK9 ?_; try (clear hK9; clear K9))
        all_goals refine tc_ret ?_
        all_goals (repeat (first | refine tk_then_ret ?_ | refine tk_block_ret ?_ | refine tk_scope_ret ?_))
        all_goals first | refine tk_ret rfl rfl (.cons (.tmp rfl) .nil) ?_ | refine tk_retM rfl (by repeat constructor) rfl (.cons (.tmp rfl) .nil) ?_
        all_goals (
         have hn16 : n = 16 := by omega
         subst hn16
         first
         | exact fun w' hw' => ⟨_, rfl, hw'.fr (by simp), by unfold bitsL; rw [show bitsN b 16 = [] from List.eq_nil_of_length_eq_zero hok]; exact RdI.nil _⟩
         | exact fun w' hw' => ⟨_, rfl, hw'.fr (by simp), RdI.own (xs := bitsN b 16) (cap := cap) (junk := junk) hw' (by repeat constructor)⟩)))
theorem bitsL_len (b : Int) : (bitsL b).length ≤ 16 := bitsN_len b 16
theorem pow_bd {n m : Nat} (h : n ≤ m) : 1 ≤ (2 : Int) ^ n ∧ (2 : Int) ^ n ≤ 2 ^ m := by
  obtain ⟨k, rfl⟩ : ∃ k, m = n + k := ⟨m - n, by omega⟩
  have h1 : 0 < (2 : Int) ^ n := Int.pow_pos (by decide)
  have h2 : 0 < (2 : Int) ^ k := Int.pow_pos (by decide)
  refine ⟨by omega, ?_⟩
  rw [Int.pow_add]
  have := Int.mul_le_mul_of_nonneg_left (show (1 : Int) ≤ 2 ^ k by omega) (Int.le_of_lt h1)
  omega
def rLeaveStep (s : Sn) (l : List (Int × Int)) (best : List Int) (n : Nat) : List Int := if lessF (bitsL n) best = true ∧ 0 < (rAll s l n).2 then bitsL n else best
def rLeaveN (s : Sn) (l : List (Int × Int)) (n : Nat) : List Int := (List.range n).foldl (rLeaveStep s l) (bitsL (2 ^ l.length - 1))
theorem rLeaveN_succ (s : Sn) (l : List (Int × Int)) (n : Nat) : rLeaveN s l (n + 1) = rLeaveStep s l (rLeaveN s l n) n := by simp [rLeaveN, List.range_succ]
theorem rLeaveN_len (s : Sn) (l : List (Int × Int)) (n : Nat) : (rLeaveN s l n).length ≤ 16 := by
  induction n with
  | zero => exact bitsL_len _
  | succ n ih => rw [rLeaveN_succ]; unfold rLeaveStep; split; exact bitsL_len _; exact ih
def rLeave (s : Sn) (l : List (Int × Int)) : List Int := rLeaveN s l (2 ^ l.length)
theorem rleave_c (s : Sn) (hs : VS s) (l : List (Int × Int)) (hl : l.length ≤ 6) (hok : l.all (rdOk s) = true) (sl lv : Value) (w : World) (hr : RdI w sl s.weights) (hR : RdR w lv l) :
    CnX Try.prog 37 #[spV s sl, lv] w [] (fun v : Value => v) (fun v w' => RdI w' v (rLeave s l)) := by
  have hR0 := hR
  have hp : 1 ≤ (2 : Int) ^ (l.length : Int).toNat ∧ (2 : Int) ^ (l.length : Int).toNat ≤ 64 := pow_bd (m := 6) (by omega)
  have hpn : ((2 ^ l.length : Nat) : Int) = (2 : Int) ^ (l.length : Int).toNat := by rw [Int.toNat_natCast]; simp
  obtain ⟨ad, cp, b0, o, rfl, had, hcell⟩ := hR.open
  refine cnx0 (vs := [_, _]) Try.func37 rfl rfl ?_
  all_goals refine tc_seq fun K1 hK1 => ?_
  all_goals refine tc_region ?_
  all_goals refine tl_e (e_box rfl rfl rfl) rfl (fun b2 _ => ?_)
  all_goals refine tl_q (y_assign rfl) rfl ?_
  all_goals refine tl_nil ?_
  all_goals (refine hK1 ?_; try (clear hK1; clear K1))
  all_goals refine tc_seq fun K2 hK2 => ?_
  refine tc_lay [] (List.nil_sublist _) (fun w1 hw1 => ?_)
  have hb2 := hw1.heap (b2, _) (HM.mem (by repeat constructor))
  all_goals refine tc_region ?_
  all_goals refine tl_q (y_move rfl) rfl ?_
  all_goals refine tl_q (y_len rfl) rfl ?_
  all_goals (first | refine tl_q (y_conv64 rfl (by omega)) rfl ?_ | refine tl_q (y_conv rfl (by simp only [IntKind.wrap, IntKind.bits, IntKind.signed, Bool.false_and, Bool.true_and, Bool.false_eq_true, if_false, decide_eq_true_eq]; omega)) rfl ?_)
  all_goals refine tl_q (y_shl rfl rfl (by omega) (by omega)) rfl ?_
  all_goals refine tl_q (y_sub rfl rfl (by omega)) rfl ?_
  all_goals refine tl_e (e_callX rfl (.cons rfl .nil) (fun w' _ => bits_c _ (by omega) w')) rfl (fun y hy => ?_)
  all_goals refine tl_q (y_assign rfl) rfl ?_
  all_goals refine tl_nil ?_
  all_goals (refine hK2 ?_; try (clear hK2; clear K2))
  all_goals refine tc_seq fun K3 hK3 => ?_
  all_goals refine tc_seq fun K4 hK4 => ?_
  all_goals refine tc_region ?_
  all_goals refine tl_q (y_assign rfl) rfl ?_
  all_goals refine tl_nil ?_
  all_goals (refine hK4 ?_; try (clear hK4; clear K4))
  all_goals refine tc_block ?_
  all_goals (
   refine tc_loop (fun p : Nat × Value × World => p.1 ≤ 2 ^ l.length ∧ RdI p.2.2 p.2.1 (rLeaveN s l p.1)) (fun p => [(1, .slice ad l.length cp), (2, ptr b2), (5, p.2.1), (6, vi p.1)]) (fun p => [(p.2.2, []), (w1, []), (w, [])]) (fun _ => []) (fun p => 2 ^ l.length - p.1) ?_ ?_
   · refine tk_start (0, y.1, y.2) ⟨Nat.zero_le _, ?_⟩ (.cons rfl (.cons rfl (.cons rfl (.cons rfl .nil)))) (fun _ h => h)
     have h1 := hy.1
     rw [show (1 : Int) * 2 ^ (l.length : Int).toNat - 1 = 2 ^ l.length - 1 from by rw [Int.toNat_natCast, Int.one_mul]] at h1
     exact h1
   · rintro ⟨n, v, wv⟩ ⟨hn, hv⟩
     dsimp only at hn hv ⊢
     have hlen := rLeaveN_len s l n
     all_goals refine tc_seq fun K5 hK5 => ?_
     all_goals refine tc_seq fun K6 hK6 => ?_
     all_goals refine tc_region ?_
     all_goals refine tl_q (y_move rfl) rfl ?_
     all_goals refine tl_q (y_move rfl) rfl ?_
     all_goals refine tl_q (y_len rfl) rfl ?_
     all_goals (first | refine tl_q (y_conv64 rfl (by omega)) rfl ?_ | refine tl_q (y_conv rfl (by simp only [IntKind.wrap, IntKind.bits, IntKind.signed, Bool.false_and, Bool.true_and, Bool.false_eq_true, if_false, decide_eq_true_eq]; omega)) rfl ?_)
     all_goals refine tl_q (y_shl rfl rfl (by omega) (by omega)) rfl ?_
     all_goals refine tl_q (y_lss rfl rfl) rfl ?_
     all_goals refine tl_nil ?_
     all_goals (refine hK6 ?_; try (clear hK6; clear K6))
     all_goals (
      refine tc_cond rfl (fun hc => ?_) (fun hc => ?_)
      · try simp only [decide_eq_true_eq, decide_eq_false_iff_not, Int.not_lt, Int.not_le, Bool.not_eq_true', Bool.not_eq_false', Decidable.not_not, not_true_eq_false] at hc
        all_goals first | (exfalso; with_reducible exact bft hc) | (exfalso; with_reducible exact btf hc) | (exfalso; omega) | skip
        all_goals refine tc_skip ?_
        all_goals (refine hK5 ?_; try (clear hK5; clear K5))
        all_goals refine tc_seq fun K7 hK7 => ?_
        all_goals refine tc_block ?_
        all_goals refine tc_seq fun K8 hK8 => ?_
        all_goals refine tc_region ?_
        all_goals refine tl_q (y_move rfl) rfl ?_
        all_goals refine tl_e (e_callX rfl (.cons rfl .nil) (fun w' _ => bits_c _ (by omega) w')) rfl (fun x hx => ?_)
        all_goals refine tl_q (y_assign rfl) rfl ?_
        all_goals refine tl_nil ?_
        all_goals (refine hK8 ?_; try (clear hK8; clear K8))
        all_goals refine tc_seq fun K9 hK9 => ?_
        all_goals refine tc_region ?_
        all_goals refine tl_q (y_move rfl) rfl ?_
        all_goals refine tl_q (y_move rfl) rfl ?_
        all_goals refine tl_e (e_callV rfl (.cons rfl (.cons rfl .nil)) (fun w' hw' => less_c _ _ (by have := bitsL_len n; omega) (by omega) _ _ w' (hx.1.fr (hw'.fr (by simp))) (hv.fr (hw'.fr (by simp))))) rfl (fun _ _ => ?_)
        all_goals refine tl_nil ?_
        all_goals (refine hK9 ?_; try (clear hK9; clear K9))
        all_goals (
         refine tc_cond rfl (fun hc => ?_) (fun hc => ?_)
         · try simp only [decide_eq_true_eq, decide_eq_false_iff_not, Int.not_lt, Int.not_le, Bool.not_eq_true', Bool.not_eq_false', Decidable.not_not, not_true_eq_false] at hc
           all_goals first | (exfalso; with_reducible exact bft hc) | (exfalso; with_reducible exact btf hc) | (exfalso; omega) | skip
           all_goals refine tc_seq fun K10 hK10 => ?_
           all_goals refine tc_region ?_
           all_goals (first | refine tl_q (y_loadW rfl (by repeat constructor) (by rfl)) rfl ?_ | refine tl_q (y_loadN rfl (by repeat constructor) (by (repeat (first | exact .nil | apply CA.cons rfl)); done)) rfl ?_ | refine tl_q (y_loadWf rfl hb2 (MI.m (by repeat constructor)) (by simp) (by rfl)) rfl ?_ | refine tl_q (y_load1f rfl hb2 (MI.m (by repeat constructor)) (by simp) (by rfl)) rfl ?_)
           all_goals refine tl_q (y_move rfl) rfl ?_
           all_goals refine tl_q (y_move rfl) rfl ?_
           all_goals refine tl_e (e_callV rfl (.cons rfl (.cons rfl (.cons rfl .nil))) (fun w' hw' => rall_c s hs l (by omega) hok n (by omega) _ _ w' (hr.fr (hw'.fr (w0 := w) (S := []) (by simp))) (hR0.fr (hw'.fr (w0 := w) (S := []) (by simp))))) rfl (fun _ _ => ?_)
           all_goals refine tl_q (y_move rfl) rfl ?_
           all_goals refine tl_q (y_extract rfl rfl) rfl ?_
           all_goals refine tl_q (y_extract rfl rfl) rfl ?_
           all_goals refine tl_e (e_allocN rfl) rfl (fun _ _ => ?_)
           all_goals refine tl_e (e_storeW rfl rfl (by repeat constructor) (by rfl) (by rfl) (by simp [Value.oneCell'])) rfl (fun _ _ => ?_)
           all_goals refine tl_q (y_assign rfl) rfl ?_
           all_goals refine tl_nil ?_
           all_goals (refine hK10 ?_; try (clear hK10; clear K10))
           all_goals refine tc_seq fun K11 hK11 => ?_
           all_goals refine tc_region ?_
           all_goals refine tl_q (y_move rfl) rfl ?_
           all_goals refine tl_q (y_gtr rfl rfl) rfl ?_
           all_goals refine tl_nil ?_
           all_goals (refine hK11 ?_; try (clear hK11; clear K11))
           all_goals (
            refine tc_cond rfl (fun hc => ?_) (fun hc => ?_)
            · try simp only [decide_eq_true_eq, decide_eq_false_iff_not, Int.not_lt, Int.not_le, Bool.not_eq_true', Bool.not_eq_false', Decidable.not_not, not_true_eq_false] at hc
              all_goals first | (exfalso; with_reducible exact bft hc) | (exfalso; with_reducible exact btf hc) | (exfalso; omega) | skip
              all_goals refine tc_region ?_
              all_goals refine tl_q (y_move rfl) rfl ?_
              all_goals refine tl_q (y_assign rfl) rfl ?_
              all_goals refine tl_nil ?_
              all_goals (refine hK7 ?_; try (clear hK7; clear K7))
              all_goals refine tc_region ?_
              all_goals refine tl_q (y_move rfl) rfl ?_
              all_goals refine tl_q (y_add rfl rfl (by omega)) rfl ?_
              all_goals refine tl_q (y_assign rfl) rfl ?_
              all_goals refine tl_nil ?_
              all_goals (
               first
               | (have hst : rLeaveN s l (n + 1) = bitsL n := by rw [rLeaveN_succ]; unfold rLeaveStep; rw [if_pos (show lessF (bitsL n) (rLeaveN s l n) = true ∧ 0 < (rAll s l n).2 from ⟨by with_reducible assumption, by with_reducible assumption⟩)]
                  exact tk_round (n + 1, x.1, x.2) ⟨by omega, by show RdI x.2 x.1 (rLeaveN s l (n + 1)); rw [hst]; exact hx.1⟩ (by omega) (.cons rfl (.cons rfl (.cons rfl (.cons rfl .nil)))) (fun _ h => h.sub (fun β hβ => by simp at hβ ⊢; rcases hβ with rfl | rfl | rfl <;> simp) (SB.s (by repeat constructor))))
               | (have hst : rLeaveN s l (n + 1) = rLeaveN s l n := by
                    rw [rLeaveN_succ]; unfold rLeaveStep; rw [if_neg (show ¬ (lessF (bitsL n) (rLeaveN s l n) = true ∧ 0 < (rAll s l n).2) from fun h => by first | (have := h.2; omega) | (rw [hc] at h; exact Bool.noConfusion h.1))]
                  exact tk_round (n + 1, v, wv) ⟨by omega, by show RdI wv v (rLeaveN s l (n + 1)); rw [hst]; exact hv⟩ (by omega) (.cons rfl (.cons rfl (.cons rfl (.cons rfl .nil)))) (fun _ h => h.sub (fun β hβ => by simp at hβ ⊢; rcases hβ with rfl | rfl | rfl <;> simp) (SB.s (by repeat constructor)))))
            · try simp only [decide_eq_true_eq, decide_eq_false_iff_not, Int.not_lt, Int.not_le, Bool.not_eq_true', Bool.not_eq_false', Decidable.not_not, not_true_eq_false] at hc
              all_goals first | (exfalso; with_reducible exact bft hc) | (exfalso; with_reducible exact btf hc) | (exfalso; omega) | skip
              all_goals refine tc_skip ?_
              all_goals (refine hK7 ?_; try (clear hK7; clear K7))
              all_goals refine tc_region ?_
              all_goals refine tl_q (y_move rfl) rfl ?_
              all_goals refine tl_q (y_add rfl rfl (by omega)) rfl ?_
              all_goals refine tl_q (y_assign rfl) rfl ?_
              all_goals refine tl_nil ?_
              all_goals (
               first
               | (have hst : rLeaveN s l (n + 1) = bitsL n := by rw [rLeaveN_succ]; unfold rLeaveStep; rw [if_pos (show lessF (bitsL n) (rLeaveN s l n) = true ∧ 0 < (rAll s l n).2 from ⟨by with_reducible assumption, by with_reducible assumption⟩)]
                  exact tk_round (n + 1, x.1, x.2) ⟨by omega, by show RdI x.2 x.1 (rLeaveN s l (n + 1)); rw [hst]; exact hx.1⟩ (by omega) (.cons rfl (.cons rfl (.cons rfl (.cons rfl .nil)))) (fun _ h => h.sub (fun β hβ => by simp at hβ ⊢; rcases hβ with rfl | rfl | rfl <;> simp) (SB.s (by repeat constructor))))
               | (have hst : rLeaveN s l (n + 1) = rLeaveN s l n := by
                    rw [rLeaveN_succ]; unfold rLeaveStep; rw [if_neg (show ¬ (lessF (bitsL n) (rLeaveN s l n) = true ∧ 0 < (rAll s l n).2) from fun h => by first | (have := h.2; omega) | (rw [hc] at h; exact Bool.noConfusion h.1))]
                  exact tk_round (n + 1, v, wv) ⟨by omega, by show RdI wv v (rLeaveN s l (n + 1)); rw [hst]; exact hv⟩ (by omega) (.cons rfl (.cons rfl (.cons rfl (.cons rfl .nil)))) (fun _ h => h.sub (fun β hβ => by simp at hβ ⊢; rcases hβ with rfl | rfl | rfl <;> simp) (SB.s (by repeat constructor))))))
         · try simp only [decide_eq_true_eq, decide_eq_false_iff_not, Int.not_lt, Int.not_le, Bool.not_eq_true', Bool.not_eq_false', Decidable.not_not, not_true_eq_false] at hc
           all_goals first | (exfalso; with_reducible exact bft hc) | (exfalso; with_reducible exact btf hc) | (exfalso; omega) | skip
           all_goals refine tc_skip ?_
           all_goals (refine hK7 ?_; try (clear hK7; clear K7))
           all_goals refine tc_region ?_
           all_goals refine tl_q (y_move rfl) rfl ?_
           all_goals refine tl_q (y_add rfl rfl (by omega)) rfl ?_
           all_goals refine tl_q (y_assign rfl) rfl ?_
           all_goals refine tl_nil ?_
           all_goals (
            first
            | (have hst : rLeaveN s l (n + 1) = bitsL n := by rw [rLeaveN_succ]; unfold rLeaveStep; rw [if_pos (show lessF (bitsL n) (rLeaveN s l n) = true ∧ 0 < (rAll s l n).2 from ⟨by with_reducible assumption, by with_reducible assumption⟩)]
               exact tk_round (n + 1, x.1, x.2) ⟨by omega, by show RdI x.2 x.1 (rLeaveN s l (n + 1)); rw [hst]; exact hx.1⟩ (by omega) (.cons rfl (.cons rfl (.cons rfl (.cons rfl .nil)))) (fun _ h => h.sub (fun β hβ => by simp at hβ ⊢; rcases hβ with rfl | rfl | rfl <;> simp) (SB.s (by repeat constructor))))
            | (have hst : rLeaveN s l (n + 1) = rLeaveN s l n := by
                 rw [rLeaveN_succ]; unfold rLeaveStep; rw [if_neg (show ¬ (lessF (bitsL n) (rLeaveN s l n) = true ∧ 0 < (rAll s l n).2) from fun h => by first | (have := h.2; omega) | (rw [hc] at h; exact Bool.noConfusion h.1))]
               exact tk_round (n + 1, v, wv) ⟨by omega, by show RdI wv v (rLeaveN s l (n + 1)); rw [hst]; exact hv⟩ (by omega) (.cons rfl (.cons rfl (.cons rfl (.cons rfl .nil)))) (fun _ h => h.sub (fun β hβ => by simp at hβ ⊢; rcases hβ with rfl | rfl | rfl <;> simp) (SB.s (by repeat constructor))))))
      · try simp only [decide_eq_true_eq, decide_eq_false_iff_not, Int.not_lt, Int.not_le, Bool.not_eq_true', Bool.not_eq_false', Decidable.not_not, not_true_eq_false] at hc
        all_goals first | (exfalso; with_reducible exact bft hc) | (exfalso; with_reducible exact btf hc) | (exfalso; omega) | skip
        all_goals refine tc_exit ?_
        all_goals (refine hK3 ?_; try (clear hK3; clear K3))
        all_goals refine tc_seq fun K12 hK12 => ?_
        all_goals refine tc_region ?_
        all_goals refine tl_q (y_move rfl) rfl ?_
        all_goals refine tl_q (y_assign rfl) rfl ?_
        all_goals refine tl_nil ?_
        all_goals (refine hK12 ?_; try (clear hK12; clear K12))
        all_goals refine tc_ret ?_
        all_goals (repeat (first | refine tk_then_ret ?_ | refine tk_block_ret ?_ | refine tk_scope_ret ?_))
        all_goals first | refine tk_ret rfl rfl (.cons (.tmp rfl) .nil) ?_ | refine tk_retM rfl (by repeat constructor) rfl (.cons (.tmp rfl) .nil) ?_
        all_goals (
         have hnn : n = 2 ^ l.length := by omega
         subst hnn
         exact fun w' hw' => ⟨v, rfl, hw'.fr (w0 := w) (S := []) (by simp), hv.fr (hw'.fr (by simp))⟩)))
theorem bitsL_mem {n m : Nat} (h : n < 2 ^ m) {x : Int} (hx : x ∈ bitsL n) : 0 ≤ x ∧ x < m := by
  unfold bitsL bitsN at hx
  obtain ⟨i, hi, rfl⟩ := List.mem_map.1 hx
  have hb := of_decide_eq_true (List.mem_filter.1 hi).2
  refine ⟨by omega, ?_⟩
  rcases Nat.lt_or_ge i m with h1 | h1
  · omega
  · exfalso
    have h2 : (2 : Nat) ^ m ≤ 2 ^ i := Nat.pow_le_pow_right (by decide) h1
    have h3 : (n : Int) / 2 ^ i = 0 := by
      rw [show ((2 : Int) ^ i) = ((2 ^ i : Nat) : Int) from by simp]
      exact Int.ediv_eq_zero_of_lt (by omega) (by omega)
    rw [h3] at hb
    exact absurd hb (by decide)
def rCoverStep (s : Sn) (r : Int × Int) (a : List Int × Bool) (n : Nat) : List Int × Bool := if (a.2 = false ∨ lessF (bitsL n) a.1 = true) ∧ rCovers s r (bitsL n) = true then (bitsL n, true) else a
def rCoverN (s : Sn) (r : Int × Int) (n : Nat) : List Int × Bool := (List.range n).foldl (rCoverStep s r) ([], false)
theorem rCoverN_succ (s : Sn) (r : Int × Int) (n : Nat) : rCoverN s r (n + 1) = rCoverStep s r (rCoverN s r n) n := by simp [rCoverN, List.range_succ]
theorem rCoverN_len (s : Sn) (r : Int × Int) (n : Nat) : (rCoverN s r n).1.length ≤ 16 := by
  induction n with
  | zero => exact Nat.zero_le _
  | succ n ih => rw [rCoverN_succ]; unfold rCoverStep; split; exact bitsL_len _; exact ih
def rCover (s : Sn) (r : Int × Int) : List Int × Bool := rCoverN s r (2 ^ (s.weights.length + 1))
theorem rcover_c (s : Sn) (hs : VS s) (r : Int × Int) (hr1 : 1 ≤ r.1 ∧ r.1 ≤ 2000) (hr2 : r.2 ≤ 2000) (sl : Value) (w : World) (hr : RdI w sl s.weights) :
    CnX Try.prog 57 #[spV s sl, rV r] w [] (fun v : Value => .tuple #[v, .bool (rCover s r).2]) (fun v w' => RdI w' v (rCover s r).1) := by
  have hr0 := hr
  have hl6 := hs.n
  have hp : 1 ≤ (2 : Int) ^ (s.weights.length : Int).toNat ∧ (2 : Int) ^ (s.weights.length : Int).toNat ≤ 64 := pow_bd (m := 6) (by omega)
  have hpn : ((2 ^ (s.weights.length + 1) : Nat) : Int) = 2 * (2 : Int) ^ (s.weights.length : Int).toNat := by rw [Int.toNat_natCast, Nat.pow_succ]; simp; omega
  obtain ⟨ad, cp, b0, o, rfl, had, hcell⟩ := hr.open
  refine cnx0 (vs := [_, _]) Try.func57 rfl rfl ?_
  all_goals refine tc_seq fun K1 hK1 => ?_
  all_goals refine tc_region ?_
  all_goals refine tl_e (e_box rfl rfl rfl) rfl (fun b2 _ => ?_)
  all_goals refine tl_e (e_box rfl rfl rfl) rfl (fun b3 _ => ?_)
  all_goals refine tl_q (y_assign rfl) rfl ?_
  all_goals refine tl_q (y_assign rfl) rfl ?_
  all_goals refine tl_nil ?_
  all_goals (refine hK1 ?_; try (clear hK1; clear K1))
  all_goals refine tc_seq fun K2 hK2 => ?_
  refine tc_lay [] (List.nil_sublist _) (fun w1 hw1 => ?_)
  have hb2 := hw1.heap (b2, _) (HM.mem (by repeat constructor))
  have hb3 := hw1.heap (b3, _) (HM.mem (by repeat constructor))
  all_goals refine tc_region ?_
  all_goals refine tl_q (y_assign rfl) rfl ?_
  all_goals refine tl_nil ?_
  all_goals (refine hK2 ?_; try (clear hK2; clear K2))
  all_goals refine tc_seq fun K3 hK3 => ?_
  all_goals refine tc_region ?_
  all_goals refine tl_q (y_assign rfl) rfl ?_
  all_goals refine tl_nil ?_
  all_goals (refine hK3 ?_; try (clear hK3; clear K3))
  all_goals refine tc_seq fun K4 hK4 => ?_
  all_goals refine tc_seq fun K5 hK5 => ?_
  all_goals refine tc_region ?_
  all_goals refine tl_q (y_assign rfl) rfl ?_
  all_goals refine tl_nil ?_
  all_goals (refine hK5 ?_; try (clear hK5; clear K5))
  all_goals refine tc_block ?_
  all_goals (
   refine tc_loop (fun p : Nat × Value × World => p.1 ≤ 2 ^ (s.weights.length + 1) ∧ RdI p.2.2 p.2.1 (rCoverN s r p.1).1) (fun p => [(2, ptr b2), (3, ptr b3), (6, p.2.1), (7, .bool (rCoverN s r p.1).2), (8, vi p.1)]) (fun p => [(p.2.2, []), (w1, []), (w, [])]) (fun _ => []) (fun p => 2 ^ (s.weights.length + 1) - p.1) ?_ ?_
   · exact tk_start (0, .slice none 0 0, w1) ⟨Nat.zero_le _, RdI.nil _⟩ (.cons rfl (.cons rfl (.cons rfl (.cons rfl (.cons rfl .nil))))) (fun _ h => ⟨fun β hβ => by simp at hβ; rcases hβ with rfl | rfl; exact h.base _ (MI.m (by repeat constructor)); exact h.base _ (MI.m (by repeat constructor)), by simp, by simp, by simp⟩)
   · rintro ⟨n, v, wv⟩ ⟨hn, hv⟩
     dsimp only at hn hv ⊢
     have hlen := rCoverN_len s r n
     all_goals refine tc_seq fun K6 hK6 => ?_
     all_goals refine tc_seq fun K7 hK7 => ?_
     all_goals refine tc_region ?_
     all_goals refine tl_q (y_move rfl) rfl ?_
     all_goals refine tl_q (y_field rfl) rfl ?_
     all_goals (first | refine tl_q (y_load1 rfl (by repeat constructor) (by rfl)) rfl ?_ | refine tl_q (y_load1f rfl hb2 (MI.m (by repeat constructor)) (by simp) (by rfl)) rfl ?_ | refine tl_q (y_load1f rfl hb3 (MI.m (by repeat constructor)) (by simp) (by rfl)) rfl ?_)
     all_goals refine tl_q (y_len rfl) rfl ?_
     all_goals (first | refine tl_q (y_conv64 rfl (by omega)) rfl ?_ | refine tl_q (y_conv rfl (by simp only [IntKind.wrap, IntKind.bits, IntKind.signed, Bool.false_and, Bool.true_and, Bool.false_eq_true, if_false, decide_eq_true_eq]; omega)) rfl ?_)
     all_goals refine tl_q (y_shl rfl rfl (by omega) (by omega)) rfl ?_
     all_goals refine tl_q (y_lss rfl rfl) rfl ?_
     all_goals refine tl_nil ?_
     all_goals (refine hK7 ?_; try (clear hK7; clear K7))
     all_goals (
      refine tc_cond rfl (fun hc => ?_) (fun hc => ?_)
      · try simp only [decide_eq_true_eq, decide_eq_false_iff_not, Int.not_lt, Int.not_le, Bool.not_eq_true', Bool.not_eq_false', Decidable.not_not, not_true_eq_false] at hc
        all_goals first | (exfalso; with_reducible exact bft hc) | (exfalso; with_reducible exact btf hc) | (exfalso; omega) | skip
        all_goals refine tc_skip ?_
        all_goals (refine hK6 ?_; try (clear hK6; clear K6))
        all_goals refine tc_seq fun K8 hK8 => ?_
        all_goals refine tc_block ?_
        all_goals refine tc_seq fun K9 hK9 => ?_
        all_goals refine tc_region ?_
        all_goals refine tl_q (y_move rfl) rfl ?_
        all_goals refine tl_e (e_callX rfl (.cons rfl .nil) (fun w' _ => bits_c _ (by omega) w')) rfl (fun x hx => ?_)
        all_goals refine tl_q (y_assign rfl) rfl ?_
        all_goals refine tl_nil ?_
        all_goals (refine hK9 ?_; try (clear hK9; clear K9))
        all_goals refine tc_seq fun K10 hK10 => ?_
        all_goals refine tc_region ?_
        all_goals refine tl_q (y_move rfl) rfl ?_
        all_goals (first | refine tl_q (y_not_dec rfl) rfl ?_ | refine tl_q (y_not rfl) rfl ?_)
        all_goals refine tl_q (y_move rfl) rfl ?_
        all_goals (first | refine tl_sk rfl rfl rfl rfl ?_ | refine tl_qg rfl rfl (y_move rfl) rfl ?_ | refine tl_su rfl rfl rfl ?_ | (refine tl_gs rfl rfl (fun hc => ?_) (fun hc => ?_) <;> (try simp only [decide_eq_true_eq, decide_eq_false_iff_not, Int.not_lt, Int.not_le, Bool.not_eq_true', Bool.not_eq_false', Decidable.not_not, not_true_eq_false] at hc) <;> (first | (exfalso; omega) | refine tl_sk rfl rfl rfl rfl ?_ | refine tl_qg rfl rfl (y_move rfl) rfl ?_ | refine tl_su rfl rfl rfl ?_)))
        all_goals (first | refine tl_sk rfl rfl rfl rfl ?_ | refine tl_qg rfl rfl (y_move rfl) rfl ?_ | refine tl_su rfl rfl rfl ?_ | (refine tl_gs rfl rfl (fun hc => ?_) (fun hc => ?_) <;> (try simp only [decide_eq_true_eq, decide_eq_false_iff_not, Int.not_lt, Int.not_le, Bool.not_eq_true', Bool.not_eq_false', Decidable.not_not, not_true_eq_false] at hc) <;> (first | (exfalso; omega) | refine tl_sk rfl rfl rfl rfl ?_ | refine tl_qg rfl rfl (y_move rfl) rfl ?_ | refine tl_su rfl rfl rfl ?_)))
        all_goals (first | refine tl_sk rfl rfl rfl rfl ?_ | refine tl_eg rfl rfl rfl (e_callV rfl (.cons rfl (.cons rfl .nil)) (fun w' hw' => less_c _ _ (by have := bitsL_len n; omega) (by omega) _ _ w' (hx.1.fr (hw'.fr (by simp))) (hv.fr (hw'.fr (by simp))))) (fun _ _ => ?_) | refine tl_su rfl rfl rfl ?_ | (refine tl_gs rfl rfl (fun hc => ?_) (fun hc => ?_) <;> (try simp only [decide_eq_true_eq, decide_eq_false_iff_not, Int.not_lt, Int.not_le, Bool.not_eq_true', Bool.not_eq_false', Decidable.not_not, not_true_eq_false] at hc) <;> (first | (exfalso; omega) | refine tl_sk rfl rfl rfl rfl ?_ | refine tl_eg rfl rfl rfl (e_callV rfl (.cons rfl (.cons rfl .nil)) (fun w' hw' => less_c _ _ (by have := bitsL_len n; omega) (by omega) _ _ w' (hx.1.fr (hw'.fr (by simp))) (hv.fr (hw'.fr (by simp))))) (fun _ _ => ?_) | refine tl_su rfl rfl rfl ?_)))
        all_goals (first | refine tl_q (y_pick_t rfl rfl) rfl ?_ | refine tl_q (y_pick_f rfl rfl) rfl ?_)
        all_goals refine tl_q (y_move rfl) rfl ?_
        all_goals (first | refine tl_sk rfl rfl rfl rfl ?_ | refine tl_qg rfl rfl (y_loadW rfl (by repeat constructor) (by rfl)) rfl ?_ | refine tl_qg rfl rfl (y_loadN rfl (by repeat constructor) (by (repeat (first | exact .nil | apply CA.cons rfl)); done)) rfl ?_ | refine tl_qg rfl rfl (y_loadWf rfl hb2 (MI.m (by repeat constructor)) (by simp) (by rfl)) rfl ?_ | refine tl_qg rfl rfl (y_loadWf rfl hb3 (MI.m (by repeat constructor)) (by simp) (by rfl)) rfl ?_ | refine tl_qg rfl rfl (y_load1f rfl hb2 (MI.m (by repeat constructor)) (by simp) (by rfl)) rfl ?_ | refine tl_qg rfl rfl (y_load1f rfl hb3 (MI.m (by repeat constructor)) (by simp) (by rfl)) rfl ?_ | refine tl_su rfl rfl rfl ?_ | (refine tl_gs rfl rfl (fun hc => ?_) (fun hc => ?_) <;> (try simp only [decide_eq_true_eq, decide_eq_false_iff_not, Int.not_lt, Int.not_le, Bool.not_eq_true', Bool.not_eq_false', Decidable.not_not, not_true_eq_false] at hc) <;> (first | (exfalso; omega) | refine tl_sk rfl rfl rfl rfl ?_ | refine tl_qg rfl rfl (y_loadW rfl (by repeat constructor) (by rfl)) rfl ?_ | refine tl_qg rfl rfl (y_loadN rfl (by repeat constructor) (by (repeat (first | exact .nil | apply CA.cons rfl)); done)) rfl ?_ | refine tl_qg rfl rfl (y_loadWf rfl hb2 (MI.m (by repeat constructor)) (by simp) (by rfl)) rfl ?_ | refine tl_qg rfl rfl (y_loadWf rfl hb3 (MI.m (by repeat constructor)) (by simp) (by rfl)) rfl ?_ | refine tl_qg rfl rfl (y_load1f rfl hb2 (MI.m (by repeat constructor)) (by simp) (by rfl)) rfl ?_ | refine tl_qg rfl rfl (y_load1f rfl hb3 (MI.m (by repeat constructor)) (by simp) (by rfl)) rfl ?_ | refine tl_su rfl rfl rfl ?_)))
        all_goals (first | refine tl_sk rfl rfl rfl rfl ?_ | refine tl_qg rfl rfl (y_loadW rfl (by repeat constructor) (by rfl)) rfl ?_ | refine tl_qg rfl rfl (y_loadN rfl (by repeat constructor) (by (repeat (first | exact .nil | apply CA.cons rfl)); done)) rfl ?_ | refine tl_qg rfl rfl (y_loadWf rfl hb2 (MI.m (by repeat constructor)) (by simp) (by rfl)) rfl ?_ | refine tl_qg rfl rfl (y_loadWf rfl hb3 (MI.m (by repeat constructor)) (by simp) (by rfl)) rfl ?_ | refine tl_qg rfl rfl (y_load1f rfl hb2 (MI.m (by repeat constructor)) (by simp) (by rfl)) rfl ?_ | refine tl_qg rfl rfl (y_load1f rfl hb3 (MI.m (by repeat constructor)) (by simp) (by rfl)) rfl ?_ | refine tl_su rfl rfl rfl ?_ | (refine tl_gs rfl rfl (fun hc => ?_) (fun hc => ?_) <;> (try simp only [decide_eq_true_eq, decide_eq_false_iff_not, Int.not_lt, Int.not_le, Bool.not_eq_true', Bool.not_eq_false', Decidable.not_not, not_true_eq_false] at hc) <;> (first | (exfalso; omega) | refine tl_sk rfl rfl rfl rfl ?_ | refine tl_qg rfl rfl (y_loadW rfl (by repeat constructor) (by rfl)) rfl ?_ | refine tl_qg rfl rfl (y_loadN rfl (by repeat constructor) (by (repeat (first | exact .nil | apply CA.cons rfl)); done)) rfl ?_ | refine tl_qg rfl rfl (y_loadWf rfl hb2 (MI.m (by repeat constructor)) (by simp) (by rfl)) rfl ?_ | refine tl_qg rfl rfl (y_loadWf rfl hb3 (MI.m (by repeat constructor)) (by simp) (by rfl)) rfl ?_ | refine tl_qg rfl rfl (y_load1f rfl hb2 (MI.m (by repeat constructor)) (by simp) (by rfl)) rfl ?_ | refine tl_qg rfl rfl (y_load1f rfl hb3 (MI.m (by repeat constructor)) (by simp) (by rfl)) rfl ?_ | refine tl_su rfl rfl rfl ?_)))
        all_goals (first | refine tl_sk rfl rfl rfl rfl ?_ | refine tl_qg rfl rfl (y_move rfl) rfl ?_ | refine tl_su rfl rfl rfl ?_ | (refine tl_gs rfl rfl (fun hc => ?_) (fun hc => ?_) <;> (try simp only [decide_eq_true_eq, decide_eq_false_iff_not, Int.not_lt, Int.not_le, Bool.not_eq_true', Bool.not_eq_false', Decidable.not_not, not_true_eq_false] at hc) <;> (first | (exfalso; omega) | refine tl_sk rfl rfl rfl rfl ?_ | refine tl_qg rfl rfl (y_move rfl) rfl ?_ | refine tl_su rfl rfl rfl ?_)))
        all_goals (first | refine tl_sk rfl rfl rfl rfl ?_ | refine tl_eg rfl rfl rfl (e_callV rfl (.cons rfl (.cons rfl (.cons rfl .nil))) (fun w' hw' => rcovers_c s hs r hr1 hr2 (bitsL n) (by have := bitsL_len n; omega) (fun k hk => by have := bitsL_mem (m := s.weights.length + 1) (by omega) hk; omega) _ _ w' (hr0.fr (hw'.fr (w0 := w) (S := []) (by simp))) (hx.1.fr (hw'.fr (by simp))))) (fun _ _ => ?_) | refine tl_su rfl rfl rfl ?_ | (refine tl_gs rfl rfl (fun hc => ?_) (fun hc => ?_) <;> (try simp only [decide_eq_true_eq, decide_eq_false_iff_not, Int.not_lt, Int.not_le, Bool.not_eq_true', Bool.not_eq_false', Decidable.not_not, not_true_eq_false] at hc) <;> (first | (exfalso; omega) | refine tl_sk rfl rfl rfl rfl ?_ | refine tl_eg rfl rfl rfl (e_callV rfl (.cons rfl (.cons rfl (.cons rfl .nil))) (fun w' hw' => rcovers_c s hs r hr1 hr2 (bitsL n) (by have := bitsL_len n; omega) (fun k hk => by have := bitsL_mem (m := s.weights.length + 1) (by omega) hk; omega) _ _ w' (hr0.fr (hw'.fr (w0 := w) (S := []) (by simp))) (hx.1.fr (hw'.fr (by simp))))) (fun _ _ => ?_) | refine tl_su rfl rfl rfl ?_)))
        all_goals (first | refine tl_q (y_pick_t rfl rfl) rfl ?_ | refine tl_q (y_pick_f rfl rfl) rfl ?_)
        all_goals refine tl_nil ?_
        all_goals (refine hK10 ?_; try (clear hK10; clear K10))
        all_goals (
         refine tc_cond rfl (fun hc => ?_) (fun hc => ?_)
         · try simp only [decide_eq_true_eq, decide_eq_false_iff_not, Int.not_lt, Int.not_le, Bool.not_eq_true', Bool.not_eq_false', Decidable.not_not, not_true_eq_false] at hc
           all_goals first | (exfalso; with_reducible exact bft hc) | (exfalso; with_reducible exact btf hc) | (exfalso; omega) | skip
           all_goals refine tc_region ?_
           all_goals refine tl_q (y_move rfl) rfl ?_
           all_goals refine tl_q (y_assign rfl) rfl ?_
           all_goals refine tl_q (y_assign rfl) rfl ?_
           all_goals refine tl_nil ?_
           all_goals (refine hK8 ?_; try (clear hK8; clear K8))
           all_goals refine tc_region ?_
           all_goals refine tl_q (y_move rfl) rfl ?_
           all_goals refine tl_q (y_add rfl rfl (by omega)) rfl ?_
           all_goals refine tl_q (y_assign rfl) rfl ?_
           all_goals refine tl_nil ?_
           all_goals (
            first
            | (have hst : rCoverN s r (n + 1) = (bitsL n, true) := by
                 rw [rCoverN_succ]; unfold rCoverStep
                 rw [if_pos (show ((rCoverN s r n).2 = false ∨ lessF (bitsL n) (rCoverN s r n).1 = true) ∧ rCovers s r (bitsL n) = true from ⟨by first | (left; with_reducible assumption) | (right; with_reducible assumption), by with_reducible assumption⟩)]
               exact tk_round (n + 1, x.1, x.2) ⟨by omega, by show RdI x.2 x.1 (rCoverN s r (n + 1)).1; rw [hst]; exact hx.1⟩ (by omega) (.cons rfl (.cons rfl (.cons rfl (.cons (by show _ = some (Value.bool (rCoverN s r (n + 1)).2); rw [hst]; rfl) (.cons rfl .nil))))) (fun _ h => h.sub (fun β hβ => by simp at hβ ⊢; rcases hβ with rfl | rfl | rfl <;> simp) (SB.s (by repeat constructor))))
            | (have hst : rCoverN s r (n + 1) = rCoverN s r n := by
                 rw [rCoverN_succ]; unfold rCoverStep
                 rw [if_neg (show ¬ (((rCoverN s r n).2 = false ∨ lessF (bitsL n) (rCoverN s r n).1 = true) ∧ rCovers s r (bitsL n) = true) from fun h => by simp_all)]
               exact tk_round (n + 1, v, wv) ⟨by omega, by show RdI wv v (rCoverN s r (n + 1)).1; rw [hst]; exact hv⟩ (by omega) (.cons rfl (.cons rfl (.cons rfl (.cons (by show _ = some (Value.bool (rCoverN s r (n + 1)).2); rw [hst]; rfl) (.cons rfl .nil))))) (fun _ h => h.sub (fun β hβ => by simp at hβ ⊢; rcases hβ with rfl | rfl | rfl <;> simp) (SB.s (by repeat constructor)))))
         · try simp only [decide_eq_true_eq, decide_eq_false_iff_not, Int.not_lt, Int.not_le, Bool.not_eq_true', Bool.not_eq_false', Decidable.not_not, not_true_eq_false] at hc
           all_goals first | (exfalso; with_reducible exact bft hc) | (exfalso; with_reducible exact btf hc) | (exfalso; omega) | skip
           all_goals refine tc_skip ?_
           all_goals (refine hK8 ?_; try (clear hK8; clear K8))
           all_goals refine tc_region ?_
           all_goals refine tl_q (y_move rfl) rfl ?_
           all_goals refine tl_q (y_add rfl rfl (by omega)) rfl ?_
           all_goals refine tl_q (y_assign rfl) rfl ?_
           all_goals refine tl_nil ?_
           all_goals (
            first
            | (have hst : rCoverN s r (n + 1) = (bitsL n, true) := by
                 rw [rCoverN_succ]; unfold rCoverStep
                 rw [if_pos (show ((rCoverN s r n).2 = false ∨ lessF (bitsL n) (rCoverN s r n).1 = true) ∧ rCovers s r (bitsL n) = true from ⟨by first | (left; with_reducible assumption) | (right; with_reducible assumption), by with_reducible assumption⟩)]
               exact tk_round (n + 1, x.1, x.2) ⟨by omega, by show RdI x.2 x.1 (rCoverN s r (n + 1)).1; rw [hst]; exact hx.1⟩ (by omega) (.cons rfl (.cons rfl (.cons rfl (.cons (by show _ = some (Value.bool (rCoverN s r (n + 1)).2); rw [hst]; rfl) (.cons rfl .nil))))) (fun _ h => h.sub (fun β hβ => by simp at hβ ⊢; rcases hβ with rfl | rfl | rfl <;> simp) (SB.s (by repeat constructor))))
            | (have hst : rCoverN s r (n + 1) = rCoverN s r n := by
                 rw [rCoverN_succ]; unfold rCoverStep
                 rw [if_neg (show ¬ (((rCoverN s r n).2 = false ∨ lessF (bitsL n) (rCoverN s r n).1 = true) ∧ rCovers s r (bitsL n) = true) from fun h => by simp_all)]
               exact tk_round (n + 1, v, wv) ⟨by omega, by show RdI wv v (rCoverN s r (n + 1)).1; rw [hst]; exact hv⟩ (by omega) (.cons rfl (.cons rfl (.cons rfl (.cons (by show _ = some (Value.bool (rCoverN s r (n + 1)).2); rw [hst]; rfl) (.cons rfl .nil))))) (fun _ h => h.sub (fun β hβ => by simp at hβ ⊢; rcases hβ with rfl | rfl | rfl <;> simp) (SB.s (by repeat constructor))))))
      · try simp only [decide_eq_true_eq, decide_eq_false_iff_not, Int.not_lt, Int.not_le, Bool.not_eq_true', Bool.not_eq_false', Decidable.not_not, not_true_eq_false] at hc
        all_goals first | (exfalso; with_reducible exact bft hc) | (exfalso; with_reducible exact btf hc) | (exfalso; omega) | skip
        all_goals refine tc_exit ?_
        all_goals (refine hK4 ?_; try (clear hK4; clear K4))
        all_goals refine tc_seq fun K11 hK11 => ?_
        all_goals refine tc_region ?_
        all_goals refine tl_q (y_move rfl) rfl ?_
        all_goals refine tl_q (y_move rfl) rfl ?_
        all_goals refine tl_q (y_assign rfl) rfl ?_
        all_goals refine tl_q (y_assign rfl) rfl ?_
        all_goals refine tl_nil ?_
        all_goals (refine hK11 ?_; try (clear hK11; clear K11))
        all_goals refine tc_ret ?_
        all_goals (repeat (first | refine tk_then_ret ?_ | refine tk_block_ret ?_ | refine tk_scope_ret ?_))
        all_goals first | refine tk_ret rfl rfl (.cons (.tmp rfl) (.cons (.tmp rfl) .nil)) ?_ | refine tk_retM rfl (by repeat constructor) rfl (.cons (.tmp rfl) (.cons (.tmp rfl) .nil)) ?_
        all_goals (
         have hnn : n = 2 ^ (s.weights.length + 1) := by omega
         subst hnn
         exact fun w' hw' => ⟨v, rfl, hw'.fr (w0 := w) (S := []) (by simp), hv.fr (hw'.fr (by simp))⟩)))
end Go.Sp
