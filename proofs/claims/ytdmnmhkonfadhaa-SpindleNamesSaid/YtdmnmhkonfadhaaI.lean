/-
  What a load leaves of a range; Best.
-/
import Derived.Test.YtdmnmhkonfadhaaH
set_option linter.unusedVariables false
set_option linter.unusedSimpArgs false
set_option linter.deprecated false
namespace Go.Sp
open Go Go.Proofs
theorem mean_bd {s : Sn} (hs : VS s) {k seen : Int} (h0 : 0 ≤ k) (h1 : k ≤ s.weights.length) (h2 : -2 ≤ seen) (h3 : seen ≤ s.divisions) : (1 ≤ (meanF s k seen).1 ∧ (meanF s k seen).1 ≤ 6000001) ∧ (0 ≤ (meanF s k seen).2 ∧ (meanF s k seen).2 ≤ 2000) := by
  have hbd := massF_bd hs h0 h1
  have hds := ds_bd hs
  have hv1 := hs.v1
  have hw1 := hs.w1
  have hfb := from_bd hbd.1 hbd.2 (v := s.volume + s.divisions * s.step) (by omega)
  have hbb := below_bd hbd.1 hbd.2 hv1
  unfold meanF
  split
  · simp only [meetF]; omega
  · split
    · simp only [meetF]; omega
    · have hdv := dv_bd hs (n := seen) (by omega) h3
      have hf2 := from_bd hbd.1 hbd.2 (v := s.volume + seen * s.step + s.width) (by omega)
      split
      · have hb2 := below_bd hbd.1 hbd.2 (v := s.volume + seen * s.step - s.width) (by omega)
        simp only [meetF, floF]; omega
      · simp only [meetF, floF]; omega
def leftStep (s : Sn) (r : Int × Int) (k : Int) (acc : Int) (i : Nat) : Int := max acc ((meetF (meanF s k ((i : Int) - 2)) r).2 - (meetF (meanF s k ((i : Int) - 2)) r).1 + 1)
def leftF (s : Sn) (r : Int × Int) (k : Int) (n : Nat) : Int := (List.range n).foldl (leftStep s r k) 0
theorem leftF_succ (s : Sn) (r : Int × Int) (k : Int) (n : Nat) : leftF s r k (n + 1) = leftStep s r k (leftF s r k n) n := by simp [leftF, List.range_succ]
theorem left_c (s : Sn) (hs : VS s) (r : Int × Int) (hr1 : 1 ≤ r.1 ∧ r.1 ≤ 2000) (hr2 : 1 ≤ r.2 ∧ r.2 ≤ 2000) (k : Int) (h0 : 0 ≤ k) (h1 : k ≤ s.weights.length) (sl : Value) (hsl : sl.oneCell' = true) (w : World) (bw bm : Nat) (es : Array MapEntry) (ck : Nat)
    (hr : RdI w sl s.weights) (hbw : w.heap[bw]? = some (wkO s sl bm)) (hbm : w.heap[bm]? = some (.map es ck)) (hc0 : Cache (meanV s) es.toList) :
    CnX Try.prog 76 #[ptr bw, rV r, vi k] w [bm] (fun _ : Array MapEntry × Nat => vi (leftF s r k (s.divisions + 3).toNat)) (fun x w' => Cache (meanV s) x.1.toList ∧ w'.heap[bm]? = some (.map x.1 x.2)) := by
  have hne : bw ≠ bm := by rintro rfl; rw [hbw] at hbm; simp at hbm
  have hM : ∀ x ∈ [bm], ∃ es ck, w.heap[x]? = some (.map es ck) := fun x hx => by
    obtain rfl : x = bm := by simpa using hx
    exact ⟨es, ck, hbm⟩
  have hbt : ∀ w', Fr [bw, bm] w w' → w'.heap[bw]? = some (wkO s sl bm) → Fr [bm] w w' := fun w' f hb => Fr.but f (by rw [hb, hbw])
  have hd1 := hs.d1
  have hd2 := hs.d2
  refine cnxS (vs := [_, _, _]) (S := [bw, bm]) [(bw, wkO s sl bm), (bm, .map es ck)] Try.func76 rfl rfl ⟨by simp [hbw, hbm], by simp [hne], by simp⟩ ?_
  all_goals refine tc_seq fun K1 hK1 => ?_
  all_goals refine tc_region ?_
  all_goals refine tl_e (e_box rfl rfl rfl) rfl (fun b4 _ => ?_)
  all_goals refine tl_q (y_assign rfl) rfl ?_
  all_goals refine tl_nil ?_
  all_goals (refine hK1 ?_; try (clear hK1; clear K1))
  all_goals refine tc_seq fun K2 hK2 => ?_
  all_goals refine tc_seq fun K3 hK3 => ?_
  all_goals refine tc_region ?_
  all_goals refine tl_q (y_assign rfl) rfl ?_
  all_goals refine tl_nil ?_
  all_goals (refine hK3 ?_; try (clear hK3; clear K3))
  all_goals refine tc_block ?_
  all_goals (
   refine tc_loop (fun p : Nat × Array MapEntry × Nat => p.1 ≤ (s.divisions + 3).toNat ∧ Cache (meanV s) p.2.1.toList) (fun p => [(0, ptr bw), (2, vi k), (4, ptr b4), (6, vi (leftF s r k p.1)), (7, vi ((p.1 : Int) - 2))]) (fun _ => [(w, [bw, bm])]) (fun p => [(b4, .cells #[vi r.1, vi r.2] 33 (0, 0)), (bw, wkO s sl bm), (bm, .map p.2.1 p.2.2)]) (fun p => (s.divisions + 3).toNat - p.1) ?_ ?_
   · exact tk_start (0, es, ck) ⟨Nat.zero_le _, hc0⟩ (.cons rfl (.cons rfl (.cons rfl (.cons rfl (.cons rfl .nil))))) (fun _ h => h.sub (fun _ h => h) (SB.s (by repeat constructor)))
   · rintro ⟨i, es', ck'⟩ ⟨hi, hcache⟩
     dsimp only at hi hcache ⊢
     all_goals refine tc_seq fun K4 hK4 => ?_
     all_goals refine tc_seq fun K5 hK5 => ?_
     all_goals refine tc_region ?_
     all_goals refine tl_q (y_move rfl) rfl ?_
     all_goals refine tl_q (y_move rfl) rfl ?_
     all_goals refine tl_q (y_nil rfl) rfl ?_
     all_goals refine tl_q (y_field rfl) rfl ?_
     all_goals refine tl_q (y_field rfl) rfl ?_
     all_goals refine tl_q (y_load1 rfl (by repeat constructor) (by rfl)) rfl ?_
     all_goals refine tl_q (y_leq rfl rfl) rfl ?_
     all_goals refine tl_nil ?_
     all_goals (refine hK5 ?_; try (clear hK5; clear K5))
     all_goals (
      refine tc_cond rfl (fun hc => ?_) (fun hc => ?_)
      · try simp only [decide_eq_true_eq, decide_eq_false_iff_not, Int.not_lt, Int.not_le, Bool.not_eq_true', Bool.not_eq_false', Decidable.not_not, not_true_eq_false] at hc
        all_goals first | (exfalso; with_reducible exact bft hc) | (exfalso; with_reducible exact btf hc) | (exfalso; omega) | skip
        all_goals refine tc_skip ?_
        all_goals (refine hK4 ?_; try (clear hK4; clear K4))
        all_goals refine tc_seq fun K6 hK6 => ?_
        all_goals refine tc_block ?_
        all_goals refine tc_seq fun K7 hK7 => ?_
        have hmb := mean_bd hs h0 h1 (seen := (i : Int) - 2) (by omega) (by omega)
        all_goals refine tc_drawS ([(b4, .cells #[vi r.1, vi r.2] 33 (0, 0))]) (by kernel_rfl) ?_
        all_goals refine tx_p 0 rfl (by kernel_rfl) (y_move rfl) rfl (fun _ _ _ h => h) (fun _ h => h.subl (SB.s (by repeat constructor)) (SB.s (by repeat constructor))) ?_
        all_goals refine tx_p 1 rfl (by kernel_rfl) (y_move rfl) rfl (fun _ _ _ h => h) (fun _ h => h.subl (SB.s (by repeat constructor)) (SB.s (by repeat constructor))) ?_
        all_goals refine tx_p 2 rfl (by kernel_rfl) (y_move rfl) rfl (fun _ _ _ h => h) (fun _ h => h.subl (SB.s (by repeat constructor)) (SB.s (by repeat constructor))) ?_
        all_goals refine tx_p 3 rfl (by kernel_rfl) (y_build_2 rfl rfl rfl rfl) rfl (fun _ _ _ h => h) (fun _ h => h.subl (SB.s (by repeat constructor)) (SB.s (by repeat constructor))) ?_
        all_goals (first | refine tx_qS 5 rfl (by kernel_rfl) (y_loadW rfl (by repeat constructor) (by rfl)) rfl (fun _ _ _ h => h) (fun _ h => h.subl (SB.s (by repeat constructor)) (SB.s (by repeat constructor))) ?_ | refine tx_qS 5 rfl (by kernel_rfl) (y_loadN rfl (by repeat constructor) (by (repeat (first | exact .nil | apply CA.cons rfl)); done)) rfl (fun _ _ _ h => h) (fun _ h => h.subl (SB.s (by repeat constructor)) (SB.s (by repeat constructor))) ?_)
        all_goals (
         refine tx_pair 4 7 (by kernel_rfl) ?_ ?_
         rotate_left
         focus (
          (first | refine to_e rfl rfl (e_allocN rfl) (.inr ⟨fun _ _ h => h.subl (SB.s (by repeat constructor)) (SB.s (by repeat constructor)), fun _ h => h⟩) (fun b8 _ => ?_))
          all_goals refine tx_single 4 (by kernel_rfl) (to_e rfl rfl (e_callU rfl (.cons rfl (.cons rfl .nil)) (fun w' hw' => mean_c s hs k ((i : Int) - 2) h0 h1 (by omega) (by omega) sl hsl w' (RdI.frM (bm := bm) (es := es) (ck := ck) hr (hbt w' (hw'.fr (by simp)) (hw'.heap _ (HM.mem (by repeat constructor)))) hM) bw bm es' ck' (hw'.heap _ (HM.mem (by repeat constructor))) (hw'.heap _ (HM.mem (by repeat constructor))) hcache) (fun _ => (by repeat constructor))) (.inr ⟨fun _ _ h => h.subl (SB.s (by repeat constructor)) (SB.s (by repeat constructor)), fun _ h => h⟩) (fun y hy => ?_))
          all_goals refine tx_single 6 (by kernel_rfl) (to_e rfl rfl (e_callV rfl (.cons rfl (.cons rfl .nil)) (fun w' _ => meet_c _ _ _ _ w')) (.inr ⟨fun _ _ h => h.subl (SB.s (by repeat constructor)) (SB.s (by repeat constructor)), fun _ h => h⟩) (fun _ _ => ?_))
          all_goals refine tx_single 8 (by kernel_rfl) (to_e (S' := HG [] []) rfl rfl (e_storeW rfl rfl (by repeat constructor) (by rfl) (by rfl) (by simp [Value.oneCell'])) (.inl (by kernel_rfl)) (fun _ _ => ?_))
          all_goals refine tx_done (by kernel_rfl) ?_)
         rotate_right
         focus (
          (first | refine to_e rfl rfl (e_callU rfl (.cons rfl (.cons rfl .nil)) (fun w' hw' => mean_c s hs k ((i : Int) - 2) h0 h1 (by omega) (by omega) sl hsl w' (RdI.frM (bm := bm) (es := es) (ck := ck) hr (hbt w' (hw'.fr (by simp)) (hw'.heap _ (HM.mem (by repeat constructor)))) hM) bw bm es' ck' (hw'.heap _ (HM.mem (by repeat constructor))) (hw'.heap _ (HM.mem (by repeat constructor))) hcache) (fun _ => (by repeat constructor))) (.inr ⟨fun _ _ h => h.subl (SB.s (by repeat constructor)) (SB.s (by repeat constructor)), fun _ h => h⟩) (fun y hy => ?_))
          all_goals (
           refine tx_pair 6 7 (by kernel_rfl) ?_ ?_
           rotate_left
           focus (
            (first | refine to_e rfl rfl (e_allocN rfl) (.inr ⟨fun _ _ h => h.subl (SB.s (by repeat constructor)) (SB.s (by repeat constructor)), fun _ h => h⟩) (fun b8 _ => ?_))
            all_goals refine tx_single 6 (by kernel_rfl) (to_e rfl rfl (e_callV rfl (.cons rfl (.cons rfl .nil)) (fun w' _ => meet_c _ _ _ _ w')) (.inr ⟨fun _ _ h => h.subl (SB.s (by repeat constructor)) (SB.s (by repeat constructor)), fun _ h => h⟩) (fun _ _ => ?_))
            all_goals refine tx_single 8 (by kernel_rfl) (to_e (S' := HG [] []) rfl rfl (e_storeW rfl rfl (by repeat constructor) (by rfl) (by rfl) (by simp [Value.oneCell'])) (.inl (by kernel_rfl)) (fun _ _ => ?_))
            all_goals refine tx_done (by kernel_rfl) ?_)
           rotate_right
           focus (
            (first | refine to_e rfl rfl (e_callV rfl (.cons rfl (.cons rfl .nil)) (fun w' _ => meet_c _ _ _ _ w')) (.inr ⟨fun _ _ h => h.subl (SB.s (by repeat constructor)) (SB.s (by repeat constructor)), fun _ h => h⟩) (fun _ _ => ?_))
            all_goals refine tx_single 7 (by kernel_rfl) (to_e rfl rfl (e_allocN rfl) (.inr ⟨fun _ _ h => h.subl (SB.s (by repeat constructor)) (SB.s (by repeat constructor)), fun _ h => h⟩) (fun b8 _ => ?_))
            all_goals refine tx_single 8 (by kernel_rfl) (to_e (S' := HG [] []) rfl rfl (e_storeW rfl rfl (by repeat constructor) (by rfl) (by rfl) (by simp [Value.oneCell'])) (.inl (by kernel_rfl)) (fun _ _ => ?_))
            all_goals refine tx_done (by kernel_rfl) ?_))))
        all_goals (refine hK7 ?_; try (clear hK7; clear K7))
        all_goals refine tc_region ?_
        all_goals refine tl_q (y_move rfl) rfl ?_
        all_goals refine tl_q (y_field rfl) rfl ?_
        all_goals refine tl_q (y_load1 rfl (by repeat constructor) (by rfl)) rfl ?_
        all_goals refine tl_q (y_field rfl) rfl ?_
        all_goals refine tl_q (y_load1 rfl (by repeat constructor) (by rfl)) rfl ?_
        all_goals refine tl_q (y_sub rfl rfl (by omega)) rfl ?_
        all_goals refine tl_q (y_add rfl rfl (by omega)) rfl ?_
        all_goals refine tl_q (y_max rfl rfl) rfl ?_
        all_goals refine tl_q (y_assign rfl) rfl ?_
        all_goals refine tl_nil ?_
        all_goals (refine hK6 ?_; try (clear hK6; clear K6))
        all_goals refine tc_region ?_
        all_goals refine tl_q (y_move rfl) rfl ?_
        all_goals refine tl_q (y_add rfl rfl (by omega)) rfl ?_
        all_goals refine tl_q (y_assign rfl) rfl ?_
        all_goals refine tl_nil ?_
        all_goals (
         refine tk_round (i + 1, y.1, y.2) ⟨by omega, hy⟩ (by omega) (.cons rfl (.cons rfl (.cons rfl (.cons ?_ (.cons ?_ .nil))))) (fun _ h => h.sub (fun _ h => h) (SB.s (by repeat constructor)))
         · rw [leftF_succ]; rfl
         · show some (vi ((i : Int) - 2 + 1)) = some (vi (((i + 1 : Nat) : Int) - 2)); congr 2; omega)
      · try simp only [decide_eq_true_eq, decide_eq_false_iff_not, Int.not_lt, Int.not_le, Bool.not_eq_true', Bool.not_eq_false', Decidable.not_not, not_true_eq_false] at hc
        all_goals first | (exfalso; with_reducible exact bft hc) | (exfalso; with_reducible exact btf hc) | (exfalso; omega) | skip
        all_goals refine tc_exit ?_
        all_goals (refine hK2 ?_; try (clear hK2; clear K2))
        all_goals refine tc_seq fun K8 hK8 => ?_
        all_goals refine tc_region ?_
        all_goals refine tl_q (y_move rfl) rfl ?_
        all_goals refine tl_q (y_assign rfl) rfl ?_
        all_goals refine tl_nil ?_
        all_goals (refine hK8 ?_; try (clear hK8; clear K8))
        all_goals refine tc_ret ?_
        all_goals (repeat (first | refine tk_then_ret ?_ | refine tk_block_ret ?_ | refine tk_scope_ret ?_))
        all_goals first | refine tk_ret rfl rfl (.cons (.tmp rfl) .nil) ?_ | refine tk_retM rfl (by repeat constructor) rfl (.cons (.tmp rfl) .nil) ?_
        all_goals (
         refine fun w' hw' => ?_
         have hb2 := hw'.heap (bw, wkO s sl bm) (HM.mem (by repeat constructor))
         have hii : i = (s.divisions + 3).toNat := by omega
         exact ⟨(es', ck'), by rw [← hii]; rfl, hbt w' (hw'.fr (by simp)) hb2, hcache, hw'.heap _ (HM.mem (by repeat constructor))⟩)))
def bestStep (s : Sn) (r : Int × Int) (acc : Int × Int) (k : Nat) : Int × Int := if leftF s r k (s.divisions + 3).toNat < acc.2 then ((k : Int), leftF s r k (s.divisions + 3).toNat) else acc
def bestAcc (s : Sn) (r : Int × Int) (n : Nat) : Int × Int := (List.range n).foldl (bestStep s r) (0, leftF s r 0 (s.divisions + 3).toNat)
theorem bestAcc_succ (s : Sn) (r : Int × Int) (n : Nat) : bestAcc s r (n + 1) = bestStep s r (bestAcc s r n) n := by simp [bestAcc, List.range_succ]
def bestE (s : Sn) (r : Int × Int) : (Int × Int) × Int := if ¬ rangedF s r = 0 then ((0, 0), rangedF s r) else (bestAcc s r (s.weights.length + 1), 0)
theorem best_e (s : Sn) (hn : NB s) (r : Int × Int) (sl : Value) (w : World) (hr : RdI w sl s.weights) :
    CnV Try.prog 38 #[spV s sl, rV r] w (.tuple #[vi (bestE s r).1.1, vi (bestE s r).1.2, vi (bestE s r).2]) := by
  have hr0 := hr
  have hone := hr.one
  obtain ⟨ad, cp, b0, o0, rfl, had, hcell⟩ := hr.open
  refine cnv (vs := [_, _]) Try.func38 rfl rfl ?_
  all_goals refine tc_seq fun K1 hK1 => ?_
  all_goals refine tc_region ?_
  all_goals refine tl_e (e_box rfl rfl rfl) rfl (fun b2 _ => ?_)
  all_goals refine tl_e (e_box rfl rfl rfl) rfl (fun b3 _ => ?_)
  all_goals refine tl_e (e_alloc1 rfl) rfl (fun b4 _ => ?_)
  all_goals refine tl_e (e_alloc1 rfl) rfl (fun b5 _ => ?_)
  all_goals refine tl_q (y_assign rfl) rfl ?_
  all_goals refine tl_nil ?_
  all_goals (refine hK1 ?_; try (clear hK1; clear K1))
  all_goals refine tc_seq fun K2 hK2 => ?_
  all_goals refine tc_seq fun K3 hK3 => ?_
  all_goals refine tc_region ?_
  all_goals (first | refine tl_q (y_loadW rfl (by repeat constructor) (by rfl)) rfl ?_ | refine tl_q (y_loadN rfl (by repeat constructor) (by (repeat (first | exact .nil | apply CA.cons rfl)); done)) rfl ?_)
  all_goals (first | refine tl_q (y_loadW rfl (by repeat constructor) (by rfl)) rfl ?_ | refine tl_q (y_loadN rfl (by repeat constructor) (by (repeat (first | exact .nil | apply CA.cons rfl)); done)) rfl ?_)
  all_goals refine tl_e (e_callV rfl (.cons rfl (.cons rfl .nil)) (fun w' hw' => ranged_c s hn r _ w' (hr0.fr (hw'.fr (by simp))))) rfl (fun _ _ => ?_)
  all_goals refine tl_q (y_assign rfl) rfl ?_
  all_goals refine tl_nil ?_
  all_goals (refine hK3 ?_; try (clear hK3; clear K3))
  all_goals refine tc_seq fun K4 hK4 => ?_
  all_goals refine tc_region ?_
  all_goals refine tl_q (y_move rfl) rfl ?_
  all_goals refine tl_q (y_neq rfl rfl) rfl ?_
  all_goals refine tl_nil ?_
  all_goals (refine hK4 ?_; try (clear hK4; clear K4))
  all_goals (
   refine tc_cond rfl (fun hc => ?_) (fun hc => ?_)
   · try simp only [decide_eq_true_eq, decide_eq_false_iff_not, Int.not_lt, Int.not_le, Bool.not_eq_true', Bool.not_eq_false', Decidable.not_not, not_true_eq_false] at hc
     all_goals first | (exfalso; with_reducible exact bft hc) | (exfalso; with_reducible exact btf hc) | (exfalso; omega) | skip
     all_goals refine tc_seq fun K5 hK5 => ?_
     all_goals refine tc_region ?_
     all_goals refine tl_q (y_move rfl) rfl ?_
     all_goals refine tl_e (e_store1 rfl rfl (by repeat constructor) (by repeat constructor) (by rfl) (by rfl)) rfl (fun _ _ => ?_)
     all_goals refine tl_e (e_store1 rfl rfl (by repeat constructor) (by repeat constructor) (by rfl) (by rfl)) rfl (fun _ _ => ?_)
     all_goals refine tl_q (y_assign rfl) rfl ?_
     all_goals refine tl_nil ?_
     all_goals (refine hK5 ?_; try (clear hK5; clear K5))
     all_goals refine tc_ret ?_
     all_goals (repeat (first | refine tk_then_ret ?_ | refine tk_block_ret ?_ | refine tk_scope_ret ?_))
     all_goals first | refine tk_ret rfl rfl (.cons (.one inferInstance rfl (by repeat constructor) (by rfl)) (.cons (.one inferInstance rfl (by repeat constructor) (by rfl)) (.cons (.tmp rfl) .nil))) ?_ | refine tk_retM rfl (by repeat constructor) rfl (.cons (.one inferInstance rfl (by repeat constructor) (by rfl)) (.cons (.one inferInstance rfl (by repeat constructor) (by rfl)) (.cons (.tmp rfl) .nil))) ?_
     all_goals (
      first
      | (have e1 : bestE s r = ((0, 0), rangedF s r) := by unfold bestE; rw [if_pos hc]
         exact fun w' hw' => ⟨by rw [e1]; rfl, hw'.fr (by simp)⟩)
      | (have e1 : bestE s r = (bestAcc s r (s.weights.length + 1), 0) := by unfold bestE; rw [if_neg (by omega)]
         exact fun w' hw' => ⟨by rw [e1]; rfl, hw'.fr (by simp)⟩))
   · try simp only [decide_eq_true_eq, decide_eq_false_iff_not, Int.not_lt, Int.not_le, Bool.not_eq_true', Bool.not_eq_false', Decidable.not_not, not_true_eq_false] at hc
     all_goals first | (exfalso; with_reducible exact bft hc) | (exfalso; with_reducible exact btf hc) | (exfalso; omega) | skip
     all_goals refine tc_skip ?_
     all_goals (refine hK2 ?_; try (clear hK2; clear K2))
     all_goals refine tc_seq fun K6 hK6 => ?_
     have hq := rangedF_0 (s := s) (r := r) (by omega)
     have hv6 : (s.weights.length : Int) ≤ 6 := by have := hq.1.n; omega
     all_goals refine tc_region ?_
     all_goals (first | refine tl_q (y_loadW rfl (by repeat constructor) (by rfl)) rfl ?_ | refine tl_q (y_loadN rfl (by repeat constructor) (by (repeat (first | exact .nil | apply CA.cons rfl)); done)) rfl ?_)
     all_goals refine tl_e (e_callN rfl (.cons rfl .nil) (fun w' hw' => work_c s _ hone w')) rfl (fun x _ => ?_)
     all_goals refine tl_e (e_alloc1 rfl) rfl (fun b8 _ => ?_)
     all_goals refine tl_e (e_store1 rfl rfl (by repeat constructor) (by repeat constructor) (by rfl) (by rfl)) rfl (fun _ _ => ?_)
     all_goals refine tl_nil ?_
     all_goals (refine hK6 ?_; try (clear hK6; clear K6))
     all_goals refine tc_seq fun K7 hK7 => ?_
     all_goals refine tc_region ?_
     all_goals refine tl_q (y_load1 rfl (by repeat constructor) (by rfl)) rfl ?_
     all_goals (first | refine tl_q (y_loadW rfl (by repeat constructor) (by rfl)) rfl ?_ | refine tl_q (y_loadN rfl (by repeat constructor) (by (repeat (first | exact .nil | apply CA.cons rfl)); done)) rfl ?_)
     all_goals (first | refine tl_e (e_callU rfl (.cons rfl (.cons rfl (.cons rfl .nil))) (fun w' hw' => left_c s hq.1 r hq.2.2.1 hq.2.2.2 (i2 : Nat) (by omega) (by omega) _ hone w' x.1 x.2 es ck (hr0.fr (hw'.fr (w0 := w) (S := []) (by simp))) (hw'.heap _ (HM.mem (by repeat constructor))) (hw'.heap _ (HM.mem (by repeat constructor))) hcache) (fun _ => (by repeat constructor))) rfl (fun z hz => ?_) | refine tl_e (e_callU rfl (.cons rfl (.cons rfl (.cons rfl .nil))) (fun w' hw' => left_c s hq.1 r hq.2.2.1 hq.2.2.2 0 (by omega) (by omega) _ hone w' x.1 x.2 #[] 0 (hr0.fr (hw'.fr (by simp))) (hw'.heap _ (HM.mem (by repeat constructor))) (hw'.heap _ (HM.mem (by repeat constructor))) (fun e he => by simp at he)) (fun _ => (by repeat constructor))) rfl (fun z hz => ?_))
     all_goals refine tl_e (e_store1 rfl rfl (by repeat constructor) (by repeat constructor) (by rfl) (by rfl)) rfl (fun _ _ => ?_)
     all_goals refine tl_nil ?_
     all_goals (refine hK7 ?_; try (clear hK7; clear K7))
     all_goals refine tc_seq fun K8 hK8 => ?_
     all_goals refine tc_seq fun K9 hK9 => ?_
     all_goals refine tc_region ?_
     all_goals (first | refine tl_q (y_loadW rfl (by repeat constructor) (by rfl)) rfl ?_ | refine tl_q (y_loadN rfl (by repeat constructor) (by (repeat (first | exact .nil | apply CA.cons rfl)); done)) rfl ?_)
     all_goals refine tl_e (e_callB rfl (.cons rfl .nil) (fun w' hw' => loads_c s _ w')) rfl (fun bL _ => ?_)
     all_goals refine tl_nil ?_
     all_goals (refine hK9 ?_; try (clear hK9; clear K9))
     all_goals refine tc_block ?_
     all_goals (
      refine tc_range (α := Nat) (σ := Nat × Array MapEntry × Nat) (gf := 96) (lb := #[ptr bL]) (enc := fun k => [vi k]) (List.range (s.weights.length + 1)) [b8, x.1, x.2, b5, b4, b3, b2] (fun st => [(b8, .cells #[ptr x.1] 97 (0, 0)), (x.1, wkO s (.slice ad s.weights.length cp) x.2), (x.2, .map st.2.1 st.2.2), (b5, .cells #[vi (bestAcc s r st.1).2] 3 (0, 0)), (b4, .cells #[vi (bestAcc s r st.1).1] 3 (0, 0)), (b3, .cells #[vi r.1, vi r.2] 33 (0, 0)), (b2, .cells (spV s (.slice ad s.weights.length cp)).cells 30 (0, 0))]) (fun i st => st.1 = i ∧ Cache (meanV s) st.2.1.toList) (fun _ _ => False) (0, z.1, z.2) rfl rfl (fun _ => rfl) ⟨rfl, hz⟩ (by simp) (fun _ h => h.sub (fun _ h => h) (SB.s (by repeat constructor))) (fun w' hw' => loads_seq s _ ⟨_, _, rfl⟩ (by omega) w' bL (hw'.heap _ (HM.mem (by repeat constructor))) _ (List.nodup_cons.1 hw'.nodup).1) ?_ ?_ ?_
      · intro l R0 R1 i st k w2 hx hI K hK
        obtain ⟨hi, hcache⟩ := hI
        obtain ⟨hxl, hxe⟩ := List.getElem?_eq_some_iff.1 hx
        simp only [List.length_range, List.getElem_range] at hxl hxe
        subst hxe
        obtain ⟨i2, es, ck⟩ := st
        dsimp only at hi hcache hK ⊢
        subst hi
        all_goals refine tc_region ?_
        all_goals refine tl_q (y_assign rfl) rfl ?_
        all_goals refine tl_nil ?_
        all_goals refine hK ?_
        all_goals clear hK
        all_goals refine tc_block ?_
        all_goals refine tc_seq fun K10 hK10 => ?_
        all_goals refine tc_region ?_
        all_goals refine tl_q (y_load1 rfl (by repeat constructor) (by rfl)) rfl ?_
        all_goals (first | refine tl_q (y_loadW rfl (by repeat constructor) (by rfl)) rfl ?_ | refine tl_q (y_loadN rfl (by repeat constructor) (by (repeat (first | exact .nil | apply CA.cons rfl)); done)) rfl ?_)
        all_goals refine tl_q (y_move rfl) rfl ?_
        all_goals (first | refine tl_e (e_callU rfl (.cons rfl (.cons rfl (.cons rfl .nil))) (fun w' hw' => left_c s hq.1 r hq.2.2.1 hq.2.2.2 (i2 : Nat) (by omega) (by omega) _ hone w' x.1 x.2 es ck (hr0.fr (hw'.fr (w0 := w) (S := []) (by simp))) (hw'.heap _ (HM.mem (by repeat constructor))) (hw'.heap _ (HM.mem (by repeat constructor))) hcache) (fun _ => (by repeat constructor))) rfl (fun y hy => ?_) | refine tl_e (e_callU rfl (.cons rfl (.cons rfl (.cons rfl .nil))) (fun w' hw' => left_c s hq.1 r hq.2.2.1 hq.2.2.2 0 (by omega) (by omega) _ hone w' x.1 x.2 #[] 0 (hr0.fr (hw'.fr (by simp))) (hw'.heap _ (HM.mem (by repeat constructor))) (hw'.heap _ (HM.mem (by repeat constructor))) (fun e he => by simp at he)) (fun _ => (by repeat constructor))) rfl (fun y hy => ?_))
        all_goals refine tl_q (y_assign rfl) rfl ?_
        all_goals refine tl_nil ?_
        all_goals (refine hK10 ?_; try (clear hK10; clear K10))
        all_goals refine tc_seq fun K11 hK11 => ?_
        all_goals refine tc_region ?_
        all_goals refine tl_q (y_move rfl) rfl ?_
        all_goals refine tl_q (y_load1 rfl (by repeat constructor) (by rfl)) rfl ?_
        all_goals refine tl_q (y_lss rfl rfl) rfl ?_
        all_goals refine tl_nil ?_
        all_goals (refine hK11 ?_; try (clear hK11; clear K11))
        all_goals (
         refine tc_cond rfl (fun hc => ?_) (fun hc => ?_)
         · try simp only [decide_eq_true_eq, decide_eq_false_iff_not, Int.not_lt, Int.not_le, Bool.not_eq_true', Bool.not_eq_false', Decidable.not_not, not_true_eq_false] at hc
           all_goals first | (exfalso; with_reducible exact bft hc) | (exfalso; with_reducible exact btf hc) | (exfalso; omega) | skip
           all_goals refine tc_region ?_
           all_goals refine tl_q (y_move rfl) rfl ?_
           all_goals refine tl_q (y_move rfl) rfl ?_
           all_goals refine tl_e (e_store1 rfl rfl (by repeat constructor) (by repeat constructor) (by rfl) (by rfl)) rfl (fun _ _ => ?_)
           all_goals refine tl_e (e_store1 rfl rfl (by repeat constructor) (by repeat constructor) (by rfl) (by rfl)) rfl (fun _ _ => ?_)
           all_goals refine tl_nil ?_
           all_goals (
            repeat (refine tk_ib ?_)
            refine tk_rq (i2 + 1, y.1, y.2) ⟨rfl, hy⟩ (fun _ h => ?_)
            dsimp only
            first
            | (rw [bestAcc_succ, show bestStep s r (bestAcc s r i2) i2 = ((i2 : Int), leftF s r i2 (s.divisions + 3).toNat) from by unfold bestStep; rw [if_pos hc]]; exact h.sub (fun _ h => h) (SB.s (by repeat constructor)))
            | (rw [bestAcc_succ, show bestStep s r (bestAcc s r i2) i2 = bestAcc s r i2 from by unfold bestStep; rw [if_neg (by omega)]]; exact h.sub (fun _ h => h) (SB.s (by repeat constructor))))
         · try simp only [decide_eq_true_eq, decide_eq_false_iff_not, Int.not_lt, Int.not_le, Bool.not_eq_true', Bool.not_eq_false', Decidable.not_not, not_true_eq_false] at hc
           all_goals first | (exfalso; with_reducible exact bft hc) | (exfalso; with_reducible exact btf hc) | (exfalso; omega) | skip
           all_goals refine tc_skip ?_
           all_goals (
            repeat (refine tk_ib ?_)
            refine tk_rq (i2 + 1, y.1, y.2) ⟨rfl, hy⟩ (fun _ h => ?_)
            dsimp only
            first
            | (rw [bestAcc_succ, show bestStep s r (bestAcc s r i2) i2 = ((i2 : Int), leftF s r i2 (s.divisions + 3).toNat) from by unfold bestStep; rw [if_pos hc]]; exact h.sub (fun _ h => h) (SB.s (by repeat constructor)))
            | (rw [bestAcc_succ, show bestStep s r (bestAcc s r i2) i2 = bestAcc s r i2 from by unfold bestStep; rw [if_neg (by omega)]]; exact h.sub (fun _ h => h) (SB.s (by repeat constructor)))))
      · intro D st hI
        obtain ⟨_, es, ck⟩ := st
        obtain ⟨hn1, hcache⟩ := hI
        simp only [List.length_range] at hn1
        subst hn1
        all_goals (refine hK8 ?_; try (clear hK8; clear K8))
        all_goals refine tc_seq fun K12 hK12 => ?_
        all_goals refine tc_draw (by kernel_rfl) ?_
        all_goals refine tx_qS 0 rfl (by kernel_rfl) (y_load1 rfl (by repeat constructor) (by rfl)) rfl (fun _ _ _ h => h) (fun _ h => h.subl (SB.s (by repeat constructor)) (SB.s (by repeat constructor))) ?_
        all_goals refine tx_qS 1 rfl (by kernel_rfl) (y_load1 rfl (by repeat constructor) (by rfl)) rfl (fun _ _ _ h => h) (fun _ h => h.subl (SB.s (by repeat constructor)) (SB.s (by repeat constructor))) ?_
        all_goals refine tx_single 2 (by kernel_rfl) (to_e rfl rfl (e_store1 rfl rfl (by repeat constructor) (by repeat constructor) (by rfl) (by rfl)) (.inr ⟨fun _ _ h => h.subl (SB.s (by repeat constructor)) (SB.s (by repeat constructor)), fun _ h => h⟩) (fun _ _ => ?_))
        all_goals refine tx_single 3 (by kernel_rfl) (to_e (S' := HG [] []) rfl rfl (e_store1 rfl rfl (by repeat constructor) (by repeat constructor) (by rfl) (by rfl)) (.inl (by kernel_rfl)) (fun _ _ => ?_))
        all_goals refine tx_p 4 rfl (by kernel_rfl) (y_assign rfl) rfl (fun _ _ _ h => h) (fun _ h => h.subl (SB.s (by repeat constructor)) (SB.s (by repeat constructor))) ?_
        all_goals refine tx_done (by kernel_rfl) ?_
        all_goals (refine hK12 ?_; try (clear hK12; clear K12))
        all_goals refine tc_ret ?_
        all_goals (repeat (first | refine tk_then_ret ?_ | refine tk_block_ret ?_ | refine tk_scope_ret ?_))
        all_goals first | refine tk_ret rfl rfl (.cons (.one inferInstance rfl (by repeat constructor) (by rfl)) (.cons (.one inferInstance rfl (by repeat constructor) (by rfl)) (.cons (.tmp rfl) .nil))) ?_ | refine tk_retM rfl (by repeat constructor) rfl (.cons (.one inferInstance rfl (by repeat constructor) (by rfl)) (.cons (.one inferInstance rfl (by repeat constructor) (by rfl)) (.cons (.tmp rfl) .nil))) ?_
        all_goals (
         first
         | (have e1 : bestE s r = ((0, 0), rangedF s r) := by unfold bestE; rw [if_pos hc]
            exact fun w' hw' => ⟨by rw [e1]; rfl, hw'.fr (by simp)⟩)
         | (have e1 : bestE s r = (bestAcc s r (s.weights.length + 1), 0) := by unfold bestE; rw [if_neg (by omega)]
            exact fun w' hw' => ⟨by rw [e1]; rfl, hw'.fr (by simp)⟩))
      · intro D c s hJ; exact hJ.elim))
end Go.Sp
