/-
  Which densities loads cover; Cover, ProveCover.
-/
import Derived.Test.YtdmnmhkonfadhaaI
set_option linter.unusedVariables false
set_option linter.unusedSimpArgs false
set_option linter.deprecated false
namespace Go.Sp
open Go Go.Proofs
def withN (c : List Bool) (r : Int × Int) (n : Nat) : List Bool := (List.range n).foldl (fun c j => c.set (r.1.toNat + j) true) c
def withF (c : List Bool) (r : Int × Int) : List Bool := withN c r (r.2 - r.1 + 1).toNat
theorem withN_succ (c : List Bool) (r : Int × Int) (n : Nat) : withN c r (n + 1) = (withN c r n).set (r.1.toNat + n) true := by simp [withN, List.range_succ]
theorem withN_len (c : List Bool) (r : Int × Int) (n : Nat) : (withN c r n).length = c.length := by
  induction n with
  | zero => rfl
  | succ n ih => rw [withN_succ, List.length_set, ih]
abbrev fnV (f : Nat) : Value := .func (.func f) #[] #[]
theorem with_c (cs : List Bool) (hcs : cs.length = 2001) (r : Int × Int) (h1 : 0 ≤ r.1 ∧ r.1 ≤ 100000000) (h2 : r.2 ≤ 2000) (w : World) : CnV Try.prog 97 #[.agg (bsV cs), rV r] w (.agg (bsV (withF cs r))) := by
  have hws : ∀ n, (bsV (withN cs r n)).size = 2001 := fun n => by rw [bsV_size, withN_len, hcs]
  refine cnv (vs := [_, _]) Try.func97 rfl rfl ?_
  all_goals refine tc_seq fun K1 hK1 => ?_
  all_goals refine tc_region ?_
  all_goals refine tl_e (e_box rfl rfl rfl) rfl (fun b2 _ => ?_)
  all_goals refine tl_e (e_box rfl rfl rfl) rfl (fun b3 _ => ?_)
  all_goals refine tl_e (e_allocN rfl) rfl (fun b4 _ => ?_)
  all_goals refine tl_nil ?_
  all_goals (refine hK1 ?_; try (clear hK1; clear K1))
  all_goals refine tc_seq fun K2 hK2 => ?_
  all_goals refine tc_region ?_
  all_goals refine tl_q (y_build_1 rfl rfl) rfl ?_
  all_goals refine tl_q (y_build_1 rfl rfl) rfl ?_
  all_goals refine tl_e (e_allocN rfl) rfl (fun b5 _ => ?_)
  all_goals refine tl_e (e_allocN rfl) rfl (fun b6 _ => ?_)
  all_goals (first | refine tl_e (e_storeW rfl rfl (by repeat constructor) (hws _) (by rw [bsV_rep, bsV_size, List.length_replicate]) (bsV_one _)) rfl (fun _ _ => ?_) | refine tl_e (e_storeW rfl rfl (by repeat constructor) (by rfl) (by rfl) (by simp [Value.oneCell'])) rfl (fun _ _ => ?_))
  all_goals (first | refine tl_e (e_storeW rfl rfl (by repeat constructor) (hws _) (by rw [bsV_rep, bsV_size, List.length_replicate]) (bsV_one _)) rfl (fun _ _ => ?_) | refine tl_e (e_storeW rfl rfl (by repeat constructor) (by rfl) (by rfl) (by simp [Value.oneCell'])) rfl (fun _ _ => ?_))
  all_goals refine tl_nil ?_
  all_goals (refine hK2 ?_; try (clear hK2; clear K2))
  all_goals refine tc_seq fun K3 hK3 => ?_
  all_goals refine tc_seq fun K4 hK4 => ?_
  all_goals refine tc_region ?_
  all_goals refine tl_q (y_field rfl) rfl ?_
  all_goals refine tl_q (y_load1 rfl (by repeat constructor) (by rfl)) rfl ?_
  all_goals (first | refine tl_q (y_loadW rfl (by repeat constructor) (hws _)) rfl ?_ | refine tl_q (y_loadW rfl (by repeat constructor) (by rfl)) rfl ?_ | refine tl_q (y_loadN rfl (by repeat constructor) (by (repeat (first | exact .nil | apply CA.cons rfl)); done)) rfl ?_)
  all_goals (first | refine tl_e (e_callVf rfl rfl (.cons rfl .nil) (fun w' _ => by simp only [Array.empty_append, Array.append_empty]; exact low_c r.1 r.2 w')) rfl (fun _ _ => ?_) | refine tl_e (e_callVf rfl rfl (.cons rfl .nil) (fun w' _ => by simp only [Array.empty_append, Array.append_empty]; exact high_c r.1 r.2 w')) rfl (fun _ _ => ?_))
  all_goals refine tl_q (y_assign rfl) rfl ?_
  all_goals refine tl_nil ?_
  all_goals (refine hK4 ?_; try (clear hK4; clear K4))
  all_goals refine tc_block ?_
  all_goals (
   refine tc_loop (fun n : Nat => n ≤ (r.2 - r.1 + 1).toNat) (fun n => [(2, ptr b2), (3, ptr b3), (4, ptr b4), (5, ptr b5), (6, ptr b6), (7, vi (r.1 + n))]) (fun _ => [(w, [])]) (fun n => [(b6, .cells #[fnV 103] 135 (0, 0)), (b5, .cells #[fnV 102] 135 (0, 0)), (b4, .cells (List.replicate 2001 (.bool false)).toArray 128 (0, 0)), (b3, .cells #[vi r.1, vi r.2] 33 (0, 0)), (b2, .cells (bsV (withN cs r n)) 128 (0, 0))]) (fun n => (r.2 - r.1 + 1).toNat - n) ?_ ?_
   · refine tk_start 0 (Nat.zero_le _) ?_ (fun _ h => h.sub (fun _ h => h) (SB.s (by repeat constructor)))
     rw [show r.1 + ((0 : Nat) : Int) = r.1 from by omega]
     exact .cons rfl (.cons rfl (.cons rfl (.cons rfl (.cons rfl (.cons rfl .nil)))))
   · intro n hn
     all_goals refine tc_seq fun K5 hK5 => ?_
     all_goals refine tc_seq fun K6 hK6 => ?_
     all_goals refine tc_region ?_
     all_goals refine tl_q (y_move rfl) rfl ?_
     all_goals refine tl_q (y_field rfl) rfl ?_
     all_goals refine tl_q (y_load1 rfl (by repeat constructor) (by rfl)) rfl ?_
     all_goals (first | refine tl_q (y_loadW rfl (by repeat constructor) (hws _)) rfl ?_ | refine tl_q (y_loadW rfl (by repeat constructor) (by rfl)) rfl ?_ | refine tl_q (y_loadN rfl (by repeat constructor) (by (repeat (first | exact .nil | apply CA.cons rfl)); done)) rfl ?_)
     all_goals (first | refine tl_e (e_callVf rfl rfl (.cons rfl .nil) (fun w' _ => by simp only [Array.empty_append, Array.append_empty]; exact low_c r.1 r.2 w')) rfl (fun _ _ => ?_) | refine tl_e (e_callVf rfl rfl (.cons rfl .nil) (fun w' _ => by simp only [Array.empty_append, Array.append_empty]; exact high_c r.1 r.2 w')) rfl (fun _ _ => ?_))
     all_goals refine tl_q (y_leq rfl rfl) rfl ?_
     all_goals refine tl_nil ?_
     all_goals (refine hK6 ?_; try (clear hK6; clear K6))
     all_goals (
      refine tc_cond rfl (fun hc => ?_) (fun hc => ?_)
      · try simp only [decide_eq_true_eq, decide_eq_false_iff_not, Int.not_lt, Int.not_le, Bool.not_eq_true', Bool.not_eq_false', Decidable.not_not, not_true_eq_false] at hc
        all_goals first | (exfalso; with_reducible exact bft hc) | (exfalso; with_reducible exact btf hc) | (exfalso; omega) | skip
        all_goals refine tc_skip ?_
        all_goals (refine hK5 ?_; try (clear hK5; clear K5))
        all_goals refine tc_seq fun K7 hK7 => ?_
        all_goals refine tc_block ?_
        all_goals refine tc_region ?_
        all_goals refine tl_q (y_move rfl) rfl ?_
        all_goals (first | refine tl_q (y_index rfl rfl (by omega) rfl) rfl ?_ | refine tl_q (y_indexA rfl rfl (by omega)) rfl ?_)
        all_goals refine tl_e (e_storeB (o := 0 + (r.1 + (n : Int)).toNat * 1) (l := withN cs r n) rfl rfl (by rw [withN_len, hcs]; omega) (by repeat constructor)) rfl (fun _ _ => ?_)
        all_goals refine tl_nil ?_
        all_goals (refine hK7 ?_; try (clear hK7; clear K7))
        all_goals refine tc_region ?_
        all_goals refine tl_q (y_move rfl) rfl ?_
        all_goals refine tl_q (y_add rfl rfl (by omega)) rfl ?_
        all_goals refine tl_q (y_assign rfl) rfl ?_
        all_goals refine tl_nil ?_
        all_goals (
         refine tk_round (n + 1) (by omega) (by omega) (.cons rfl (.cons rfl (.cons rfl (.cons rfl (.cons rfl (.cons ?_ .nil)))))) (fun w' h => ?_)
         · show some (vi (r.1 + (n : Int) + 1)) = some (vi (r.1 + ((n + 1 : Nat) : Int))); congr 2; omega
         · rw [withN_succ, show r.1.toNat + n = 0 + (r.1 + (n : Int)).toNat * 1 from by omega]
           exact h.sub (fun _ h => h) (SB.s (by repeat constructor)))
      · try simp only [decide_eq_true_eq, decide_eq_false_iff_not, Int.not_lt, Int.not_le, Bool.not_eq_true', Bool.not_eq_false', Decidable.not_not, not_true_eq_false] at hc
        all_goals first | (exfalso; with_reducible exact bft hc) | (exfalso; with_reducible exact btf hc) | (exfalso; omega) | skip
        all_goals refine tc_exit ?_
        all_goals (refine hK3 ?_; try (clear hK3; clear K3))
        all_goals refine tc_seq fun K8 hK8 => ?_
        all_goals refine tc_region ?_
        all_goals (first | refine tl_q (y_loadW rfl (by repeat constructor) (hws _)) rfl ?_ | refine tl_q (y_loadW rfl (by repeat constructor) (by rfl)) rfl ?_ | refine tl_q (y_loadN rfl (by repeat constructor) (by (repeat (first | exact .nil | apply CA.cons rfl)); done)) rfl ?_)
        all_goals (first | refine tl_e (e_storeW rfl rfl (by repeat constructor) (hws _) (by rw [bsV_rep, bsV_size, List.length_replicate]) (bsV_one _)) rfl (fun _ _ => ?_) | refine tl_e (e_storeW rfl rfl (by repeat constructor) (by rfl) (by rfl) (by simp [Value.oneCell'])) rfl (fun _ _ => ?_))
        all_goals refine tl_nil ?_
        all_goals (refine hK8 ?_; try (clear hK8; clear K8))
        all_goals refine tc_ret ?_
        all_goals (repeat (first | refine tk_then_ret ?_ | refine tk_block_ret ?_ | refine tk_scope_ret ?_))
        all_goals first | refine tk_ret rfl rfl (.cons (.agg inferInstance rfl (by repeat constructor) (hws _)) .nil) ?_ | refine tk_retM rfl (by repeat constructor) rfl (.cons (.agg inferInstance rfl (by repeat constructor) (hws _)) .nil) ?_
        all_goals (
         have hnn : n = (r.2 - r.1 + 1).toNat := by omega
         subst hnn
         exact fun w' hw' => ⟨rfl, hw'.fr (by simp)⟩)))
theorem withF_len (c : List Bool) (r : Int × Int) : (withF c r).length = c.length := withN_len c r _
def covStep (s : Sn) (c : List Bool) (k : Int) : List Bool := withF c (floF s k)
def covL (s : Sn) (l : List Int) (n : Nat) : List Bool := (l.take n).foldl (covStep s) (List.replicate 2001 false)
theorem covL_succ (s : Sn) (l : List Int) (n : Nat) (hn : n < l.length) : covL s l (n + 1) = withF (covL s l n) (floF s (l.getD n 0)) := by
  unfold covL
  rw [List.take_add_one, List.getElem?_eq_getElem hn, List.getD_eq_getElem?_getD, List.getElem?_eq_getElem hn, List.foldl_append]
  rfl
theorem foldl_len (s : Sn) (l : List Int) (c : List Bool) : (l.foldl (covStep s) c).length = c.length := by
  induction l generalizing c with
  | nil => rfl
  | cons k l ih => rw [List.foldl_cons, ih]; exact withF_len _ _
theorem covL_len (s : Sn) (l : List Int) (n : Nat) : (covL s l n).length = 2001 := by
  unfold covL; rw [foldl_len, List.length_replicate]
def coversF (s : Sn) (r : Int × Int) (l : List Int) : Bool := decide (covL s l l.length = withF (covL s l l.length) r)
theorem floF_bd {s : Sn} (hs : VS s) {k : Int} (h0 : 0 ≤ k) (h1 : k ≤ s.weights.length) : (0 ≤ (floF s k).1 ∧ (floF s k).1 ≤ 100000000) ∧ (floF s k).2 ≤ 2000 := by
  have hbd := massF_bd hs h0 h1
  have hds := ds_bd hs
  have hv1 := hs.v1
  have hfb := from_bd hbd.1 hbd.2 (v := s.volume + s.divisions * s.step) (by omega)
  have hbb := below_bd hbd.1 hbd.2 hv1
  simp only [floF]
  omega
theorem covers_c (s : Sn) (hs : VS s) (r : Int × Int) (hr1 : 1 ≤ r.1 ∧ r.1 ≤ 2000) (hr2 : 1 ≤ r.2 ∧ r.2 ≤ 2000) (l : List Int) (hl : (l.length : Int) ≤ 9000000000000000000) (hlo : ∀ k ∈ l, 0 ≤ k ∧ k ≤ s.weights.length) (sl lv : Value) (w : World) (hr : RdI w sl s.weights) (hL : RdI w lv l) :
    CnV Try.prog 82 #[spV s sl, rV r, lv] w (.bool (coversF s r l)) := by
  have hone := hr.one
  have hcz : ∀ n, (bsV (covL s l n)).size = 2001 := fun n => by rw [bsV_size, covL_len]
  obtain ⟨ad, cap, b0, o, rfl, had, hcell⟩ := hL.open
  have hr0 := hr
  obtain ⟨ad2, cp2, b2', o2, rfl, _, _⟩ := hr.open
  refine cnv (vs := [_, _, _]) Try.func82 rfl rfl ?_
  all_goals refine tc_seq fun K1 hK1 => ?_
  all_goals refine tc_region ?_
  all_goals refine tl_e (e_box rfl rfl rfl) rfl (fun b3 _ => ?_)
  all_goals refine tl_e (e_box rfl rfl rfl) rfl (fun b4 _ => ?_)
  all_goals refine tl_q (y_assign rfl) rfl ?_
  all_goals refine tl_nil ?_
  all_goals (refine hK1 ?_; try (clear hK1; clear K1))
  all_goals refine tc_seq fun K2 hK2 => ?_
  all_goals refine tc_region ?_
  all_goals refine tl_e (e_allocN rfl) rfl (fun b7 _ => ?_)
  all_goals refine tl_nil ?_
  all_goals (refine hK2 ?_; try (clear hK2; clear K2))
  all_goals refine tc_seq fun K3 hK3 => ?_
  all_goals refine tc_seq fun K4 hK4 => ?_
  rw [bsV_rep]
  rw [show List.replicate 2001 false = covL s l 0 from rfl]
  all_goals refine tc_region ?_
  all_goals refine tl_q (y_move rfl) rfl ?_
  all_goals refine tl_q (y_len rfl) rfl ?_
  all_goals refine tl_q (y_move rfl) rfl ?_
  all_goals refine tl_nil ?_
  all_goals (refine hK4 ?_; try (clear hK4; clear K4))
  all_goals refine tc_block ?_
  all_goals (
   refine tc_loop (fun n : Nat => n ≤ l.length) (fun n => [(3, ptr b3), (4, ptr b4), (6, .bool false), (7, ptr b7), (10, .slice ad l.length cap), (11, vi l.length), (12, vi n)]) (fun _ => [(w, [])]) (fun n => [(b7, .cells (bsV (covL s l n)) 128 (0, 0)), (b4, .cells #[vi r.1, vi r.2] 33 (0, 0)), (b3, .cells (spV s (.slice ad2 s.weights.length cp2)).cells 30 (0, 0))]) (fun n => l.length - n) ?_ ?_
   · exact tk_start 0 (Nat.zero_le _) (.cons rfl (.cons rfl (.cons rfl (.cons rfl (.cons rfl (.cons rfl (.cons rfl .nil))))))) (fun _ h => h.sub (fun _ h => h) (SB.s (by repeat constructor)))
   · intro i hi
     all_goals refine tc_seq fun K5 hK5 => ?_
     all_goals refine tc_region ?_
     all_goals refine tl_q (y_lss rfl rfl) rfl ?_
     all_goals refine tl_nil ?_
     all_goals (refine hK5 ?_; try (clear hK5; clear K5))
     all_goals refine tc_seq fun K6 hK6 => ?_
     all_goals (
      refine tc_cond rfl (fun hc => ?_) (fun hc => ?_)
      · try simp only [decide_eq_true_eq, decide_eq_false_iff_not, Int.not_lt, Int.not_le, Bool.not_eq_true', Bool.not_eq_false', Decidable.not_not, not_true_eq_false] at hc
        all_goals first | (exfalso; with_reducible exact bft hc) | (exfalso; with_reducible exact btf hc) | (exfalso; omega) | skip
        all_goals refine tc_skip ?_
        all_goals (refine hK6 ?_; try (clear hK6; clear K6))
        all_goals refine tc_seq fun K7 hK7 => ?_
        all_goals refine tc_block ?_
        all_goals refine tc_seq fun K8 hK8 => ?_
        have hk := hlo (l.getD i 0) (by rw [List.getD_eq_getElem?_getD, List.getElem?_eq_getElem (by omega)]; exact List.getElem_mem (by omega))
        have hfb := floF_bd hs hk.1 hk.2
        have had' := had (by omega)
        all_goals refine tc_region ?_
        all_goals (first | refine tl_q (y_index rfl rfl (by omega) had') rfl ?_ | refine tl_q (y_index rfl rfl (by omega) rfl) rfl ?_ | refine tl_q (y_indexA rfl rfl (by omega)) rfl ?_)
        all_goals (first | refine tl_q (y_load1 rfl (by repeat constructor) (by rfl)) rfl ?_ | refine tl_q (y_load1o (v := vi (l.getD i 0)) rfl (fun w' hw' => by rw [show Int.toNat (i : Int) * 1 = i from by omega]; exact hcell w' (hw'.fr (by simp)) i (by omega))) rfl ?_)
        all_goals refine tl_q (y_assign rfl) rfl ?_
        all_goals refine tl_nil ?_
        all_goals (refine hK8 ?_; try (clear hK8; clear K8))
        all_goals refine tc_draw (by kernel_rfl) ?_
        all_goals (first | refine tx_q 0 rfl (by kernel_rfl) (y_loadW rfl (by repeat constructor) (hcz _)) rfl (fun _ _ _ h => h) (fun _ h => h) ?_ | refine tx_q 0 rfl (by kernel_rfl) (y_loadW rfl (by repeat constructor) (by rfl)) rfl (fun _ _ _ h => h) (fun _ h => h) ?_ | refine tx_q 0 rfl (by kernel_rfl) (y_loadN rfl (by repeat constructor) (by (repeat (first | exact .nil | apply CA.cons rfl)); done)) rfl (fun _ _ _ h => h) (fun _ h => h) ?_ | refine tx_q 0 rfl (by kernel_rfl) (y_load1o (v := vi (l.getD i 0)) rfl (fun w' hw' => by rw [show Int.toNat (i : Int) * 1 = i from by omega]; exact hcell w' (hw'.fr (by simp)) i (by omega))) rfl (fun _ _ _ h => h) (fun _ h => h) ?_)
        all_goals (first | refine tx_q 1 rfl (by kernel_rfl) (y_loadW rfl (by repeat constructor) (hcz _)) rfl (fun _ _ _ h => h) (fun _ h => h) ?_ | refine tx_q 1 rfl (by kernel_rfl) (y_loadW rfl (by repeat constructor) (by rfl)) rfl (fun _ _ _ h => h) (fun _ h => h) ?_ | refine tx_q 1 rfl (by kernel_rfl) (y_loadN rfl (by repeat constructor) (by (repeat (first | exact .nil | apply CA.cons rfl)); done)) rfl (fun _ _ _ h => h) (fun _ h => h) ?_ | refine tx_q 1 rfl (by kernel_rfl) (y_load1o (v := vi (l.getD i 0)) rfl (fun w' hw' => by rw [show Int.toNat (i : Int) * 1 = i from by omega]; exact hcell w' (hw'.fr (by simp)) i (by omega))) rfl (fun _ _ _ h => h) (fun _ h => h) ?_)
        all_goals refine tx_p 2 rfl (by kernel_rfl) (y_move rfl) rfl (fun _ _ _ h => h) (fun _ h => h) ?_
        all_goals refine tx_e 3 rfl (by kernel_rfl) rfl (e_callV rfl (.cons rfl (.cons rfl .nil)) (fun w' hw' => floating_c s hs _ hk.1 hk.2 _ w' (hr0.fr (hw'.fr (w0 := w) (S := []) (by simp))))) (.inr fun _ _ h => h) (fun _ _ => ?_)
        all_goals (first | refine tx_e 4 rfl (by kernel_rfl) rfl (e_callV rfl (.cons rfl (.cons rfl .nil)) (fun w' _ => with_c _ (covL_len s l _) (floF s (l.getD i 0)) hfb.1 hfb.2 w')) (.inr fun _ _ h => h) (fun _ _ => ?_) | refine tx_e 4 rfl (by kernel_rfl) rfl (e_callV rfl (.cons rfl (.cons rfl .nil)) (fun w' _ => with_c _ (covL_len s l _) r (by omega) (by omega) w')) (.inr fun _ _ h => h) (fun _ _ => ?_))
        all_goals (first | refine tx_e 5 rfl (by kernel_rfl) rfl (e_storeW rfl rfl (by repeat constructor) (by rw [bsV_size, withF_len, covL_len]) (hcz _) (bsV_one _)) (.inl (by kernel_rfl)) (fun _ _ => ?_) | refine tx_e 5 rfl (by kernel_rfl) rfl (e_storeW rfl rfl (by repeat constructor) (by rfl) (by rfl) (by simp [Value.oneCell'])) (.inl (by kernel_rfl)) (fun _ _ => ?_))
        all_goals refine tx_done (by kernel_rfl) ?_
        all_goals (refine hK7 ?_; try (clear hK7; clear K7))
        all_goals refine tc_region ?_
        all_goals refine tl_q (y_add rfl rfl (by omega)) rfl ?_
        all_goals refine tl_q (y_move rfl) rfl ?_
        all_goals refine tl_nil ?_
        all_goals (
         refine tk_round (i + 1) (by omega) (by omega) (.cons rfl (.cons rfl (.cons rfl (.cons rfl (.cons rfl (.cons rfl (.cons rfl .nil))))))) (fun w' h => ?_)
         rw [covL_succ s l i (by omega)]
         exact h.sub (fun _ h => h) (SB.s (by repeat constructor)))
      · try simp only [decide_eq_true_eq, decide_eq_false_iff_not, Int.not_lt, Int.not_le, Bool.not_eq_true', Bool.not_eq_false', Decidable.not_not, not_true_eq_false] at hc
        all_goals first | (exfalso; with_reducible exact bft hc) | (exfalso; with_reducible exact btf hc) | (exfalso; omega) | skip
        all_goals refine tc_exit ?_
        all_goals (refine hK3 ?_; try (clear hK3; clear K3))
        all_goals refine tc_seq fun K9 hK9 => ?_
        all_goals refine tc_draw (by kernel_rfl) ?_
        all_goals (first | refine tx_q 0 rfl (by kernel_rfl) (y_loadW rfl (by repeat constructor) (hcz _)) rfl (fun _ _ _ h => h) (fun _ h => h) ?_ | refine tx_q 0 rfl (by kernel_rfl) (y_loadW rfl (by repeat constructor) (by rfl)) rfl (fun _ _ _ h => h) (fun _ h => h) ?_ | refine tx_q 0 rfl (by kernel_rfl) (y_loadN rfl (by repeat constructor) (by (repeat (first | exact .nil | apply CA.cons rfl)); done)) rfl (fun _ _ _ h => h) (fun _ h => h) ?_ | refine tx_q 0 rfl (by kernel_rfl) (y_load1o (v := vi (l.getD i 0)) rfl (fun w' hw' => by rw [show Int.toNat (i : Int) * 1 = i from by omega]; exact hcell w' (hw'.fr (by simp)) i (by omega))) rfl (fun _ _ _ h => h) (fun _ h => h) ?_)
        all_goals (first | refine tx_q 1 rfl (by kernel_rfl) (y_loadW rfl (by repeat constructor) (hcz _)) rfl (fun _ _ _ h => h) (fun _ h => h) ?_ | refine tx_q 1 rfl (by kernel_rfl) (y_loadW rfl (by repeat constructor) (by rfl)) rfl (fun _ _ _ h => h) (fun _ h => h) ?_ | refine tx_q 1 rfl (by kernel_rfl) (y_loadN rfl (by repeat constructor) (by (repeat (first | exact .nil | apply CA.cons rfl)); done)) rfl (fun _ _ _ h => h) (fun _ h => h) ?_ | refine tx_q 1 rfl (by kernel_rfl) (y_load1o (v := vi (l.getD i 0)) rfl (fun w' hw' => by rw [show Int.toNat (i : Int) * 1 = i from by omega]; exact hcell w' (hw'.fr (by simp)) i (by omega))) rfl (fun _ _ _ h => h) (fun _ h => h) ?_)
        all_goals (first | refine tx_q 2 rfl (by kernel_rfl) (y_loadW rfl (by repeat constructor) (hcz _)) rfl (fun _ _ _ h => h) (fun _ h => h) ?_ | refine tx_q 2 rfl (by kernel_rfl) (y_loadW rfl (by repeat constructor) (by rfl)) rfl (fun _ _ _ h => h) (fun _ h => h) ?_ | refine tx_q 2 rfl (by kernel_rfl) (y_loadN rfl (by repeat constructor) (by (repeat (first | exact .nil | apply CA.cons rfl)); done)) rfl (fun _ _ _ h => h) (fun _ h => h) ?_ | refine tx_q 2 rfl (by kernel_rfl) (y_load1o (v := vi (l.getD i 0)) rfl (fun w' hw' => by rw [show Int.toNat (i : Int) * 1 = i from by omega]; exact hcell w' (hw'.fr (by simp)) i (by omega))) rfl (fun _ _ _ h => h) (fun _ h => h) ?_)
        all_goals (first | refine tx_e 3 rfl (by kernel_rfl) rfl (e_callV rfl (.cons rfl (.cons rfl .nil)) (fun w' _ => with_c _ (covL_len s l _) (floF s (l.getD i 0)) hfb.1 hfb.2 w')) (.inr fun _ _ h => h) (fun _ _ => ?_) | refine tx_e 3 rfl (by kernel_rfl) rfl (e_callV rfl (.cons rfl (.cons rfl .nil)) (fun w' _ => with_c _ (covL_len s l _) r (by omega) (by omega) w')) (.inr fun _ _ h => h) (fun _ _ => ?_))
        all_goals (first | refine tx_p 4 rfl (by kernel_rfl) (y_eqlB rfl rfl (covL_len s l _) (by rw [withF_len, covL_len])) rfl (fun _ _ _ h => h) (fun _ h => h) ?_ | refine tx_p 4 rfl (by kernel_rfl) (y_eql2 rfl rfl) rfl (fun _ _ _ h => h) (fun _ h => h) ?_)
        all_goals refine tx_p 5 rfl (by kernel_rfl) (y_assign rfl) rfl (fun _ _ _ h => h) (fun _ h => h) ?_
        all_goals refine tx_done (by kernel_rfl) ?_
        all_goals (refine hK9 ?_; try (clear hK9; clear K9))
        all_goals refine tc_ret ?_
        all_goals (repeat (first | refine tk_then_ret ?_ | refine tk_block_ret ?_ | refine tk_scope_ret ?_))
        all_goals first | refine tk_ret rfl rfl (.cons (.tmp rfl) .nil) ?_ | refine tk_retM rfl (by repeat constructor) rfl (.cons (.tmp rfl) .nil) ?_
        all_goals (
         have hii : i = l.length := by omega
         subst hii
         exact fun w' hw' => ⟨rfl, hw'.fr (by simp)⟩)))
/-- The block of a range, unturned. -/
def JR (r : Int × Int) (o : Obj) : Prop := o = .cells #[vi r.1, vi r.2] 33 (0, 0)
theorem cover1_p (s : Sn) (hs : VS s) (r : Int × Int) (hr1 : 1 ≤ r.1 ∧ r.1 ≤ 2000) (hr2 : 1 ≤ r.2 ∧ r.2 ≤ 2000) (sl : Value) (w : World) (b2 b3 : Nat) (hb2 : w.heap[b2]? = some (.cells (spV s sl).cells 30 (0, 0))) (hne : b2 ≠ b3) (w0 : World) (f0 : Fr [] w0 w) (h3 : w0.heap.size ≤ b3) (hr : RdI w0 sl s.weights) :
    Pass Try.prog 81 #[ptr b2, ptr b3] (coversF s r) (s.weights.length + 1) [b3] b3 (JR r) w := by
  intro w1 o xs v f1 h1 hJ hx hsepv hone hlen hle
  unfold JR at hJ
  subst hJ
  have g2 := f1.keepS (by simpa using hne) hb2
  have hr1' : RdI w1 sl s.weights := hr.fr (f0.trans f1 (fun x hx => .inr (by obtain rfl := List.mem_singleton.1 hx; exact h3)))
  rw [show (#[] ++ #[v] ++ #[ptr b2, ptr b3] : Array Value) = #[v, ptr b2, ptr b3] from by simp]
  refine cnxS (vs := [_, _, _]) (S := [b3]) [(b3, .cells #[vi r.1, vi r.2] 33 (0, 0))] Try.func81 rfl rfl ⟨by simp [h1], by simp, by simp⟩ ?_
  have hca : ∀ w', HG [(w1, [b3])] [(b3, .cells #[vi r.1, vi r.2] 33 (0, 0))] w' → Fr [] w1 w' := fun w' hw' => Fr.but (hw'.fr (w0 := w1) (S := [b3]) (by simp)) (by rw [hw'.heap _ (HM.mem .head), h1])
  all_goals refine tc_seq fun K1 hK1 => ?_
  all_goals refine tc_region ?_
  all_goals refine tl_q (y_assign rfl) rfl ?_
  all_goals refine tl_nil ?_
  all_goals (refine hK1 ?_; try (clear hK1; clear K1))
  all_goals refine tc_seq fun K2 hK2 => ?_
  all_goals refine tc_region ?_
  all_goals refine tl_q (y_loadNo (n := 6) (vs := [vi s.mass, vi s.volume, vi s.step, vi s.divisions, vi s.width, sl]) rfl (fun w' hw' => (CA_whole (c := (spV s sl).cells) (t := 30) (f := (0, 0)) rfl).cells ((hca w' hw').keep g2))) rfl ?_
  all_goals (first | refine tl_q (y_loadW rfl (by repeat constructor) (by rfl)) rfl ?_ | refine tl_q (y_loadN rfl (by repeat constructor) (by (repeat (first | exact .nil | apply CA.cons rfl)); done)) rfl ?_)
  all_goals refine tl_q (y_move rfl) rfl ?_
  all_goals refine tl_e (e_callV rfl (.cons rfl (.cons rfl (.cons rfl .nil))) (fun w' hw' => covers_c s hs r hr1 hr2 xs (by omega) (fun k hk => by have := hle k hk; omega) _ _ w' (RdI.fr hr1' (hca w' hw')) (RdI.fr hx (hca w' hw')))) rfl (fun _ _ => ?_)
  all_goals refine tl_q (y_assign rfl) rfl ?_
  all_goals refine tl_nil ?_
  all_goals (refine hK2 ?_; try (clear hK2; clear K2))
  all_goals refine tc_ret ?_
  all_goals (repeat (first | refine tk_then_ret ?_ | refine tk_block_ret ?_ | refine tk_scope_ret ?_))
  all_goals first | refine tk_ret rfl rfl (.cons (.tmp rfl) .nil) ?_ | refine tk_retM rfl (by repeat constructor) rfl (.cons (.tmp rfl) .nil) ?_
  all_goals (
   exact fun w' hw' => ⟨_, rfl, hw'.fr (by simp), rfl, hw'.heap _ (HM.mem (by repeat constructor))⟩)
theorem cover_lists (s : Sn) (hs : VS s) (r : Int × Int) (hr1 : 1 ≤ r.1 ∧ r.1 ≤ 2000) (hr2 : 1 ≤ r.2 ∧ r.2 ≤ 2000) (sl : Value) (w : World) (b2 b3 : Nat) (hb2 : w.heap[b2]? = some (.cells (spV s sl).cells 30 (0, 0))) (hb3 : w.heap[b3]? = some (.cells #[vi r.1, vi r.2] 33 (0, 0))) (hne : b2 ≠ b3) (w0 : World) (f0 : Fr [] w0 w) (h3 : w0.heap.size ≤ b3) (hr : RdI w0 sl s.weights) (k : Nat) (hk : k ≤ 20) :
    CnX Try.prog 73 #[vi 0, vi ((s.weights.length : Int) + 1), vi k, .func (.func 81) #[] #[ptr b2, ptr b3]] w [] (fun x : Value => .tuple #[x, .bool (srch (coversF s r) (s.weights.length + 1) k [] 0).isSome])
      (fun x w' => ∀ l, srch (coversF s r) (s.weights.length + 1) k [] 0 = some l → RdI w' x l) := by
  have hl6 := hs.n
  have h := lists_c 81 #[ptr b2, ptr b3] (coversF s r) (s.weights.length + 1) k k rfl (by omega) (by omega) (by omega) b3 _ (JR r) w hb3 rfl (cover1_p s hs r hr1 hr2 sl w b2 b3 hb2 hne w0 f0 h3 hr)
  refine CnX.of (h.out.mono fun e w' he => ?_)
  obtain ⟨x, rfl, hf, h1, h2, h3, h4⟩ := he
  unfold JR at h2
  exact ⟨x.1, rfl, Fr.but hf (by rw [h1, h2, hb3]), h4⟩
def coverO (s : Sn) (r : Int × Int) : Option (List Int) := (List.range (s.weights.length + 2)).findSome? fun (k : Nat) => srch (coversF s r) (s.weights.length + 1) k [] 0
def coverE (s : Sn) (r : Int × Int) : List Int × Int := if ¬ rangedF s r = 0 then ([], rangedF s r) else match coverO s r with
  | some l => (l, 0)
  | none => ([], 10)
theorem cover_e (s : Sn) (hn : NB s) (r : Int × Int) (sl : Value) (w : World) (hr : RdI w sl s.weights) :
    CnX Try.prog 51 #[spV s sl, rV r] w [] (fun v : Value => .tuple #[v, vi (coverE s r).2]) (fun v w' => RdI w' v (coverE s r).1) := by
  have hr0 := hr
  obtain ⟨ad, cp, b0, o0, rfl, had, hcell⟩ := hr.open
  refine cnx0 (vs := [_, _]) Try.func51 rfl rfl ?_
  all_goals refine tc_seq fun K1 hK1 => ?_
  all_goals refine tc_region ?_
  all_goals refine tl_e (e_box rfl rfl rfl) rfl (fun b2 _ => ?_)
  all_goals refine tl_e (e_box rfl rfl rfl) rfl (fun b3 _ => ?_)
  all_goals refine tl_q (y_assign rfl) rfl ?_
  all_goals refine tl_q (y_assign rfl) rfl ?_
  all_goals refine tl_nil ?_
  all_goals (refine hK1 ?_; try (clear hK1; clear K1))
  all_goals refine tc_seq fun K2 hK2 => ?_
  all_goals refine tc_seq fun K3 hK3 => ?_
  all_goals refine tc_region ?_
  all_goals (first | refine tl_q (y_loadW rfl (by repeat constructor) (by rfl)) rfl ?_ | refine tl_q (y_loadN rfl (by repeat constructor) (by (repeat (first | exact .nil | apply CA.cons rfl)); done)) rfl ?_)
  all_goals (first | refine tl_q (y_loadW rfl (by repeat constructor) (by rfl)) rfl ?_ | refine tl_q (y_loadN rfl (by repeat constructor) (by (repeat (first | exact .nil | apply CA.cons rfl)); done)) rfl ?_)
  all_goals refine tl_e (e_callV rfl (.cons rfl (.cons rfl .nil)) (fun w' hw' => ranged_c s hn r _ w' (hr0.fr (hw'.fr (by simp))))) rfl (fun _ _ => ?_)
  all_goals refine tl_q (y_assign rfl) rfl ?_
  all_goals refine tl_nil ?_
  all_goals (refine hK3 ?_; try (clear hK3; clear K3))
  all_goals refine tc_seq fun K4 hK4 => ?_
  all_goals refine tc_region ?_
  all_goals refine tl_q (y_move rfl) rfl ?_
  all_goals refine tl_q (y_neq rfl rfl) rfl ?_
  all_goals refine tl_nil ?_
  all_goals (refine hK4 ?_; try (clear hK4; clear K4))
  all_goals (
   refine tc_cond rfl (fun hc => ?_) (fun hc => ?_)
   · try simp only [decide_eq_true_eq, decide_eq_false_iff_not, Int.not_lt, Int.not_le, Bool.not_eq_true', Bool.not_eq_false', Decidable.not_not, not_true_eq_false] at hc
     all_goals first | (exfalso; with_reducible exact bft hc) | (exfalso; with_reducible exact btf hc) | (exfalso; omega) | skip
     all_goals refine tc_seq fun K5 hK5 => ?_
     all_goals refine tc_region ?_
     all_goals refine tl_q (y_move rfl) rfl ?_
     all_goals refine tl_q (y_assign rfl) rfl ?_
     all_goals refine tl_q (y_assign rfl) rfl ?_
     all_goals refine tl_nil ?_
     all_goals (refine hK5 ?_; try (clear hK5; clear K5))
     all_goals refine tc_ret ?_
     all_goals (repeat (first | refine tk_then_ret ?_ | refine tk_block_ret ?_ | refine tk_scope_ret ?_))
     all_goals first | refine tk_ret rfl rfl (.cons (.tmp rfl) (.cons (.tmp rfl) .nil)) ?_ | refine tk_retM rfl (by repeat constructor) rfl (.cons (.tmp rfl) (.cons (.tmp rfl) .nil)) ?_
     all_goals (
      first
      | (have e1 : coverE s r = ([], rangedF s r) := by unfold coverE; rw [if_pos hc]
         exact fun w' hw' => ⟨.slice none 0 0, by rw [e1]; rfl, hw'.fr (by simp), by rw [e1]; exact RdI.nil _⟩)
      | (have e1 : coverE s r = (rs, 0) := by unfold coverE; rw [if_neg (by omega), coverO, fs_hit (j := k) (by omega) hsr hno]
         exact fun w' hw' => ⟨y.1, by rw [e1]; rfl, hw'.fr (by simp), by rw [e1]; exact hy.2.2.fr (hw'.fr (by simp))⟩)
      | (have e1 : coverE s r = ([], 10) := by unfold coverE; rw [if_neg (by omega), coverO, fs_miss (fun j hj => hno j (by omega))]
         exact fun w' hw' => ⟨.slice none 0 0, by rw [e1]; rfl, hw'.fr (by simp), by rw [e1]; exact RdI.nil _⟩))
   · try simp only [decide_eq_true_eq, decide_eq_false_iff_not, Int.not_lt, Int.not_le, Bool.not_eq_true', Bool.not_eq_false', Decidable.not_not, not_true_eq_false] at hc
     all_goals first | (exfalso; with_reducible exact bft hc) | (exfalso; with_reducible exact btf hc) | (exfalso; omega) | skip
     all_goals refine tc_skip ?_
     all_goals (refine hK2 ?_; try (clear hK2; clear K2))
     all_goals refine tc_seq fun K6 hK6 => ?_
     all_goals refine tc_seq fun K7 hK7 => ?_
     have hq := rangedF_0 (s := s) (r := r) (by omega)
     have hv6 : (s.weights.length : Int) ≤ 6 := by have := hq.1.n; omega
     all_goals refine tc_region ?_
     all_goals refine tl_q (y_field rfl) rfl ?_
     all_goals refine tl_q (y_load1 rfl (by repeat constructor) (by rfl)) rfl ?_
     all_goals refine tl_q (y_len rfl) rfl ?_
     all_goals refine tl_q (y_add rfl rfl (by omega)) rfl ?_
     all_goals refine tl_q (y_move rfl) rfl ?_
     all_goals refine tl_nil ?_
     all_goals (refine hK7 ?_; try (clear hK7; clear K7))
     all_goals refine tc_block ?_
     all_goals (
      refine tc_loop (fun k : Nat => k ≤ s.weights.length + 2 ∧ ∀ q : Nat, q < k → srch (coversF s r) (s.weights.length + 1) q [] 0 = none) (fun k => [(2, ptr b2), (3, ptr b3), (19, vi ((s.weights.length : Int) + 2)), (20, vi k)]) (fun _ => [(w, [])]) (fun k => [(b3, .cells #[vi r.1, vi r.2] 33 (0, 0)), (b2, .cells (spV s (.slice ad s.weights.length cp)).cells 30 (0, 0))]) (fun k => s.weights.length + 2 - k) ?_ ?_
      · exact tk_start 0 ⟨Nat.zero_le _, fun k hk => absurd hk (Nat.not_lt_zero k)⟩ (.cons rfl (.cons rfl (.cons rfl (.cons rfl .nil)))) (fun _ h => h.sub (fun _ h => h) (SB.s (by repeat constructor)))
      · rintro k ⟨hk, hno⟩
        all_goals refine tc_seq fun K8 hK8 => ?_
        all_goals refine tc_region ?_
        all_goals refine tl_q (y_lss rfl rfl) rfl ?_
        all_goals refine tl_nil ?_
        all_goals (refine hK8 ?_; try (clear hK8; clear K8))
        all_goals refine tc_seq fun K9 hK9 => ?_
        all_goals (
         refine tc_cond rfl (fun hc => ?_) (fun hc => ?_)
         · try simp only [decide_eq_true_eq, decide_eq_false_iff_not, Int.not_lt, Int.not_le, Bool.not_eq_true', Bool.not_eq_false', Decidable.not_not, not_true_eq_false] at hc
           all_goals first | (exfalso; with_reducible exact bft hc) | (exfalso; with_reducible exact btf hc) | (exfalso; omega) | skip
           all_goals refine tc_skip ?_
           all_goals (refine hK9 ?_; try (clear hK9; clear K9))
           all_goals refine tc_seq fun K10 hK10 => ?_
           all_goals refine tc_block ?_
           all_goals refine tc_seq fun K11 hK11 => ?_
           all_goals refine tc_region ?_
           all_goals refine tl_q (y_move rfl) rfl ?_
           all_goals refine tl_q (y_assign rfl) rfl ?_
           all_goals refine tl_nil ?_
           all_goals (refine hK11 ?_; try (clear hK11; clear K11))
           all_goals refine tc_seq fun K12 hK12 => ?_
           rcases hsr : srch (coversF s r) (s.weights.length + 1) k [] 0 with _ | rs
           all_goals (have hll : ∀ (w' : World) (H : List (Nat × Obj)), HG [(w, [])] H w' → HM b2 (.cells (spV s (.slice ad s.weights.length cp)).cells 30 (0, 0)) H → HM b3 (.cells #[vi r.1, vi r.2] 33 (0, 0)) H → b2 ≠ b3 → _ := fun w' H hw' m1 m2 hne => cover_lists s hq.1 r hq.2.2.1 hq.2.2.2 (.slice ad s.weights.length cp) w' b2 b3 (hw'.heap _ (HM.mem m1)) (hw'.heap _ (HM.mem m2)) hne w (hw'.fr (by simp)) ((hw'.own _ (HM.mem m2) (w, []) (by simp)).resolve_left (by simp)) hr0 k (by omega))
           all_goals refine tc_region ?_
           all_goals refine tl_q (y_field rfl) rfl ?_
           all_goals refine tl_q (y_load1 rfl (by repeat constructor) (by rfl)) rfl ?_
           all_goals refine tl_q (y_len rfl) rfl ?_
           all_goals refine tl_q (y_add rfl rfl (by omega)) rfl ?_
           all_goals refine tl_q (y_move rfl) rfl ?_
           all_goals refine tl_q (y_fn .nil (.cons rfl (.cons rfl .nil))) rfl ?_
           all_goals (first | refine tl_e (e_callX (val := fun z : Value => .tuple #[z, .bool false]) (p := fun _ _ => True) rfl (.cons rfl (.cons rfl (.cons rfl (.cons rfl .nil)))) (fun w' hw' => CnX.imp (val' := fun z : Value => .tuple #[z, .bool false]) (hll w' _ hw' (by repeat constructor) (by repeat constructor) (by have := hw'.nodup; simp at this; omega)) id (fun z => congrArg (fun o : Option (List Int) => Value.tuple #[z, .bool o.isSome]) hsr.symm) (fun _ h => h) (fun x w2 _ hx => trivial))) rfl (fun y hy => ?_) | refine tl_e (e_callEndF (val := fun z : Value => .tuple #[z, .bool true]) (p := fun z w2 => RdI w2 z rs) (S := []) rfl (.cons rfl (.cons rfl (.cons rfl (.cons rfl .nil)))) (fun w' hw' => CnX.imp (val' := fun z : Value => .tuple #[z, .bool true]) (hll w' _ hw' (by repeat constructor) (by repeat constructor) (by have := hw'.nodup; simp at this; omega)) id (fun z => congrArg (fun o : Option (List Int) => Value.tuple #[z, .bool o.isSome]) hsr.symm) (fun _ h => h) (fun x w2 _ hx => hx rs hsr)) (fun w' hw' β hβ q hq => by simp at hq)) rfl (fun y hy => ?_))
           all_goals refine tl_q (y_move rfl) rfl ?_
           all_goals refine tl_q (y_extract rfl rfl) rfl ?_
           all_goals refine tl_q (y_extract rfl rfl) rfl ?_
           all_goals refine tl_q (y_assign rfl) rfl ?_
           all_goals refine tl_q (y_assign rfl) rfl ?_
           all_goals refine tl_nil ?_
           all_goals (refine hK12 ?_; try (clear hK12; clear K12))
           all_goals refine tc_seq fun K13 hK13 => ?_
           all_goals refine tc_region ?_
           all_goals refine tl_q (y_move rfl) rfl ?_
           all_goals refine tl_nil ?_
           all_goals (refine hK13 ?_; try (clear hK13; clear K13))
           all_goals (
            refine tc_cond rfl (fun hc => ?_) (fun hc => ?_)
            · try simp only [decide_eq_true_eq, decide_eq_false_iff_not, Int.not_lt, Int.not_le, Bool.not_eq_true', Bool.not_eq_false', Decidable.not_not, not_true_eq_false] at hc
              all_goals first | (exfalso; with_reducible exact bft hc) | (exfalso; with_reducible exact btf hc) | (exfalso; omega) | skip
              all_goals refine tc_seq fun K14 hK14 => ?_
              all_goals refine tc_region ?_
              all_goals refine tl_q (y_move rfl) rfl ?_
              all_goals refine tl_q (y_assign rfl) rfl ?_
              all_goals refine tl_q (y_assign rfl) rfl ?_
              all_goals refine tl_nil ?_
              all_goals (refine hK14 ?_; try (clear hK14; clear K14))
              all_goals refine tc_ret ?_
              all_goals (repeat (first | refine tk_then_ret ?_ | refine tk_block_ret ?_ | refine tk_scope_ret ?_))
              all_goals first | refine tk_ret rfl rfl (.cons (.tmp rfl) (.cons (.tmp rfl) .nil)) ?_ | refine tk_retM rfl (by repeat constructor) rfl (.cons (.tmp rfl) (.cons (.tmp rfl) .nil)) ?_
              all_goals (
               first
               | (have e1 : coverE s r = ([], rangedF s r) := by unfold coverE; rw [if_pos hc]
                  exact fun w' hw' => ⟨.slice none 0 0, by rw [e1]; rfl, hw'.fr (by simp), by rw [e1]; exact RdI.nil _⟩)
               | (have e1 : coverE s r = (rs, 0) := by unfold coverE; rw [if_neg (by omega), coverO, fs_hit (j := k) (by omega) hsr hno]
                  exact fun w' hw' => ⟨y.1, by rw [e1]; rfl, hw'.fr (by simp), by rw [e1]; exact hy.2.2.fr (hw'.fr (by simp))⟩)
               | (have e1 : coverE s r = ([], 10) := by unfold coverE; rw [if_neg (by omega), coverO, fs_miss (fun j hj => hno j (by omega))]
                  exact fun w' hw' => ⟨.slice none 0 0, by rw [e1]; rfl, hw'.fr (by simp), by rw [e1]; exact RdI.nil _⟩))
            · try simp only [decide_eq_true_eq, decide_eq_false_iff_not, Int.not_lt, Int.not_le, Bool.not_eq_true', Bool.not_eq_false', Decidable.not_not, not_true_eq_false] at hc
              all_goals first | (exfalso; with_reducible exact bft hc) | (exfalso; with_reducible exact btf hc) | (exfalso; omega) | skip
              all_goals refine tc_skip ?_
              all_goals (refine hK10 ?_; try (clear hK10; clear K10))
              all_goals refine tc_region ?_
              all_goals refine tl_q (y_add rfl rfl (by omega)) rfl ?_
              all_goals refine tl_q (y_move rfl) rfl ?_
              all_goals refine tl_nil ?_
              all_goals (
               refine tk_round (k + 1) ⟨by omega, fun q hq' => by rcases Nat.lt_succ_iff_lt_or_eq.1 hq' with h | rfl; exact hno q h; exact hsr⟩ (by omega) (.cons rfl (.cons rfl (.cons rfl (.cons rfl .nil)))) (fun _ h => h.sub (fun _ h => List.mem_cons_of_mem _ h) (SB.s (by repeat constructor)))))
         · try simp only [decide_eq_true_eq, decide_eq_false_iff_not, Int.not_lt, Int.not_le, Bool.not_eq_true', Bool.not_eq_false', Decidable.not_not, not_true_eq_false] at hc
           all_goals first | (exfalso; with_reducible exact bft hc) | (exfalso; with_reducible exact btf hc) | (exfalso; omega) | skip
           all_goals refine tc_exit ?_
           all_goals (refine hK6 ?_; try (clear hK6; clear K6))
           all_goals refine tc_seq fun K15 hK15 => ?_
           all_goals refine tc_region ?_
           all_goals refine tl_q (y_assign rfl) rfl ?_
           all_goals refine tl_q (y_assign rfl) rfl ?_
           all_goals refine tl_nil ?_
           all_goals (refine hK15 ?_; try (clear hK15; clear K15))
           all_goals refine tc_ret ?_
           all_goals (repeat (first | refine tk_then_ret ?_ | refine tk_block_ret ?_ | refine tk_scope_ret ?_))
           all_goals first | refine tk_ret rfl rfl (.cons (.tmp rfl) (.cons (.tmp rfl) .nil)) ?_ | refine tk_retM rfl (by repeat constructor) rfl (.cons (.tmp rfl) (.cons (.tmp rfl) .nil)) ?_
           all_goals (
            first
            | (have e1 : coverE s r = ([], rangedF s r) := by unfold coverE; rw [if_pos hc]
               exact fun w' hw' => ⟨.slice none 0 0, by rw [e1]; rfl, hw'.fr (by simp), by rw [e1]; exact RdI.nil _⟩)
            | (have e1 : coverE s r = (rs, 0) := by unfold coverE; rw [if_neg (by omega), coverO, fs_hit (j := k) (by omega) hsr hno]
               exact fun w' hw' => ⟨y.1, by rw [e1]; rfl, hw'.fr (by simp), by rw [e1]; exact hy.2.2.fr (hw'.fr (by simp))⟩)
            | (have e1 : coverE s r = ([], 10) := by unfold coverE; rw [if_neg (by omega), coverO, fs_miss (fun j hj => hno j (by omega))]
               exact fun w' hw' => ⟨.slice none 0 0, by rw [e1]; rfl, hw'.fr (by simp), by rw [e1]; exact RdI.nil _⟩)))))
def allIn (s : Sn) (l : List Int) : Bool := l.all fun x => decide (0 ≤ x ∧ x ≤ s.weights.length)
def incrB (l : List Int) : Bool := (List.range l.length).all fun i => decide (i = 0 ∨ l.getD (i - 1) 0 < l.getD i 0)
def proveF (s : Sn) (r : Int × Int) (l : List Int) (many : Int) : Bool := decide (rangedF s r = 0 ∧ (l.length : Int) ≤ many ∧ allIn s l = true ∧ incrB l = true ∧ coversF s r l = true)
theorem incrB_no {l : List Int} {i : Nat} (hi : i < l.length) (h0 : 0 < i) (h : l.getD i 0 ≤ l.getD (i - 1) 0) : incrB l = false := by
  cases hb : incrB l
  · rfl
  · exfalso
    have := of_decide_eq_true (List.all_eq_true.1 hb i (List.mem_range.2 hi))
    omega
theorem incrB_yes {l : List Int} (h : ∀ i : Nat, i < l.length → 0 < i → l.getD (i - 1) 0 < l.getD i 0) : incrB l = true :=
  List.all_eq_true.2 fun i hi => decide_eq_true (by
    have := h i (List.mem_range.1 hi)
    omega)
theorem prove_c (s : Sn) (hn : NB s) (r : Int × Int) (l : List Int) (hl : (l.length : Int) ≤ 9000000000000000000) (many : Int) (sl lv : Value) (w : World) (hr : RdI w sl s.weights) (hL : RdI w lv l) :
    CnV Try.prog 52 #[spV s sl, rV r, lv, vi many] w (.bool (proveF s r l many)) := by
  have hr0 := hr
  have hL0 := hL
  obtain ⟨ad, cap, b0, o, rfl, had, hcell⟩ := hL.open
  refine cnv (vs := [_, _, _, _]) Try.func52 rfl rfl ?_
  all_goals refine tc_seq fun K1 hK1 => ?_
  all_goals refine tc_region ?_
  all_goals refine tl_e (e_box rfl rfl rfl) rfl (fun b4 _ => ?_)
  all_goals refine tl_e (e_box rfl rfl rfl) rfl (fun b5 _ => ?_)
  all_goals refine tl_q (y_assign rfl) rfl ?_
  all_goals refine tl_nil ?_
  all_goals (refine hK1 ?_; try (clear hK1; clear K1))
  all_goals refine tc_seq fun K2 hK2 => ?_
  all_goals refine tc_region ?_
  all_goals (first | refine tl_q (y_loadW rfl (by repeat constructor) (by rfl)) rfl ?_ | refine tl_q (y_loadN rfl (by repeat constructor) (by (repeat (first | exact .nil | apply CA.cons rfl)); done)) rfl ?_ | refine tl_q (y_load1o (v := vi (l.getD n 0)) rfl (fun w' hw' => by rw [show Int.toNat (n : Int) * 1 = n from by omega]; exact hcell w' (hw'.fr (by simp)) n (by omega))) rfl ?_ | refine tl_q (y_load1o (v := vi (l.getD (n - 1) 0)) rfl (fun w' hw' => by rw [show Int.toNat ((n : Int) - 1) * 1 = n - 1 from by omega]; exact hcell w' (hw'.fr (by simp)) (n - 1) (by omega))) rfl ?_)
  all_goals refine tl_q (y_fn (.cons rfl .nil) .nil) rfl ?_
  all_goals refine tl_q (y_assign rfl) rfl ?_
  all_goals refine tl_nil ?_
  all_goals (refine hK2 ?_; try (clear hK2; clear K2))
  all_goals refine tc_seq fun K3 hK3 => ?_
  all_goals refine tc_seq fun K4 hK4 => ?_
  all_goals refine tc_region ?_
  all_goals (first | refine tl_q (y_loadW rfl (by repeat constructor) (by rfl)) rfl ?_ | refine tl_q (y_loadN rfl (by repeat constructor) (by (repeat (first | exact .nil | apply CA.cons rfl)); done)) rfl ?_ | refine tl_q (y_load1o (v := vi (l.getD n 0)) rfl (fun w' hw' => by rw [show Int.toNat (n : Int) * 1 = n from by omega]; exact hcell w' (hw'.fr (by simp)) n (by omega))) rfl ?_ | refine tl_q (y_load1o (v := vi (l.getD (n - 1) 0)) rfl (fun w' hw' => by rw [show Int.toNat ((n : Int) - 1) * 1 = n - 1 from by omega]; exact hcell w' (hw'.fr (by simp)) (n - 1) (by omega))) rfl ?_)
  all_goals (first | refine tl_q (y_loadW rfl (by repeat constructor) (by rfl)) rfl ?_ | refine tl_q (y_loadN rfl (by repeat constructor) (by (repeat (first | exact .nil | apply CA.cons rfl)); done)) rfl ?_ | refine tl_q (y_load1o (v := vi (l.getD n 0)) rfl (fun w' hw' => by rw [show Int.toNat (n : Int) * 1 = n from by omega]; exact hcell w' (hw'.fr (by simp)) n (by omega))) rfl ?_ | refine tl_q (y_load1o (v := vi (l.getD (n - 1) 0)) rfl (fun w' hw' => by rw [show Int.toNat ((n : Int) - 1) * 1 = n - 1 from by omega]; exact hcell w' (hw'.fr (by simp)) (n - 1) (by omega))) rfl ?_)
  all_goals refine tl_e (e_callV rfl (.cons rfl (.cons rfl .nil)) (fun w' hw' => ranged_c s hn r _ w' (hr0.fr (hw'.fr (by simp))))) rfl (fun _ _ => ?_)
  all_goals refine tl_q (y_neq rfl rfl) rfl ?_
  all_goals refine tl_q (y_move rfl) rfl ?_
  all_goals (first | refine tl_sk rfl rfl rfl rfl ?_ | refine tl_qg rfl rfl (y_move rfl) rfl ?_ | refine tl_su rfl rfl rfl ?_ | (refine tl_gs rfl rfl (fun hc => ?_) (fun hc => ?_) <;> (try simp only [decide_eq_true_eq, decide_eq_false_iff_not, Int.not_lt, Int.not_le, Bool.not_eq_true', Bool.not_eq_false', Decidable.not_not, not_true_eq_false] at hc) <;> (first | (exfalso; omega) | refine tl_sk rfl rfl rfl rfl ?_ | refine tl_qg rfl rfl (y_move rfl) rfl ?_ | refine tl_su rfl rfl rfl ?_)))
  all_goals (first | refine tl_sk rfl rfl rfl rfl ?_ | refine tl_qg rfl rfl (y_len rfl) rfl ?_ | refine tl_su rfl rfl rfl ?_ | (refine tl_gs rfl rfl (fun hc => ?_) (fun hc => ?_) <;> (try simp only [decide_eq_true_eq, decide_eq_false_iff_not, Int.not_lt, Int.not_le, Bool.not_eq_true', Bool.not_eq_false', Decidable.not_not, not_true_eq_false] at hc) <;> (first | (exfalso; omega) | refine tl_sk rfl rfl rfl rfl ?_ | refine tl_qg rfl rfl (y_len rfl) rfl ?_ | refine tl_su rfl rfl rfl ?_)))
  all_goals (first | refine tl_sk rfl rfl rfl rfl ?_ | refine tl_qg rfl rfl (y_move rfl) rfl ?_ | refine tl_su rfl rfl rfl ?_ | (refine tl_gs rfl rfl (fun hc => ?_) (fun hc => ?_) <;> (try simp only [decide_eq_true_eq, decide_eq_false_iff_not, Int.not_lt, Int.not_le, Bool.not_eq_true', Bool.not_eq_false', Decidable.not_not, not_true_eq_false] at hc) <;> (first | (exfalso; omega) | refine tl_sk rfl rfl rfl rfl ?_ | refine tl_qg rfl rfl (y_move rfl) rfl ?_ | refine tl_su rfl rfl rfl ?_)))
  all_goals (first | refine tl_sk rfl rfl rfl rfl ?_ | refine tl_qg rfl rfl (y_gtr rfl rfl) rfl ?_ | refine tl_su rfl rfl rfl ?_ | (refine tl_gs rfl rfl (fun hc => ?_) (fun hc => ?_) <;> (try simp only [decide_eq_true_eq, decide_eq_false_iff_not, Int.not_lt, Int.not_le, Bool.not_eq_true', Bool.not_eq_false', Decidable.not_not, not_true_eq_false] at hc) <;> (first | (exfalso; omega) | refine tl_sk rfl rfl rfl rfl ?_ | refine tl_qg rfl rfl (y_gtr rfl rfl) rfl ?_ | refine tl_su rfl rfl rfl ?_)))
  all_goals (first | refine tl_q (y_pick_t rfl rfl) rfl ?_ | refine tl_q (y_pick_f rfl rfl) rfl ?_)
  all_goals refine tl_q (y_move rfl) rfl ?_
  all_goals (first | refine tl_sk rfl rfl rfl rfl ?_ | refine tl_qg rfl rfl (y_move rfl) rfl ?_ | refine tl_su rfl rfl rfl ?_ | (refine tl_gs rfl rfl (fun hc => ?_) (fun hc => ?_) <;> (try simp only [decide_eq_true_eq, decide_eq_false_iff_not, Int.not_lt, Int.not_le, Bool.not_eq_true', Bool.not_eq_false', Decidable.not_not, not_true_eq_false] at hc) <;> (first | (exfalso; omega) | refine tl_sk rfl rfl rfl rfl ?_ | refine tl_qg rfl rfl (y_move rfl) rfl ?_ | refine tl_su rfl rfl rfl ?_)))
  all_goals (first | refine tl_sk rfl rfl rfl rfl ?_ | refine tl_qg rfl rfl (y_move rfl) rfl ?_ | refine tl_su rfl rfl rfl ?_ | (refine tl_gs rfl rfl (fun hc => ?_) (fun hc => ?_) <;> (try simp only [decide_eq_true_eq, decide_eq_false_iff_not, Int.not_lt, Int.not_le, Bool.not_eq_true', Bool.not_eq_false', Decidable.not_not, not_true_eq_false] at hc) <;> (first | (exfalso; omega) | refine tl_sk rfl rfl rfl rfl ?_ | refine tl_qg rfl rfl (y_move rfl) rfl ?_ | refine tl_su rfl rfl rfl ?_)))
  all_goals (first | refine tl_sk rfl rfl rfl rfl ?_ | refine tl_eg rfl rfl rfl (e_callV rfl (.cons rfl (.cons rfl .nil)) (fun w' hw' => all_c 68 #[spV s sl] #[] (fun x => decide (0 ≤ x ∧ x ≤ s.weights.length)) l hl _ w' (hL0.fr (hw'.fr (by simp))) (fun x w2 f => by simpa using load_c s x sl w2 ((hr0.fr (hw'.fr (by simp))).fr f)))) (fun _ _ => ?_) | refine tl_su rfl rfl rfl ?_ | (refine tl_gs rfl rfl (fun hc => ?_) (fun hc => ?_) <;> (try simp only [decide_eq_true_eq, decide_eq_false_iff_not, Int.not_lt, Int.not_le, Bool.not_eq_true', Bool.not_eq_false', Decidable.not_not, not_true_eq_false] at hc) <;> (first | (exfalso; omega) | refine tl_sk rfl rfl rfl rfl ?_ | refine tl_eg rfl rfl rfl (e_callV rfl (.cons rfl (.cons rfl .nil)) (fun w' hw' => all_c 68 #[spV s sl] #[] (fun x => decide (0 ≤ x ∧ x ≤ s.weights.length)) l hl _ w' (hL0.fr (hw'.fr (by simp))) (fun x w2 f => by simpa using load_c s x sl w2 ((hr0.fr (hw'.fr (by simp))).fr f)))) (fun _ _ => ?_) | refine tl_su rfl rfl rfl ?_)))
  all_goals (first | refine tl_sk rfl rfl rfl rfl ?_ | refine tl_qg rfl rfl (y_not_dec rfl) rfl ?_ | refine tl_qg rfl rfl (y_not rfl) rfl ?_ | refine tl_su rfl rfl rfl ?_ | (refine tl_gs rfl rfl (fun hc => ?_) (fun hc => ?_) <;> (try simp only [decide_eq_true_eq, decide_eq_false_iff_not, Int.not_lt, Int.not_le, Bool.not_eq_true', Bool.not_eq_false', Decidable.not_not, not_true_eq_false] at hc) <;> (first | (exfalso; omega) | refine tl_sk rfl rfl rfl rfl ?_ | refine tl_qg rfl rfl (y_not_dec rfl) rfl ?_ | refine tl_qg rfl rfl (y_not rfl) rfl ?_ | refine tl_su rfl rfl rfl ?_)))
  all_goals (first | refine tl_q (y_pick_t rfl rfl) rfl ?_ | refine tl_q (y_pick_f rfl rfl) rfl ?_)
  all_goals refine tl_nil ?_
  all_goals (refine hK4 ?_; try (clear hK4; clear K4))
  all_goals (
   refine tc_cond rfl (fun hc => ?_) (fun hc => ?_)
   · try simp only [decide_eq_true_eq, decide_eq_false_iff_not, Int.not_lt, Int.not_le, Bool.not_eq_true', Bool.not_eq_false', Decidable.not_not, not_true_eq_false] at hc
     all_goals first | (exfalso; with_reducible exact bft hc) | (exfalso; with_reducible exact btf hc) | (exfalso; omega) | skip
     all_goals refine tc_seq fun K5 hK5 => ?_
     all_goals refine tc_region ?_
     all_goals refine tl_q (y_assign rfl) rfl ?_
     all_goals refine tl_nil ?_
     all_goals (refine hK5 ?_; try (clear hK5; clear K5))
     all_goals refine tc_ret ?_
     all_goals (repeat (first | refine tk_then_ret ?_ | refine tk_block_ret ?_ | refine tk_scope_ret ?_))
     all_goals first | refine tk_ret rfl rfl (.cons (.tmp rfl) .nil) ?_ | refine tk_retM rfl (by repeat constructor) rfl (.cons (.tmp rfl) .nil) ?_
     all_goals (
      refine fun w' hw' => ⟨congrArg (fun b => Ending.returned (Value.bool b)) ?_, hw'.fr (by simp)⟩
      unfold proveF
      first
      | exact (decide_eq_false (fun h => absurd h.1 (by omega))).symm
      | exact (decide_eq_false (fun h => absurd h.2.1 (by omega))).symm
      | exact (decide_eq_false (fun h => absurd h.2.2.1 (by simpa [allIn] using hc))).symm
      | exact (decide_eq_false (fun h => absurd h.2.2.2.1 (by rw [incrB_no (i := n) (by omega) (by omega) (by omega)]; exact Bool.false_ne_true))).symm
      | (cases hcv : coversF s r l
         · exact (decide_eq_false (fun h => absurd h.2.2.2.2 Bool.false_ne_true)).symm
         · exact (decide_eq_true ⟨hA.1, hA.2.1, hA.2.2, incrB_yes (fun i hi h0 => hI i (by omega) h0), rfl⟩).symm))
   · try simp only [decide_eq_true_eq, decide_eq_false_iff_not, Int.not_lt, Int.not_le, Bool.not_eq_true', Bool.not_eq_false', Decidable.not_not, not_true_eq_false] at hc
     all_goals first | (exfalso; with_reducible exact bft hc) | (exfalso; with_reducible exact btf hc) | (exfalso; omega) | skip
     all_goals refine tc_skip ?_
     all_goals (refine hK3 ?_; try (clear hK3; clear K3))
     all_goals refine tc_seq fun K6 hK6 => ?_
     all_goals refine tc_seq fun K7 hK7 => ?_
     all_goals (have hA : rangedF s r = 0 ∧ (l.length : Int) ≤ many ∧ allIn s l = true := ⟨by omega, by omega, by simpa [allIn] using hc⟩; have hq := rangedF_0 hA.1; have hk : ∀ k ∈ l, 0 ≤ k ∧ k ≤ s.weights.length := fun k hk => of_decide_eq_true (List.all_eq_true.1 hA.2.2 k hk))
     all_goals refine tc_region ?_
     all_goals refine tl_q (y_move rfl) rfl ?_
     all_goals refine tl_q (y_len rfl) rfl ?_
     all_goals refine tl_q (y_move rfl) rfl ?_
     all_goals refine tl_nil ?_
     all_goals (refine hK7 ?_; try (clear hK7; clear K7))
     all_goals refine tc_block ?_
     all_goals (
      refine tc_loop (fun n : Nat => n ≤ l.length ∧ ∀ i : Nat, i < n → 0 < i → l.getD (i - 1) 0 < l.getD i 0) (fun n => [(2, .slice ad l.length cap), (4, ptr b4), (5, ptr b5), (8, .bool false), (30, .slice ad l.length cap), (31, vi l.length), (32, vi n)]) (fun _ => [(w, [])]) (fun n => [(b5, .cells #[vi r.1, vi r.2] 33 (0, 0)), (b4, .cells (spV s sl).cells 30 (0, 0))]) (fun n => l.length - n) ?_ ?_
      · exact tk_start 0 ⟨Nat.zero_le _, fun i hi => absurd hi (Nat.not_lt_zero i)⟩ (.cons rfl (.cons rfl (.cons rfl (.cons rfl (.cons rfl (.cons rfl (.cons rfl .nil))))))) (fun _ h => h.sub (fun _ h => h) (SB.s (by repeat constructor)))
      · rintro n ⟨hn, hI⟩
        all_goals refine tc_seq fun K8 hK8 => ?_
        all_goals refine tc_region ?_
        all_goals refine tl_q (y_lss rfl rfl) rfl ?_
        all_goals refine tl_nil ?_
        all_goals (refine hK8 ?_; try (clear hK8; clear K8))
        all_goals refine tc_seq fun K9 hK9 => ?_
        all_goals (
         refine tc_cond rfl (fun hc => ?_) (fun hc => ?_)
         · try simp only [decide_eq_true_eq, decide_eq_false_iff_not, Int.not_lt, Int.not_le, Bool.not_eq_true', Bool.not_eq_false', Decidable.not_not, not_true_eq_false] at hc
           all_goals first | (exfalso; with_reducible exact bft hc) | (exfalso; with_reducible exact btf hc) | (exfalso; omega) | skip
           all_goals refine tc_skip ?_
           all_goals (refine hK9 ?_; try (clear hK9; clear K9))
           all_goals refine tc_seq fun K10 hK10 => ?_
           all_goals refine tc_block ?_
           all_goals refine tc_seq fun K11 hK11 => ?_
           have had' := had (by omega)
           all_goals refine tc_region ?_
           all_goals refine tl_q (y_move rfl) rfl ?_
           all_goals (first | refine tl_q (y_index rfl rfl (by omega) had') rfl ?_ | refine tl_q (y_index rfl rfl (by omega) rfl) rfl ?_ | refine tl_q (y_indexA rfl rfl (by omega)) rfl ?_)
           all_goals (first | refine tl_q (y_load1 rfl (by repeat constructor) (by rfl)) rfl ?_ | refine tl_q (y_load1o (v := vi (l.getD n 0)) rfl (fun w' hw' => by rw [show Int.toNat (n : Int) * 1 = n from by omega]; exact hcell w' (hw'.fr (by simp)) n (by omega))) rfl ?_ | refine tl_q (y_load1o (v := vi (l.getD (n - 1) 0)) rfl (fun w' hw' => by rw [show Int.toNat ((n : Int) - 1) * 1 = n - 1 from by omega]; exact hcell w' (hw'.fr (by simp)) (n - 1) (by omega))) rfl ?_)
           all_goals refine tl_q (y_assign rfl) rfl ?_
           all_goals refine tl_q (y_assign rfl) rfl ?_
           all_goals refine tl_nil ?_
           all_goals (refine hK11 ?_; try (clear hK11; clear K11))
           all_goals refine tc_seq fun K12 hK12 => ?_
           all_goals refine tc_region ?_
           all_goals refine tl_q (y_move rfl) rfl ?_
           all_goals refine tl_q (y_gtr rfl rfl) rfl ?_
           all_goals refine tl_q (y_move rfl) rfl ?_
           all_goals (first | refine tl_sk rfl rfl rfl rfl ?_ | refine tl_qg rfl rfl (y_move rfl) rfl ?_ | refine tl_su rfl rfl rfl ?_ | (refine tl_gs rfl rfl (fun hc => ?_) (fun hc => ?_) <;> (try simp only [decide_eq_true_eq, decide_eq_false_iff_not, Int.not_lt, Int.not_le, Bool.not_eq_true', Bool.not_eq_false', Decidable.not_not, not_true_eq_false] at hc) <;> (first | (exfalso; omega) | refine tl_sk rfl rfl rfl rfl ?_ | refine tl_qg rfl rfl (y_move rfl) rfl ?_ | refine tl_su rfl rfl rfl ?_)))
           all_goals (first | refine tl_sk rfl rfl rfl rfl ?_ | refine tl_qg rfl rfl (y_move rfl) rfl ?_ | refine tl_su rfl rfl rfl ?_ | (refine tl_gs rfl rfl (fun hc => ?_) (fun hc => ?_) <;> (try simp only [decide_eq_true_eq, decide_eq_false_iff_not, Int.not_lt, Int.not_le, Bool.not_eq_true', Bool.not_eq_false', Decidable.not_not, not_true_eq_false] at hc) <;> (first | (exfalso; omega) | refine tl_sk rfl rfl rfl rfl ?_ | refine tl_qg rfl rfl (y_move rfl) rfl ?_ | refine tl_su rfl rfl rfl ?_)))
           all_goals (first | refine tl_sk rfl rfl rfl rfl ?_ | refine tl_qg rfl rfl (y_move rfl) rfl ?_ | refine tl_su rfl rfl rfl ?_ | (refine tl_gs rfl rfl (fun hc => ?_) (fun hc => ?_) <;> (try simp only [decide_eq_true_eq, decide_eq_false_iff_not, Int.not_lt, Int.not_le, Bool.not_eq_true', Bool.not_eq_false', Decidable.not_not, not_true_eq_false] at hc) <;> (first | (exfalso; omega) | refine tl_sk rfl rfl rfl rfl ?_ | refine tl_qg rfl rfl (y_move rfl) rfl ?_ | refine tl_su rfl rfl rfl ?_)))
           all_goals (first | refine tl_sk rfl rfl rfl rfl ?_ | refine tl_qg rfl rfl (y_sub rfl rfl (by omega)) rfl ?_ | refine tl_su rfl rfl rfl ?_ | (refine tl_gs rfl rfl (fun hc => ?_) (fun hc => ?_) <;> (try simp only [decide_eq_true_eq, decide_eq_false_iff_not, Int.not_lt, Int.not_le, Bool.not_eq_true', Bool.not_eq_false', Decidable.not_not, not_true_eq_false] at hc) <;> (first | (exfalso; omega) | refine tl_sk rfl rfl rfl rfl ?_ | refine tl_qg rfl rfl (y_sub rfl rfl (by omega)) rfl ?_ | refine tl_su rfl rfl rfl ?_)))
           all_goals (first | refine tl_sk rfl rfl rfl rfl ?_ | refine tl_qg rfl rfl (y_index rfl rfl (by omega) had') rfl ?_ | refine tl_qg rfl rfl (y_index rfl rfl (by omega) rfl) rfl ?_ | refine tl_qg rfl rfl (y_indexA rfl rfl (by omega)) rfl ?_ | refine tl_su rfl rfl rfl ?_ | (refine tl_gs rfl rfl (fun hc => ?_) (fun hc => ?_) <;> (try simp only [decide_eq_true_eq, decide_eq_false_iff_not, Int.not_lt, Int.not_le, Bool.not_eq_true', Bool.not_eq_false', Decidable.not_not, not_true_eq_false] at hc) <;> (first | (exfalso; omega) | refine tl_sk rfl rfl rfl rfl ?_ | refine tl_qg rfl rfl (y_index rfl rfl (by omega) had') rfl ?_ | refine tl_qg rfl rfl (y_index rfl rfl (by omega) rfl) rfl ?_ | refine tl_qg rfl rfl (y_indexA rfl rfl (by omega)) rfl ?_ | refine tl_su rfl rfl rfl ?_)))
           all_goals (first | refine tl_sk rfl rfl rfl rfl ?_ | refine tl_qg rfl rfl (y_load1 rfl (by repeat constructor) (by rfl)) rfl ?_ | refine tl_qg rfl rfl (y_load1o (v := vi (l.getD n 0)) rfl (fun w' hw' => by rw [show Int.toNat (n : Int) * 1 = n from by omega]; exact hcell w' (hw'.fr (by simp)) n (by omega))) rfl ?_ | refine tl_qg rfl rfl (y_load1o (v := vi (l.getD (n - 1) 0)) rfl (fun w' hw' => by rw [show Int.toNat ((n : Int) - 1) * 1 = n - 1 from by omega]; exact hcell w' (hw'.fr (by simp)) (n - 1) (by omega))) rfl ?_ | refine tl_su rfl rfl rfl ?_ | (refine tl_gs rfl rfl (fun hc => ?_) (fun hc => ?_) <;> (try simp only [decide_eq_true_eq, decide_eq_false_iff_not, Int.not_lt, Int.not_le, Bool.not_eq_true', Bool.not_eq_false', Decidable.not_not, not_true_eq_false] at hc) <;> (first | (exfalso; omega) | refine tl_sk rfl rfl rfl rfl ?_ | refine tl_qg rfl rfl (y_load1 rfl (by repeat constructor) (by rfl)) rfl ?_ | refine tl_qg rfl rfl (y_load1o (v := vi (l.getD n 0)) rfl (fun w' hw' => by rw [show Int.toNat (n : Int) * 1 = n from by omega]; exact hcell w' (hw'.fr (by simp)) n (by omega))) rfl ?_ | refine tl_qg rfl rfl (y_load1o (v := vi (l.getD (n - 1) 0)) rfl (fun w' hw' => by rw [show Int.toNat ((n : Int) - 1) * 1 = n - 1 from by omega]; exact hcell w' (hw'.fr (by simp)) (n - 1) (by omega))) rfl ?_ | refine tl_su rfl rfl rfl ?_)))
           all_goals (first | refine tl_sk rfl rfl rfl rfl ?_ | refine tl_qg rfl rfl (y_leq rfl rfl) rfl ?_ | refine tl_su rfl rfl rfl ?_ | (refine tl_gs rfl rfl (fun hc => ?_) (fun hc => ?_) <;> (try simp only [decide_eq_true_eq, decide_eq_false_iff_not, Int.not_lt, Int.not_le, Bool.not_eq_true', Bool.not_eq_false', Decidable.not_not, not_true_eq_false] at hc) <;> (first | (exfalso; omega) | refine tl_sk rfl rfl rfl rfl ?_ | refine tl_qg rfl rfl (y_leq rfl rfl) rfl ?_ | refine tl_su rfl rfl rfl ?_)))
           all_goals (first | refine tl_q (y_pick_t rfl rfl) rfl ?_ | refine tl_q (y_pick_f rfl rfl) rfl ?_)
           all_goals refine tl_nil ?_
           all_goals (refine hK12 ?_; try (clear hK12; clear K12))
           all_goals (
            refine tc_cond rfl (fun hc => ?_) (fun hc => ?_)
            · try simp only [decide_eq_true_eq, decide_eq_false_iff_not, Int.not_lt, Int.not_le, Bool.not_eq_true', Bool.not_eq_false', Decidable.not_not, not_true_eq_false] at hc
              all_goals first | (exfalso; with_reducible exact bft hc) | (exfalso; with_reducible exact btf hc) | (exfalso; omega) | skip
              all_goals refine tc_seq fun K13 hK13 => ?_
              all_goals refine tc_region ?_
              all_goals refine tl_q (y_assign rfl) rfl ?_
              all_goals refine tl_nil ?_
              all_goals (refine hK13 ?_; try (clear hK13; clear K13))
              all_goals refine tc_ret ?_
              all_goals (repeat (first | refine tk_then_ret ?_ | refine tk_block_ret ?_ | refine tk_scope_ret ?_))
              all_goals first | refine tk_ret rfl rfl (.cons (.tmp rfl) .nil) ?_ | refine tk_retM rfl (by repeat constructor) rfl (.cons (.tmp rfl) .nil) ?_
              all_goals (
               refine fun w' hw' => ⟨congrArg (fun b => Ending.returned (Value.bool b)) ?_, hw'.fr (by simp)⟩
               unfold proveF
               first
               | exact (decide_eq_false (fun h => absurd h.1 (by omega))).symm
               | exact (decide_eq_false (fun h => absurd h.2.1 (by omega))).symm
               | exact (decide_eq_false (fun h => absurd h.2.2.1 (by simpa [allIn] using hc))).symm
               | exact (decide_eq_false (fun h => absurd h.2.2.2.1 (by rw [incrB_no (i := n) (by omega) (by omega) (by omega)]; exact Bool.false_ne_true))).symm
               | (cases hcv : coversF s r l
                  · exact (decide_eq_false (fun h => absurd h.2.2.2.2 Bool.false_ne_true)).symm
                  · exact (decide_eq_true ⟨hA.1, hA.2.1, hA.2.2, incrB_yes (fun i hi h0 => hI i (by omega) h0), rfl⟩).symm))
            · try simp only [decide_eq_true_eq, decide_eq_false_iff_not, Int.not_lt, Int.not_le, Bool.not_eq_true', Bool.not_eq_false', Decidable.not_not, not_true_eq_false] at hc
              all_goals first | (exfalso; with_reducible exact bft hc) | (exfalso; with_reducible exact btf hc) | (exfalso; omega) | skip
              all_goals refine tc_skip ?_
              all_goals (refine hK10 ?_; try (clear hK10; clear K10))
              all_goals refine tc_region ?_
              all_goals refine tl_q (y_add rfl rfl (by omega)) rfl ?_
              all_goals refine tl_q (y_move rfl) rfl ?_
              all_goals refine tl_nil ?_
              all_goals (
               exact tk_round (n + 1) ⟨by omega, fun i hi h0 => by
                 rcases Nat.lt_succ_iff_lt_or_eq.1 hi with h | rfl
                 · exact hI i h h0
                 · omega⟩ (by omega) (.cons rfl (.cons rfl (.cons rfl (.cons rfl (.cons rfl (.cons rfl (.cons rfl .nil))))))) (fun _ h => h.sub (fun _ h => h) (SB.s (by repeat constructor)))))
         · try simp only [decide_eq_true_eq, decide_eq_false_iff_not, Int.not_lt, Int.not_le, Bool.not_eq_true', Bool.not_eq_false', Decidable.not_not, not_true_eq_false] at hc
           all_goals first | (exfalso; with_reducible exact bft hc) | (exfalso; with_reducible exact btf hc) | (exfalso; omega) | skip
           all_goals refine tc_exit ?_
           all_goals (refine hK6 ?_; try (clear hK6; clear K6))
           all_goals refine tc_seq fun K14 hK14 => ?_
           all_goals refine tc_region ?_
           all_goals (first | refine tl_q (y_loadW rfl (by repeat constructor) (by rfl)) rfl ?_ | refine tl_q (y_loadN rfl (by repeat constructor) (by (repeat (first | exact .nil | apply CA.cons rfl)); done)) rfl ?_ | refine tl_q (y_load1o (v := vi (l.getD n 0)) rfl (fun w' hw' => by rw [show Int.toNat (n : Int) * 1 = n from by omega]; exact hcell w' (hw'.fr (by simp)) n (by omega))) rfl ?_ | refine tl_q (y_load1o (v := vi (l.getD (n - 1) 0)) rfl (fun w' hw' => by rw [show Int.toNat ((n : Int) - 1) * 1 = n - 1 from by omega]; exact hcell w' (hw'.fr (by simp)) (n - 1) (by omega))) rfl ?_)
           all_goals (first | refine tl_q (y_loadW rfl (by repeat constructor) (by rfl)) rfl ?_ | refine tl_q (y_loadN rfl (by repeat constructor) (by (repeat (first | exact .nil | apply CA.cons rfl)); done)) rfl ?_ | refine tl_q (y_load1o (v := vi (l.getD n 0)) rfl (fun w' hw' => by rw [show Int.toNat (n : Int) * 1 = n from by omega]; exact hcell w' (hw'.fr (by simp)) n (by omega))) rfl ?_ | refine tl_q (y_load1o (v := vi (l.getD (n - 1) 0)) rfl (fun w' hw' => by rw [show Int.toNat ((n : Int) - 1) * 1 = n - 1 from by omega]; exact hcell w' (hw'.fr (by simp)) (n - 1) (by omega))) rfl ?_)
           all_goals refine tl_q (y_move rfl) rfl ?_
           all_goals refine tl_e (e_callV rfl (.cons rfl (.cons rfl (.cons rfl .nil))) (fun w' hw' => covers_c s hq.1 r hq.2.2.1 hq.2.2.2 l hl hk _ _ w' (hr0.fr (hw'.fr (by simp))) (hL0.fr (hw'.fr (by simp))))) rfl (fun _ _ => ?_)
           all_goals refine tl_q (y_assign rfl) rfl ?_
           all_goals refine tl_nil ?_
           all_goals (refine hK14 ?_; try (clear hK14; clear K14))
           all_goals refine tc_ret ?_
           all_goals (repeat (first | refine tk_then_ret ?_ | refine tk_block_ret ?_ | refine tk_scope_ret ?_))
           all_goals first | refine tk_ret rfl rfl (.cons (.tmp rfl) .nil) ?_ | refine tk_retM rfl (by repeat constructor) rfl (.cons (.tmp rfl) .nil) ?_
           all_goals (
            refine fun w' hw' => ⟨congrArg (fun b => Ending.returned (Value.bool b)) ?_, hw'.fr (by simp)⟩
            unfold proveF
            first
            | exact (decide_eq_false (fun h => absurd h.1 (by omega))).symm
            | exact (decide_eq_false (fun h => absurd h.2.1 (by omega))).symm
            | exact (decide_eq_false (fun h => absurd h.2.2.1 (by simpa [allIn] using hc))).symm
            | exact (decide_eq_false (fun h => absurd h.2.2.2.1 (by rw [incrB_no (i := n) (by omega) (by omega) (by omega)]; exact Bool.false_ne_true))).symm
            | (cases hcv : coversF s r l
               · exact (decide_eq_false (fun h => absurd h.2.2.2.2 Bool.false_ne_true)).symm
               · exact (decide_eq_true ⟨hA.1, hA.2.1, hA.2.2, incrB_yes (fun i hi h0 => hI i (by omega) h0), rfl⟩).symm)))))
end Go.Sp
