/-
  Readings of one liquid.
-/
import Derived.Test.YtdmnmhkonfadhaaYa
set_option linter.unusedVariables false
set_option linter.unusedSimpArgs false
set_option linter.deprecated false
namespace Go.Sp
open Go Go.Proofs
/-- A slice of integers of one kind, laid open. -/
theorem rdk_open {k : IntKind} {w : World} {v : Value} {xs : List Int} (h : Reads w v 1 xs.length (xs.map (Value.int k))) : ∃ ad cap b o, v = .slice ad xs.length cap ∧ (0 < xs.length → ad = some ⟨b, o, none⟩) ∧ ∀ w', Fr [] w w' → ∀ i, i < xs.length → w'.cell? ⟨b, o + i, none⟩ = some (.int k (xs.getD i 0)) := by
  by_cases hn : xs.length = 0
  · obtain ⟨_, ad, cap, h2, _⟩ := h
    exact ⟨ad, cap, 0, 0, h2, fun h => by omega, fun _ _ i hi => by omega⟩
  · obtain ⟨_, ad, cap, h2, h3⟩ := h
    obtain ⟨b, o, h4, h5⟩ := h3 hn
    refine ⟨ad, cap, b, o, h2, fun _ => h4, fun w' f i hi => f.cell (by simp) (h5.get i _ ?_)⟩
    rw [List.getElem?_map, List.getElem?_eq_getElem hi, List.getD_eq_getElem?_getD, List.getElem?_eq_getElem hi]
    rfl
theorem seen_ok {s : Sn} (hs : VS s) {k d word : Int} (h0 : 0 ≤ k) (h1 : k ≤ s.weights.length) (h2 : 1 ≤ d) (hw : 0 ≤ word) : rdOk s (k, seenF s k d word) = true ∧ rFit s (k, seenF s k d word) d = true := by
  have hd1 := hs.d1
  unfold seenF
  by_cases hf : rFlo s k d = 0
  · rw [if_pos hf]
    have hpos := can_ne hs h2 hf
    have hm : word % ((canL s k d).length : Int) < (canL s k d).length := Int.emod_lt_of_pos _ (by omega)
    have hm0 := Int.emod_nonneg word (show ((canL s k d).length : Int) ≠ 0 by omega)
    have hmem : (canL s k d).getD (word % ((canL s k d).length : Int)).toNat 0 ∈ canL s k d := by
      rw [List.getD_eq_getElem?_getD, List.getElem?_eq_getElem (by omega)]
      exact List.getElem_mem (by omega)
    generalize (canL s k d).getD (word % ((canL s k d).length : Int)).toNat 0 = x at hmem
    unfold canL canN at hmem
    obtain ⟨i, hi, rfl⟩ := List.mem_map.1 hmem
    obtain ⟨hi1, hi2⟩ := List.mem_filter.1 hi
    have hi1 := List.mem_range.1 hi1
    exact ⟨decide_eq_true ⟨⟨h0, h1⟩, by dsimp only; omega, by dsimp only; omega⟩, hi2⟩
  · rw [if_neg hf]
    have hc := flo_cases s k d
    refine ⟨decide_eq_true ⟨⟨h0, h1⟩, by dsimp only; omega, by dsimp only; omega⟩, ?_⟩
    unfold rFit
    rw [if_pos (by dsimp only; omega)]
    exact decide_eq_true rfl
def lookR (s : Sn) (d : Int) (ws : List Int) (i : Nat) : Int × Int := (ws.getD i 0 % (s.weights.length + 1), seenF s (ws.getD i 0 % (s.weights.length + 1)) d (ws.getD i 0 / 8))
def lookN (s : Sn) (d : Int) (ws : List Int) (n : Nat) : List (Int × Int) := (List.range n).map (lookR s d ws)
theorem lookN_succ (s : Sn) (d : Int) (ws : List Int) (n : Nat) : lookN s d ws (n + 1) = lookN s d ws n ++ [lookR s d ws n] := by simp [lookN, List.range_succ]
theorem lookN_len (s : Sn) (d : Int) (ws : List Int) (n : Nat) : (lookN s d ws n).length = n := by simp [lookN]
def lookL (s : Sn) (d : Int) (ws : List Int) : List (Int × Int) := lookN s d ws (min ws.length 5)
theorem look_ok {s : Sn} (hs : VS s) {d : Int} (h2 : 1 ≤ d) {ws : List Int} (hws : ∀ x ∈ ws, 0 ≤ x) {r : Int × Int} (hr : r ∈ lookL s d ws) : rdOk s r = true ∧ rFit s r d = true := by
  unfold lookL lookN at hr
  obtain ⟨i, hi, rfl⟩ := List.mem_map.1 hr
  have hi := List.mem_range.1 hi
  have hx : 0 ≤ ws.getD i 0 := by
    rw [List.getD_eq_getElem?_getD, List.getElem?_eq_getElem (by omega)]
    exact hws _ (List.getElem_mem (by omega))
  have e1 := Int.emod_nonneg (ws.getD i 0) (show ((s.weights.length : Int) + 1) ≠ 0 by omega)
  have e2 := Int.emod_lt_of_pos (ws.getD i 0) (show 0 < ((s.weights.length : Int) + 1) by omega)
  exact seen_ok hs e1 (by omega) h2 (by omega)
theorem looked_c (s : Sn) (hs : VS s) (d : Int) (h2 : 1 ≤ d) (h3 : d ≤ 2000) (ws : List Int) (hws : ∀ x ∈ ws, 0 ≤ x ∧ x ≤ 255) (hwl : (ws.length : Int) ≤ 9223372036854775807) (sl wv : Value) (w : World) (hr : RdI w sl s.weights) (hW : Reads w wv 1 ws.length (ws.map (Value.int .u8))) :
    CnX Try.prog 42 #[spV s sl, vi d, wv] w [] (slV (lookL s d ws).length) (fun x w' => RdR w' (slV (lookL s d ws).length x) (lookL s d ws)) := by
  have hr0 := hr
  have hl6 := hs.n
  obtain ⟨ad2, cp2, b02, o2, rfl, _, _⟩ := hr.open
  obtain ⟨ad, cp, b0, o, rfl, had, hcell⟩ := rdk_open hW
  refine cnx0 (vs := [_, _, _]) Try.func42 rfl rfl ?_
  all_goals refine tc_seq fun K1 hK1 => ?_
  all_goals refine tc_region ?_
  all_goals refine tl_e (e_box rfl rfl rfl) rfl (fun b3 _ => ?_)
  all_goals refine tl_q (y_assign rfl) rfl ?_
  all_goals refine tl_nil ?_
  all_goals (refine hK1 ?_; try (clear hK1; clear K1))
  all_goals refine tc_seq fun K2 hK2 => ?_
  all_goals refine tc_region ?_
  all_goals refine tl_q (y_assign rfl) rfl ?_
  all_goals refine tl_nil ?_
  all_goals (refine hK2 ?_; try (clear hK2; clear K2))
  all_goals refine tc_seq fun K3 hK3 => ?_
  all_goals refine tc_seq fun K4 hK4 => ?_
  all_goals refine tc_region ?_
  all_goals refine tl_q (y_assign rfl) rfl ?_
  all_goals refine tl_nil ?_
  all_goals (refine hK4 ?_; try (clear hK4; clear K4))
  all_goals refine tc_block ?_
  all_goals (
   refine tc_loop (fun p : Nat × Option (Nat × Nat × List Value) => p.1 ≤ min ws.length 5 ∧ outOkR (p.1, p.2)) (fun p => [(1, vi d), (2, .slice ad ws.length cp), (3, ptr b3), (7, outV' (p.1, p.2)), (8, vi p.1)]) (fun _ => [(w, [])]) (fun p => match p.2 with | none => [(b3, .cells (spV s (.slice ad2 s.weights.length cp2)).cells 24 (0, 0))] | some (bo, cap, junk) => [(bo, .cells (flatR (lookN s d ws p.1) ++ junk).toArray 42 (0, 0)), (b3, .cells (spV s (.slice ad2 s.weights.length cp2)).cells 24 (0, 0))]) (fun p => min ws.length 5 - p.1) ?_ ?_
   · exact tk_start (0, none) ⟨Nat.zero_le _, rfl⟩ (.cons rfl (.cons rfl (.cons rfl (.cons rfl (.cons rfl .nil))))) (fun _ h => h.sub (fun _ h => h) (SB.s (by repeat constructor)))
   · rintro ⟨n, oo⟩ ⟨hn, hok⟩
     rcases oo with _ | ⟨bo, cap, junk⟩
     all_goals (dsimp only [outOkR] at hn hok ⊢; dsimp only [outV'])
     all_goals refine tc_seq fun K5 hK5 => ?_
     all_goals refine tc_seq fun K6 hK6 => ?_
     all_goals refine tc_region ?_
     all_goals refine tl_q (y_move rfl) rfl ?_
     all_goals refine tl_q (y_move rfl) rfl ?_
     all_goals refine tl_q (y_len rfl) rfl ?_
     all_goals refine tl_q (y_lss rfl rfl) rfl ?_
     all_goals refine tl_q (y_move rfl) rfl ?_
     all_goals (first | refine tl_sk rfl rfl rfl rfl ?_ | refine tl_qg rfl rfl (y_move rfl) rfl ?_ | refine tl_su rfl rfl rfl ?_ | (refine tl_gs rfl rfl (fun hc => ?_) (fun hc => ?_) <;> (try simp only [decide_eq_true_eq, decide_eq_false_iff_not, Int.not_lt, Int.not_le, Bool.not_eq_true', Bool.not_eq_false', Decidable.not_not, not_true_eq_false] at hc) <;> (first | (exfalso; omega) | refine tl_sk rfl rfl rfl rfl ?_ | refine tl_qg rfl rfl (y_move rfl) rfl ?_ | refine tl_su rfl rfl rfl ?_)))
     all_goals (first | refine tl_sk rfl rfl rfl rfl ?_ | refine tl_qg rfl rfl (y_lss rfl rfl) rfl ?_ | refine tl_su rfl rfl rfl ?_ | (refine tl_gs rfl rfl (fun hc => ?_) (fun hc => ?_) <;> (try simp only [decide_eq_true_eq, decide_eq_false_iff_not, Int.not_lt, Int.not_le, Bool.not_eq_true', Bool.not_eq_false', Decidable.not_not, not_true_eq_false] at hc) <;> (first | (exfalso; omega) | refine tl_sk rfl rfl rfl rfl ?_ | refine tl_qg rfl rfl (y_lss rfl rfl) rfl ?_ | refine tl_su rfl rfl rfl ?_)))
     all_goals (first | refine tl_q (y_pick_t rfl rfl) rfl ?_ | refine tl_q (y_pick_f rfl rfl) rfl ?_)
     all_goals refine tl_nil ?_
     all_goals (refine hK6 ?_; try (clear hK6; clear K6))
     all_goals (
      refine tc_cond rfl (fun hc => ?_) (fun hc => ?_)
      · try simp only [decide_eq_true_eq, decide_eq_false_iff_not, Int.not_lt, Int.not_le, Bool.not_eq_true', Bool.not_eq_false', Decidable.not_not, not_true_eq_false] at hc
        all_goals first | (exfalso; with_reducible exact bft hc) | (exfalso; with_reducible exact btf hc) | (exfalso; omega) | skip
        all_goals refine tc_skip ?_
        all_goals (refine hK5 ?_; try (clear hK5; clear K5))
        all_goals refine tc_seq fun K7 hK7 => ?_
        all_goals refine tc_block ?_
        all_goals refine tc_seq fun K8 hK8 => ?_
        all_goals (have had' := had (by omega))
        all_goals (have hx := hws (ws.getD n 0) (by rw [List.getD_eq_getElem?_getD, List.getElem?_eq_getElem (by omega)]; exact List.getElem_mem (by omega)))
        all_goals (have e1 := Int.emod_nonneg (ws.getD n 0) (show ((s.weights.length : Int) + 1) ≠ 0 by omega); have e2 := Int.emod_lt_of_pos (ws.getD n 0) (show 0 < ((s.weights.length : Int) + 1) by omega))
        all_goals (have hlen : (flatR (lookN s d ws n)).length = n * 2 := by rw [flatR_len, lookN_len])
        all_goals refine tc_draw (by kernel_rfl) ?_
        all_goals refine tx_p 0 rfl (by kernel_rfl) (y_move rfl) rfl (fun _ _ _ h => h) (fun _ h => h) ?_
        all_goals refine tx_p 1 rfl (by kernel_rfl) (y_move rfl) rfl (fun _ _ _ h => h) (fun _ h => h) ?_
        all_goals (first | refine tx_p 2 rfl (by kernel_rfl) (y_index rfl rfl (by omega) had') rfl (fun _ _ _ h => h) (fun _ h => h) ?_ | refine tx_p 2 rfl (by kernel_rfl) (y_index rfl rfl (by omega) rfl) rfl (fun _ _ _ h => h) (fun _ h => h) ?_ | refine tx_p 2 rfl (by kernel_rfl) (y_indexA rfl rfl (by omega)) rfl (fun _ _ _ h => h) (fun _ h => h) ?_)
        all_goals (first | refine tx_q 3 rfl (by kernel_rfl) (y_load1 rfl (by repeat constructor) (by rfl)) rfl (fun _ _ _ h => h) (fun _ h => h) ?_ | refine tx_q 3 rfl (by kernel_rfl) (y_load1o (v := v8 (ws.getD n 0)) rfl (fun w' hw' => by rw [show Int.toNat (n : Int) * 1 = n from by omega]; exact hcell w' (hw'.fr (by simp)) n (by omega))) rfl (fun _ _ _ h => h) (fun _ h => h) ?_)
        all_goals (first | refine tx_p 4 rfl (by kernel_rfl) (y_conv64 rfl (by omega)) rfl (fun _ _ _ h => h) (fun _ h => h) ?_ | refine tx_p 4 rfl (by kernel_rfl) (y_conv rfl (by simp only [IntKind.wrap, IntKind.bits, IntKind.signed, Bool.false_and, Bool.true_and, Bool.false_eq_true, if_false, decide_eq_true_eq]; omega)) rfl (fun _ _ _ h => h) (fun _ h => h) ?_)
        all_goals refine tx_p 5 rfl (by kernel_rfl) (y_field rfl) rfl (fun _ _ _ h => h) (fun _ h => h) ?_
        all_goals (first | refine tx_q 6 rfl (by kernel_rfl) (y_load1 rfl (by repeat constructor) (by rfl)) rfl (fun _ _ _ h => h) (fun _ h => h) ?_ | refine tx_q 6 rfl (by kernel_rfl) (y_load1o (v := v8 (ws.getD n 0)) rfl (fun w' hw' => by rw [show Int.toNat (n : Int) * 1 = n from by omega]; exact hcell w' (hw'.fr (by simp)) n (by omega))) rfl (fun _ _ _ h => h) (fun _ h => h) ?_)
        all_goals refine tx_q 7 rfl (by kernel_rfl) (y_len rfl) rfl (fun _ _ _ h => h) (fun _ h => h) ?_
        all_goals refine tx_p 8 rfl (by kernel_rfl) (y_add rfl rfl (by omega)) rfl (fun _ _ _ h => h) (fun _ h => h) ?_
        all_goals refine tx_p 9 rfl (by kernel_rfl) (y_rem rfl rfl (by omega) (by omega)) rfl (fun _ _ _ h => h) (fun _ h => h) ?_
        all_goals refine tx_p 10 rfl (by kernel_rfl) (y_assign rfl) rfl (fun _ _ _ h => h) (fun _ h => h) ?_
        all_goals refine tx_done (by kernel_rfl) ?_
        all_goals (refine hK8 ?_; try (clear hK8; clear K8))
        all_goals refine tc_drawS ([(b3, .cells (spV s (.slice ad2 s.weights.length cp2)).cells 24 (0, 0))]) (by kernel_rfl) ?_
        all_goals refine tx_p 0 rfl (by kernel_rfl) (y_move rfl) rfl (fun _ _ _ h => h) (fun _ h => h.subl (SB.s (by repeat constructor)) (SB.s (by repeat constructor))) ?_
        all_goals refine tx_p 1 rfl (by kernel_rfl) (y_move rfl) rfl (fun _ _ _ h => h) (fun _ h => h.subl (SB.s (by repeat constructor)) (SB.s (by repeat constructor))) ?_
        all_goals (first | refine tx_qS 2 rfl (by kernel_rfl) (y_loadW rfl (by repeat constructor) (by rfl)) rfl (fun _ _ _ h => h) (fun _ h => h.subl (SB.s (by repeat constructor)) (SB.s (by repeat constructor))) ?_ | refine tx_qS 2 rfl (by kernel_rfl) (y_loadN rfl (by repeat constructor) (by (repeat (first | exact .nil | apply CA.cons rfl)); done)) rfl (fun _ _ _ h => h) (fun _ h => h.subl (SB.s (by repeat constructor)) (SB.s (by repeat constructor))) ?_ | refine tx_qS 2 rfl (by kernel_rfl) (y_load1o (v := v8 (ws.getD n 0)) rfl (fun w' hw' => by rw [show Int.toNat (n : Int) * 1 = n from by omega]; exact hcell w' (hw'.fr (by simp)) n (by omega))) rfl (fun _ _ _ h => h) (fun _ h => h.subl (SB.s (by repeat constructor)) (SB.s (by repeat constructor))) ?_)
        all_goals refine tx_p 3 rfl (by kernel_rfl) (y_move rfl) rfl (fun _ _ _ h => h) (fun _ h => h.subl (SB.s (by repeat constructor)) (SB.s (by repeat constructor))) ?_
        all_goals refine tx_p 4 rfl (by kernel_rfl) (y_move rfl) rfl (fun _ _ _ h => h) (fun _ h => h.subl (SB.s (by repeat constructor)) (SB.s (by repeat constructor))) ?_
        all_goals refine tx_p 5 rfl (by kernel_rfl) (y_move rfl) rfl (fun _ _ _ h => h) (fun _ h => h.subl (SB.s (by repeat constructor)) (SB.s (by repeat constructor))) ?_
        all_goals refine tx_p 6 rfl (by kernel_rfl) (y_move rfl) rfl (fun _ _ _ h => h) (fun _ h => h.subl (SB.s (by repeat constructor)) (SB.s (by repeat constructor))) ?_
        all_goals (first | refine tx_p 7 rfl (by kernel_rfl) (y_index rfl rfl (by omega) had') rfl (fun _ _ _ h => h) (fun _ h => h.subl (SB.s (by repeat constructor)) (SB.s (by repeat constructor))) ?_ | refine tx_p 7 rfl (by kernel_rfl) (y_index rfl rfl (by omega) rfl) rfl (fun _ _ _ h => h) (fun _ h => h.subl (SB.s (by repeat constructor)) (SB.s (by repeat constructor))) ?_ | refine tx_p 7 rfl (by kernel_rfl) (y_indexA rfl rfl (by omega)) rfl (fun _ _ _ h => h) (fun _ h => h.subl (SB.s (by repeat constructor)) (SB.s (by repeat constructor))) ?_)
        all_goals (first | refine tx_qS 8 rfl (by kernel_rfl) (y_load1 rfl (by repeat constructor) (by rfl)) rfl (fun _ _ _ h => h) (fun _ h => h.subl (SB.s (by repeat constructor)) (SB.s (by repeat constructor))) ?_ | refine tx_qS 8 rfl (by kernel_rfl) (y_load1o (v := v8 (ws.getD n 0)) rfl (fun w' hw' => by rw [show Int.toNat (n : Int) * 1 = n from by omega]; exact hcell w' (hw'.fr (by simp)) n (by omega))) rfl (fun _ _ _ h => h) (fun _ h => h.subl (SB.s (by repeat constructor)) (SB.s (by repeat constructor))) ?_)
        all_goals (first | refine tx_p 9 rfl (by kernel_rfl) (y_conv64 rfl (by omega)) rfl (fun _ _ _ h => h) (fun _ h => h.subl (SB.s (by repeat constructor)) (SB.s (by repeat constructor))) ?_ | refine tx_p 9 rfl (by kernel_rfl) (y_conv rfl (by simp only [IntKind.wrap, IntKind.bits, IntKind.signed, Bool.false_and, Bool.true_and, Bool.false_eq_true, if_false, decide_eq_true_eq]; omega)) rfl (fun _ _ _ h => h) (fun _ h => h.subl (SB.s (by repeat constructor)) (SB.s (by repeat constructor))) ?_)
        all_goals refine tx_p 10 rfl (by kernel_rfl) (y_quo rfl rfl (by omega) (by omega)) rfl (fun _ _ _ h => h) (fun _ h => h.subl (SB.s (by repeat constructor)) (SB.s (by repeat constructor))) ?_
        all_goals refine tx_single 11 (by kernel_rfl) (to_e rfl rfl (e_callV rfl (.cons rfl (.cons rfl (.cons rfl (.cons rfl .nil)))) (fun w' hw' => seen2_c s hs _ d (ws.getD n 0 / 8) e1 (by omega) h2 h3 (by omega) (can_ne hs h2) _ w' (hr0.fr (hw'.fr (by simp))))) (.inr ⟨fun _ _ h => h.subl (SB.s (by repeat constructor)) (SB.s (by repeat constructor)), fun _ h => h⟩) (fun _ _ => ?_))
        all_goals refine tx_p 12 rfl (by kernel_rfl) (y_build_2 rfl rfl rfl rfl) rfl (fun _ _ _ h => h) (fun _ h => h.subl (SB.s (by repeat constructor)) (SB.s (by repeat constructor))) ?_
        all_goals refine tx_single 13 (by kernel_rfl) (to_e rfl rfl (e_bslice rfl (by (repeat (first | exact .nil | apply PV.one rfl rfl | apply PV.two rfl)); done) rfl rfl) (.inr ⟨fun _ _ h => h.subl (SB.s (by repeat constructor)) (SB.s (by repeat constructor)), fun _ h => h⟩) (fun _ _ => ?_))
        all_goals (first | refine tx_single 14 (by kernel_rfl) (to_e rfl rfl (e_append_own (old := flatR (lookN s d ws n)) (junk := junk) rfl rfl rfl (by repeat constructor) (by rw [hlen]) (by omega) hok.1 (fun w' hw' => RdR.own0 (xs := [lookR s d ws n]) hw' (by repeat constructor)) (flatR_one _) (by simp only [List.length_cons, List.length_nil]; omega) rfl) (.inr ⟨fun _ _ h => h.subl (SB.s (by repeat constructor)) (SB.s (by repeat constructor)), fun _ h => h⟩) (fun y hy => ?_)) | refine tx_single 14 (by kernel_rfl) (to_e rfl rfl (e_append_nil rfl rfl rfl (fun w' hw' => RdR.own0 (xs := [lookR s d ws n]) hw' (by repeat constructor)) (flatR_one _) Nat.zero_lt_one (Nat.le_of_ble_eq_true rfl) rfl) (.inr ⟨fun _ _ h => h.subl (SB.s (by repeat constructor)) (SB.s (by repeat constructor)), fun _ h => h⟩) (fun y hy => ?_)))
        all_goals refine tx_p 15 rfl (by kernel_rfl) (y_assign rfl) rfl (fun _ _ _ h => h) (fun _ h => h.subl (SB.s (by repeat constructor)) (SB.s (by repeat constructor))) ?_
        all_goals refine tx_done (by kernel_rfl) ?_
        all_goals (refine hK7 ?_; try (clear hK7; clear K7))
        all_goals refine tc_region ?_
        all_goals refine tl_q (y_move rfl) rfl ?_
        all_goals refine tl_q (y_add rfl rfl (by omega)) rfl ?_
        all_goals refine tl_q (y_assign rfl) rfl ?_
        all_goals refine tl_nil ?_
        all_goals (
         have hs2 : flatR (lookN s d ws (n + 1)) = flatR (lookN s d ws n) ++ flatR [lookR s d ws n] := by rw [lookN_succ, flatR_append]
         refine tk_round (n + 1, some (y.1, y.2.1, y.2.2)) ⟨by omega, ?_⟩ (by omega) (.cons rfl (.cons rfl (.cons rfl (.cons ?_ (.cons rfl .nil))))) (fun _ h => ?_)
         · dsimp only [outOkR]; simp only [List.length_cons, List.length_nil] at hy ⊢; omega
         · dsimp only [outV']; first | rfl | (rw [hok]; rfl)
         · dsimp only; rw [hs2]
           first
           | (rw [show lookN s d ws n = [] from by rw [hok]; rfl, show flatR [] = [] from rfl, List.nil_append]; exact h.sub (fun _ h => h) (SB.s (by repeat constructor)))
           | exact h.sub (fun _ h => h) (SB.s (by repeat constructor)))
      · try simp only [decide_eq_true_eq, decide_eq_false_iff_not, Int.not_lt, Int.not_le, Bool.not_eq_true', Bool.not_eq_false', Decidable.not_not, not_true_eq_false] at hc
        all_goals first | (exfalso; with_reducible exact bft hc) | (exfalso; with_reducible exact btf hc) | (exfalso; omega) | skip
        all_goals refine tc_exit ?_
        all_goals (refine hK3 ?_; try (clear hK3; clear K3))
        all_goals refine tc_seq fun K9 hK9 => ?_
        all_goals refine tc_region ?_
        all_goals refine tl_q (y_move rfl) rfl ?_
        all_goals refine tl_q (y_assign rfl) rfl ?_
        all_goals refine tl_nil ?_
        all_goals (refine hK9 ?_; try (clear hK9; clear K9))
        all_goals refine tc_ret ?_
        all_goals (repeat (first | refine tk_then_ret ?_ | refine tk_block_ret ?_ | refine tk_scope_ret ?_))
        all_goals first | refine tk_ret rfl rfl (.cons (.tmp rfl) .nil) ?_ | refine tk_retM rfl (by repeat constructor) rfl (.cons (.tmp rfl) .nil) ?_
        all_goals (
         have hnn : n = min ws.length 5 := by omega
         have hLL : (lookL s d ws).length = n := by unfold lookL; rw [lookN_len, hnn]
         first
         | exact fun w' hw' => ⟨(none, 0), by rw [hLL, hok]; rfl, hw'.fr (by simp), by rw [List.eq_nil_of_length_eq_zero (hLL.trans hok)]; exact RdR.nil _⟩
         | exact fun w' hw' => ⟨(some ⟨bo, 0, none⟩, cap), by rw [hLL]; rfl, hw'.fr (by simp), RdR.own (xs := lookL s d ws) (cap := cap) (junk := junk) (b := bo) hw' (by unfold lookL; rw [← hnn]; exact .head)⟩)))
theorem leave_nil {s : Sn} {l : List (Int × Int)} (h : fitsP s l [] = true) : leaveL s l = [] := by
  unfold leaveL
  rw [fs_hit (j := 0) (r := []) (by omega) (by unfold srch; rw [if_pos h]) (fun k hk => absurd hk (Nat.not_lt_zero k))]
  rfl
theorem all_ok {s : Sn} {d : Int} {l : List (Int × Int)} (h : ∀ r ∈ l, rdOk s r = true ∧ rFit s r d = true) : l.all (rdOk s) = true := List.all_eq_true.2 fun r hr => (h r hr).1
/-- All readings fit one density. -/
theorem nar_fit {s : Sn} (hs : VS s) {d : Int} (h1 : 1 ≤ d) (h2 : d ≤ 2000) {l : List (Int × Int)} (h : ∀ r ∈ l, rdOk s r = true ∧ rFit s r d = true) : (narF s l [] l.length).1 ≤ d ∧ d ≤ (narF s l [] l.length).2 :=
  (nar_mem hs (all_ok h) [] h1 h2 l.length (Nat.le_refl _)).2 fun i hi => .inr (by
    rw [List.getD_eq_getElem?_getD, List.getElem?_eq_getElem hi]
    exact (h _ (List.getElem_mem hi)).2)
theorem readF_ok {s : Sn} (hs : VS s) {l : List (Int × Int)} (hl : l.length ≤ 6) (h : l.all (rdOk s) = true) : readF s l = 0 := by
  unfold readF
  rw [if_neg (by rw [chkF_valid.2 hs]; exact fun h => h rfl), if_neg (by omega), if_pos h]
theorem nar_pre {s : Sn} (l : List (Int × Int)) (m : Int × Int) : ∀ n, n ≤ l.length → narF s (l ++ [m]) [] n = narF s l [] n := by
  intro n
  induction n with
  | zero => intro _; rfl
  | succ n ih =>
    intro hn
    rw [narF_succ, narF_succ, ih (by omega)]
    unfold narStep
    rw [show (l ++ [m]).getD n (0, 0) = l.getD n (0, 0) from by rw [List.getD_eq_getElem?_getD, List.getD_eq_getElem?_getD, List.getElem?_append_left (by omega)]]
theorem nar_more {s : Sn} (l : List (Int × Int)) (m : Int × Int) : (narF s l [] l.length).1 ≤ (narF s (l ++ [m]) [] (l ++ [m]).length).1 ∧ (narF s (l ++ [m]) [] (l ++ [m]).length).2 ≤ (narF s l [] l.length).2 := by
  rw [List.length_append, List.length_singleton, narF_succ, nar_pre l m _ (Nat.le_refl _)]
  unfold narStep
  rw [if_neg (by simp)]
  simp only [meetF]
  omega
theorem looked_v (s : Sn) (hs : VS s) (d : Int) (h2 : 1 ≤ d) (h3 : d ≤ 2000) (ws : List Int) (hws : ∀ x ∈ ws, 0 ≤ x ∧ x ≤ 255) (hwl : (ws.length : Int) ≤ 9223372036854775807) {l : List (Int × Int)} (hl : l = lookL s d ws) (sl wv : Value) (w : World) (hr : RdI w sl s.weights) (hW : Reads w wv 1 ws.length (ws.map (Value.int .u8))) :
    CnX Try.prog 42 #[spV s sl, vi d, wv] w [] (slV l.length) (fun x w' => RdR w' (slV l.length x) l) := by
  subst hl
  exact looked_c s hs d h2 h3 ws hws hwl sl wv w hr hW
end Go.Sp
