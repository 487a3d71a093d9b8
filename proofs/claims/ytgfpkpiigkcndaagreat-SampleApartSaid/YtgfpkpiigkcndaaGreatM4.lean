
/-
  The reference of samples: whether a bottle in some hands has a way; whether a sample has a truth.
-/
import Derived.Test.YtgfpkpiigkcndaaGreatM3
import Derived.Test.YtgfpkpiigkcndaaGreatRows
import Derived.ProofKit
import Derived.OpenShut
import Derived.Carry
import Derived.Deep.Fields
set_option linter.unusedVariables false
set_option linter.unusedSimpArgs false
set_option linter.deprecated false
namespace Go.Sp
open Go Go.Proofs
def pUp (s : Smp) (b : Int) (h : Nat) (c : List Int) (k : Bool) (acc : List Bool) (n : Nat) : List Bool := if actIs k (stB s c h) n = true ∧ seenB s b h (actY k n) = true then acc.set (actY k n).toNat true else acc
def pAct (s : Smp) (b : Int) (h : Nat) (c : List Int) (k : Bool) (acc : List Bool) : Nat → List Bool
  | 0 => acc
  | n + 1 => pUp s b h c k (pAct s b h c k acc n) n
def pBoth (s : Smp) (b : Int) (h : Nat) (c : List Int) (now : List Bool) : Nat → List Bool
  | 0 => [false, false]
  | k + 1 => if now.getD k false = true then pAct s b h c (blF k) (pBoth s b h c now k) 4 else pBoth s b h c now k
def pNow (s : Smp) (b : Int) (c : List Int) : Nat → List Bool
  | 0 => [true, false]
  | h + 1 => pBoth s b h c (pNow s b c h) 2
def passF (s : Smp) (b : Int) (c : List Int) : Bool := (pNow s b c (s.L + 1).toNat).getD 0 false || (pNow s b c (s.L + 1).toNat).getD 1 false
theorem pAct_len (s : Smp) (b : Int) (h : Nat) (c : List Int) (k : Bool) (acc : List Bool) : ∀ n, (pAct s b h c k acc n).length = acc.length
  | 0 => rfl
  | n + 1 => by
    rw [pAct, pUp]
    split
    · rw [List.length_set, pAct_len s b h c k acc n]
    · exact pAct_len s b h c k acc n
theorem pBoth_len (s : Smp) (b : Int) (h : Nat) (c : List Int) (now : List Bool) : ∀ n, (pBoth s b h c now n).length = 2
  | 0 => rfl
  | n + 1 => by
    rw [pBoth]
    split
    · rw [pAct_len, pBoth_len s b h c now n]
    · exact pBoth_len s b h c now n
theorem pNow_len (s : Smp) (b : Int) (c : List Int) : ∀ n, (pNow s b c n).length = 2
  | 0 => rfl
  | n + 1 => pBoth_len ..
theorem actedN_c {k n : Nat} (hn : n < 4) (st : Bool) (w : World) : CnV Tryz.prog 74 #[.bool (decide ((k : Int) = 1)), .bool st, vi n] w (.tuple #[.bool (actY (blF k) n), .bool (actIs (blF k) st n)]) := by
  have h := acted_c (decide ((k : Int) = 1)) st n w
  have e : decide ((k : Int) = 1) = blF k := by
    unfold blF
    rw [Bool.eq_iff_iff]; simp; omega
  rw [acY_nat _ hn, acIs_nat _ _ hn, e] at h
  rw [e]; exact h
set_option maxHeartbeats 2000000 in
theorem passes_c (s : Smp) (hf : Few s) (hv : VSm s) (b : Int) (c : List Int) (hcl : (c.length : Int) = s.L + 1) (hcb : ∀ i, i < c.length → 0 ≤ c.getD i 0 ∧ c.getD i 0 < s.P) (tv pv gv cv : Value) (w : World) (hr : RdSm w s tv pv gv) (hcr : RdI w cv c) :
    CnV Tryz.prog 76 #[smV s tv pv gv, vi b, cv] w (.bool (passF s b c)) := by
  have hr0 := hr
  have hl0 := hv.l0
  have hl9 := hv.l9
  have hst := hv.st
  have hp4 := hv.p4
  obtain ⟨adt, cpt, bt, ot, rfl, hadt, hct⟩ := hr.st.open boE_len false
  obtain ⟨adc, cpc, bc, oc, rfl, hadc, hcc⟩ := hcr.open
  refine cnv (vs := [_, _, _]) Tryz.func76 rfl rfl ?_
  all_goals refine tc_seq fun K1 hK1 => ?_; refine tc_region ?_; refine tl_e (e_box rfl rfl rfl) rfl (fun b3 _ => ?_); refine tl_q (y_assign rfl) rfl ?_; refine tl_nil ?_; ((refine hK1 ?_; try (clear hK1; clear K1)))
  all_goals refine tc_seq fun K2 hK2 => ?_; refine tc_region ?_; refine tl_q (y_build_ga [(0, 1), (1, 1)] (by repeat constructor) (by decide)) rfl ?_; refine tl_e (e_allocN rfl) rfl (fun b7 _ => ?_); refine tl_e (e_storeW rfl rfl (by repeat constructor) (by rfl) (by rfl) (bsV_one [true, false])) rfl (fun _ _ => ?_); refine tl_nil ?_; ((refine hK2 ?_; try (clear hK2; clear K2)))
  all_goals refine tc_seq fun K3 hK3 => ?_; refine tc_seq fun K4 hK4 => ?_; refine tc_region ?_; refine tl_q (y_assign rfl) rfl ?_; refine tl_nil ?_; ((refine hK4 ?_; try (clear hK4; clear K4)))
  all_goals refine tc_block ?_
  all_goals (
   refine tc_loop (fun h : Nat => (h : Int) ≤ s.L + 1) (fun h => [(1, vi b), (2, .slice adc c.length cpc), (3, ptr b3), (7, ptr b7), (8, vi h)]) (fun _ => [(w, [])]) (fun h => [(b7, .cells (bsV (pNow s b c h)) 139 (0, 0)), (b3, .cells #[vi s.B, vi s.P, vi s.L, vi s.F, .slice adt s.st.length cpt, pv, gv] 26 (0, 0))]) (fun h => (s.L + 1).toNat - h) ?_ ?_
   · exact tk_start 0 (by omega) (.cons rfl (.cons rfl (.cons rfl (.cons rfl (.cons rfl .nil))))) (fun _ h => h.subl (SB.s (by repeat constructor)) (SB.s (by repeat constructor)))
   · rintro h hh
     have hpl := pNow_len s b c h
     all_goals refine tc_seq fun K5 hK5 => ?_; refine tc_seq fun K6 hK6 => ?_; refine tc_region ?_; refine tl_q (y_move rfl) rfl ?_; refine tl_q (y_field rfl) rfl ?_; refine tl_q (y_load1 rfl (by repeat constructor) (by rfl)) rfl ?_; refine tl_q (y_leq rfl rfl) rfl ?_; refine tl_nil ?_; ((refine hK6 ?_; try (clear hK6; clear K6)))
     all_goals (
      refine tc_cond rfl (fun hc => ?_) (fun hc => ?_)
      · try simp only [decide_eq_true_eq, decide_eq_false_iff_not, Int.not_lt, Int.not_le, Bool.not_eq_true', Bool.not_eq_false', Decidable.not_not, not_true_eq_false] at hc
        all_goals refine tc_skip ?_; ((refine hK5 ?_; try (clear hK5; clear K5)))
        all_goals refine tc_seq fun K7 hK7 => ?_; refine tc_block ?_; refine tc_seq fun K8 hK8 => ?_; refine tc_region ?_; refine tl_e (e_allocN rfl) rfl (fun b9 _ => ?_); refine tl_nil ?_; ((refine hK8 ?_; try (clear hK8; clear K8)))
        all_goals refine tc_seq fun K9 hK9 => ?_; refine tc_seq fun K10 hK10 => ?_; refine tc_region ?_; refine tl_q (y_assign rfl) rfl ?_; refine tl_nil ?_; ((refine hK10 ?_; try (clear hK10; clear K10)))
        all_goals refine tc_block ?_
        all_goals (
         refine tc_loop (fun k : Nat => k ≤ 2) (fun k => [(1, vi b), (2, .slice adc c.length cpc), (3, ptr b3), (7, ptr b7), (8, vi h), (9, ptr b9), (10, vi k)]) (fun _ => [(w, [])]) (fun k => [(b9, .cells (bsV (pBoth s b h c (pNow s b c h) k)) 139 (0, 0)), (b7, .cells (bsV (pNow s b c h)) 139 (0, 0)), (b3, .cells #[vi s.B, vi s.P, vi s.L, vi s.F, .slice adt s.st.length cpt, pv, gv] 26 (0, 0))]) (fun k => 2 - k) ?_ ?_
         · exact tk_start 0 (by omega) (.cons rfl (.cons rfl (.cons rfl (.cons rfl (.cons rfl (.cons rfl (.cons rfl .nil))))))) (fun _ h => h.subl (SB.s (by repeat constructor)) (SB.s (by repeat constructor)))
         · rintro k hk
           have hbl := pBoth_len s b h c (pNow s b c h) k
           all_goals refine tc_seq fun K11 hK11 => ?_; refine tc_seq fun K12 hK12 => ?_; refine tc_region ?_; refine tl_q (y_move rfl) rfl ?_; refine tl_q (y_lss rfl rfl) rfl ?_; refine tl_nil ?_; ((refine hK12 ?_; try (clear hK12; clear K12)))
           all_goals (
            refine tc_cond rfl (fun hc => ?_) (fun hc => ?_)
            · try simp only [decide_eq_true_eq, decide_eq_false_iff_not, Int.not_lt, Int.not_le, Bool.not_eq_true', Bool.not_eq_false', Decidable.not_not, not_true_eq_false] at hc
              all_goals refine tc_skip ?_; ((refine hK11 ?_; try (clear hK11; clear K11)))
              all_goals refine tc_seq fun K13 hK13 => ?_; refine tc_block ?_; refine tc_seq fun K14 hK14 => ?_; refine tc_region ?_; refine tl_q (y_assign rfl) rfl ?_; refine tl_nil ?_; ((refine hK14 ?_; try (clear hK14; clear K14)))
              all_goals refine tc_block ?_
              all_goals (
               refine tc_loop (fun n : Nat => n ≤ 4 ∧ (0 < n → (pNow s b c h).getD k false = true)) (fun n => [(1, vi b), (2, .slice adc c.length cpc), (3, ptr b3), (7, ptr b7), (8, vi h), (9, ptr b9), (10, vi k), (11, vi n)]) (fun _ => [(w, [])]) (fun n => [(b9, .cells (bsV (pAct s b h c (blF k) (pBoth s b h c (pNow s b c h) k) n)) 139 (0, 0)), (b7, .cells (bsV (pNow s b c h)) 139 (0, 0)), (b3, .cells #[vi s.B, vi s.P, vi s.L, vi s.F, .slice adt s.st.length cpt, pv, gv] 26 (0, 0))]) (fun n => 4 - n) ?_ ?_
               · exact tk_start 0 ⟨by omega, fun h => absurd h (Nat.lt_irrefl 0)⟩ (.cons rfl (.cons rfl (.cons rfl (.cons rfl (.cons rfl (.cons rfl (.cons rfl (.cons rfl .nil)))))))) (fun _ h => h.subl (SB.s (by repeat constructor)) (SB.s (by repeat constructor)))
               · rintro n ⟨hn, hnow⟩
                 have hal : (pAct s b h c (blF k) (pBoth s b h c (pNow s b c h) k) n).length = 2 := by rw [pAct_len, hbl]
                 have hb01 : (pNow s b c h).getD (0 + Int.toNat (k : Int) * 1) false = (pNow s b c h).getD k false := by rw [show 0 + Int.toNat (k : Int) * 1 = k from by omega]
                 all_goals refine tc_seq fun K15 hK15 => ?_; refine tc_seq fun K16 hK16 => ?_; refine tc_region ?_; refine tl_q (y_move rfl) rfl ?_; refine tl_q (y_lss rfl rfl) rfl ?_; refine tl_q (y_move rfl) rfl ?_; ((refine tl_gs rfl rfl (fun hc => ?_) (fun hc => ?_) <;> (try simp only [decide_eq_true_eq, decide_eq_false_iff_not, Int.not_lt, Int.not_le, Bool.not_eq_true', Bool.not_eq_false', Decidable.not_not, not_true_eq_false] at hc) <;> (first | refine tl_sk rfl rfl rfl rfl ?_ | refine tl_qg rfl rfl (y_move rfl) rfl ?_)))
                 all_goals (first | refine tl_sk rfl rfl rfl rfl ?_ | refine tl_qg rfl rfl (y_indexA rfl rfl (by omega)) rfl ?_); (first | refine tl_sk rfl rfl rfl rfl ?_ | refine tl_qg rfl rfl (y_load1 (v := .bool ((pNow s b c h).getD (0 + Int.toNat (k : Int) * 1) false)) rfl (by repeat constructor) (cellAt_bs (by omega))) rfl ?_); (first | refine tl_q (y_pick_t rfl rfl) rfl ?_ | refine tl_q (y_pick_f rfl rfl) rfl ?_); refine tl_nil ?_; ((refine hK16 ?_; try (clear hK16; clear K16)))
                 all_goals (
                  refine tc_cond rfl (fun hc => ?_) (fun hc => ?_)
                  · all_goals ((first | (exfalso; with_reducible exact bft hc) | skip))
                    all_goals refine tc_skip ?_; ((refine hK15 ?_; try (clear hK15; clear K15)))
                    all_goals refine tc_seq fun K17 hK17 => ?_; refine tc_block ?_; refine tc_seq fun K18 hK18 => ?_; ((have hcbh := hcb h (by omega); have hcn := hc))
                    all_goals refine tc_draw (by kernel_rfl) ?_; refine tx_p 0 rfl (by kernel_rfl) (y_move rfl) rfl (fun _ _ _ h => h) (fun _ h => h) ?_; refine tx_p 1 rfl (by kernel_rfl) (y_eql rfl rfl) rfl (fun _ _ _ h => h) (fun _ h => h) ?_; refine tx_p 2 rfl (by kernel_rfl) (y_field rfl) rfl (fun _ _ _ h => h) (fun _ h => h) ?_; refine tx_q 3 rfl (by kernel_rfl) (y_load1 rfl (by repeat constructor) (by rfl)) rfl (fun _ _ _ h => h) (fun _ h => h) ?_; refine tx_p 4 rfl (by kernel_rfl) (y_move rfl) rfl (fun _ _ _ h => h) (fun _ h => h) ?_; refine tx_p 5 rfl (by kernel_rfl) (y_move rfl) rfl (fun _ _ _ h => h) (fun _ h => h) ?_; refine tx_p 6 rfl (by kernel_rfl) (y_index rfl rfl (by omega) (hadc (by omega))) rfl (fun _ _ _ h => h) (fun _ h => h) ?_; ((refine tx_q 7 rfl (by kernel_rfl) (y_load1o (v := vi (c.getD h 0)) rfl (fun w' hw' => by rw [show Int.toNat (h : Int) * 1 = h from by omega]; exact hcc w' (hw'.fr (w0 := w) (S := []) (MI.m (by repeat constructor))) h (by omega))) rfl (fun _ _ _ h => h) (fun _ h => h) ?_))
                    all_goals (refine tx_p 8 rfl (by kernel_rfl) (y_index rfl rfl (by omega) (hadt (by omega))) rfl (fun _ _ _ h => h) (fun _ h => h) ?_); ((refine tx_q 9 rfl (by kernel_rfl) (y_load1o (v := .bool (stB s c h)) rfl (fun w' hw' => by unfold stB; rw [Int.toNat_natCast]; have hx := (hct w' [] (hw'.fr (w0 := w) (S := []) (MI.m (by repeat constructor))) (by simp) (c.getD h 0).toNat (by omega)).get 0 _ rfl; exact hx)) rfl (fun _ _ _ h => h) (fun _ h => h) ?_))
                    all_goals refine tx_p 10 rfl (by kernel_rfl) (y_move rfl) rfl (fun _ _ _ h => h) (fun _ h => h) ?_; refine tx_e 11 rfl (by kernel_rfl) rfl (e_callV rfl (.cons rfl (.cons rfl (.cons rfl .nil))) (fun w' _ => actedN_c (k := k) (n := n) (by omega) _ w')) (.inr fun _ _ h => h) (fun _ _ => ?_); refine tx_p 12 rfl (by kernel_rfl) (y_move rfl) rfl (fun _ _ _ h => h) (fun _ h => h) ?_; refine tx_p 13 rfl (by kernel_rfl) (y_extract rfl rfl) rfl (fun _ _ _ h => h) (fun _ h => h) ?_; refine tx_p 14 rfl (by kernel_rfl) (y_extract rfl rfl) rfl (fun _ _ _ h => h) (fun _ h => h) ?_; refine tx_p 15 rfl (by kernel_rfl) (y_assign rfl) rfl (fun _ _ _ h => h) (fun _ h => h) ?_; refine tx_p 16 rfl (by kernel_rfl) (y_assign rfl) rfl (fun _ _ _ h => h) (fun _ h => h) ?_; refine tx_done (by kernel_rfl) ?_; ((refine hK18 ?_; try (clear hK18; clear K18)))
                    all_goals refine tc_seq fun K19 hK19 => ?_; refine tc_region ?_; refine tl_q (y_move rfl) rfl ?_; refine tl_q (y_move rfl) rfl ?_; ((refine tl_gs rfl rfl (fun hc => ?_) (fun hc => ?_) <;> (try simp only [decide_eq_true_eq, decide_eq_false_iff_not, Int.not_lt, Int.not_le, Bool.not_eq_true', Bool.not_eq_false', Decidable.not_not, not_true_eq_false] at hc) <;> (first | refine tl_sk rfl rfl rfl rfl ?_ | refine tl_qg rfl rfl (y_loadW rfl (by repeat constructor) (by rfl)) rfl ?_)))
                    all_goals (first | refine tl_sk rfl rfl rfl rfl ?_ | refine tl_qg rfl rfl (y_move rfl) rfl ?_); (first | refine tl_sk rfl rfl rfl rfl ?_ | refine tl_qg rfl rfl (y_move rfl) rfl ?_); (first | refine tl_sk rfl rfl rfl rfl ?_ | refine tl_qg rfl rfl (y_move rfl) rfl ?_); (first | refine tl_sk rfl rfl rfl rfl ?_ | refine tl_eg rfl rfl rfl (e_callV rfl (.cons rfl (.cons rfl (.cons rfl (.cons rfl .nil)))) (fun w' hw' => agrees_c s hf.sg b h _ _ _ _ w' (hr0.sg.fr (hw'.fr (w0 := w) (S := []) (MI.m (by repeat constructor)))))) (fun _ _ => ?_)); (first | refine tl_q (y_pick_t rfl rfl) rfl ?_ | refine tl_q (y_pick_f rfl rfl) rfl ?_); refine tl_nil ?_; ((refine hK19 ?_; try (clear hK19; clear K19)))
                    all_goals (
                     refine tc_cond rfl (fun hc => ?_) (fun hc => ?_)
                     · all_goals ((first | (exfalso; with_reducible exact bft hc) | skip))
                       all_goals refine tc_seq fun K20 hK20 => ?_; refine tc_region ?_; refine tl_q (y_move rfl) rfl ?_; refine tl_nil ?_; ((refine hK20 ?_; try (clear hK20; clear K20)))
                       all_goals (
                        refine tc_cond rfl (fun hc => ?_) (fun hc => ?_)
                        · all_goals (skip)
                          all_goals refine tc_region ?_; refine tl_q (y_indexA rfl rfl (by omega)) rfl ?_; refine tl_e (e_storeB (l := pAct s b h c (blF k) (pBoth s b h c (pNow s b c h) k) n) rfl rfl (by omega) (by repeat constructor)) rfl (fun _ _ => ?_); refine tl_nil ?_; ((refine hK17 ?_; try (clear hK17; clear K17)))
                          all_goals refine tc_region ?_; refine tl_q (y_move rfl) rfl ?_; refine tl_q (y_add rfl rfl (by omega)) rfl ?_; refine tl_q (y_assign rfl) rfl ?_; refine tl_nil ?_
                          all_goals (
                           first
                           | (have hs : pAct s b h c (blF k) (pBoth s b h c (pNow s b c h) k) (n + 1) = (pAct s b h c (blF k) (pBoth s b h c (pNow s b c h) k) n).set 1 true := by
                                rw [pAct, pUp, if_pos ⟨by assumption, by assumption⟩, show actY (blF k) n = true from hc]; rfl
                              exact tk_round (n + 1) ⟨by omega, fun _ => by rw [← hb01]; exact hcn⟩ (by omega) (.cons rfl (.cons rfl (.cons rfl (.cons rfl (.cons rfl (.cons rfl (.cons rfl (.cons rfl .nil)))))))) (fun _ h => by rw [hs]; exact h.subl (SB.s (by repeat constructor)) (SB.s (by repeat constructor))))
                           | (have hs : pAct s b h c (blF k) (pBoth s b h c (pNow s b c h) k) (n + 1) = (pAct s b h c (blF k) (pBoth s b h c (pNow s b c h) k) n).set 0 true := by
                                rw [pAct, pUp, if_pos ⟨by assumption, by assumption⟩, show actY (blF k) n = false from hc]; rfl
                              exact tk_round (n + 1) ⟨by omega, fun _ => by rw [← hb01]; exact hcn⟩ (by omega) (.cons rfl (.cons rfl (.cons rfl (.cons rfl (.cons rfl (.cons rfl (.cons rfl (.cons rfl .nil)))))))) (fun _ h => by rw [hs]; exact h.subl (SB.s (by repeat constructor)) (SB.s (by repeat constructor))))
                           | (have hs : pAct s b h c (blF k) (pBoth s b h c (pNow s b c h) k) (n + 1) = pAct s b h c (blF k) (pBoth s b h c (pNow s b c h) k) n := by
                                rw [pAct, pUp, if_neg (fun g => by simp_all)]
                              exact tk_round (n + 1) ⟨by omega, fun _ => by rw [← hb01]; exact hcn⟩ (by omega) (.cons rfl (.cons rfl (.cons rfl (.cons rfl (.cons rfl (.cons rfl (.cons rfl (.cons rfl .nil)))))))) (fun _ h => by rw [hs]; exact h.subl (SB.s (by repeat constructor)) (SB.s (by repeat constructor)))))
                        · all_goals (skip)
                          all_goals refine tc_region ?_; refine tl_q (y_indexA rfl rfl (by omega)) rfl ?_; refine tl_e (e_storeB (l := pAct s b h c (blF k) (pBoth s b h c (pNow s b c h) k) n) rfl rfl (by omega) (by repeat constructor)) rfl (fun _ _ => ?_); refine tl_nil ?_; ((refine hK17 ?_; try (clear hK17; clear K17)))
                          all_goals refine tc_region ?_; refine tl_q (y_move rfl) rfl ?_; refine tl_q (y_add rfl rfl (by omega)) rfl ?_; refine tl_q (y_assign rfl) rfl ?_; refine tl_nil ?_
                          all_goals (
                           first
                           | (have hs : pAct s b h c (blF k) (pBoth s b h c (pNow s b c h) k) (n + 1) = (pAct s b h c (blF k) (pBoth s b h c (pNow s b c h) k) n).set 1 true := by
                                rw [pAct, pUp, if_pos ⟨by assumption, by assumption⟩, show actY (blF k) n = true from hc]; rfl
                              exact tk_round (n + 1) ⟨by omega, fun _ => by rw [← hb01]; exact hcn⟩ (by omega) (.cons rfl (.cons rfl (.cons rfl (.cons rfl (.cons rfl (.cons rfl (.cons rfl (.cons rfl .nil)))))))) (fun _ h => by rw [hs]; exact h.subl (SB.s (by repeat constructor)) (SB.s (by repeat constructor))))
                           | (have hs : pAct s b h c (blF k) (pBoth s b h c (pNow s b c h) k) (n + 1) = (pAct s b h c (blF k) (pBoth s b h c (pNow s b c h) k) n).set 0 true := by
                                rw [pAct, pUp, if_pos ⟨by assumption, by assumption⟩, show actY (blF k) n = false from hc]; rfl
                              exact tk_round (n + 1) ⟨by omega, fun _ => by rw [← hb01]; exact hcn⟩ (by omega) (.cons rfl (.cons rfl (.cons rfl (.cons rfl (.cons rfl (.cons rfl (.cons rfl (.cons rfl .nil)))))))) (fun _ h => by rw [hs]; exact h.subl (SB.s (by repeat constructor)) (SB.s (by repeat constructor))))
                           | (have hs : pAct s b h c (blF k) (pBoth s b h c (pNow s b c h) k) (n + 1) = pAct s b h c (blF k) (pBoth s b h c (pNow s b c h) k) n := by
                                rw [pAct, pUp, if_neg (fun g => by simp_all)]
                              exact tk_round (n + 1) ⟨by omega, fun _ => by rw [← hb01]; exact hcn⟩ (by omega) (.cons rfl (.cons rfl (.cons rfl (.cons rfl (.cons rfl (.cons rfl (.cons rfl (.cons rfl .nil)))))))) (fun _ h => by rw [hs]; exact h.subl (SB.s (by repeat constructor)) (SB.s (by repeat constructor))))))
                     · try simp only [decide_eq_true_eq, decide_eq_false_iff_not, Int.not_lt, Int.not_le, Bool.not_eq_true', Bool.not_eq_false', Decidable.not_not, not_true_eq_false] at hc
                       all_goals refine tc_skip ?_; ((refine hK17 ?_; try (clear hK17; clear K17)))
                       all_goals refine tc_region ?_; refine tl_q (y_move rfl) rfl ?_; refine tl_q (y_add rfl rfl (by omega)) rfl ?_; refine tl_q (y_assign rfl) rfl ?_; refine tl_nil ?_
                       all_goals (
                        first
                        | (have hs : pAct s b h c (blF k) (pBoth s b h c (pNow s b c h) k) (n + 1) = (pAct s b h c (blF k) (pBoth s b h c (pNow s b c h) k) n).set 1 true := by
                             rw [pAct, pUp, if_pos ⟨by assumption, by assumption⟩, show actY (blF k) n = true from hc]; rfl
                           exact tk_round (n + 1) ⟨by omega, fun _ => by rw [← hb01]; exact hcn⟩ (by omega) (.cons rfl (.cons rfl (.cons rfl (.cons rfl (.cons rfl (.cons rfl (.cons rfl (.cons rfl .nil)))))))) (fun _ h => by rw [hs]; exact h.subl (SB.s (by repeat constructor)) (SB.s (by repeat constructor))))
                        | (have hs : pAct s b h c (blF k) (pBoth s b h c (pNow s b c h) k) (n + 1) = (pAct s b h c (blF k) (pBoth s b h c (pNow s b c h) k) n).set 0 true := by
                             rw [pAct, pUp, if_pos ⟨by assumption, by assumption⟩, show actY (blF k) n = false from hc]; rfl
                           exact tk_round (n + 1) ⟨by omega, fun _ => by rw [← hb01]; exact hcn⟩ (by omega) (.cons rfl (.cons rfl (.cons rfl (.cons rfl (.cons rfl (.cons rfl (.cons rfl (.cons rfl .nil)))))))) (fun _ h => by rw [hs]; exact h.subl (SB.s (by repeat constructor)) (SB.s (by repeat constructor))))
                        | (have hs : pAct s b h c (blF k) (pBoth s b h c (pNow s b c h) k) (n + 1) = pAct s b h c (blF k) (pBoth s b h c (pNow s b c h) k) n := by
                             rw [pAct, pUp, if_neg (fun g => by simp_all)]
                           exact tk_round (n + 1) ⟨by omega, fun _ => by rw [← hb01]; exact hcn⟩ (by omega) (.cons rfl (.cons rfl (.cons rfl (.cons rfl (.cons rfl (.cons rfl (.cons rfl (.cons rfl .nil)))))))) (fun _ h => by rw [hs]; exact h.subl (SB.s (by repeat constructor)) (SB.s (by repeat constructor))))))
                  · try simp only [decide_eq_true_eq, decide_eq_false_iff_not, Int.not_lt, Int.not_le, Bool.not_eq_true', Bool.not_eq_false', Decidable.not_not, not_true_eq_false] at hc
                    all_goals refine tc_exit ?_; ((refine hK13 ?_; try (clear hK13; clear K13)))
                    all_goals refine tc_region ?_; refine tl_q (y_move rfl) rfl ?_; refine tl_q (y_add rfl rfl (by omega)) rfl ?_; refine tl_q (y_assign rfl) rfl ?_; refine tl_nil ?_
                    all_goals (
                     first
                     | (have hn0 : n = 0 := by refine Decidable.byContradiction fun g => ?_; rw [hb01, hnow (by omega)] at hc; cases hc
                        have hs : pBoth s b h c (pNow s b c h) (k + 1) = pAct s b h c (blF k) (pBoth s b h c (pNow s b c h) k) n := by
                          rw [pBoth, if_neg (by rw [← hb01, hc]; exact Bool.false_ne_true), hn0]; rfl
                        exact tk_round (k + 1) (by omega) (by omega) (.cons rfl (.cons rfl (.cons rfl (.cons rfl (.cons rfl (.cons rfl (.cons rfl .nil))))))) (fun _ h => by rw [hs]; exact h.subl (SB.s (by repeat constructor)) (SB.s (by repeat constructor))))
                     | (obtain rfl : n = 4 := by omega
                        have hs : pBoth s b h c (pNow s b c h) (k + 1) = pAct s b h c (blF k) (pBoth s b h c (pNow s b c h) k) 4 := by
                          rw [pBoth, if_pos (hnow (by omega))]
                        exact tk_round (k + 1) (by omega) (by omega) (.cons rfl (.cons rfl (.cons rfl (.cons rfl (.cons rfl (.cons rfl (.cons rfl .nil))))))) (fun _ h => by rw [hs]; exact h.subl (SB.s (by repeat constructor)) (SB.s (by repeat constructor)))))))
            · try simp only [decide_eq_true_eq, decide_eq_false_iff_not, Int.not_lt, Int.not_le, Bool.not_eq_true', Bool.not_eq_false', Decidable.not_not, not_true_eq_false] at hc
              all_goals refine tc_exit ?_; ((refine hK9 ?_; try (clear hK9; clear K9)))
              all_goals refine tc_region ?_; refine tl_q (y_loadW rfl (by repeat constructor) (by rw [bsV_size, pBoth_len])) rfl ?_; refine tl_e (e_storeW rfl rfl (by repeat constructor) (by rw [bsV_size, pBoth_len]) (by rw [bsV_size, pNow_len]) (bsV_one _)) rfl (fun _ _ => ?_); refine tl_nil ?_; ((refine hK7 ?_; try (clear hK7; clear K7)))
              all_goals refine tc_region ?_; refine tl_q (y_move rfl) rfl ?_; refine tl_q (y_add rfl rfl (by omega)) rfl ?_; refine tl_q (y_assign rfl) rfl ?_; refine tl_nil ?_
              all_goals (
               obtain rfl : k = 2 := by omega
               have hs : pNow s b c (h + 1) = pBoth s b h c (pNow s b c h) 2 := rfl
               exact tk_round (h + 1) (by omega) (by omega) (.cons rfl (.cons rfl (.cons rfl (.cons rfl (.cons rfl .nil))))) (fun _ h => by rw [hs]; exact h.subl (SB.s (by repeat constructor)) (SB.s (by repeat constructor))))))
      · try simp only [decide_eq_true_eq, decide_eq_false_iff_not, Int.not_lt, Int.not_le, Bool.not_eq_true', Bool.not_eq_false', Decidable.not_not, not_true_eq_false] at hc
        all_goals refine tc_exit ?_; ((refine hK3 ?_; try (clear hK3; clear K3)))
        all_goals refine tc_seq fun K21 hK21 => ?_; refine tc_region ?_; refine tl_q (y_indexA rfl rfl (by omega)) rfl ?_; refine tl_q (y_load1 (v := .bool ((pNow s b c h).getD 0 false)) rfl (by repeat constructor) (cellAt_bs (by omega))) rfl ?_; refine tl_q (y_move rfl) rfl ?_; ((refine tl_gs rfl rfl (fun hc => ?_) (fun hc => ?_) <;> (try simp only [decide_eq_true_eq, decide_eq_false_iff_not, Int.not_lt, Int.not_le, Bool.not_eq_true', Bool.not_eq_false', Decidable.not_not, not_true_eq_false] at hc) <;> (first | refine tl_sk rfl rfl rfl rfl ?_ | refine tl_qg rfl rfl (y_indexA rfl rfl (by omega)) rfl ?_)))
        all_goals (first | refine tl_sk rfl rfl rfl rfl ?_ | refine tl_qg rfl rfl (y_load1 (v := .bool ((pNow s b c h).getD 1 false)) rfl (by repeat constructor) (cellAt_bs (by omega))) rfl ?_); (first | refine tl_q (y_pick_t rfl rfl) rfl ?_ | refine tl_q (y_pick_f rfl rfl) rfl ?_); refine tl_q (y_assign rfl) rfl ?_; refine tl_nil ?_; ((refine hK21 ?_; try (clear hK21; clear K21)))
        all_goals refine tc_ret ?_; (repeat (first | refine tk_then_ret ?_))
        all_goals (refine tk_ret rfl rfl (.cons (.tmp rfl) .nil) ?_)
        all_goals (
         obtain rfl : h = (s.L + 1).toNat := by omega
         refine fun w' hw' => ⟨congrArg (fun x => Ending.returned (Value.bool x)) ?_, hw'.fr (w0 := w) (S := []) (MI.m (by repeat constructor))⟩
         unfold passF
         first
         | (rw [show (pNow s b c (s.L + 1).toNat).getD 0 false = true from hc]; rfl)
         | (rw [show (pNow s b c (s.L + 1).toNat).getD 0 false = false from hc]; rfl))))
def hasN (s : Smp) (b : Int) (n : Nat) : Bool := match heldF s b (nthL s n) with
  | none => false
  | some c => passF s b c
def hasB (s : Smp) (b : Int) : Bool := (List.range (manyS s.ps).toNat).any fun n => hasN s b n
def hasF (s : Smp) : Bool := (List.range s.B.toNat).all fun (b : Nat) => hasB s b
theorem held_no {s : Smp} {b : Int} {ts : List Int} (hE : heldF s b ts = none) (hv : VSm s) (hts : ts.length = s.ps.length) (tv pv gv hv' : Value) (w : World) (hr : RdSm w s tv pv gv) (hh : RdI w hv' ts) :
    CnX Tryz.prog 59 #[smV s tv pv gv, vi b, hv'] w [] (fun y : Option Addr × Nat => .tuple #[slV ([] : List Int).length y, .bool false]) (fun y w' => RdI w' (slV ([] : List Int).length y) []) := by
  have h := held_c s hv b ts hts tv pv gv hv' w hr hh
  rw [hE] at h
  exact h
theorem held_yes {s : Smp} {b : Int} {ts c : List Int} (hE : heldF s b ts = some c) (hv : VSm s) (hts : ts.length = s.ps.length) (tv pv gv hv' : Value) (w : World) (hr : RdSm w s tv pv gv) (hh : RdI w hv' ts) :
    CnX Tryz.prog 59 #[smV s tv pv gv, vi b, hv'] w [] (fun y : Option Addr × Nat => .tuple #[slV c.length y, .bool true]) (fun y w' => RdI w' (slV c.length y) c) := by
  have h := held_c s hv b ts hts tv pv gv hv' w hr hh
  rw [hE] at h
  exact h
theorem heldF_ok {s : Smp} (hv : VSm s) {b : Int} {ts c : List Int} (h : heldF s b ts = some c) : (c.length : Int) = s.L + 1 ∧ ∀ i, i < c.length → 0 ≤ c.getD i 0 ∧ c.getD i 0 < s.P := by
  unfold heldF at h
  obtain ⟨q, h1, rfl⟩ := Option.map_eq_some_iff.1 h
  have hl := chN_len h1
  have hl0 := hv.l0
  exact ⟨by omega, fun i hi => (chN_ok hv h1).2 _ (getD_memG hi)⟩
theorem manyS_v {s : Smp} (hv : VSm s) : 1 ≤ manyS s.ps ∧ manyS s.ps ≤ 1000 :=
  ⟨(manyS_sub (List.Sublist.refl _) (fun p hp => by have := hv.ps p hp; omega)).1, hv.many⟩
theorem rMany_v (s : Smp) (hv : VSm s) (tv pv gv : Value) (w : World) (hr : RdSm w s tv pv gv) : CnV Tryz.prog 52 #[smV s tv pv gv] w (vi (manyS s.ps)) :=
  rMany_c s hv.l9 (List.all_eq_true.2 fun p hp => pasOk_iff.2 (by have := hv.ps p hp; omega)) hv.n6 tv pv gv w hr.ps
theorem any_upto {α : Type} {p : Nat → Bool} {n : Nat} (h : ∀ j, j < n → p j = false) : (List.range n).any p = false := by
  cases hg : (List.range n).any p
  · rfl
  · obtain ⟨j, h1, h2⟩ := List.any_eq_true.1 hg
    rw [h j (List.mem_range.1 h1)] at h2; cases h2
theorem any_at {p : Nat → Bool} {n j : Nat} (hj : j < n) (h : p j = true) : (List.range n).any p = true := List.any_eq_true.2 ⟨j, List.mem_range.2 hj, h⟩
set_option maxHeartbeats 2000000 in
theorem has_c (s : Smp) (hf : Few s) (hv : VSm s) (tv pv gv : Value) (w : World) (hr : RdSm w s tv pv gv) : CnV Tryz.prog 39 #[smV s tv pv gv] w (.bool (hasF s)) := by
  have hr0 := hr
  have hb1 := hv.b1
  have hb3 := hv.b3
  have hmb := manyS_v hv
  refine cnv (vs := [_]) Tryz.func39 rfl rfl ?_
  all_goals refine tc_seq fun K1 hK1 => ?_; refine tc_region ?_; refine tl_e (e_box rfl rfl rfl) rfl (fun b1 _ => ?_); refine tl_q (y_assign rfl) rfl ?_; refine tl_nil ?_; ((refine hK1 ?_; try (clear hK1; clear K1)))
  all_goals refine tc_seq fun K2 hK2 => ?_; refine tc_seq fun K3 hK3 => ?_; refine tc_region ?_; refine tl_q (y_assign rfl) rfl ?_; refine tl_nil ?_; ((refine hK3 ?_; try (clear hK3; clear K3)))
  all_goals refine tc_block ?_
  all_goals (
   refine tc_loop (fun k : Nat => (k : Int) ≤ s.B ∧ ∀ j, j < k → hasB s (j : Nat) = true) (fun k => [(1, ptr b1), (3, vi k)]) (fun _ => [(w, [])]) (fun _ => [(b1, .cells #[vi s.B, vi s.P, vi s.L, vi s.F, tv, pv, gv] 26 (0, 0))]) (fun k => s.B.toNat - k) ?_ ?_
   · exact tk_start 0 ⟨by omega, fun j hj => absurd hj (Nat.not_lt_zero j)⟩ (.cons rfl (.cons rfl .nil)) (fun _ h => h.subl (SB.s (by repeat constructor)) (SB.s (by repeat constructor)))
   · rintro k ⟨hk, hj⟩
     all_goals refine tc_seq fun K4 hK4 => ?_; refine tc_seq fun K5 hK5 => ?_; refine tc_region ?_; refine tl_q (y_move rfl) rfl ?_; refine tl_q (y_field rfl) rfl ?_; refine tl_q (y_load1 rfl (by repeat constructor) (by rfl)) rfl ?_; refine tl_q (y_lss rfl rfl) rfl ?_; refine tl_nil ?_; ((refine hK5 ?_; try (clear hK5; clear K5)))
     all_goals (
      refine tc_cond rfl (fun hc => ?_) (fun hc => ?_)
      · try simp only [decide_eq_true_eq, decide_eq_false_iff_not, Int.not_lt, Int.not_le, Bool.not_eq_true', Bool.not_eq_false', Decidable.not_not, not_true_eq_false] at hc
        all_goals refine tc_skip ?_; ((refine hK4 ?_; try (clear hK4; clear K4)))
        all_goals refine tc_seq fun K6 hK6 => ?_; refine tc_block ?_; refine tc_seq fun K7 hK7 => ?_; refine tc_region ?_; refine tl_q (y_assign rfl) rfl ?_; refine tl_nil ?_; ((refine hK7 ?_; try (clear hK7; clear K7)))
        all_goals refine tc_seq fun K8 hK8 => ?_; refine tc_seq fun K9 hK9 => ?_; refine tc_region ?_; refine tl_q (y_assign rfl) rfl ?_; refine tl_nil ?_; ((refine hK9 ?_; try (clear hK9; clear K9)))
        all_goals refine tc_block ?_
        all_goals (
         refine tc_loop (fun p : Nat × Bool => (p.1 : Int) ≤ manyS s.ps ∧ (p.2 = true → hasB s (k : Nat) = true) ∧ (p.2 = false → ∀ j, j < p.1 → hasN s (k : Nat) j = false)) (fun p => [(1, ptr b1), (3, vi k), (4, .bool p.2), (5, vi p.1)]) (fun _ => [(w, [])]) (fun _ => [(b1, .cells #[vi s.B, vi s.P, vi s.L, vi s.F, tv, pv, gv] 26 (0, 0))]) (fun p => (manyS s.ps).toNat - p.1) ?_ ?_
         · exact tk_start (0, false) ⟨by dsimp only; omega, (fun g => by cases g), fun _ j hj => absurd hj (Nat.not_lt_zero j)⟩ (.cons rfl (.cons rfl (.cons rfl (.cons rfl .nil)))) (fun _ h => h.subl (SB.s (by repeat constructor)) (SB.s (by repeat constructor)))
         · rintro ⟨n, fo⟩ ⟨hn, hyes, hno⟩
           dsimp only at hn hyes hno ⊢
           all_goals refine tc_seq fun K10 hK10 => ?_; refine tc_seq fun K11 hK11 => ?_; refine tc_region ?_; refine tl_q (y_move rfl) rfl ?_; refine tl_q (y_loadW rfl (by repeat constructor) (by rfl)) rfl ?_; refine tl_e (e_callV rfl (.cons rfl .nil) (fun w' hw' => rMany_v s hv _ _ _ w' (hr0.fr (hw'.fr (w0 := w) (S := []) (MI.m (by repeat constructor)))))) rfl (fun _ _ => ?_); refine tl_q (y_lss rfl rfl) rfl ?_; refine tl_q (y_move rfl) rfl ?_; ((refine tl_gs rfl rfl (fun hc => ?_) (fun hc => ?_) <;> (try simp only [decide_eq_true_eq, decide_eq_false_iff_not, Int.not_lt, Int.not_le, Bool.not_eq_true', Bool.not_eq_false', Decidable.not_not, not_true_eq_false] at hc) <;> (first | refine tl_sk rfl rfl rfl rfl ?_ | refine tl_qg rfl rfl (y_move rfl) rfl ?_)))
           all_goals (first | refine tl_sk rfl rfl rfl rfl ?_ | refine tl_qg rfl rfl (y_not rfl) rfl ?_); (first | refine tl_q (y_pick_t rfl rfl) rfl ?_ | refine tl_q (y_pick_f rfl rfl) rfl ?_); refine tl_nil ?_; ((refine hK11 ?_; try (clear hK11; clear K11)))
           all_goals (
            refine tc_cond rfl (fun hc => ?_) (fun hc => ?_)
            · try simp only [decide_eq_true_eq, decide_eq_false_iff_not, Int.not_lt, Int.not_le, Bool.not_eq_true', Bool.not_eq_false', Decidable.not_not, not_true_eq_false] at hc
              all_goals ((first | (exfalso; with_reducible exact bft hc) | skip))
              all_goals refine tc_skip ?_; ((refine hK10 ?_; try (clear hK10; clear K10)))
              all_goals refine tc_seq fun K12 hK12 => ?_; refine tc_block ?_; refine tc_seq fun K13 hK13 => ?_; ((have hfo := hc; rcases hhf : heldF s (k : Nat) (nthL s n) with _ | c))
              all_goals refine tc_draw (by kernel_rfl) ?_; refine tx_q 0 rfl (by kernel_rfl) (y_loadW rfl (by repeat constructor) (by rfl)) rfl (fun _ _ _ h => h) (fun _ h => h) ?_; refine tx_p 1 rfl (by kernel_rfl) (y_move rfl) rfl (fun _ _ _ h => h) (fun _ h => h) ?_; refine tx_q 2 rfl (by kernel_rfl) (y_loadW rfl (by repeat constructor) (by rfl)) rfl (fun _ _ _ h => h) (fun _ h => h) ?_; refine tx_p 3 rfl (by kernel_rfl) (y_move rfl) rfl (fun _ _ _ h => h) (fun _ h => h) ?_; refine tx_e 4 rfl (by kernel_rfl) rfl (e_callX rfl (.cons rfl (.cons rfl .nil)) (fun w' hw' => nth_c s hv n (by omega) _ _ _ w' (hr0.fr (hw'.fr (w0 := w) (S := []) (MI.m (by repeat constructor)))))) (.inr fun _ _ h => h.sub (fun _ h => List.mem_cons_of_mem _ h) (List.Sublist.refl _)) (fun y hy => ?_); (first | refine tx_e 5 rfl (by kernel_rfl) rfl (e_callX rfl (.cons rfl (.cons rfl (.cons rfl .nil))) (fun w' hw' => held_no hhf hv (nthS_len _ _ _) _ _ _ _ w' (hr0.fr (hw'.fr (w0 := w) (S := []) (MI.m (by repeat constructor)))) (hy.1.fr (hw'.calm hy.2 (MI.m (by repeat constructor)) (SB.s (by repeat constructor)))))) (.inr fun _ _ h => h.sub (fun _ h => List.mem_cons_of_mem _ h) (List.Sublist.refl _)) (fun z hz => ?_) | refine tx_e 5 rfl (by kernel_rfl) rfl (e_callX rfl (.cons rfl (.cons rfl (.cons rfl .nil))) (fun w' hw' => held_yes hhf hv (nthS_len _ _ _) _ _ _ _ w' (hr0.fr (hw'.fr (w0 := w) (S := []) (MI.m (by repeat constructor)))) (hy.1.fr (hw'.calm hy.2 (MI.m (by repeat constructor)) (SB.s (by repeat constructor)))))) (.inr fun _ _ h => h.sub (fun _ h => List.mem_cons_of_mem _ h) (List.Sublist.refl _)) (fun z hz => ?_)); refine tx_p 6 rfl (by kernel_rfl) (y_move rfl) rfl (fun _ _ _ h => h) (fun _ h => h) ?_; refine tx_p 7 rfl (by kernel_rfl) (y_extract rfl rfl) rfl (fun _ _ _ h => h) (fun _ h => h) ?_; refine tx_p 8 rfl (by kernel_rfl) (y_extract rfl rfl) rfl (fun _ _ _ h => h) (fun _ h => h) ?_; refine tx_p 9 rfl (by kernel_rfl) (y_assign rfl) rfl (fun _ _ _ h => h) (fun _ h => h) ?_; refine tx_p 10 rfl (by kernel_rfl) (y_assign rfl) rfl (fun _ _ _ h => h) (fun _ h => h) ?_; refine tx_done (by kernel_rfl) ?_; ((refine hK13 ?_; try (clear hK13; clear K13)))
              all_goals refine tc_region ?_; refine tl_q (y_move rfl) rfl ?_; refine tl_q (y_move rfl) rfl ?_; (first | refine tl_sk rfl rfl rfl rfl ?_ | refine tl_qg rfl rfl (y_loadW rfl (by repeat constructor) (by rfl)) rfl ?_); (first | refine tl_sk rfl rfl rfl rfl ?_ | refine tl_qg rfl rfl (y_move rfl) rfl ?_); (first | refine tl_sk rfl rfl rfl rfl ?_ | refine tl_qg rfl rfl (y_move rfl) rfl ?_); (first | refine tl_sk rfl rfl rfl rfl ?_ | refine tl_eg rfl rfl rfl (e_callV rfl (.cons rfl (.cons rfl (.cons rfl .nil))) (fun w' hw' => passes_c s hf hv k c (heldF_ok hv hhf).1 (heldF_ok hv hhf).2 _ _ _ _ w' (hr0.fr (hw'.fr (w0 := w) (S := []) (MI.m (by repeat constructor)))) (hz.1.fr (hw'.calm hz.2 (MI.m (by repeat constructor)) (SB.s (by repeat constructor)))))) (fun _ _ => ?_)); (first | refine tl_q (y_pick_t rfl rfl) rfl ?_ | refine tl_q (y_pick_f rfl rfl) rfl ?_); refine tl_q (y_assign rfl) rfl ?_; refine tl_nil ?_; ((refine hK12 ?_; try (clear hK12; clear K12)))
              all_goals refine tc_region ?_; refine tl_q (y_move rfl) rfl ?_; refine tl_q (y_add rfl rfl (by omega)) rfl ?_; refine tl_q (y_assign rfl) rfl ?_; refine tl_nil ?_
              all_goals (
               first
               | (have hN : hasN s (k : Nat) n = false := by unfold hasN; rw [hhf]
                  exact tk_round (n + 1, false) ⟨by dsimp only; omega, (fun g => by cases g), fun _ j hj => by rcases Nat.lt_succ_iff_lt_or_eq.1 hj with h | rfl; exact hno hfo j h; exact hN⟩ (by dsimp only; omega) (.cons rfl (.cons rfl (.cons rfl (.cons rfl .nil)))) (fun _ h => h.subl (SB.s (by repeat constructor)) (SB.s (by repeat constructor))))
               | (have hN : hasN s (k : Nat) n = passF s k c := by unfold hasN; rw [hhf]
                  exact tk_round (n + 1, passF s k c) ⟨by dsimp only; omega, fun g => any_at (j := n) (by omega) (hN.trans g), fun g j hj => by rcases Nat.lt_succ_iff_lt_or_eq.1 hj with h | rfl; exact hno hfo j h; exact hN.trans g⟩ (by dsimp only; omega) (.cons rfl (.cons rfl (.cons rfl (.cons rfl .nil)))) (fun _ h => h.subl (SB.s (by repeat constructor)) (SB.s (by repeat constructor)))))
            · try simp only [decide_eq_true_eq, decide_eq_false_iff_not, Int.not_lt, Int.not_le, Bool.not_eq_true', Bool.not_eq_false', Decidable.not_not, not_true_eq_false] at hc
              all_goals refine tc_exit ?_; ((refine hK8 ?_; try (clear hK8; clear K8)))
              all_goals refine tc_seq fun K14 hK14 => ?_; refine tc_region ?_; refine tl_q (y_move rfl) rfl ?_; refine tl_q (y_not rfl) rfl ?_; refine tl_nil ?_; ((refine hK14 ?_; try (clear hK14; clear K14)))
              all_goals (
               refine tc_cond rfl (fun hc => ?_) (fun hc => ?_)
               · try simp only [decide_eq_true_eq, decide_eq_false_iff_not, Int.not_lt, Int.not_le, Bool.not_eq_true', Bool.not_eq_false', Decidable.not_not, not_true_eq_false] at hc
                 all_goals refine tc_seq fun K15 hK15 => ?_; refine tc_region ?_; refine tl_q (y_assign rfl) rfl ?_; refine tl_nil ?_; ((refine hK15 ?_; try (clear hK15; clear K15)))
                 all_goals refine tc_ret ?_; (repeat (first | refine tk_then_ret ?_ | refine tk_block_ret ?_))
                 all_goals (refine tk_ret rfl rfl (.cons (.tmp rfl) .nil) ?_)
                 all_goals (
                  first
                  | (have h1 : fo = true := by assumption
                     have h2 : fo = false := by assumption
                     rw [h1] at h2; cases h2)
                  | (have hE : hasF s = false := by
                       have hB : hasB s (k : Nat) = false := any_upto (α := Nat) fun j hj => hno (by assumption) j (by omega)
                       cases hg : hasF s
                       · rfl
                       · have := List.all_eq_true.1 hg k (List.mem_range.2 (by omega))
                         rw [hB] at this; cases this
                     rw [hE]
                     exact fun w' hw' => ⟨rfl, hw'.fr (w0 := w) (S := []) (MI.m (by repeat constructor))⟩)
                  | (have hE : hasF s = true := List.all_eq_true.2 fun j hjm => hj j (by rw [List.mem_range] at hjm; omega)
                     rw [hE]
                     exact fun w' hw' => ⟨rfl, hw'.fr (w0 := w) (S := []) (MI.m (by repeat constructor))⟩))
               · try simp only [decide_eq_true_eq, decide_eq_false_iff_not, Int.not_lt, Int.not_le, Bool.not_eq_true', Bool.not_eq_false', Decidable.not_not, not_true_eq_false] at hc
                 all_goals refine tc_skip ?_; ((refine hK6 ?_; try (clear hK6; clear K6)))
                 all_goals refine tc_region ?_; refine tl_q (y_move rfl) rfl ?_; refine tl_q (y_add rfl rfl (by omega)) rfl ?_; refine tl_q (y_assign rfl) rfl ?_; refine tl_nil ?_
                 all_goals (
                  exact tk_round (k + 1) ⟨by omega, fun j hj' => by rcases Nat.lt_succ_iff_lt_or_eq.1 hj' with h | rfl; exact hj j h; exact hyes (by assumption)⟩ (by omega) (.cons rfl (.cons rfl .nil)) (fun _ h => h.subl (SB.s (by repeat constructor)) (SB.s (by repeat constructor)))))))
      · try simp only [decide_eq_true_eq, decide_eq_false_iff_not, Int.not_lt, Int.not_le, Bool.not_eq_true', Bool.not_eq_false', Decidable.not_not, not_true_eq_false] at hc
        all_goals refine tc_exit ?_; ((refine hK2 ?_; try (clear hK2; clear K2)))
        all_goals refine tc_seq fun K16 hK16 => ?_; refine tc_region ?_; refine tl_q (y_assign rfl) rfl ?_; refine tl_nil ?_; ((refine hK16 ?_; try (clear hK16; clear K16)))
        all_goals refine tc_ret ?_; (repeat (first | refine tk_then_ret ?_))
        all_goals (refine tk_ret rfl rfl (.cons (.tmp rfl) .nil) ?_)
        all_goals (
         first
         | (have h1 : fo = true := by assumption
            have h2 : fo = false := by assumption
            rw [h1] at h2; cases h2)
         | (have hE : hasF s = false := by
              have hB : hasB s (k : Nat) = false := any_upto (α := Nat) fun j hj => hno (by assumption) j (by omega)
              cases hg : hasF s
              · rfl
              · have := List.all_eq_true.1 hg k (List.mem_range.2 (by omega))
                rw [hB] at this; cases this
            rw [hE]
            exact fun w' hw' => ⟨rfl, hw'.fr (w0 := w) (S := []) (MI.m (by repeat constructor))⟩)
         | (have hE : hasF s = true := List.all_eq_true.2 fun j hjm => hj j (by rw [List.mem_range] at hjm; omega)
            rw [hE]
            exact fun w' hw' => ⟨rfl, hw'.fr (w0 := w) (S := []) (MI.m (by repeat constructor))⟩))))
end Go.Sp
/-
  A sample has a truth after the reference if it has one after the package.
-/
namespace Go.Sp
open Go Go.Proofs
theorem mem_stepL {s : Smp} {b h : Int} {st x : Bool} {y : Bool × Int} : y ∈ stepL s b h st x ↔ ∃ n : Nat, n < 4 ∧ (actIs x st n = true ∧ seenB s b h (actY x n) = true) ∧ y = (actY x n, if x = true ∨ opF n = true then 1 else 0) := by
  show y ∈ stepN s b h st x 4 ↔ _
  unfold stepN
  rw [List.mem_flatMap]
  constructor
  · rintro ⟨n, hn, hy⟩
    unfold stp1 at hy
    split at hy
    · rename_i hc
      exact ⟨n, List.mem_range.1 hn, hc, List.mem_singleton.1 hy⟩
    · cases hy
  · rintro ⟨n, hn, hc, rfl⟩
    exact ⟨n, List.mem_range.2 hn, by unfold stp1; rw [if_pos hc]; exact List.mem_singleton.2 rfl⟩
theorem minP_any {l : List (Bool × Int)} {r : Bool → Option Int} : ∀ {n : Nat}, n ≤ l.length → (minP l r n).isSome = true → ∃ i, i < n ∧ (r (l.getD i (false, 0)).1).isSome = true
  | 0, _, h => by cases h
  | n + 1, hn, h => by
    rw [minP] at h
    split at h
    · obtain ⟨i, h1, h2⟩ := minP_any (by omega) h
      exact ⟨i, by omega, h2⟩
    · rename_i m hm
      exact ⟨n, by omega, by rw [hm]; rfl⟩
theorem rst_some {s : Smp} {b : Int} {c : List Int} {k : Nat} {x : Bool} : (rstF s b c (k + 1) x).isSome = true ↔ ∃ y ∈ stepL s b (s.L - k) (stB s c (s.L - k)) x, (rstF s b c k y.1).isSome = true := by
  rw [rstF]
  constructor
  · intro h
    obtain ⟨i, hi, hs⟩ := minP_any (Nat.le_refl _) h
    exact ⟨_, getD_memG hi, hs⟩
  · rintro ⟨y, hy, hs⟩
    obtain ⟨i, hi, rfl⟩ := List.getElem_of_mem hy
    refine minP_some (Nat.le_refl _) (i := i) hi ?_
    rw [List.getD_eq_getElem?_getD, List.getElem?_eq_getElem hi]; exact hs
theorem getD_set2 {l : List Bool} (hl : l.length = 2) (x y : Bool) : (l.set x.toNat true).getD y.toNat false = (l.getD y.toNat false || decide (x = y)) := by
  match l, hl with
  | [a, b], _ => cases x <;> cases y <;> simp
theorem pAct_get {s : Smp} {b : Int} {h : Nat} {c : List Int} {k : Bool} {acc : List Bool} (ha : acc.length = 2) (y : Bool) : ∀ n, (pAct s b h c k acc n).getD y.toNat false = true ↔ acc.getD y.toNat false = true ∨ ∃ m, m < n ∧ (actIs k (stB s c h) m = true ∧ seenB s b h (actY k m) = true) ∧ actY k m = y
  | 0 => by
    rw [pAct]
    exact ⟨fun h => .inl h, fun h => h.resolve_right (fun ⟨m, hm, _⟩ => absurd hm (Nat.not_lt_zero m))⟩
  | n + 1 => by
    have ih := pAct_get (s := s) (b := b) (h := h) (c := c) (k := k) ha y n
    rw [pAct, pUp]
    split
    · rename_i hc
      rw [getD_set2 (by rw [pAct_len, ha]), Bool.or_eq_true, ih, decide_eq_true_eq]
      constructor
      · rintro ((h1 | ⟨m, h1, h2⟩) | h1)
        · exact .inl h1
        · exact .inr ⟨m, by omega, h2⟩
        · exact .inr ⟨n, by omega, hc, h1⟩
      · rintro (h1 | ⟨m, h1, h2, h3⟩)
        · exact .inl (.inl h1)
        · by_cases hm : m = n
          · subst hm; exact .inr h3
          · exact .inl (.inr ⟨m, by omega, h2, h3⟩)
    · rename_i hc
      rw [ih]
      constructor
      · rintro (h1 | ⟨m, h1, h2⟩)
        · exact .inl h1
        · exact .inr ⟨m, by omega, h2⟩
      · rintro (h1 | ⟨m, h1, h2, h3⟩)
        · exact .inl h1
        · by_cases hm : m = n
          · subst hm; exact absurd h2 hc
          · exact .inr ⟨m, by omega, h2, h3⟩
theorem pBoth_get {s : Smp} {b : Int} {h : Nat} {c : List Int} {now : List Bool} (y : Bool) : ∀ k, (pBoth s b h c now k).getD y.toNat false = true ↔ ∃ i, i < k ∧ now.getD i false = true ∧ ∃ m, m < 4 ∧ (actIs (blF i) (stB s c h) m = true ∧ seenB s b h (actY (blF i) m) = true) ∧ actY (blF i) m = y
  | 0 => by
    rw [pBoth]
    constructor
    · intro h; cases y <;> cases h
    · rintro ⟨i, hi, _⟩; exact absurd hi (Nat.not_lt_zero i)
  | k + 1 => by
    have ih := pBoth_get (s := s) (b := b) (h := h) (c := c) (now := now) y k
    rw [pBoth]
    split
    · rename_i hc
      rw [pAct_get (pBoth_len s b h c now k), ih]
      constructor
      · rintro (⟨i, h1, h2⟩ | h1)
        · exact ⟨i, by omega, h2⟩
        · exact ⟨k, by omega, hc, h1⟩
      · rintro ⟨i, h1, h2, h3⟩
        by_cases hi : i = k
        · subst hi; exact .inr h3
        · exact .inl ⟨i, by omega, h2, h3⟩
    · rename_i hc
      rw [ih]
      constructor
      · rintro ⟨i, h1, h2⟩; exact ⟨i, by omega, h2⟩
      · rintro ⟨i, h1, h2, h3⟩
        by_cases hi : i = k
        · subst hi; exact absurd h2 hc
        · exact ⟨i, by omega, h2, h3⟩
abbrev fwP (s : Smp) (b : Int) (c : List Int) (h : Nat) (x : Bool) : Prop := (pNow s b c h).getD x.toNat false = true
theorem fwP_succ {s : Smp} {b : Int} {c : List Int} {h : Nat} {y : Bool} : fwP s b c (h + 1) y ↔ ∃ x, fwP s b c h x ∧ ∃ z ∈ stepL s b h (stB s c h) x, z.1 = y := by
  unfold fwP
  rw [pNow, pBoth_get]
  constructor
  · rintro ⟨i, hi, h1, m, hm, h2, h3⟩
    have e : (blF i).toNat = i := by
      match i, hi with
      | 0, _ => rfl
      | 1, _ => rfl
    exact ⟨blF i, by rw [e]; exact h1, _, mem_stepL.2 ⟨m, hm, h2, rfl⟩, h3⟩
  · rintro ⟨x, h1, z, hz, rfl⟩
    obtain ⟨m, hm, h2, rfl⟩ := mem_stepL.1 hz
    have e : blF x.toNat = x := by cases x <;> rfl
    refine ⟨x.toNat, by cases x <;> decide, h1, m, hm, ?_⟩
    rw [e]
    exact ⟨h2, rfl⟩
theorem fw_can {s : Smp} (hl : 0 ≤ s.L) {b : Int} {c c' : List Int} (hst : ∀ h : Nat, (h : Int) ≤ s.L → stB s c h = stB s c' h) : ∀ h : Nat, (h : Int) ≤ s.L + 1 → ((∃ x, fwP s b c h x ∧ (rstF s b c' (s.L + 1 - h).toNat x).isSome = true) ↔ canF s b c' = true)
  | 0, _ => by
    unfold canF
    rw [show (s.L + 1 - ((0 : Nat) : Int)).toNat = (s.L + 1).toNat from by omega]
    constructor
    · rintro ⟨x, h1, h2⟩
      cases x with
      | false => exact h2
      | true => cases h1
    · intro h; exact ⟨false, rfl, h⟩
  | h + 1, hh => by
    rw [← fw_can hl hst h (by omega)]
    have e : (s.L + 1 - (h : Int)).toNat = (s.L + 1 - ((h + 1 : Nat) : Int)).toNat + 1 := by omega
    have e2 : s.L - (((s.L + 1 - ((h + 1 : Nat) : Int)).toNat : Nat) : Int) = (h : Int) := by omega
    rw [e]
    constructor
    · rintro ⟨y, h1, h2⟩
      obtain ⟨x, h3, z, hz, rfl⟩ := fwP_succ.1 h1
      exact ⟨x, h3, rst_some.2 ⟨z, by rw [e2, ← hst h (by omega)]; exact hz, h2⟩⟩
    · rintro ⟨x, h1, h2⟩
      obtain ⟨z, hz, h3⟩ := rst_some.1 h2
      rw [e2, ← hst h (by omega)] at hz
      exact ⟨z.1, fwP_succ.2 ⟨x, h1, z, hz, rfl⟩, h3⟩
theorem pass_can {s : Smp} (hl : 0 ≤ s.L) {b : Int} {c c' : List Int} (hst : ∀ h : Nat, (h : Int) ≤ s.L → stB s c h = stB s c' h) : passF s b c = canF s b c' := by
  rw [Bool.eq_iff_iff, ← fw_can hl hst (s.L + 1).toNat (by omega)]
  unfold passF fwP
  rw [show (s.L + 1 - (((s.L + 1).toNat : Nat) : Int)).toNat = 0 from by omega, Bool.or_eq_true]
  constructor
  · rintro (h | h)
    · exact ⟨false, h, rfl⟩
    · exact ⟨true, h, rfl⟩
  · rintro ⟨x, h, _⟩
    cases x
    · exact .inl h
    · exact .inr h
theorem stB_pad {s : Smp} {c : List Int} {h : Nat} (hh : h < c.length) : stB s c h = stB s (padC c) h := by
  unfold stB padC
  rw [Int.toNat_natCast, List.getD_eq_getElem?_getD (l := c ++ _), List.getElem?_append_left hh, ← List.getD_eq_getElem?_getD]
def nthC : List Pas → Int → List Int
  | [], _ => []
  | p :: ps, n => (p.lo + n % (p.hi - p.lo + 1)) :: nthC ps (n / (p.hi - p.lo + 1))
theorem nthS_C (ps : List Pas) (n : Int) : ∀ i, i ≤ ps.length → (nthS ps n i).1 ++ nthC (ps.drop i) (nthS ps n i).2 = nthC ps n
  | 0, _ => rfl
  | i + 1, hi => by
    rw [← nthS_C ps n i (by omega), nthS]
    have e : ps.drop i = ps.getD i pas0 :: ps.drop (i + 1) := by
      rw [List.drop_eq_getElem_cons (by omega), List.getD_eq_getElem?_getD, List.getElem?_eq_getElem (by omega)]; rfl
    rw [e, nthC, List.append_assoc]; rfl
theorem nthL_C (s : Smp) (n : Int) : nthL s n = nthC s.ps n := by
  have := nthS_C s.ps n s.ps.length (Nat.le_refl _)
  rw [List.drop_length] at this
  unfold nthL
  rw [← this]; simp [nthC]
/-- Hours that are within the passes' ranges. -/
def InR : List Pas → List Int → Prop
  | [], hs => hs = []
  | p :: ps, hs => ∃ h t, hs = h :: t ∧ (p.lo ≤ h ∧ h ≤ p.hi) ∧ InR ps t
theorem nthC_in : ∀ {ps : List Pas} (n : Int), (∀ p ∈ ps, p.lo ≤ p.hi) → InR ps (nthC ps n)
  | [], _, _ => rfl
  | p :: ps, n, hp => by
    have h1 := hp p (List.mem_cons_self ..)
    have h2 := Int.emod_nonneg n (show p.hi - p.lo + 1 ≠ 0 by omega)
    have h3 := Int.emod_lt_of_pos n (show 0 < p.hi - p.lo + 1 by omega)
    exact ⟨_, _, rfl, by omega, nthC_in _ fun q hq => hp q (List.mem_cons_of_mem _ hq)⟩
theorem nthC_all : ∀ {ps : List Pas} {hs : List Int}, (∀ p ∈ ps, p.lo ≤ p.hi) → InR ps hs → ∃ n : Int, (0 ≤ n ∧ n < manyS ps) ∧ nthC ps n = hs
  | [], hs, _, h => by
    obtain rfl : hs = [] := h
    exact ⟨0, by unfold manyS; omega, rfl⟩
  | p :: ps, hs, hp, h => by
    obtain ⟨a, t, rfl, ha, ht⟩ := h
    obtain ⟨n, hn, he⟩ := nthC_all (fun q hq => hp q (List.mem_cons_of_mem _ hq)) ht
    obtain ⟨z, hz⟩ : ∃ z, z = p.hi - p.lo + 1 := ⟨_, rfl⟩
    obtain ⟨d, hd⟩ : ∃ d, d = a - p.lo := ⟨_, rfl⟩
    have hz0 : 0 < z := by omega
    have hdz : 0 ≤ d ∧ d < z := by omega
    refine ⟨d + z * n, ⟨?_, ?_⟩, ?_⟩
    · have := Int.mul_nonneg (show 0 ≤ z by omega) hn.1; omega
    · rw [manyS, ← hz]
      have h1 : z * (n + 1) ≤ z * manyS ps := Int.mul_le_mul_of_nonneg_left (by omega) (by omega)
      rw [Int.mul_add, Int.mul_one] at h1
      omega
    · rw [nthC, ← hz, Int.add_mul_emod_self_left, Int.add_mul_ediv_left _ _ (by omega), Int.emod_eq_of_lt hdz.1 hdz.2, Int.ediv_eq_zero_of_lt hdz.1 hdz.2, Int.zero_add, he]
      rw [show p.lo + d = a from by omega]
theorem InR.len : ∀ {ps : List Pas} {hs : List Int}, InR ps hs → hs.length = ps.length
  | [], hs, h => by obtain rfl : hs = [] := h; rfl
  | p :: ps, hs, h => by
    obtain ⟨a, t, rfl, _, ht⟩ := h
    simp [InR.len ht]
theorem zOwn_in {b : Int} : ∀ {ps : List Pas} {hs : List Int}, InR ps hs → zOwn b ps hs ∈ zAll b ps
  | [], hs, h => by
    obtain rfl : hs = [] := h
    simp [zAll, genT, zOwn]
  | p :: ps, hs, h => by
    obtain ⟨a, t, rfl, ha, ht⟩ := h
    have ih := zOwn_in (b := b) ht
    by_cases hb : p.b = b
    · rw [zAll_own hb, List.mem_flatMap]
      refine ⟨(a - p.lo).toNat, List.mem_range.2 (by omega), List.mem_map.2 ⟨zOwn b ps t, ih, ?_⟩⟩
      rw [show p.lo + (((a - p.lo).toNat : Nat) : Int) = a from by omega]
      simp [zOwn, hb]
    · rw [zAll_oth hb]
      simpa [zOwn, hb] using ih
theorem zAll_ex {b : Int} : ∀ {ps : List Pas} {z : List (Pas × Int)}, (∀ p ∈ ps, p.lo ≤ p.hi) → z ∈ zAll b ps → ∃ hs, InR ps hs ∧ zOwn b ps hs = z
  | [], z, _, h => by
    refine ⟨[], rfl, ?_⟩
    simp [zAll, genT, zOwn] at h
    subst h; rfl
  | p :: ps, z, hp, h => by
    have hp2 : ∀ q ∈ ps, q.lo ≤ q.hi := fun q hq => hp q (List.mem_cons_of_mem _ hq)
    by_cases hb : p.b = b
    · rw [zAll_own hb, List.mem_flatMap] at h
      obtain ⟨j, hj, h⟩ := h
      obtain ⟨z', hz', rfl⟩ := List.mem_map.1 h
      obtain ⟨hs, h1, rfl⟩ := zAll_ex hp2 hz'
      rw [List.mem_range] at hj
      refine ⟨(p.lo + (j : Int)) :: hs, ⟨_, _, rfl, by omega, h1⟩, ?_⟩
      simp [zOwn, hb]
    · rw [zAll_oth hb] at h
      obtain ⟨hs, h1, rfl⟩ := zAll_ex hp2 h
      refine ⟨p.lo :: hs, ⟨_, _, rfl, ⟨Int.le_refl _, hp p (List.mem_cons_self ..)⟩, h1⟩, ?_⟩
      simp [zOwn, hb]
/-- The hours of all passes that are possible, and who has the bottle. -/
theorem poss_iff {s : Smp} (hp : ∀ p ∈ s.ps, p.lo ≤ p.hi) {b : Int} : possF s b = true ↔ ∃ hs q, InR s.ps hs ∧ chN s b hs (s.L + 1).toNat = some q ∧ canF s b (padC q.1) = true := by
  have hz : ∀ c, c ∈ chainsL s b ↔ ∃ z ∈ zAll b s.ps, zchF s.L s.F b z = some c := fun c => by
    show c ∈ ddC s b (timesL s b) ↔ _
    rw [ddC_mem]
    unfold zAll timesL
    constructor
    · rintro ⟨ts, h1, h2⟩
      refine ⟨_, List.mem_map.2 ⟨ts, h1, rfl⟩, ?_⟩
      rw [← chF_z (genT_len b s.ps [] ts h1 |>.trans (by simp))]; exact h2
    · rintro ⟨z, h1, h2⟩
      obtain ⟨ts, h3, rfl⟩ := List.mem_map.1 h1
      exact ⟨ts, h3, by rw [chF_z (genT_len b s.ps [] ts h3 |>.trans (by simp))]; exact h2⟩
  unfold possF
  rw [List.any_eq_true]
  constructor
  · rintro ⟨c, h1, h2⟩
    obtain ⟨z, h3, h4⟩ := (hz c).1 h1
    obtain ⟨hs, h5, rfl⟩ := zAll_ex hp h3
    unfold zchF at h4
    rw [← chN_z s b hs h5.len] at h4
    obtain ⟨q, h6, rfl⟩ := Option.map_eq_some_iff.1 h4
    exact ⟨hs, q, h5, h6, h2⟩
  · rintro ⟨hs, q, h1, h2, h3⟩
    refine ⟨padC q.1, (hz _).2 ⟨zOwn b s.ps hs, zOwn_in h1, ?_⟩, h3⟩
    unfold zchF
    rw [← chN_z s b hs h1.len, h2]; rfl
theorem VSm.ple {s : Smp} (hv : VSm s) : ∀ p ∈ s.ps, p.lo ≤ p.hi := fun p hp => (hv.ps p hp).2.2.2.2.2.1
theorem hasB_poss {s : Smp} (hv : VSm s) (b : Int) : hasB s b = possF s b := by
  rw [Bool.eq_iff_iff, poss_iff hv.ple]
  have hl0 := hv.l0
  have hcan : ∀ (hs : List Int) q, chN s b hs (s.L + 1).toNat = some q → passF s b q.1 = canF s b (padC q.1) := fun hs q hq =>
    pass_can hl0 fun h hh => stB_pad (by have := chN_len hq; omega)
  unfold hasB
  rw [List.any_eq_true]
  constructor
  · rintro ⟨n, hn, h1⟩
    unfold hasN heldF at h1
    cases hc : chN s b (nthL s n) (s.L + 1).toNat with
    | none => rw [hc] at h1; cases h1
    | some q =>
      rw [hc] at h1
      refine ⟨nthL s n, q, by rw [nthL_C]; exact nthC_in _ hv.ple, hc, ?_⟩
      rw [← hcan _ q hc]; exact h1
  · rintro ⟨hs, q, h1, h2, h3⟩
    obtain ⟨n, hn, rfl⟩ := nthC_all hv.ple h1
    refine ⟨n.toNat, List.mem_range.2 (by omega), ?_⟩
    unfold hasN heldF
    rw [nthL_C, show ((n.toNat : Nat) : Int) = n from by omega, h2]
    show passF s b q.1 = true
    rw [hcan _ q h2]; exact h3
theorem hasF_cons {s : Smp} (hv : VSm s) : hasF s = consF s := by
  unfold hasF consF
  exact congrArg (fun f => (List.range s.B.toNat).all f) (funext fun b => hasB_poss hv b)
theorem hasC_c (s : Smp) (hf : Few s) (hv : VSm s) (tv pv gv : Value) (w : World) (hr : RdSm w s tv pv gv) : CnV Tryz.prog 39 #[smV s tv pv gv] w (.bool (consF s)) := by
  rw [← hasF_cons hv]; exact has_c s hf hv tv pv gv w hr
end Go.Sp
/-
  Runs: what can be done with a bottle, from hour to hour; what ask returns, in terms of them.
-/
namespace Go.Sp
open Go Go.Proofs
/-- What is done in the last k hours, from a seal on. -/
def RunF (s : Smp) (b : Int) (c : List Int) : Nat → Bool → List (Bool × Int) → Prop
  | 0, _, l => l = []
  | k + 1, x, l => ∃ z t, l = z :: t ∧ z ∈ stepL s b (s.L - k) (stB s c (s.L - k)) x ∧ RunF s b c k z.1 t
/-- What is done in the first hours. -/
def PreF (s : Smp) (b : Int) (c : List Int) : Nat → List (Bool × Int) → Bool → Prop
  | 0, l, x => l = [] ∧ x = false
  | h + 1, l, x => ∃ l' z y, l = l' ++ [z] ∧ PreF s b c h l' y ∧ z ∈ stepL s b h (stB s c h) y ∧ z.1 = x
theorem PreF.len {s : Smp} {b : Int} {c : List Int} : ∀ {h : Nat} {l : List (Bool × Int)} {x : Bool}, PreF s b c h l x → l.length = h
  | 0, _, _, ⟨rfl, _⟩ => rfl
  | h + 1, _, _, ⟨l', z, y, rfl, h1, _, _⟩ => by simp [PreF.len h1]
theorem RunF.split {s : Smp} {b : Int} {c : List Int} {l : List (Bool × Int)} (hl : RunF s b c (s.L + 1).toNat false l) : ∀ h : Nat, (h : Int) ≤ s.L + 1 → ∃ l1 t x, l = l1 ++ t ∧ PreF s b c h l1 x ∧ RunF s b c (s.L + 1 - h).toNat x t
  | 0, _ => ⟨[], l, false, rfl, ⟨rfl, rfl⟩, by rw [show (s.L + 1 - ((0 : Nat) : Int)).toNat = (s.L + 1).toNat from by omega]; exact hl⟩
  | h + 1, hh => by
    obtain ⟨l1, t, x, rfl, h1, h2⟩ := RunF.split hl h (by omega)
    rw [show (s.L + 1 - (h : Int)).toNat = (s.L + 1 - ((h + 1 : Nat) : Int)).toNat + 1 from by omega] at h2
    obtain ⟨z, t', rfl, hz, ht⟩ := h2
    rw [show s.L - (((s.L + 1 - ((h + 1 : Nat) : Int)).toNat : Nat) : Int) = (h : Int) from by omega] at hz
    exact ⟨l1 ++ [z], t', z.1, by simp, ⟨l1, z, x, rfl, h1, hz, rfl⟩, ht⟩
theorem RunF.len {s : Smp} {b : Int} {c : List Int} : ∀ {k : Nat} {x : Bool} {l : List (Bool × Int)}, RunF s b c k x l → l.length = k
  | 0, _, _, h => by obtain rfl := h; rfl
  | k + 1, _, _, ⟨z, t, h, _, ht⟩ => by subst h; simp [RunF.len ht]
theorem sure_ok {s : Smp} (hv : VSm s) (hc : consF s = true) : sureE s true = 0 := by
  unfold sureE
  rw [if_neg (fun h => h (chkS_0.2 hv)), if_neg (by decide), if_neg (by rw [hc]; decide)]
theorem opE_ok {s : Smp} (hv : VSm s) (hc : consF s = true) {b : Int} (hb : 0 ≤ b ∧ b < s.B) : opE s b = 0 := by
  unfold opE
  rw [decide_eq_true (by omega)]; exact sure_ok hv hc
theorem hdE_ok {s : Smp} (hv : VSm s) (hc : consF s = true) {b h : Int} (hb : 0 ≤ b ∧ b < s.B) (hh : 0 ≤ h ∧ h ≤ s.L) : hdE s b h = 0 := by
  unfold hdE
  rw [decide_eq_true (by omega)]; exact sure_ok hv hc
end Go.Sp
/-
  The document's examples, computed.
-/
namespace Go.Sp
open Go Go.Proofs
def twoS (m : List Sgt) : Smp := ⟨2, 3, 4, 0, [false, false, true], [⟨0, 0, 1, 1, 2⟩, ⟨0, 1, 2, 3, 3⟩, ⟨1, 0, 1, 2, 2⟩], [⟨0, 2, true⟩, ⟨1, 4, true⟩] ++ m⟩
abbrev badG : Sgt := ⟨0, 2, false⟩
theorem two_few (m : List Sgt) (h : m.length ≤ 1) : Few (twoS m) := ⟨by simp [twoS], by simp [twoS], by simp [twoS]; omega⟩
theorem aw_h : hdE (twoS []) 0 1 = 0 ∧ hdL (twoS []) 0 1 = [0, 1] := by decide +kernel
theorem aw_o : opE (twoS []) 0 = 0 ∧ opL (twoS []) 0 = [2] := by decide +kernel
theorem aw_v : vdE (twoS []) = 0 ∧ vdL (twoS []) = [3, 2] := by decide +kernel
theorem aw_a : alF (twoS []) = 3 := by decide +kernel
theorem aw_l : lsL (twoS []) = [0, 0] := by decide +kernel
theorem aw_f : frsE (twoS [badG]) = (5, 0) := by decide +kernel
theorem aw_x : chkS (twoS [badG]) = 0 ∧ lvN (twoS [badG]) 2 = [3] := by decide +kernel
theorem aw_x2 : levL (twoS [badG]) = [3] := by
  unfold levL lvS
  rw [if_pos aw_x.1, show (twoS [badG]).B.toNat = 2 from rfl, aw_x.2]
  simp
end Go.Sp
/-
  The document's examples, walked: two, awake.
-/
namespace Go.Sp
open Go Go.Proofs
theorem between_c (a b : Int) (w : World) : CnV Tryz.prog 49 #[vi a, vi b] w (.agg #[vi a, vi b]) := by
  refine cnv (vs := [_, _]) Tryz.func49 rfl rfl ?_
  all_goals refine tc_seq fun K1 hK1 => ?_; refine tc_region ?_; refine tl_e (e_allocN rfl) rfl (fun b4 _ => ?_); refine tl_nil ?_; ((refine hK1 ?_; try (clear hK1; clear K1)))
  all_goals refine tc_seq fun K2 hK2 => ?_; refine tc_region ?_; refine tl_q (y_move rfl) rfl ?_; refine tl_q (y_move rfl) rfl ?_; refine tl_q (y_build_g (by repeat constructor)) rfl ?_; refine tl_e (e_storeW rfl rfl (by repeat constructor) (by rfl) (by rfl) (by simp [Value.oneCell'])) rfl (fun _ _ => ?_); refine tl_nil ?_; ((refine hK2 ?_; try (clear hK2; clear K2)))
  all_goals refine tc_ret ?_; (repeat (first | refine tk_then_ret ?_))
  all_goals (refine tk_ret rfl rfl (.cons (.agg inferInstance rfl (by repeat constructor) (by rfl)) .nil) ?_)
  all_goals (
   exact fun w' hw' => ⟨rfl, hw'.fr (by simp)⟩)
set_option maxHeartbeats 1000000 in
theorem two_c (m : List Sgt) (hm : m.length ≤ 1) (mv : Value) (w : World) (hr : RdS 3 sgE w mv m) :
    CnX Tryz.prog 48 #[mv] w [] (fun y : Nat × Nat × Nat × Nat × List Value => smV (twoS m) (.slice (some ⟨y.1, 0, none⟩) 3 3) (.slice (some ⟨y.2.1, 0, none⟩) 3 3) (.slice (some ⟨y.2.2.1, 0, none⟩) (2 + m.length) y.2.2.2.1))
      (fun y w' => RdSm w' (twoS m) (.slice (some ⟨y.1, 0, none⟩) 3 3) (.slice (some ⟨y.2.1, 0, none⟩) 3 3) (.slice (some ⟨y.2.2.1, 0, none⟩) (2 + m.length) y.2.2.2.1)) := by
  refine cnx0 (vs := [_]) Tryz.func48 rfl rfl ?_
  all_goals refine tc_seq fun K1 hK1 => ?_; refine tc_region ?_; refine tl_e (e_allocN rfl) rfl (fun b2 _ => ?_); refine tl_nil ?_; ((refine hK1 ?_; try (clear hK1; clear K1)))
  all_goals refine tc_seq fun K2 hK2 => ?_; refine tc_region ?_; ((refine tl_e (e_bslice rfl (by (repeat (first | exact .nil | apply PV.one rfl rfl)); done) rfl rfl) rfl (fun b3 _ => ?_)))
  all_goals refine tl_e (e_callV rfl (.cons rfl (.cons rfl .nil)) (fun w' _ => between_c _ _ w')) rfl (fun _ _ => ?_); refine tl_q (y_build_g (by repeat constructor)) rfl ?_; refine tl_e (e_callV rfl (.cons rfl (.cons rfl .nil)) (fun w' _ => between_c _ _ w')) rfl (fun _ _ => ?_); refine tl_q (y_build_g (by repeat constructor)) rfl ?_; refine tl_e (e_callV rfl (.cons rfl (.cons rfl .nil)) (fun w' _ => between_c _ _ w')) rfl (fun _ _ => ?_); refine tl_q (y_build_g (by repeat constructor)) rfl ?_; refine tl_e (e_bsliceG rfl (.agg rfl rfl (.agg rfl rfl (.agg rfl rfl .nil))) rfl rfl) rfl (fun b10 _ => ?_); refine tl_q (y_build_g (by repeat constructor)) rfl ?_; refine tl_q (y_build_g (by repeat constructor)) rfl ?_; refine tl_e (e_bsliceG rfl (.agg rfl rfl (.agg rfl rfl .nil)) rfl rfl) rfl (fun b13 _ => ?_); refine tl_q (y_move rfl) rfl ?_; refine tl_e (e_append_own (old := [vi 0, vi 2, .bool true, vi 1, vi 4, .bool true]) (junk := []) rfl rfl rfl (by repeat constructor) rfl rfl (Nat.le_refl 2) (fun w' hw' => hr.fr (hw'.fr (w0 := w) (S := []) (MI.m (by repeat constructor)))) (one_flat sgE_one _) (by omega) rfl) rfl (fun r hq => ?_); refine tl_q (y_build_g (by repeat constructor)) rfl ?_; refine tl_e (e_storeW rfl rfl (by repeat constructor) (by rfl) (by rfl) (by simp [Value.oneCell'])) rfl (fun _ _ => ?_); refine tl_nil ?_; ((refine hK2 ?_; try (clear hK2; clear K2)))
  all_goals refine tc_ret ?_; (repeat (first | refine tk_then_ret ?_))
  all_goals (refine tk_ret rfl rfl (.cons (.agg inferInstance rfl (by repeat constructor) (by rfl)) .nil) ?_)
  all_goals (
   refine fun w' hw' => ⟨(b3, b10, r.1, r.2.1, r.2.2), rfl, hw'.fr (w0 := w) (S := []) (MI.m (by repeat constructor)), ?_, ?_, ?_⟩
   · exact RdS.own (xs := (twoS m).st) (cap := 3) (junk := []) boE_len hw' (b := b3) (by repeat constructor)
   · exact RdS.own (xs := (twoS m).ps) (cap := 3) (junk := []) psE_len hw' (b := b10) (by repeat constructor)
   · have := RdS.own (xs := (twoS m).sg) (cap := r.2.1) (junk := r.2.2) sgE_len hw' (b := r.1) (by repeat constructor)
     rw [show (twoS m).sg.length = 2 + m.length from by simp [twoS]; omega] at this
     exact this)
theorem two0 : Few (twoS []) := two_few [] (by simp)
theorem two1 : Few (twoS [badG]) := two_few [badG] (by simp)
theorem hold_v (tv pv gv : Value) (w : World) (hr : RdSm w (twoS []) tv pv gv) : CnX Tryz.prog 17 #[smV (twoS []) tv pv gv, vi 0, vi 1] w [] (fun y : Option Addr × Nat => .tuple #[slV 2 y, vi 0]) (fun y w' => RdI w' (slV 2 y) [0, 1]) := by
  have h := holders_c (twoS []) two0 0 1 tv pv gv w hr
  rw [aw_h.1, aw_h.2] at h
  exact h.imp id (fun _ => rfl) (fun _ h => h) (fun _ _ _ h => h.toI)
theorem open_v (tv pv gv : Value) (w : World) (hr : RdSm w (twoS []) tv pv gv) : CnX Tryz.prog 19 #[smV (twoS []) tv pv gv, vi 0] w [] (fun y : Option Addr × Nat => .tuple #[slV 1 y, vi 0]) (fun y w' => RdI w' (slV 1 y) [2]) := by
  have h := openers_c (twoS []) two0 0 tv pv gv w hr
  rw [aw_o.1, aw_o.2] at h
  exact h.imp id (fun _ => rfl) (fun _ h => h) (fun _ _ _ h => h.toI)
theorem verd_v (tv pv gv : Value) (w : World) (hr : RdSm w (twoS []) tv pv gv) : CnX Tryz.prog 26 #[smV (twoS []) tv pv gv] w [] (fun y : Option Addr × Nat => .tuple #[slV 2 y, vi 0]) (fun y w' => RdI w' (slV 2 y) [3, 2]) := by
  have h := verdicts_c (twoS []) two0 tv pv gv w hr
  rw [aw_v.1, aw_v.2] at h
  exact h.imp id (fun _ => rfl) (fun _ h => h) (fun _ _ _ h => h.toI)
theorem alik_v (tv pv gv : Value) (w : World) (hr : RdSm w (twoS []) tv pv gv) : CnV Tryz.prog 27 #[smV (twoS []) tv pv gv] w (.tuple #[vi 3, vi 0]) := by
  have h := alike_c (twoS []) two0 tv pv gv w hr
  rw [aw_a, aw_v.1] at h
  exact h
theorem leas_v (tv pv gv : Value) (w : World) (hr : RdSm w (twoS []) tv pv gv) : CnX Tryz.prog 28 #[smV (twoS []) tv pv gv] w [] (fun y : Option Addr × Nat => .tuple #[slV 2 y, vi 0]) (fun y w' => RdI w' (slV 2 y) [0, 0]) := by
  have h := least_c (twoS []) two0 tv pv gv w hr
  rw [aw_v.1, aw_l] at h
  exact h.imp id (fun _ => rfl) (fun _ h => h) (fun _ _ _ h => h.toI)
theorem frst_v (tv pv gv : Value) (w : World) (hr : RdSm w (twoS [badG]) tv pv gv) : CnV Tryz.prog 30 #[smV (twoS [badG]) tv pv gv] w (.tuple #[vi 5, vi 0]) := by
  have h := first_c (twoS [badG]) two1 tv pv gv w hr
  rw [aw_f] at h
  exact h
theorem leav_v (tv pv gv : Value) (w : World) (hr : RdSm w (twoS [badG]) tv pv gv) : CnX Tryz.prog 31 #[smV (twoS [badG]) tv pv gv] w [] (fun y : Option Addr × Nat => .tuple #[slV 1 y, vi 0]) (fun y w' => RdI w' (slV 1 y) [3]) := by
  have h := leaveAll_c (twoS [badG]) two1 tv pv gv w hr
  rw [aw_x.1, aw_x2] at h
  exact h
set_option maxHeartbeats 4000000 in
theorem awake_c (w : World) : CnV Tryz.prog 16 #[] w (.bool true) := by
  refine cnv (vs := []) Tryz.func16 rfl rfl ?_
  all_goals refine tc_seq fun K1 hK1 => ?_; refine tc_region ?_; refine tl_q (y_assign rfl) rfl ?_; refine tl_nil ?_; ((refine hK1 ?_; try (clear hK1; clear K1)))
  all_goals refine tc_seq fun K2 hK2 => ?_; refine tc_lay ([]) (SB.s .nil) (fun wl1 hl1 => ?_); refine tc_region ?_; refine tl_e (e_callX rfl (.cons rfl .nil) (fun w' hw' => two_c [] (by simp) (.slice none 0 0) w' (RdS.nil _ _ _ _))) rfl (fun x1 hx1 => ?_); refine tl_e (e_callX rfl (.cons rfl (.cons rfl (.cons rfl .nil))) (fun w' hw' => hold_v _ _ _ w' (hx1.1.fr (hw'.calm hx1.2 (MI.m (by repeat constructor)) (SB.s (by repeat constructor)))))) rfl (fun y1 hy1 => ?_); refine tl_q (y_move rfl) rfl ?_; refine tl_q (y_extract rfl rfl) rfl ?_; refine tl_q (y_extract rfl rfl) rfl ?_; refine tl_q (y_assign rfl) rfl ?_; refine tl_q (y_assign rfl) rfl ?_; refine tl_nil ?_; ((refine hK2 ?_; try (clear hK2; clear K2)))
  all_goals refine tc_seq fun K3 hK3 => ?_; refine tc_lay ([]) (SB.s .nil) (fun wl2 hl2 => ?_); refine tc_region ?_; refine tl_e (e_callX rfl (.cons rfl .nil) (fun w' hw' => two_c [] (by simp) (.slice none 0 0) w' (RdS.nil _ _ _ _))) rfl (fun x2 hx2 => ?_); refine tl_e (e_callX rfl (.cons rfl (.cons rfl .nil)) (fun w' hw' => open_v _ _ _ w' (hx2.1.fr (hw'.calm hx2.2 (MI.m (by repeat constructor)) (SB.s (by repeat constructor)))))) rfl (fun y2 hy2 => ?_); refine tl_q (y_move rfl) rfl ?_; refine tl_q (y_extract rfl rfl) rfl ?_; refine tl_q (y_extract rfl rfl) rfl ?_; refine tl_q (y_assign rfl) rfl ?_; refine tl_q (y_assign rfl) rfl ?_; refine tl_nil ?_; ((refine hK3 ?_; try (clear hK3; clear K3)))
  all_goals refine tc_seq fun K4 hK4 => ?_; refine tc_lay ([]) (SB.s .nil) (fun wl3 hl3 => ?_); refine tc_region ?_; refine tl_e (e_callX rfl (.cons rfl .nil) (fun w' hw' => two_c [] (by simp) (.slice none 0 0) w' (RdS.nil _ _ _ _))) rfl (fun x3 hx3 => ?_); refine tl_e (e_callX rfl (.cons rfl .nil) (fun w' hw' => verd_v _ _ _ w' (hx3.1.fr (hw'.calm hx3.2 (MI.m (by repeat constructor)) (SB.s (by repeat constructor)))))) rfl (fun y3 hy3 => ?_); refine tl_q (y_move rfl) rfl ?_; refine tl_q (y_extract rfl rfl) rfl ?_; refine tl_q (y_extract rfl rfl) rfl ?_; refine tl_q (y_assign rfl) rfl ?_; refine tl_q (y_assign rfl) rfl ?_; refine tl_nil ?_; ((refine hK4 ?_; try (clear hK4; clear K4)))
  all_goals refine tc_seq fun K5 hK5 => ?_; refine tc_lay ([]) (SB.s .nil) (fun wl4 hl4 => ?_); refine tc_region ?_; refine tl_e (e_callX rfl (.cons rfl .nil) (fun w' hw' => two_c [] (by simp) (.slice none 0 0) w' (RdS.nil _ _ _ _))) rfl (fun x4 hx4 => ?_); refine tl_e (e_callV rfl (.cons rfl .nil) (fun w' hw' => alik_v _ _ _ w' (hx4.1.fr (hw'.calm hx4.2 (MI.m (by repeat constructor)) (SB.s (by repeat constructor)))))) rfl (fun _ _ => ?_); refine tl_q (y_move rfl) rfl ?_; refine tl_q (y_extract rfl rfl) rfl ?_; refine tl_q (y_extract rfl rfl) rfl ?_; refine tl_q (y_assign rfl) rfl ?_; refine tl_q (y_assign rfl) rfl ?_; refine tl_nil ?_; ((refine hK5 ?_; try (clear hK5; clear K5)))
  all_goals refine tc_seq fun K6 hK6 => ?_; refine tc_lay ([]) (SB.s .nil) (fun wl5 hl5 => ?_); refine tc_region ?_; refine tl_e (e_callX rfl (.cons rfl .nil) (fun w' hw' => two_c [] (by simp) (.slice none 0 0) w' (RdS.nil _ _ _ _))) rfl (fun x5 hx5 => ?_); refine tl_e (e_callX rfl (.cons rfl .nil) (fun w' hw' => leas_v _ _ _ w' (hx5.1.fr (hw'.calm hx5.2 (MI.m (by repeat constructor)) (SB.s (by repeat constructor)))))) rfl (fun y5 hy5 => ?_); refine tl_q (y_move rfl) rfl ?_; refine tl_q (y_extract rfl rfl) rfl ?_; refine tl_q (y_extract rfl rfl) rfl ?_; refine tl_q (y_assign rfl) rfl ?_; refine tl_q (y_assign rfl) rfl ?_; refine tl_nil ?_; ((refine hK6 ?_; try (clear hK6; clear K6)))
  all_goals refine tc_seq fun K7 hK7 => ?_; refine tc_lay ([]) (SB.s .nil) (fun wl6 hl6 => ?_); refine tc_region ?_; refine tl_q (y_build_g (by repeat constructor)) rfl ?_; refine tl_e (e_bsliceG rfl (.agg rfl rfl .nil) rfl rfl) rfl (fun b42 _ => ?_); refine tl_e (e_callX rfl (.cons rfl .nil) (fun w' hw' => two_c [badG] (by simp) _ w' (RdS.own0 (xs := [badG]) sgE_len hw' (by repeat constructor)))) rfl (fun x6 hx6 => ?_); refine tl_e (e_callV rfl (.cons rfl .nil) (fun w' hw' => frst_v _ _ _ w' (hx6.1.fr (hw'.calm hx6.2 (MI.m (by repeat constructor)) (SB.s (by repeat constructor)))))) rfl (fun _ _ => ?_); refine tl_q (y_move rfl) rfl ?_; refine tl_q (y_extract rfl rfl) rfl ?_; refine tl_q (y_extract rfl rfl) rfl ?_; refine tl_q (y_assign rfl) rfl ?_; refine tl_q (y_assign rfl) rfl ?_; refine tl_nil ?_; ((refine hK7 ?_; try (clear hK7; clear K7)))
  all_goals refine tc_seq fun K8 hK8 => ?_; refine tc_lay ([]) (SB.s .nil) (fun wl7 hl7 => ?_); refine tc_region ?_; refine tl_q (y_build_g (by repeat constructor)) rfl ?_; refine tl_e (e_bsliceG rfl (.agg rfl rfl .nil) rfl rfl) rfl (fun b49 _ => ?_); refine tl_e (e_callX rfl (.cons rfl .nil) (fun w' hw' => two_c [badG] (by simp) _ w' (RdS.own0 (xs := [badG]) sgE_len hw' (by repeat constructor)))) rfl (fun x7 hx7 => ?_); refine tl_e (e_callX rfl (.cons rfl .nil) (fun w' hw' => leav_v _ _ _ w' (hx7.1.fr (hw'.calm hx7.2 (MI.m (by repeat constructor)) (SB.s (by repeat constructor)))))) rfl (fun y7 hy7 => ?_); refine tl_q (y_move rfl) rfl ?_; refine tl_q (y_extract rfl rfl) rfl ?_; refine tl_q (y_extract rfl rfl) rfl ?_; refine tl_q (y_assign rfl) rfl ?_; refine tl_q (y_assign rfl) rfl ?_; refine tl_nil ?_; ((refine hK8 ?_; try (clear hK8; clear K8)))
  all_goals refine tc_seq fun K9 hK9 => ?_; refine tc_lay ([]) (SB.s .nil) (fun wl8 hl8 => ?_); refine tc_region ?_; refine tl_q (y_move rfl) rfl ?_; refine tl_q (y_eql rfl rfl) rfl ?_; refine tl_q (y_move rfl) rfl ?_; refine tl_qg rfl rfl (y_move rfl) rfl ?_; ((refine tl_eg rfl rfl rfl (e_bslice rfl (by (repeat (first | exact .nil | apply PV.one rfl rfl)); done) rfl rfl) (fun _ _ => ?_)))
  all_goals (refine tl_eg rfl rfl rfl (e_callV rfl (.cons rfl (.cons rfl .nil)) (fun w' hw' => rSame_c [0, 1] [0, 1] (by decide) (by decide) _ _ w' (hy1.1.fr (hw'.fr (MI.m (by repeat constructor)))) (RdI.own0 hw' (by repeat constructor)))) (fun _ _ => ?_)); refine tl_q (y_pick_t rfl rfl) rfl ?_; refine tl_q (y_move rfl) rfl ?_; refine tl_qg rfl rfl (y_move rfl) rfl ?_; refine tl_qg rfl rfl (y_eql rfl rfl) rfl ?_; refine tl_q (y_pick_t rfl rfl) rfl ?_; refine tl_q (y_move rfl) rfl ?_; refine tl_qg rfl rfl (y_move rfl) rfl ?_; ((refine tl_eg rfl rfl rfl (e_bslice rfl (by (repeat (first | exact .nil | apply PV.one rfl rfl)); done) rfl rfl) (fun _ _ => ?_)))
  all_goals (refine tl_eg rfl rfl rfl (e_callV rfl (.cons rfl (.cons rfl .nil)) (fun w' hw' => rSame_c [2] [2] (by decide) (by decide) _ _ w' (hy2.1.fr (hw'.fr (MI.m (by repeat constructor)))) (RdI.own0 hw' (by repeat constructor)))) (fun _ _ => ?_)); refine tl_q (y_pick_t rfl rfl) rfl ?_; refine tl_q (y_move rfl) rfl ?_; refine tl_qg rfl rfl (y_move rfl) rfl ?_; refine tl_qg rfl rfl (y_eql rfl rfl) rfl ?_; refine tl_q (y_pick_t rfl rfl) rfl ?_; refine tl_q (y_move rfl) rfl ?_; refine tl_qg rfl rfl (y_move rfl) rfl ?_; ((refine tl_eg rfl rfl rfl (e_bslice rfl (by (repeat (first | exact .nil | apply PV.one rfl rfl)); done) rfl rfl) (fun _ _ => ?_)))
  all_goals (refine tl_eg rfl rfl rfl (e_callV rfl (.cons rfl (.cons rfl .nil)) (fun w' hw' => rSame_c [3, 2] [3, 2] (by decide) (by decide) _ _ w' (hy3.1.fr (hw'.fr (MI.m (by repeat constructor)))) (RdI.own0 hw' (by repeat constructor)))) (fun _ _ => ?_)); refine tl_q (y_pick_t rfl rfl) rfl ?_; refine tl_q (y_move rfl) rfl ?_; refine tl_qg rfl rfl (y_move rfl) rfl ?_; refine tl_qg rfl rfl (y_eql rfl rfl) rfl ?_; refine tl_q (y_pick_t rfl rfl) rfl ?_; refine tl_q (y_move rfl) rfl ?_; refine tl_qg rfl rfl (y_move rfl) rfl ?_; refine tl_qg rfl rfl (y_eql rfl rfl) rfl ?_; refine tl_q (y_pick_t rfl rfl) rfl ?_; refine tl_q (y_move rfl) rfl ?_; refine tl_qg rfl rfl (y_move rfl) rfl ?_; refine tl_qg rfl rfl (y_eql rfl rfl) rfl ?_; refine tl_q (y_pick_t rfl rfl) rfl ?_; refine tl_q (y_move rfl) rfl ?_; refine tl_qg rfl rfl (y_move rfl) rfl ?_; ((refine tl_eg rfl rfl rfl (e_bslice rfl (by (repeat (first | exact .nil | apply PV.one rfl rfl)); done) rfl rfl) (fun _ _ => ?_)))
  all_goals (refine tl_eg rfl rfl rfl (e_callV rfl (.cons rfl (.cons rfl .nil)) (fun w' hw' => rSame_c [0, 0] [0, 0] (by decide) (by decide) _ _ w' (hy5.1.fr (hw'.fr (MI.m (by repeat constructor)))) (RdI.own0 hw' (by repeat constructor)))) (fun _ _ => ?_)); refine tl_q (y_pick_t rfl rfl) rfl ?_; refine tl_q (y_move rfl) rfl ?_; refine tl_qg rfl rfl (y_move rfl) rfl ?_; refine tl_qg rfl rfl (y_eql rfl rfl) rfl ?_; refine tl_q (y_pick_t rfl rfl) rfl ?_; refine tl_q (y_move rfl) rfl ?_; refine tl_qg rfl rfl (y_move rfl) rfl ?_; refine tl_qg rfl rfl (y_eql rfl rfl) rfl ?_; refine tl_q (y_pick_t rfl rfl) rfl ?_; refine tl_q (y_move rfl) rfl ?_; refine tl_qg rfl rfl (y_move rfl) rfl ?_; refine tl_qg rfl rfl (y_eql rfl rfl) rfl ?_; refine tl_q (y_pick_t rfl rfl) rfl ?_; refine tl_q (y_move rfl) rfl ?_; refine tl_qg rfl rfl (y_move rfl) rfl ?_; ((refine tl_eg rfl rfl rfl (e_bslice rfl (by (repeat (first | exact .nil | apply PV.one rfl rfl)); done) rfl rfl) (fun _ _ => ?_)))
  all_goals (refine tl_eg rfl rfl rfl (e_callV rfl (.cons rfl (.cons rfl .nil)) (fun w' hw' => rSame_c [3] [3] (by decide) (by decide) _ _ w' ((hy7.1.fr (hl8.calm hy7.2 (MI.m (by repeat constructor)) (SB.s (by repeat constructor)))).fr (hw'.fr (w0 := wl8) (S := []) (MI.m (by repeat constructor)))) (RdI.own0 hw' (by repeat constructor)))) (fun _ _ => ?_)); refine tl_q (y_pick_t rfl rfl) rfl ?_; refine tl_q (y_assign rfl) rfl ?_; refine tl_nil ?_; ((refine hK9 ?_; try (clear hK9; clear K9)))
  all_goals refine tc_ret ?_; (repeat (first | refine tk_then_ret ?_))
  all_goals (refine tk_ret rfl rfl (.cons (.tmp rfl) .nil) ?_)
  all_goals (
   exact fun w' hw' => ⟨rfl, hw'.fr (w0 := w) (S := []) (MI.m (by repeat constructor))⟩)
end Go.Sp
/-
  SampleVerdicts, walked.
-/
namespace Go.Sp
open Go Go.Proofs
theorem RunF.mem {s : Smp} {b : Int} {c : List Int} : ∀ {k : Nat} {x : Bool} {l : List (Bool × Int)}, RunF s b c k x l → ∀ z ∈ l, z.2 = 0 ∨ z.2 = 1
  | 0, _, _, h, z, hz => by obtain rfl := h; cases hz
  | k + 1, _, _, ⟨y, t, h, hy, ht⟩, z, hz => by
    subst h
    rcases List.mem_cons.1 hz with rfl | hz
    · obtain ⟨n, _, _, rfl⟩ := mem_stepL.1 hy
      dsimp only
      split
      · exact .inr rfl
      · exact .inl rfl
    · exact RunF.mem ht z hz
theorem cons_poss {s : Smp} (hc : consF s = true) {k : Nat} (hk : k < s.B.toNat) : possF s (k : Int) = true := List.all_eq_true.1 hc k (List.mem_range.2 hk)
theorem lsL_v {s : Smp} (h : vdE s = 0) : lsL s = lsN' s s.B.toNat := if_pos h
theorem lsN'_get {s : Smp} {n k : Nat} (h : k < n) : (lsN' s n).getD k 0 = (askF s k).least := by
  rw [List.getD_eq_getElem?_getD, lsN', List.getElem?_map, List.getElem?_range h]; rfl
theorem openersK_v {s : Smp} {b : Int} (hE : opE s b = 0) (hf : Few s) (tv pv gv : Value) (w : World) (hr : RdSm w s tv pv gv) :
    CnX Tryz.prog 19 #[smV s tv pv gv, vi b] w [] (fun y : Option Addr × Nat => .tuple #[slV (opL s b).length y, vi 0]) (fun y w' => RdI w' (slV (opL s b).length y) (opL s b)) := by
  have h := openers_c s hf b tv pv gv w hr
  rw [hE] at h
  exact h.imp id (fun _ => rfl) (fun _ h => h) (fun _ _ _ h => h.toI)
theorem leastI_c (s : Smp) (hf : Few s) (tv pv gv : Value) (w : World) (hr : RdSm w s tv pv gv) :
    CnX Tryz.prog 28 #[smV s tv pv gv] w [] (fun y : Option Addr × Nat => .tuple #[slV (lsL s).length y, vi (vdE s)]) (fun y w' => RdI w' (slV (lsL s).length y) (lsL s)) :=
  (least_c s hf tv pv gv w hr).imp id (fun _ => rfl) (fun _ h => h) (fun _ _ _ h => h.toI)
theorem RdI.opensK2 {w : World} {xs : List Int} {x : Option Addr × Nat} (h : RdI w (slV xs.length x) xs) : ∃ b o, (0 < xs.length → x.1 = some ⟨b, o, none⟩) ∧ ∀ w', Fr [] w w' → ∀ i, i < xs.length → w'.cell? ⟨b, o + i, none⟩ = some (vi (xs.getD i 0)) := by
  obtain ⟨ad, cap, b, o, e, had, hcell⟩ := h.open
  injection e with e1 e2 e3
  subst e1
  exact ⟨b, o, had, hcell⟩
end Go.Sp
/-
  SampleApart, walked.
-/
namespace Go.Sp
open Go Go.Proofs
def psQ (s : Smp) (b : Int) (n : Nat) : List Pas := ((List.range n).filter fun i => decide ((s.ps.getD i pas0).b = b)).map fun i => s.ps.getD i pas0
def sgQ (s : Smp) (b : Int) (n : Nat) : List Sgt := ((List.range n).filter fun i => decide ((s.sg.getD i sgt0).b = b)).map fun i => s.sg.getD i sgt0
theorem psQ_yes {s : Smp} {b : Int} {n : Nat} (h : (s.ps.getD n pas0).b = b) : psQ s b (n + 1) = psQ s b n ++ [s.ps.getD n pas0] := filt_yes (decide_eq_true h)
theorem psQ_no {s : Smp} {b : Int} {n : Nat} (h : ¬ (s.ps.getD n pas0).b = b) : psQ s b (n + 1) = psQ s b n := filt_no (decide_eq_false h)
theorem sgQ_yes {s : Smp} {b : Int} {n : Nat} (h : (s.sg.getD n sgt0).b = b) : sgQ s b (n + 1) = sgQ s b n ++ [s.sg.getD n sgt0] := filt_yes (decide_eq_true h)
theorem sgQ_no {s : Smp} {b : Int} {n : Nat} (h : ¬ (s.sg.getD n sgt0).b = b) : sgQ s b (n + 1) = sgQ s b n := filt_no (decide_eq_false h)
theorem psQ_len (s : Smp) (b : Int) (n : Nat) : (psQ s b n).length ≤ n := filt_len
theorem sgQ_len (s : Smp) (b : Int) (n : Nat) : (sgQ s b n).length ≤ n := filt_len
theorem filt_getD {α : Type} (l : List α) (d : α) (p : α → Bool) : (((List.range l.length).filter fun i => p (l.getD i d)).map fun i => l.getD i d) = l.filter p := by
  have e : l = (List.range l.length).map fun i => l.getD i d := by
    apply List.ext_getElem (by simp)
    intro i h1 h2
    simp [List.getElem?_eq_getElem h1]
  conv => rhs; rw [e]
  rw [List.filter_map]; rfl
/-- The sample with the entries of a bottle alone. -/
def ownB (s : Smp) (b : Int) : Smp := { s with ps := psQ s b s.ps.length, sg := sgQ s b s.sg.length }
theorem Few.own {s : Smp} (h : Few s) (b : Int) : Few (ownB s b) := ⟨h.st, Nat.le_trans (psQ_len s b _) h.ps, Nat.le_trans (sgQ_len s b _) h.sg⟩
theorem VSm.own {s : Smp} (hv : VSm s) (b : Int) : VSm (ownB s b) := hv.sub (filt_sub s.ps pas0 _) (filt_sub s.sg sgt0 _)
theorem ownB_ps (s : Smp) (b : Int) : (ownB s b).ps = psO s b := filt_getD s.ps pas0 fun p => decide (p.b = b)
theorem ownB_sg (s : Smp) (b : Int) : (ownB s b).sg = sgO s b := filt_getD s.sg sgt0 fun g => decide (g.b = b)
theorem own_sam (s : Smp) (b : Int) : SamB s (ownB s b) b := ⟨rfl, rfl, rfl, by
  show _ = (ownB s b).ps.filter _
  rw [ownB_ps, List.filter_filter]; simp, by
  show _ = (ownB s b).sg.filter _
  rw [ownB_sg, List.filter_filter]; simp⟩
theorem own_cons {s : Smp} (b : Int) (hc : consF s = true) : consF (ownB s b) = true := consF_yes fun k hk => by
  have hk' : k < s.B.toNat := hk
  by_cases h : (k : Int) = b
  · rw [h, ← (own_sam s b).poss, ← h]; exact cons_poss hc hk'
  · refine possF_free (fun p hp hb => h ?_) (fun g hg hb => h ?_)
    · rw [ownB_ps] at hp
      have := (List.mem_filter.1 hp).2
      rw [decide_eq_true_eq] at this; omega
    · rw [ownB_sg] at hg
      have := (List.mem_filter.1 hg).2
      rw [decide_eq_true_eq] at this; omega
theorem own_opL {s : Smp} {b : Int} (h1 : opE s b = 0) (h2 : opE (ownB s b) b = 0) : opL s b = opL (ownB s b) b := by
  unfold opL
  rw [if_pos h1, if_pos h2, (own_sam s b).ask]; rfl
theorem own_hdL {s : Smp} {b h : Int} (h1 : hdE s b h = 0) (h2 : hdE (ownB s b) b h = 0) : hdL s b h = hdL (ownB s b) b h := by
  unfold hdL hdM
  rw [if_pos h1, if_pos h2, (own_sam s b).ask]; rfl
theorem holdersK_v {s : Smp} {b h : Int} (hE : hdE s b h = 0) (hf : Few s) (tv pv gv : Value) (w : World) (hr : RdSm w s tv pv gv) :
    CnX Tryz.prog 17 #[smV s tv pv gv, vi b, vi h] w [] (fun y : Option Addr × Nat => .tuple #[slV (hdL s b h).length y, vi 0]) (fun y w' => RdI w' (slV (hdL s b h).length y) (hdL s b h)) := by
  have hh := holders_c s hf b h tv pv gv w hr
  rw [hE] at hh
  exact hh.imp id (fun _ => rfl) (fun _ h => h) (fun _ _ _ h => h.toI)
theorem leastK_v {s : Smp} (hE : vdE s = 0) (hf : Few s) (tv pv gv : Value) (w : World) (hr : RdSm w s tv pv gv) :
    CnX Tryz.prog 28 #[smV s tv pv gv] w [] (fun y : Option Addr × Nat => .tuple #[slV (lsL s).length y, vi 0]) (fun y w' => RdI w' (slV (lsL s).length y) (lsL s)) := by
  have h := leastI_c s hf tv pv gv w hr
  rw [hE] at h
  exact h
theorem opL_len {s : Smp} (hv : VSm s) (b : Int) : (opL s b).length ≤ 4 := by
  have hp4 := hv.p4
  unfold opL
  split
  · have := pplN_len (askF s b).opn s.P.toNat; show (pplN _ _).length ≤ 4; omega
  · exact Nat.zero_le _
theorem hdL_len {s : Smp} (hv : VSm s) (b h : Int) : (hdL s b h).length ≤ 4 := by
  have hp4 := hv.p4
  unfold hdL
  split
  · have := pplN_len (hdM s b h) s.P.toNat; show (pplN _ _).length ≤ 4; omega
  · exact Nat.zero_le _
theorem sameK_v {a b : List Int} (h : a = b) (ha : a.length ≤ 4) (av bv : Value) (w : World) (hra : RdI w av a) (hrb : RdI w bv b) : CnV Tryz.prog 24 #[av, bv] w (.bool true) := by
  subst h
  have := rSame_c a a (by omega) (by omega) av bv w hra hrb
  rw [decide_eq_true rfl] at this
  exact this
set_option maxHeartbeats 8000000 in
theorem sapart_c (s : Smp) (on : Int) (ho : 0 ≤ on ∧ on ≤ 255) (tv pv gv : Value) (w : World) (hr : RdSm w s tv pv gv) : CnV Tryz.prog 11 #[smV s tv pv gv, .int .u8 on] w (.bool true) := by
  have hr0 := hr
  have hot := hr.st.one
  obtain ⟨adt, cpt, _, _, rfl, _, _⟩ := hr.st.open boE_len false
  obtain ⟨adp, cpp, bp, op, rfl, hadp, hcp⟩ := hr.ps.open psE_len pas0
  obtain ⟨adg, cpg, bg, og, rfl, hadg, hcg⟩ := hr.sg.open sgE_len sgt0
  refine cnv (vs := [_, _]) Tryz.func11 rfl rfl ?_
  all_goals refine tc_seq fun K1 hK1 => ?_; refine tc_region ?_; refine tl_e (e_box rfl rfl rfl) rfl (fun b2 _ => ?_); refine tl_q (y_assign rfl) rfl ?_; refine tl_nil ?_; ((refine hK1 ?_; try (clear hK1; clear K1)))
  all_goals refine tc_seq fun K2 hK2 => ?_; refine tc_seq fun K3 hK3 => ?_; refine tc_lay ([]) (SB.s .nil) (fun wl1 hl1 => ?_); refine tc_region ?_; refine tl_q (y_loadWf rfl (hl1.at (by repeat constructor)) (MI.m (by repeat constructor)) (by simp) (by rfl)) rfl ?_; refine tl_e (e_callV rfl (.cons rfl .nil) (fun w' hw' => ready_c s _ _ _ w' (hr0.fr (hw'.fr (w0 := w) (S := []) (MI.m (by repeat constructor)))))) rfl (fun _ _ => ?_); refine tl_q (y_not_dec rfl) rfl ?_; refine tl_q (y_move rfl) rfl ?_; ((refine tl_gs rfl rfl (fun hc => ?_) (fun hc => ?_) <;> (try simp only [decide_eq_true_eq, decide_eq_false_iff_not, Int.not_lt, Int.not_le, Bool.not_eq_true', Bool.not_eq_false', Decidable.not_not, not_true_eq_false] at hc) <;> (first | refine tl_sk rfl rfl rfl rfl ?_ | refine tl_qg rfl rfl (y_loadWf rfl (hl1.at (by repeat constructor)) (MI.m (by repeat constructor)) (by simp) (by rfl)) rfl ?_)))
  all_goals (first | refine tl_sk rfl rfl rfl rfl ?_ | refine tl_eg rfl rfl rfl (e_callV rfl (.cons rfl .nil) (fun w' hw' => hasC_c s (by assumption : readyS s).1.few (chkS_0.1 (by assumption : readyS s).2) _ _ _ w' (hr0.fr (hw'.fr (w0 := w) (S := []) (MI.m (by repeat constructor)))))) (fun _ _ => ?_)); (first | refine tl_sk rfl rfl rfl rfl ?_ | refine tl_qg rfl rfl (y_not rfl) rfl ?_); (first | refine tl_q (y_pick_t rfl rfl) rfl ?_ | refine tl_q (y_pick_f rfl rfl) rfl ?_); refine tl_nil ?_; ((refine hK3 ?_; try (clear hK3; clear K3)))
  all_goals (
   refine tc_cond rfl (fun hc => ?_) (fun hc => ?_)
   · try simp only [decide_eq_true_eq, decide_eq_false_iff_not, Int.not_lt, Int.not_le, Bool.not_eq_true', Bool.not_eq_false', Decidable.not_not, not_true_eq_false] at hc
     all_goals refine tc_seq fun K4 hK4 => ?_; refine tc_lay ([]) (SB.s .nil) (fun wl2 hl2 => ?_); refine tc_region ?_; refine tl_e (e_callV rfl .nil (fun w' _ => awake_c w')) rfl (fun _ _ => ?_); refine tl_q (y_assign rfl) rfl ?_; refine tl_nil ?_; ((refine hK4 ?_; try (clear hK4; clear K4)))
     all_goals refine tc_ret ?_; (repeat (refine tk_then_ret ?_))
     all_goals (refine tk_ret rfl rfl (.cons (.tmp rfl) .nil) ?_)
     all_goals (
      exact fun w' hw' => ⟨rfl, hw'.fr (w0 := w) (S := []) (MI.m (by repeat constructor))⟩)
   · try simp only [decide_eq_true_eq, decide_eq_false_iff_not, Int.not_lt, Int.not_le, Bool.not_eq_true', Bool.not_eq_false', Decidable.not_not, not_true_eq_false] at hc
     all_goals ((first | (exfalso; with_reducible exact btf hc) | skip))
     all_goals refine tc_skip ?_; ((refine hK2 ?_; try (clear hK2; clear K2)))
     all_goals refine tc_seq fun K5 hK5 => ?_; refine tc_lay ([]) (SB.s .nil) (fun wl3 hl3 => ?_); (have hrd : readyS s := by assumption)
     all_goals ((have hv := chkS_0.1 hrd.2; have hf := hrd.1.few; have hb1 := hv.b1; have hb3 := hv.b3; have hcs : consF s = true := by assumption))
     all_goals ((have hfp := hf.ps; have hfg := hf.sg; have hl0 := hv.l0; have hl9 := hv.l9))
     all_goals (obtain ⟨bn, hbn⟩ : ∃ bn : Nat, on % s.B = (bn : Int) := ⟨(on % s.B).toNat, (Int.toNat_of_nonneg (Int.emod_nonneg _ (by omega))).symm⟩)
     all_goals ((have hbB : bn < s.B.toNat := by have := Int.emod_lt_of_pos on (show 0 < s.B by omega); omega))
     all_goals ((have hv' := hv.own (bn : Int); have hf' := hf.own (bn : Int); have hcs' := own_cons (bn : Int) hcs))
     all_goals ((have hE := sure_ok hv hcs; have hE' := sure_ok hv' hcs'; have ho1 := opE_ok hv hcs (b := (bn : Int)) (by omega); have ho2 := opE_ok hv' hcs' (b := (bn : Int)) ⟨by omega, by show (bn : Int) < s.B; omega⟩))
     all_goals (have hvl : (lsL s).length = s.B.toNat := by rw [lsL_v hE, lsN'_len])
     all_goals ((have hvl' : (lsL (ownB s bn)).length = s.B.toNat := by rw [lsL_v hE', lsN'_len]; rfl))
     all_goals (have hlg : (lsL s).getD bn 0 = (askF s bn).least := by rw [lsL_v hE, lsN'_get hbB])
     all_goals (have hlg' : (lsL (ownB s bn)).getD bn 0 = (askF s bn).least := by rw [lsL_v hE', lsN'_get (s := ownB s bn) (n := (ownB s bn).B.toNat) (k := bn) hbB, ← (own_sam s bn).ask])
     all_goals refine tc_region ?_; refine tl_q (y_move rfl) rfl ?_; refine tl_q (y_conv64 rfl (by omega)) rfl ?_; refine tl_q (y_field rfl) rfl ?_; refine tl_q (y_load1f rfl (hl1.at (by repeat constructor)) (MI.m (by repeat constructor)) (by simp) (by rfl)) rfl ?_; refine tl_q (y_rem rfl rfl (by omega) (by omega)) rfl ?_; refine tl_q (y_assign rfl) rfl ?_; refine tl_nil ?_; rw [hbn]
     all_goals ((refine hK5 ?_; try (clear hK5; clear K5)))
     all_goals refine tc_seq fun K6 hK6 => ?_; refine tc_lay ([]) (SB.s .nil) (fun wl4 hl4 => ?_); refine tc_region ?_; refine tl_q (y_loadWf rfl (hl1.at (by repeat constructor)) (MI.m (by repeat constructor)) (by simp) (by rfl)) rfl ?_; refine tl_e (e_allocN rfl) rfl (fun b6 _ => ?_); refine tl_e (e_storeW rfl rfl (by repeat constructor) (by rfl) (by rfl) (smV_ones hot rfl rfl)) rfl (fun _ _ => ?_); refine tl_nil ?_; ((refine hK6 ?_; try (clear hK6; clear K6)))
     all_goals refine tc_seq fun K7 hK7 => ?_; refine tc_region ?_; refine tl_q (y_field rfl) rfl ?_; refine tl_e (e_store1 rfl rfl (by repeat constructor) (by repeat constructor) (by rfl) (by rfl)) rfl (fun _ _ => ?_); refine tl_q (y_field rfl) rfl ?_; refine tl_e (e_store1 rfl rfl (by repeat constructor) (by repeat constructor) (by rfl) (by rfl)) rfl (fun _ _ => ?_); refine tl_nil ?_; ((refine hK7 ?_; try (clear hK7; clear K7)))
     all_goals refine tc_seq fun K8 hK8 => ?_; refine tc_seq fun K9 hK9 => ?_; refine tc_region ?_; refine tl_q (y_assign rfl) rfl ?_; refine tl_nil ?_; ((refine hK9 ?_; try (clear hK9; clear K9)))
     all_goals refine tc_block ?_
     all_goals (
      refine tc_loop (fun p : Nat × OwnB => p.1 ≤ s.ps.length ∧ okE 5 (psQ s bn p.1) p.2) (fun p => [(2, ptr b2), (5, vi bn), (6, ptr b6), (7, vi p.1)]) (fun _ => [(wl1, []), (w, [])]) (fun p => (b6, .cells #[vi s.B, vi s.P, vi s.L, vi s.F, .slice adt s.st.length cpt, ouV (psQ s bn p.1).length p.2, .slice none 0 0] 26 (0, 0)) :: slE 77 psE (psQ s bn p.1) p.2) (fun p => s.ps.length - p.1) ?_ ?_
      · exact tk_start (0, none) ⟨Nat.zero_le _, rfl⟩ (.cons rfl (.cons rfl (.cons rfl (.cons rfl .nil)))) (fun _ h => by rw [slE_none]; exact h.subl (SB.s (by repeat constructor)) (SB.s (by repeat constructor)))
      · rintro ⟨k, oo⟩ ⟨hk, hok⟩
        dsimp only at hk hok ⊢
        have hkl := psQ_len s bn k
        all_goals refine tc_seq fun K10 hK10 => ?_; refine tc_seq fun K11 hK11 => ?_; refine tc_region ?_; refine tl_q (y_move rfl) rfl ?_; refine tl_q (y_field rfl) rfl ?_; refine tl_q (y_load1f rfl (hl1.at (by repeat constructor)) (MI.m (by repeat constructor)) (by simp) (by rfl)) rfl ?_; refine tl_q (y_len rfl) rfl ?_; refine tl_q (y_lss rfl rfl) rfl ?_; refine tl_nil ?_; ((refine hK11 ?_; try (clear hK11; clear K11)))
        all_goals (
         refine tc_cond rfl (fun hc => ?_) (fun hc => ?_)
         · try simp only [decide_eq_true_eq, decide_eq_false_iff_not, Int.not_lt, Int.not_le, Bool.not_eq_true', Bool.not_eq_false', Decidable.not_not, not_true_eq_false] at hc
           all_goals refine tc_skip ?_; ((refine hK10 ?_; try (clear hK10; clear K10)))
           all_goals refine tc_seq fun K12 hK12 => ?_; refine tc_block ?_; refine tc_seq fun K13 hK13 => ?_; refine tc_region ?_; refine tl_q (y_field rfl) rfl ?_; refine tl_q (y_load1f rfl (hl1.at (by repeat constructor)) (MI.m (by repeat constructor)) (by simp) (by rfl)) rfl ?_; refine tl_q (y_move rfl) rfl ?_; refine tl_q (y_index rfl rfl (by omega) (hadp (by omega))) rfl ?_; refine tl_q (y_field rfl) rfl ?_; ((refine tl_q (y_load1o (v := vi (s.ps.getD k pas0).b) rfl (fun w' hw' => by rw [show Int.toNat (k : Int) * 5 = k * 5 from by omega]; exact (hcp w' [] (hw'.fr (w0 := w) (S := []) (MI.m (by repeat constructor))) (by simp) k (by omega)).get 0 _ rfl)) rfl ?_))
           all_goals refine tl_q (y_move rfl) rfl ?_; refine tl_q (y_eql rfl rfl) rfl ?_; refine tl_nil ?_; ((refine hK13 ?_; try (clear hK13; clear K13)))
           all_goals (
            refine tc_cond rfl (fun hc => ?_) (fun hc => ?_)
            · try simp only [decide_eq_true_eq, decide_eq_false_iff_not, Int.not_lt, Int.not_le, Bool.not_eq_true', Bool.not_eq_false', Decidable.not_not, not_true_eq_false] at hc
              all_goals refine tc_drawS ([(b6, .cells #[vi s.B, vi s.P, vi s.L, vi s.F, .slice adt s.st.length cpt, ouV (psQ s bn k).length oo, .slice none 0 0] 26 (0, 0))]) (by kernel_rfl) ?_; refine tx_p 0 rfl (by kernel_rfl) (y_field rfl) rfl (fun _ _ _ h => h) (fun _ h => h.subl (SB.s (by repeat constructor)) (SB.s (by repeat constructor))) ?_; refine tx_qS 1 rfl (by kernel_rfl) (y_load1 rfl (by repeat constructor) (by rfl)) rfl (fun _ _ _ h => h) (fun _ h => h.subl (SB.s (by repeat constructor)) (SB.s (by repeat constructor))) ?_; refine tx_p 2 rfl (by kernel_rfl) (y_field rfl) rfl (fun _ _ _ h => h) (fun _ h => h.subl (SB.s (by repeat constructor)) (SB.s (by repeat constructor))) ?_; refine tx_qS 3 rfl (by kernel_rfl) (y_load1f rfl (hl1.at (by repeat constructor)) (MI.m (by repeat constructor)) (by simp) (by rfl)) rfl (fun _ _ _ h => h) (fun _ h => h.subl (SB.s (by repeat constructor)) (SB.s (by repeat constructor))) ?_; refine tx_p 4 rfl (by kernel_rfl) (y_move rfl) rfl (fun _ _ _ h => h) (fun _ h => h.subl (SB.s (by repeat constructor)) (SB.s (by repeat constructor))) ?_; refine tx_p 5 rfl (by kernel_rfl) (y_index rfl rfl (by omega) (hadp (by omega))) rfl (fun _ _ _ h => h) (fun _ h => h.subl (SB.s (by repeat constructor)) (SB.s (by repeat constructor))) ?_; ((refine tx_qS 6 rfl (by kernel_rfl) (y_loadNo (n := 5) (vs := [vi (s.ps.getD k pas0).b, vi (s.ps.getD k pas0).fr, vi (s.ps.getD k pas0).to, vi (s.ps.getD k pas0).lo, vi (s.ps.getD k pas0).hi]) rfl (fun w' hw' => by rw [show Int.toNat (k : Int) * 5 = k * 5 from by omega]; exact hcp w' [] (hw'.fr (w0 := w) (S := []) (MI.m (by repeat constructor))) (by simp) k (by omega))) rfl (fun _ _ _ h => h) (fun _ h => h.subl (SB.s (by repeat constructor)) (SB.s (by repeat constructor))) ?_))
              all_goals refine tx_single 7 (by kernel_rfl) (to_e rfl rfl (e_bsliceG rfl (.agg rfl rfl .nil) rfl rfl) (.inr ⟨fun _ _ h => h.subl (SB.s (by repeat constructor)) (SB.s (by repeat constructor)), fun _ h => h⟩) (fun _ _ => ?_)); ((refine tx_single 8 (by kernel_rfl) (to_e rfl rfl (e_appendE (enc := psE) (xs := psQ s bn k) (ys := [s.ps.getD k pas0]) psE_len psE_one rfl rfl rfl hok (fun _ => by repeat constructor) (fun w' hw' => RdS.own0 psE_len hw' (by repeat constructor)) (by simp only [List.length_cons, List.length_nil]; omega) rfl) (.inr ⟨fun _ _ h => h.subl (SB.s (by repeat constructor)) (SB.s (by repeat constructor)), fun _ h => h⟩) (fun oo' hok' => ?_))))
              all_goals refine tx_p 9 rfl (by kernel_rfl) (y_field rfl) rfl (fun _ _ _ h => h) (fun _ h => h.subl (SB.s (by repeat constructor)) (SB.s (by repeat constructor))) ?_; refine tx_single 10 (by kernel_rfl) (to_e (S' := HG [] []) rfl rfl (e_store1 rfl rfl (by repeat constructor) (by repeat constructor) (by rfl) (by rfl)) (.inl (by kernel_rfl)) (fun _ _ => ?_)); refine tx_done (by kernel_rfl) ?_; ((refine hK12 ?_; try (clear hK12; clear K12)))
              all_goals refine tc_region ?_; refine tl_q (y_move rfl) rfl ?_; refine tl_q (y_add rfl rfl (by omega)) rfl ?_; refine tl_q (y_assign rfl) rfl ?_; refine tl_nil ?_
              all_goals (
               first
               | (have hs := psQ_yes (s := s) (b := (bn : Int)) hc
                  exact tk_round (k + 1, oo') ⟨by dsimp only; omega, by dsimp only; rw [hs]; exact hok'⟩ (by dsimp only; omega) (.cons rfl (.cons rfl (.cons rfl (.cons rfl .nil)))) (fun _ h => by dsimp only; rw [hs]; exact h.subl (SB.s (by repeat constructor)) (SB.s (by repeat constructor))))
               | (have hs := psQ_no (s := s) (b := (bn : Int)) hc
                  exact tk_round (k + 1, oo) ⟨by dsimp only; omega, by dsimp only; rw [hs]; exact hok⟩ (by dsimp only; omega) (.cons rfl (.cons rfl (.cons rfl (.cons rfl .nil)))) (fun _ h => by dsimp only; rw [hs]; exact h.subl (SB.s (by repeat constructor)) (SB.s (by repeat constructor)))))
            · try simp only [decide_eq_true_eq, decide_eq_false_iff_not, Int.not_lt, Int.not_le, Bool.not_eq_true', Bool.not_eq_false', Decidable.not_not, not_true_eq_false] at hc
              all_goals refine tc_skip ?_; ((refine hK12 ?_; try (clear hK12; clear K12)))
              all_goals refine tc_region ?_; refine tl_q (y_move rfl) rfl ?_; refine tl_q (y_add rfl rfl (by omega)) rfl ?_; refine tl_q (y_assign rfl) rfl ?_; refine tl_nil ?_
              all_goals (
               first
               | (have hs := psQ_yes (s := s) (b := (bn : Int)) hc
                  exact tk_round (k + 1, oo') ⟨by dsimp only; omega, by dsimp only; rw [hs]; exact hok'⟩ (by dsimp only; omega) (.cons rfl (.cons rfl (.cons rfl (.cons rfl .nil)))) (fun _ h => by dsimp only; rw [hs]; exact h.subl (SB.s (by repeat constructor)) (SB.s (by repeat constructor))))
               | (have hs := psQ_no (s := s) (b := (bn : Int)) hc
                  exact tk_round (k + 1, oo) ⟨by dsimp only; omega, by dsimp only; rw [hs]; exact hok⟩ (by dsimp only; omega) (.cons rfl (.cons rfl (.cons rfl (.cons rfl .nil)))) (fun _ h => by dsimp only; rw [hs]; exact h.subl (SB.s (by repeat constructor)) (SB.s (by repeat constructor))))))
         · try simp only [decide_eq_true_eq, decide_eq_false_iff_not, Int.not_lt, Int.not_le, Bool.not_eq_true', Bool.not_eq_false', Decidable.not_not, not_true_eq_false] at hc
           all_goals refine tc_exit ?_; ((refine hK8 ?_; try (clear hK8; clear K8)))
           all_goals refine tc_seq fun K14 hK14 => ?_; refine tc_seq fun K15 hK15 => ?_; refine tc_region ?_; refine tl_q (y_assign rfl) rfl ?_; refine tl_nil ?_; ((refine hK15 ?_; try (clear hK15; clear K15)))
           all_goals refine tc_block ?_
           all_goals (
            refine tc_loop (fun p : Nat × OwnB => p.1 ≤ s.sg.length ∧ okE 3 (sgQ s bn p.1) p.2) (fun p => [(2, ptr b2), (5, vi bn), (6, ptr b6), (8, vi p.1)]) (fun _ => [(wl1, []), (w, [])]) (fun p => (b6, .cells #[vi s.B, vi s.P, vi s.L, vi s.F, .slice adt s.st.length cpt, ouV (psQ s bn k).length oo, ouV (sgQ s bn p.1).length p.2] 26 (0, 0)) :: (slE 77 psE (psQ s bn k) oo ++ slE 65 sgE (sgQ s bn p.1) p.2)) (fun p => s.sg.length - p.1) ?_ ?_
            · exact tk_start (0, none) ⟨Nat.zero_le _, rfl⟩ (.cons rfl (.cons rfl (.cons rfl (.cons rfl .nil)))) (fun _ h => by rw [slE_none, List.append_nil]; exact h.subl (SB.s (by repeat constructor)) (SB.s (by repeat constructor)))
            · rintro ⟨j, oo2⟩ ⟨hj, hok2⟩
              dsimp only at hj hok2 ⊢
              have hjl := sgQ_len s bn j
              all_goals refine tc_seq fun K16 hK16 => ?_; refine tc_seq fun K17 hK17 => ?_; refine tc_region ?_; refine tl_q (y_move rfl) rfl ?_; refine tl_q (y_field rfl) rfl ?_; refine tl_q (y_load1f rfl (hl1.at (by repeat constructor)) (MI.m (by repeat constructor)) (by simp) (by rfl)) rfl ?_; refine tl_q (y_len rfl) rfl ?_; refine tl_q (y_lss rfl rfl) rfl ?_; refine tl_nil ?_; ((refine hK17 ?_; try (clear hK17; clear K17)))
              all_goals (
               refine tc_cond rfl (fun hc => ?_) (fun hc => ?_)
               · try simp only [decide_eq_true_eq, decide_eq_false_iff_not, Int.not_lt, Int.not_le, Bool.not_eq_true', Bool.not_eq_false', Decidable.not_not, not_true_eq_false] at hc
                 all_goals refine tc_skip ?_; ((refine hK16 ?_; try (clear hK16; clear K16)))
                 all_goals refine tc_seq fun K18 hK18 => ?_; refine tc_block ?_; refine tc_seq fun K19 hK19 => ?_; refine tc_region ?_; refine tl_q (y_field rfl) rfl ?_; refine tl_q (y_load1f rfl (hl1.at (by repeat constructor)) (MI.m (by repeat constructor)) (by simp) (by rfl)) rfl ?_; refine tl_q (y_move rfl) rfl ?_; refine tl_q (y_index rfl rfl (by omega) (hadg (by omega))) rfl ?_; refine tl_q (y_field rfl) rfl ?_; ((refine tl_q (y_load1o (v := vi (s.sg.getD j sgt0).b) rfl (fun w' hw' => by rw [show Int.toNat (j : Int) * 3 = j * 3 from by omega]; exact (hcg w' [] (hw'.fr (w0 := w) (S := []) (MI.m (by repeat constructor))) (by simp) j (by omega)).get 0 _ rfl)) rfl ?_))
                 all_goals refine tl_q (y_move rfl) rfl ?_; refine tl_q (y_eql rfl rfl) rfl ?_; refine tl_nil ?_; ((refine hK19 ?_; try (clear hK19; clear K19)))
                 all_goals (
                  refine tc_cond rfl (fun hc => ?_) (fun hc => ?_)
                  · try simp only [decide_eq_true_eq, decide_eq_false_iff_not, Int.not_lt, Int.not_le, Bool.not_eq_true', Bool.not_eq_false', Decidable.not_not, not_true_eq_false] at hc
                    all_goals refine tc_drawS ([(b6, .cells #[vi s.B, vi s.P, vi s.L, vi s.F, .slice adt s.st.length cpt, ouV (psQ s bn k).length oo, ouV (sgQ s bn j).length oo2] 26 (0, 0))]) (by kernel_rfl) ?_; refine tx_p 0 rfl (by kernel_rfl) (y_field rfl) rfl (fun _ _ _ h => h) (fun _ h => h.subl (SB.s (by repeat constructor)) (SB.s (by repeat constructor))) ?_; refine tx_qS 1 rfl (by kernel_rfl) (y_load1 rfl (by repeat constructor) (by rfl)) rfl (fun _ _ _ h => h) (fun _ h => h.subl (SB.s (by repeat constructor)) (SB.s (by repeat constructor))) ?_; refine tx_p 2 rfl (by kernel_rfl) (y_field rfl) rfl (fun _ _ _ h => h) (fun _ h => h.subl (SB.s (by repeat constructor)) (SB.s (by repeat constructor))) ?_; refine tx_qS 3 rfl (by kernel_rfl) (y_load1f rfl (hl1.at (by repeat constructor)) (MI.m (by repeat constructor)) (by simp) (by rfl)) rfl (fun _ _ _ h => h) (fun _ h => h.subl (SB.s (by repeat constructor)) (SB.s (by repeat constructor))) ?_; refine tx_p 4 rfl (by kernel_rfl) (y_move rfl) rfl (fun _ _ _ h => h) (fun _ h => h.subl (SB.s (by repeat constructor)) (SB.s (by repeat constructor))) ?_; refine tx_p 5 rfl (by kernel_rfl) (y_index rfl rfl (by omega) (hadg (by omega))) rfl (fun _ _ _ h => h) (fun _ h => h.subl (SB.s (by repeat constructor)) (SB.s (by repeat constructor))) ?_; ((refine tx_qS 6 rfl (by kernel_rfl) (y_loadNo (n := 3) (vs := [vi (s.sg.getD j sgt0).b, vi (s.sg.getD j sgt0).h, .bool (s.sg.getD j sgt0).wh]) rfl (fun w' hw' => by rw [show Int.toNat (j : Int) * 3 = j * 3 from by omega]; exact hcg w' [] (hw'.fr (w0 := w) (S := []) (MI.m (by repeat constructor))) (by simp) j (by omega))) rfl (fun _ _ _ h => h) (fun _ h => h.subl (SB.s (by repeat constructor)) (SB.s (by repeat constructor))) ?_))
                    all_goals refine tx_single 7 (by kernel_rfl) (to_e rfl rfl (e_bsliceG rfl (.agg rfl rfl .nil) rfl rfl) (.inr ⟨fun _ _ h => h.subl (SB.s (by repeat constructor)) (SB.s (by repeat constructor)), fun _ h => h⟩) (fun _ _ => ?_)); ((refine tx_single 8 (by kernel_rfl) (to_e rfl rfl (e_appendE (enc := sgE) (xs := sgQ s bn j) (ys := [s.sg.getD j sgt0]) sgE_len sgE_one rfl rfl rfl hok2 (fun _ => by repeat constructor) (fun w' hw' => RdS.own0 sgE_len hw' (by repeat constructor)) (by simp only [List.length_cons, List.length_nil]; omega) rfl) (.inr ⟨fun _ _ h => h.subl (SB.s (by repeat constructor)) (SB.s (by repeat constructor)), fun _ h => h⟩) (fun oo' hok' => ?_))))
                    all_goals refine tx_p 9 rfl (by kernel_rfl) (y_field rfl) rfl (fun _ _ _ h => h) (fun _ h => h.subl (SB.s (by repeat constructor)) (SB.s (by repeat constructor))) ?_; refine tx_single 10 (by kernel_rfl) (to_e (S' := HG [] []) rfl rfl (e_store1 rfl rfl (by repeat constructor) (by repeat constructor) (by rfl) (by rfl)) (.inl (by kernel_rfl)) (fun _ _ => ?_)); refine tx_done (by kernel_rfl) ?_; ((refine hK18 ?_; try (clear hK18; clear K18)))
                    all_goals refine tc_region ?_; refine tl_q (y_move rfl) rfl ?_; refine tl_q (y_add rfl rfl (by omega)) rfl ?_; refine tl_q (y_assign rfl) rfl ?_; refine tl_nil ?_
                    all_goals (
                     first
                     | (have hs := sgQ_yes (s := s) (b := (bn : Int)) hc
                        exact tk_round (j + 1, oo') ⟨by dsimp only; omega, by dsimp only; rw [hs]; exact hok'⟩ (by dsimp only; omega) (.cons rfl (.cons rfl (.cons rfl (.cons rfl .nil)))) (fun _ h => by dsimp only; rw [hs]; exact h.subl (SB.s (by repeat constructor)) (SB.s (by repeat constructor))))
                     | (have hs := sgQ_no (s := s) (b := (bn : Int)) hc
                        exact tk_round (j + 1, oo2) ⟨by dsimp only; omega, by dsimp only; rw [hs]; exact hok2⟩ (by dsimp only; omega) (.cons rfl (.cons rfl (.cons rfl (.cons rfl .nil)))) (fun _ h => by dsimp only; rw [hs]; exact h.subl (SB.s (by repeat constructor)) (SB.s (by repeat constructor)))))
                  · try simp only [decide_eq_true_eq, decide_eq_false_iff_not, Int.not_lt, Int.not_le, Bool.not_eq_true', Bool.not_eq_false', Decidable.not_not, not_true_eq_false] at hc
                    all_goals refine tc_skip ?_; ((refine hK18 ?_; try (clear hK18; clear K18)))
                    all_goals refine tc_region ?_; refine tl_q (y_move rfl) rfl ?_; refine tl_q (y_add rfl rfl (by omega)) rfl ?_; refine tl_q (y_assign rfl) rfl ?_; refine tl_nil ?_
                    all_goals (
                     first
                     | (have hs := sgQ_yes (s := s) (b := (bn : Int)) hc
                        exact tk_round (j + 1, oo') ⟨by dsimp only; omega, by dsimp only; rw [hs]; exact hok'⟩ (by dsimp only; omega) (.cons rfl (.cons rfl (.cons rfl (.cons rfl .nil)))) (fun _ h => by dsimp only; rw [hs]; exact h.subl (SB.s (by repeat constructor)) (SB.s (by repeat constructor))))
                     | (have hs := sgQ_no (s := s) (b := (bn : Int)) hc
                        exact tk_round (j + 1, oo2) ⟨by dsimp only; omega, by dsimp only; rw [hs]; exact hok2⟩ (by dsimp only; omega) (.cons rfl (.cons rfl (.cons rfl (.cons rfl .nil)))) (fun _ h => by dsimp only; rw [hs]; exact h.subl (SB.s (by repeat constructor)) (SB.s (by repeat constructor))))))
               · try simp only [decide_eq_true_eq, decide_eq_false_iff_not, Int.not_lt, Int.not_le, Bool.not_eq_true', Bool.not_eq_false', Decidable.not_not, not_true_eq_false] at hc
                 all_goals refine tc_exit ?_; ((refine hK14 ?_; try (clear hK14; clear K14)))
                 all_goals refine tc_seq fun K20 hK20 => ?_; refine tc_lay ([]) (SB.s .nil) (fun wl16 hl16 => ?_); (obtain rfl : k = s.ps.length := by omega)
                 all_goals (obtain rfl : j = s.sg.length := by omega)
                 all_goals (have hrx : RdSm wl16 (ownB s bn) (.slice adt s.st.length cpt) (ouV (psQ s bn s.ps.length).length oo) (ouV (sgQ s bn s.sg.length).length oo2) := ⟨hr0.st.fr (hl16.fr (w0 := w) (S := []) (MI.m (by repeat constructor))), RdS.ofO psE_len hok hl16 (by repeat constructor), RdS.ofO sgE_len hok2 hl16 (by repeat constructor)⟩)
                 all_goals refine tc_region ?_; refine tl_q (y_loadWf rfl (hl1.at (by repeat constructor)) (MI.m (by repeat constructor)) (by simp) (by rfl)) rfl ?_; refine tl_e (e_callX rfl (.cons rfl .nil) (fun w' hw' => lawSample_c s hf _ _ _ w' (hr0.fr (hw'.fr (w0 := w) (S := []) (MI.m (by repeat constructor)))))) rfl (fun x16 hx16 => ?_); refine tl_q (y_move rfl) rfl ?_; refine tl_e (e_callX rfl (.cons rfl (.cons rfl .nil)) (fun w' hw' => openersK_v ho1 hf _ _ _ w' (hx16.1.fr (hw'.calm hx16.2 (MI.m (by repeat constructor)) (SB.s (by repeat constructor)))))) rfl (fun o16 ho16 => ?_); refine tl_q (y_move rfl) rfl ?_; refine tl_q (y_extract rfl rfl) rfl ?_; refine tl_q (y_extract rfl rfl) rfl ?_; refine tl_q (y_assign rfl) rfl ?_; refine tl_q (y_assign rfl) rfl ?_; refine tl_nil ?_; ((refine hK20 ?_; try (clear hK20; clear K20)))
                 all_goals refine tc_seq fun K21 hK21 => ?_; refine tc_lay ([]) (SB.s .nil) (fun wl17 hl17 => ?_); refine tc_region ?_; refine tl_q (y_loadWf rfl (hl16.at (by repeat constructor)) (MI.m (by repeat constructor)) (by simp) (by rfl)) rfl ?_; refine tl_e (e_callX rfl (.cons rfl .nil) (fun w' hw' => lawSample_c (ownB s bn) hf' _ _ _ w' (hrx.fr (hw'.fr (w0 := wl16) (S := []) (MI.m (by repeat constructor)))))) rfl (fun x17 hx17 => ?_); refine tl_q (y_move rfl) rfl ?_; refine tl_e (e_callX rfl (.cons rfl (.cons rfl .nil)) (fun w' hw' => openersK_v ho2 hf' _ _ _ w' (hx17.1.fr (hw'.calm hx17.2 (MI.m (by repeat constructor)) (SB.s (by repeat constructor)))))) rfl (fun o17 ho17 => ?_); refine tl_q (y_move rfl) rfl ?_; refine tl_q (y_extract rfl rfl) rfl ?_; refine tl_q (y_extract rfl rfl) rfl ?_; refine tl_q (y_assign rfl) rfl ?_; refine tl_q (y_assign rfl) rfl ?_; refine tl_nil ?_; ((refine hK21 ?_; try (clear hK21; clear K21)))
                 all_goals refine tc_seq fun K22 hK22 => ?_; refine tc_lay ([]) (SB.s .nil) (fun wl18 hl18 => ?_); refine tc_region ?_; refine tl_q (y_loadWf rfl (hl1.at (by repeat constructor)) (MI.m (by repeat constructor)) (by simp) (by rfl)) rfl ?_; refine tl_e (e_callX rfl (.cons rfl .nil) (fun w' hw' => lawSample_c s hf _ _ _ w' (hr0.fr (hw'.fr (w0 := w) (S := []) (MI.m (by repeat constructor)))))) rfl (fun x18 hx18 => ?_); refine tl_e (e_callX rfl (.cons rfl .nil) (fun w' hw' => leastK_v hE hf _ _ _ w' (hx18.1.fr (hw'.calm hx18.2 (MI.m (by repeat constructor)) (SB.s (by repeat constructor)))))) rfl (fun l18 hl18 => ?_); refine tl_q (y_move rfl) rfl ?_; refine tl_q (y_extract rfl rfl) rfl ?_; refine tl_q (y_extract rfl rfl) rfl ?_; refine tl_q (y_assign rfl) rfl ?_; refine tl_q (y_assign rfl) rfl ?_; refine tl_nil ?_; ((refine hK22 ?_; try (clear hK22; clear K22)))
                 all_goals refine tc_seq fun K23 hK23 => ?_; refine tc_lay ([]) (SB.s .nil) (fun wl19 hl19 => ?_); refine tc_region ?_; refine tl_q (y_loadWf rfl (hl16.at (by repeat constructor)) (MI.m (by repeat constructor)) (by simp) (by rfl)) rfl ?_; refine tl_e (e_callX rfl (.cons rfl .nil) (fun w' hw' => lawSample_c (ownB s bn) hf' _ _ _ w' (hrx.fr (hw'.fr (w0 := wl16) (S := []) (MI.m (by repeat constructor)))))) rfl (fun x19 hx19 => ?_); refine tl_e (e_callX rfl (.cons rfl .nil) (fun w' hw' => leastK_v hE' hf' _ _ _ w' (hx19.1.fr (hw'.calm hx19.2 (MI.m (by repeat constructor)) (SB.s (by repeat constructor)))))) rfl (fun l19 hl19 => ?_); refine tl_q (y_move rfl) rfl ?_; refine tl_q (y_extract rfl rfl) rfl ?_; refine tl_q (y_extract rfl rfl) rfl ?_; refine tl_q (y_assign rfl) rfl ?_; refine tl_q (y_assign rfl) rfl ?_; refine tl_nil ?_; ((refine hK23 ?_; try (clear hK23; clear K23)))
                 all_goals refine tc_seq fun K24 hK24 => ?_; refine tc_seq fun K25 hK25 => ?_; refine tc_lay ([]) (SB.s .nil) (fun wl20 hl20 => ?_); ((obtain ⟨lb, lo, hadl, hcl⟩ := hl18.1.opensK2; obtain ⟨mb, mo, hadm, hcm⟩ := hl19.1.opensK2; have hadl' := hadl (by omega); have hadm' := hadm (by omega)))
                 all_goals refine tc_draw (by kernel_rfl) ?_; refine tx_p 0 rfl (by kernel_rfl) (y_move rfl) rfl (fun _ _ _ h => h) (fun _ h => h) ?_; refine tx_p 1 rfl (by kernel_rfl) (y_neq rfl rfl) rfl (fun _ _ _ h => h) (fun _ h => h) ?_; refine tx_p 2 rfl (by kernel_rfl) (y_move rfl) rfl (fun _ _ _ h => h) (fun _ h => h) ?_; refine tx_pg 3 rfl (by kernel_rfl) rfl rfl (y_move rfl) rfl (fun _ _ _ h => h) (fun _ h => h) ?_; refine tx_pg 4 rfl (by kernel_rfl) rfl rfl (y_neq rfl rfl) rfl (fun _ _ _ h => h) (fun _ h => h) ?_; refine tx_p 5 rfl (by kernel_rfl) (y_pick_f rfl rfl) rfl (fun _ _ _ h => h) (fun _ h => h) ?_; refine tx_norm (L' := [true, true, true, true, true, true, false, false, false, false, false, false, false, false, false, false, false, false, false, false, false, false, false, false, false, false, false, false, false, false, false, false, false, false, false, false, false, false, false, false, false, false, false, false, false]) (by kernel_rfl) ?_; refine tx_p 6 rfl (by kernel_rfl) (y_move rfl) rfl (fun _ _ _ h => h) (fun _ h => h) ?_; refine tx_pg 7 rfl (by kernel_rfl) rfl rfl (y_move rfl) rfl (fun _ _ _ h => h) (fun _ h => h) ?_; refine tx_pg 8 rfl (by kernel_rfl) rfl rfl (y_neq rfl rfl) rfl (fun _ _ _ h => h) (fun _ h => h) ?_; refine tx_p 9 rfl (by kernel_rfl) (y_pick_f rfl rfl) rfl (fun _ _ _ h => h) (fun _ h => h) ?_; refine tx_p 10 rfl (by kernel_rfl) (y_move rfl) rfl (fun _ _ _ h => h) (fun _ h => h) ?_; refine tx_pg 11 rfl (by kernel_rfl) rfl rfl (y_move rfl) rfl (fun _ _ _ h => h) (fun _ h => h) ?_; refine tx_norm (L' := [true, true, true, true, true, true, true, true, true, true, true, true, false, false, false, false, false, false, false, false, false, false, false, false, false, false, false, false, false, false, false, false, false, false, false, false, false, false, false, false, false, false, false, false, false]) (by kernel_rfl) ?_; refine tx_pg 12 rfl (by kernel_rfl) rfl rfl (y_neq rfl rfl) rfl (fun _ _ _ h => h) (fun _ h => h) ?_; refine tx_p 13 rfl (by kernel_rfl) (y_pick_f rfl rfl) rfl (fun _ _ _ h => h) (fun _ h => h) ?_; refine tx_p 14 rfl (by kernel_rfl) (y_move rfl) rfl (fun _ _ _ h => h) (fun _ h => h) ?_; refine tx_pg 15 rfl (by kernel_rfl) rfl rfl (y_move rfl) rfl (fun _ _ _ h => h) (fun _ h => h) ?_; refine tx_pg 16 rfl (by kernel_rfl) rfl rfl (y_move rfl) rfl (fun _ _ _ h => h) (fun _ h => h) ?_; refine tx_eg 17 rfl (by kernel_rfl) rfl rfl rfl (e_callV rfl (.cons rfl (.cons rfl .nil)) (fun w' hw' => sameK_v (own_opL ho1 ho2) (opL_len hv _) _ _ w' (ho16.1.fr (hw'.fr (w0 := o16.2) (S := []) (MI.m (by repeat constructor)))) (ho17.1.fr (hw'.fr (w0 := o17.2) (S := []) (MI.m (by repeat constructor)))))) (.inr fun _ _ h => h) (fun _ _ => ?_); refine tx_norm (L' := [true, true, true, true, true, true, true, true, true, true, true, true, true, true, true, true, true, true, false, false, false, false, false, false, false, false, false, false, false, false, false, false, false, false, false, false, false, false, false, false, false, false, false, false, false]) (by kernel_rfl) ?_; refine tx_pg 18 rfl (by kernel_rfl) rfl rfl (y_not rfl) rfl (fun _ _ _ h => h) (fun _ h => h) ?_; refine tx_p 19 rfl (by kernel_rfl) (y_pick_f rfl rfl) rfl (fun _ _ _ h => h) (fun _ h => h) ?_; refine tx_p 20 rfl (by kernel_rfl) (y_move rfl) rfl (fun _ _ _ h => h) (fun _ h => h) ?_; refine tx_pg 21 rfl (by kernel_rfl) rfl rfl (y_move rfl) rfl (fun _ _ _ h => h) (fun _ h => h) ?_; refine tx_qg 22 rfl (by kernel_rfl) rfl rfl (y_len rfl) rfl (fun _ _ _ h => h) (fun _ h => h) ?_; refine tx_pg 23 rfl (by kernel_rfl) rfl rfl (y_field rfl) rfl (fun _ _ _ h => h) (fun _ h => h) ?_; refine tx_norm (L' := [true, true, true, true, true, true, true, true, true, true, true, true, true, true, true, true, true, true, true, true, true, true, true, true, false, false, false, false, false, false, false, false, false, false, false, false, false, false, false, false, false, false, false, false, false]) (by kernel_rfl) ?_; refine tx_qg 24 rfl (by kernel_rfl) rfl rfl (y_load1f rfl (hl1.at (by repeat constructor)) (MI.m (by repeat constructor)) (by simp) (by rfl)) rfl (fun _ _ _ h => h) (fun _ h => h) ?_; refine tx_pg 25 rfl (by kernel_rfl) rfl rfl (y_neq rfl rfl) rfl (fun _ _ _ h => h) (fun _ h => h) ?_; refine tx_p 26 rfl (by kernel_rfl) (y_pick_f rfl rfl) rfl (fun _ _ _ h => h) (fun _ h => h) ?_; refine tx_p 27 rfl (by kernel_rfl) (y_move rfl) rfl (fun _ _ _ h => h) (fun _ h => h) ?_; ((refine tx_gs 142 rfl (fun hc => ?_) (fun hc => ?_) <;> (try simp only [decide_eq_true_eq, decide_eq_false_iff_not, Int.not_lt, Int.not_le, Bool.not_eq_true', Bool.not_eq_false', Decidable.not_not, not_true_eq_false] at hc) <;> (first | (exfalso; omega) | refine tx_pg 28 rfl (by kernel_rfl) rfl rfl (y_move rfl) rfl (fun _ _ _ h => h) (fun _ h => h) ?_)))
                 all_goals (refine tx_qg 29 rfl (by kernel_rfl) rfl rfl (y_len rfl) rfl (fun _ _ _ h => h) (fun _ h => h) ?_); refine tx_norm (L' := [true, true, true, true, true, true, true, true, true, true, true, true, true, true, true, true, true, true, true, true, true, true, true, true, true, true, true, true, true, true, false, false, false, false, false, false, false, false, false, false, false, false, false, false, false]) (by kernel_rfl) ?_; refine tx_pg 30 rfl (by kernel_rfl) rfl rfl (y_field rfl) rfl (fun _ _ _ h => h) (fun _ h => h) ?_; refine tx_qg 31 rfl (by kernel_rfl) rfl rfl (y_load1f rfl (hl1.at (by repeat constructor)) (MI.m (by repeat constructor)) (by simp) (by rfl)) rfl (fun _ _ _ h => h) (fun _ h => h) ?_; refine tx_pg 32 rfl (by kernel_rfl) rfl rfl (y_neq rfl rfl) rfl (fun _ _ _ h => h) (fun _ h => h) ?_; refine tx_p 33 rfl (by kernel_rfl) (y_pick_f rfl rfl) rfl (fun _ _ _ h => h) (fun _ h => h) ?_; refine tx_p 34 rfl (by kernel_rfl) (y_move rfl) rfl (fun _ _ _ h => h) (fun _ h => h) ?_; ((refine tx_gs 149 rfl (fun hc => ?_) (fun hc => ?_) <;> (try simp only [decide_eq_true_eq, decide_eq_false_iff_not, Int.not_lt, Int.not_le, Bool.not_eq_true', Bool.not_eq_false', Decidable.not_not, not_true_eq_false] at hc) <;> (first | (exfalso; omega) | refine tx_pg 35 rfl (by kernel_rfl) rfl rfl (y_move rfl) rfl (fun _ _ _ h => h) (fun _ h => h) ?_)))
                 all_goals refine tx_norm (L' := [true, true, true, true, true, true, true, true, true, true, true, true, true, true, true, true, true, true, true, true, true, true, true, true, true, true, true, true, true, true, true, true, true, true, true, true, false, false, false, false, false, false, false, false, false]) (by kernel_rfl) ?_; refine tx_pg 36 rfl (by kernel_rfl) rfl rfl (y_move rfl) rfl (fun _ _ _ h => h) (fun _ h => h) ?_; refine tx_pg 37 rfl (by kernel_rfl) rfl rfl (y_index rfl rfl (by omega) hadl') rfl (fun _ _ _ h => h) (fun _ h => h) ?_; ((refine tx_qg 38 rfl (by kernel_rfl) rfl rfl (y_load1o (v := vi (askF s bn).least) rfl (fun w' hw' => by rw [show Int.toNat (bn : Int) * 1 = bn from by omega, ← hlg]; exact hcl w' (hw'.fr (w0 := l18.2) (S := []) (MI.m (by repeat constructor))) bn (by omega))) rfl (fun _ _ _ h => h) (fun _ h => h) ?_))
                 all_goals (refine tx_pg 39 rfl (by kernel_rfl) rfl rfl (y_move rfl) rfl (fun _ _ _ h => h) (fun _ h => h) ?_); refine tx_pg 40 rfl (by kernel_rfl) rfl rfl (y_move rfl) rfl (fun _ _ _ h => h) (fun _ h => h) ?_; refine tx_pg 41 rfl (by kernel_rfl) rfl rfl (y_index rfl rfl (by omega) hadm') rfl (fun _ _ _ h => h) (fun _ h => h) ?_; refine tx_norm (L' := [true, true, true, true, true, true, true, true, true, true, true, true, true, true, true, true, true, true, true, true, true, true, true, true, true, true, true, true, true, true, true, true, true, true, true, true, true, true, true, true, true, true, false, false, false]) (by kernel_rfl) ?_; ((refine tx_qg 42 rfl (by kernel_rfl) rfl rfl (y_load1o (v := vi (askF s bn).least) rfl (fun w' hw' => by rw [show Int.toNat (bn : Int) * 1 = bn from by omega, ← hlg']; exact hcm w' (hw'.fr (w0 := l19.2) (S := []) (MI.m (by repeat constructor))) bn (by omega))) rfl (fun _ _ _ h => h) (fun _ h => h) ?_))
                 all_goals (refine tx_pg 43 rfl (by kernel_rfl) rfl rfl (y_neq rfl rfl) rfl (fun _ _ _ h => h) (fun _ h => h) ?_); refine tx_p 44 rfl (by kernel_rfl) (y_pick_f rfl rfl) rfl (fun _ _ _ h => h) (fun _ h => h) ?_; refine tx_done (by kernel_rfl) ?_; ((refine hK25 ?_; try (clear hK25; clear K25)))
                 all_goals (
                  refine tc_cond rfl (fun hc => ?_) (fun hc => ?_)
                  · try simp only [decide_eq_true_eq, decide_eq_false_iff_not, Int.not_lt, Int.not_le, Bool.not_eq_true', Bool.not_eq_false', Decidable.not_not, not_true_eq_false] at hc
                  · try simp only [decide_eq_true_eq, decide_eq_false_iff_not, Int.not_lt, Int.not_le, Bool.not_eq_true', Bool.not_eq_false', Decidable.not_not, not_true_eq_false] at hc
                    all_goals refine tc_skip ?_; ((refine hK24 ?_; try (clear hK24; clear K24)))
                    all_goals refine tc_seq fun K27 hK27 => ?_; refine tc_seq fun K28 hK28 => ?_; refine tc_lay ([]) (SB.s .nil) (fun wl22 hl22 => ?_); refine tc_region ?_; refine tl_q (y_assign rfl) rfl ?_; refine tl_nil ?_; ((refine hK28 ?_; try (clear hK28; clear K28)))
                    all_goals refine tc_block ?_
                    all_goals (
                     refine tc_loop (fun h : Nat => (h : Int) ≤ s.L + 1) (fun h => [(2, ptr b2), (5, vi bn), (6, ptr b6), (17, vi h)]) (fun _ => [(wl16, []), (wl1, []), (w, [])]) (fun _ => []) (fun h => (s.L + 1).toNat - h) ?_ ?_
                     · exact tk_start 0 (by omega) (.cons rfl (.cons rfl (.cons rfl (.cons rfl .nil)))) (fun _ h => h.subl (SB.s (by repeat constructor)) (SB.s (by repeat constructor)))
                     · rintro h hh
                       all_goals refine tc_seq fun K29 hK29 => ?_; refine tc_seq fun K30 hK30 => ?_; refine tc_lay ([]) (SB.s .nil) (fun wl23 hl23 => ?_); refine tc_region ?_; refine tl_q (y_move rfl) rfl ?_; refine tl_q (y_field rfl) rfl ?_; refine tl_q (y_load1f rfl (hl1.at (by repeat constructor)) (MI.m (by repeat constructor)) (by simp) (by rfl)) rfl ?_; refine tl_q (y_leq rfl rfl) rfl ?_; refine tl_nil ?_; ((refine hK30 ?_; try (clear hK30; clear K30)))
                       all_goals (
                        refine tc_cond rfl (fun hc => ?_) (fun hc => ?_)
                        · try simp only [decide_eq_true_eq, decide_eq_false_iff_not, Int.not_lt, Int.not_le, Bool.not_eq_true', Bool.not_eq_false', Decidable.not_not, not_true_eq_false] at hc
                          all_goals refine tc_skip ?_; ((refine hK29 ?_; try (clear hK29; clear K29)))
                          all_goals refine tc_seq fun K31 hK31 => ?_; refine tc_block ?_; refine tc_seq fun K32 hK32 => ?_; refine tc_lay ([]) (SB.s .nil) (fun wl25 hl25 => ?_); ((have hh1 := hdE_ok hv hcs (b := (bn : Int)) (h := (h : Int)) (by omega) (by omega); have hh2 := hdE_ok hv' hcs' (b := (bn : Int)) (h := (h : Int)) ⟨by omega, by show (bn : Int) < s.B; omega⟩ ⟨by omega, by show (h : Int) ≤ s.L; omega⟩))
                          all_goals refine tc_region ?_; refine tl_q (y_loadWf rfl (hl1.at (by repeat constructor)) (MI.m (by repeat constructor)) (by simp) (by rfl)) rfl ?_; refine tl_e (e_callX rfl (.cons rfl .nil) (fun w' hw' => lawSample_c s hf _ _ _ w' (hr0.fr (hw'.fr (w0 := w) (S := []) (MI.m (by repeat constructor)))))) rfl (fun x25 hx25 => ?_); refine tl_q (y_move rfl) rfl ?_; refine tl_q (y_move rfl) rfl ?_; refine tl_e (e_callX rfl (.cons rfl (.cons rfl (.cons rfl .nil))) (fun w' hw' => holdersK_v hh1 hf _ _ _ w' (hx25.1.fr (hw'.calm hx25.2 (MI.m (by repeat constructor)) (SB.s (by repeat constructor)))))) rfl (fun y25 h25 => ?_); refine tl_q (y_move rfl) rfl ?_; refine tl_q (y_extract rfl rfl) rfl ?_; refine tl_q (y_extract rfl rfl) rfl ?_; refine tl_q (y_assign rfl) rfl ?_; refine tl_q (y_assign rfl) rfl ?_; refine tl_nil ?_; ((refine hK32 ?_; try (clear hK32; clear K32)))
                          all_goals refine tc_seq fun K33 hK33 => ?_; refine tc_lay ([]) (SB.s .nil) (fun wl26 hl26 => ?_); refine tc_region ?_; refine tl_q (y_loadWf rfl (hl16.at (by repeat constructor)) (MI.m (by repeat constructor)) (by simp) (by rfl)) rfl ?_; refine tl_e (e_callX rfl (.cons rfl .nil) (fun w' hw' => lawSample_c (ownB s bn) hf' _ _ _ w' (hrx.fr (hw'.fr (w0 := wl16) (S := []) (MI.m (by repeat constructor)))))) rfl (fun x26 hx26 => ?_); refine tl_q (y_move rfl) rfl ?_; refine tl_q (y_move rfl) rfl ?_; refine tl_e (e_callX rfl (.cons rfl (.cons rfl (.cons rfl .nil))) (fun w' hw' => holdersK_v hh2 hf' _ _ _ w' (hx26.1.fr (hw'.calm hx26.2 (MI.m (by repeat constructor)) (SB.s (by repeat constructor)))))) rfl (fun y26 h26 => ?_); refine tl_q (y_move rfl) rfl ?_; refine tl_q (y_extract rfl rfl) rfl ?_; refine tl_q (y_extract rfl rfl) rfl ?_; refine tl_q (y_assign rfl) rfl ?_; refine tl_q (y_assign rfl) rfl ?_; refine tl_nil ?_; ((refine hK33 ?_; try (clear hK33; clear K33)))
                          all_goals refine tc_seq fun K34 hK34 => ?_; refine tc_lay ([]) (SB.s .nil) (fun wl27 hl27 => ?_); refine tc_region ?_; refine tl_q (y_move rfl) rfl ?_; refine tl_q (y_neq rfl rfl) rfl ?_; refine tl_q (y_move rfl) rfl ?_; refine tl_qg rfl rfl (y_move rfl) rfl ?_; refine tl_qg rfl rfl (y_neq rfl rfl) rfl ?_; refine tl_q (y_pick_f rfl rfl) rfl ?_; refine tl_q (y_move rfl) rfl ?_; refine tl_qg rfl rfl (y_move rfl) rfl ?_; refine tl_qg rfl rfl (y_move rfl) rfl ?_; refine tl_eg rfl rfl rfl (e_callV rfl (.cons rfl (.cons rfl .nil)) (fun w' hw' => sameK_v (own_hdL hh1 hh2) (hdL_len hv _ _) _ _ w' (h25.1.fr (hw'.fr (w0 := y25.2) (S := []) (MI.m (by repeat constructor)))) (h26.1.fr (hw'.fr (w0 := y26.2) (S := []) (MI.m (by repeat constructor)))))) (fun _ _ => ?_); refine tl_qg rfl rfl (y_not rfl) rfl ?_; refine tl_q (y_pick_f rfl rfl) rfl ?_; refine tl_nil ?_; ((refine hK34 ?_; try (clear hK34; clear K34)))
                          all_goals (
                           refine tc_cond rfl (fun hc => ?_) (fun hc => ?_)
                           · try simp only [decide_eq_true_eq, decide_eq_false_iff_not, Int.not_lt, Int.not_le, Bool.not_eq_true', Bool.not_eq_false', Decidable.not_not, not_true_eq_false] at hc
                             all_goals ((exfalso; with_reducible exact btf hc))
                           · try simp only [decide_eq_true_eq, decide_eq_false_iff_not, Int.not_lt, Int.not_le, Bool.not_eq_true', Bool.not_eq_false', Decidable.not_not, not_true_eq_false] at hc
                             all_goals refine tc_skip ?_; ((refine hK31 ?_; try (clear hK31; clear K31)))
                             all_goals refine tc_lay ([]) (SB.s .nil) (fun wl24 hl24 => ?_); refine tc_region ?_; refine tl_q (y_move rfl) rfl ?_; refine tl_q (y_add rfl rfl (by omega)) rfl ?_; refine tl_q (y_assign rfl) rfl ?_; refine tl_nil ?_
                             all_goals (
                              exact tk_round (h + 1) (by omega) (by omega) (.cons rfl (.cons rfl (.cons rfl (.cons rfl .nil)))) (fun _ h => h.subl (SB.s (by repeat constructor)) (SB.s (by repeat constructor)))))
                        · try simp only [decide_eq_true_eq, decide_eq_false_iff_not, Int.not_lt, Int.not_le, Bool.not_eq_true', Bool.not_eq_false', Decidable.not_not, not_true_eq_false] at hc
                          all_goals refine tc_exit ?_; ((refine hK27 ?_; try (clear hK27; clear K27)))
                          all_goals refine tc_seq fun K36 hK36 => ?_; refine tc_lay ([]) (SB.s .nil) (fun wl29 hl29 => ?_); refine tc_region ?_; refine tl_e (e_callV rfl .nil (fun w' _ => awake_c w')) rfl (fun _ _ => ?_); refine tl_q (y_assign rfl) rfl ?_; refine tl_nil ?_; ((refine hK36 ?_; try (clear hK36; clear K36)))
                          all_goals refine tc_ret ?_; (repeat (first | refine tk_then_ret ?_))
                          all_goals (refine tk_ret rfl rfl (.cons (.tmp rfl) .nil) ?_)
                          all_goals (
                           exact fun w' hw' => ⟨rfl, hw'.fr (w0 := w) (S := []) (MI.m (by repeat constructor))⟩)))))))))
end Go.Sp
/-
  From a contract of a law's function to its row: what the arguments read as, and that they read so afterwards.
-/
namespace Go.Sp
open Go Go.Proofs Go.ChangeShapes Go.WideShapes Go.RowKit
section
variable {H : Type} {enc : TypeId × Value → H} {P : Program} {w : World} {base : Nat} {spare : Nat → Bool} {held : Bool}
theorem Fr.kept {W W' : World} (h : Fr [] W W') (p : MemPlace → Prop) : W.keptBut W' p :=
  ⟨h.os, h.output, fun i hi => by
    have e := h.block i hi (by simp)
    rw [e]
    cases hb : W.heap[i]? with
    | none => trivial
    | some o => cases o <;> simp⟩
/-- What is left of a post without 'again'. -/
theorem post_na {f : Func} {s : ChangeSpec} {apart fresh handsOn : Bool} {W W' : World} {args : Array Value} {v : Value} {ds gs : List (DataW H)} {before pa pv : List MemPlace}
    (hW : DataW.Whole enc P f.params.toList s.vars apart W args.toList ds gs before)
    (hres : ∀ (b : Nat) (sp : Nat → Bool) (hd : Bool), DataW.TrodAll enc P W' b sp hd f.resultTypes.toList (v.resultList f.resultTypes.size) (s.fn H (ds ++ gs)).results [])
    (hargs : ∀ sp : Nat → Bool, (∀ p ∈ before, sp p.block = true) → DataW.TrodAll enc P W' 0 sp true f.params.toList args.toList (s.fn H (ds ++ gs)).args pa)
    (hvars : ∀ sp : Nat → Bool, (∀ p ∈ before, sp p.block = true) → DataW.TrodVars enc P W' sp s.vars (s.fn H (ds ++ gs)).vars pv)
    (hps : before = pa ++ pv) (hk : W.keptBut W' (· ∈ before)) : s.post enc P f apart fresh handsOn false W args v W' := by
  have hold : ∀ p ∈ before, (fun b => decide (b < W.heap.size)) p.block = true := fun p hp => by simpa using hW.lt p hp
  refine ⟨ds, gs, before, [], pa, pv, hW, hres _ _ _, hargs _ hold, hvars _ hold, World.keptBut_mono (fun p hp => ⟨hp, ?_⟩) hk, fun h => by cases h⟩
  rw [hps, List.mem_append] at hp
  exact Or.inr hp
theorem all_stays (hl : laidOutB P = true) {W W' : World} {sp : Nat → Bool} (hb : Below W.heap.size W W') : ∀ {ts : List TypeId} {vs : List Value} {ds : List (DataW H)} {ps : List MemPlace}, (ts.all fun t => P.readableRec t && decide (t < P.types.size)) = true →
    DataW.TrodAll enc P W 0 (fun _ => true) true ts vs ds ps → (∀ p ∈ ps, sp p.block = true) → DataW.TrodAll enc P W' 0 sp true ts vs ds ps := by
  intro ts
  induction ts with
  | nil => intro vs ds ps _ h _; cases vs <;> cases ds <;> simp [DataW.TrodAll] at h ⊢; exact h
  | cons t ts ih =>
    intro vs ds ps ht h hs
    have hlt := h.lt
    obtain ⟨v, vs', d, ds', p, q, rfl, rfl, rfl, h1, h2⟩ := trodAll_cons h
    simp only [List.all_cons, Bool.and_eq_true, decide_eq_true_eq] at ht
    exact ⟨p, q, WideElems.Trod_stays hl ht.1.1 ht.1.2 h1 (fun x hx => hb.same (hlt x (List.mem_append_left _ hx))) (fun x hx => hs x (List.mem_append_left _ hx)),
      ih (by simpa using ht.2) h2 (fun x hx => hs x (List.mem_append_right _ hx)), rfl⟩
/-- A slice reads as the cells of its elements, each of which reads. -/
theorem slice_reads {t e : TypeId} {fuel : Nat} {cs : List Value} {x : DataW H × List MemPlace} (ht : P.underlying t = some (.slice e)) (hc : 0 < P.cellsOf e) (h : DataW.trod enc P w base spare held fuel t cs = some x) :
    ∃ ad cap, ∃ ess : List (List Value), cs = [.slice ad ess.length cap] ∧ ess.length ≤ maxLen ∧ Reads w (.slice ad ess.length cap) (P.cellsOf e) ess.length ess.flatten ∧ ∀ es ∈ ess, ∃ m y, DataW.trod enc P w base spare held m e es = some y := by
  rcases DataW.trod_slice ht h with ⟨rfl, _⟩ | ⟨a, len, cap, elems, rest, n, _, rfl, _, hb, hl, hm, hlen, hel, _, _⟩
  · exact ⟨none, 0, [], rfl, Nat.zero_le _, ⟨by simp, none, 0, rfl, fun h => absurd rfl h⟩, by simp⟩
  · -- the cells of each element
    have hone : ∀ i, i < len → ∃ es y, w.cells? base (a.add (i * P.cellsOf e)) (P.cellsOf e) = some es ∧ DataW.trod enc P w base spare held n e es = some y := fun i hi => by
      have h1 := hel i hi
      rw [List.getElem?_eq_getElem (by omega)] at h1
      obtain ⟨es, h2, h3⟩ := Option.bind_eq_some_iff.1 h1
      exact ⟨es, _, h2, h3⟩
    have hadd : ∀ m, a.spot = none → a.add m = ⟨a.block, a.off + m, none⟩ := fun m hs => by
      obtain ⟨b, o, sp⟩ := a
      simp only at hs
      subst hs
      unfold Addr.add; split
      · rename_i h0; subst h0; rfl
      · rfl
    have hsp0 : 0 < len → a.spot = none := fun h0 => by
      obtain ⟨es, y, g1, g2⟩ := hone 0 h0
      obtain ⟨_, hl1, hat⟩ := World.cells?_some g1
      have := hat 0 hc
      rw [List.getElem?_eq_getElem (by omega), Nat.zero_mul, show (a.add 0).add 0 = a from rfl] at this
      unfold World.cell? at this
      split at this
      · split at this
        · cases this
        · rename_i hs; simpa using hs
      · cases this
    have hcell : ∀ k, k ≤ len → ∃ ess : List (List Value), ess.length = k ∧ (∀ es ∈ ess, ∃ m y, DataW.trod enc P w base spare held m e es = some y) ∧ ess.flatten.length = k * P.cellsOf e ∧
        (k ≠ 0 → a.spot = none) ∧ ∀ j v, ess.flatten[j]? = some v → w.cell? ⟨a.block, a.off + j, none⟩ = some v := by
      intro k
      induction k with
      | zero => intro _; exact ⟨[], rfl, by simp, by simp, fun h => absurd rfl h, by simp⟩
      | succ k ih =>
        intro hk
        obtain ⟨ess, h1, h2, h3, h4, h5⟩ := ih (by omega)
        obtain ⟨es, y, g1, g2⟩ := hone k (by omega)
        obtain ⟨_, hl1, hat⟩ := World.cells?_some g1
        have hspot : a.spot = none := hsp0 (by omega)
        refine ⟨ess ++ [es], by simp [h1], fun u hu => ?_, ?_, fun _ => hspot, fun j v hv => ?_⟩
        · rcases List.mem_append.1 hu with hu | hu
          · exact h2 u hu
          · obtain rfl := List.mem_singleton.1 hu; exact ⟨n, y, g2⟩
        · rw [List.flatten_append, List.length_append, h3]; simp [hl1]; rw [Nat.add_mul]; omega
        · rw [List.flatten_append] at hv
          by_cases hj : j < ess.flatten.length
          · rw [List.getElem?_append_left hj] at hv; exact h5 j v hv
          · rw [List.getElem?_append_right (by omega)] at hv
            simp only [List.flatten_cons, List.flatten_nil, List.append_nil] at hv
            have hjl : j - ess.flatten.length < es.length := (List.getElem?_eq_some_iff.1 hv).1
            have := hat (j - ess.flatten.length) (by omega)
            rw [hv, hadd _ hspot] at this
            have e2 : (⟨a.block, a.off + k * P.cellsOf e, none⟩ : Addr).add (j - ess.flatten.length) = ⟨a.block, a.off + j, none⟩ := by
              unfold Addr.add; split
              · rename_i h0; simp only [Addr.mk.injEq, true_and, and_true]; omega
              · simp only [Addr.mk.injEq, true_and, and_true]; omega
            rw [e2] at this
            exact this
    obtain ⟨ess, h1, h2, h3, h4, h5⟩ := hcell len (Nat.le_refl _)
    subst h1
    refine ⟨some a, cap, ess, rfl, by omega, ⟨h3, _, _, rfl, fun hn => ⟨a.block, a.off, ?_, ?_⟩⟩, h2⟩
    · have := h4 hn
      obtain ⟨b, o, sp⟩ := a
      simp only at this
      subst this
      rfl
    · rw [← h3]
      generalize ess.flatten = vs at h5
      have key : ∀ (vs : List Value) (o : Nat), (∀ j v, vs[j]? = some v → w.cell? ⟨a.block, o + j, none⟩ = some v) → CA (fun k => w.cell? ⟨a.block, k, none⟩) o vs.length vs := by
        intro vs
        induction vs with
        | nil => intro o _; exact .nil
        | cons v vs ih => intro o hv; exact .cons (hv 0 v rfl) (ih (o + 1) fun j u hu => by rw [Nat.add_assoc, Nat.add_comm 1 j]; exact hv (j + 1) u hu)
      exact key vs a.off h5
theorem exists_map {α β : Type} {f : α → β} {q : α → Prop} : ∀ (l : List β), (∀ y ∈ l, ∃ x, y = f x ∧ q x) → ∃ xs : List α, l = xs.map f ∧ ∀ x ∈ xs, q x
  | [], _ => ⟨[], rfl, by simp⟩
  | y :: l, h => by
    obtain ⟨x, rfl, hq⟩ := h y List.mem_cons_self
    obtain ⟨xs, rfl, hxs⟩ := exists_map l (fun z hz => h z (List.mem_cons_of_mem _ hz))
    exact ⟨x :: xs, rfl, fun z hz => by rcases List.mem_cons.1 hz with rfl | hz; exact hq; exact hxs z hz⟩
/-- The fields of a struct. -/
theorem fields_reads {t : TypeId} {fs : Array Field} {fuel : Nat} {cs : List Value} {x : DataW H × List MemPlace} (ht : P.underlying t = some (.struct fs)) (h : DataW.trod enc P w base spare held fuel t cs = some x) :
    cs.length = P.cellsOf t ∧ ∀ (i : Nat) (f : Field), fs[i]? = some f → ∃ m y, DataW.trod enc P w base spare held m f.type ((cs.drop f.offset).take (P.cellsOf f.type)) = some y := by
  obtain ⟨xs, n, _, _, hl, hx, hf⟩ := DataW.trod_struct ht h
  refine ⟨hl, fun i f hi => ?_⟩
  have := hf i f hi
  have hlt : i < fs.size := (Array.getElem?_eq_some_iff.1 hi).1
  rw [List.getElem?_eq_getElem (by omega)] at this
  exact ⟨n, _, this⟩
def flds (enc : TypeId × Value → H) (P : Program) (w : World) (base : Nat) (spare : Nat → Bool) (held : Bool) (cs : List Value) : List Field → Prop
  | [] => True
  | f :: fs => (∃ m y, DataW.trod enc P w base spare held m f.type ((cs.drop f.offset).take (P.cellsOf f.type)) = some y) ∧ flds enc P w base spare held cs fs
theorem fields_list {t : TypeId} {l : List Field} {fuel : Nat} {cs : List Value} {x : DataW H × List MemPlace} (ht : P.underlying t = some (.struct l.toArray)) (h : DataW.trod enc P w base spare held fuel t cs = some x) :
    cs.length = P.cellsOf t ∧ flds enc P w base spare held cs l := by
  obtain ⟨hl, hf⟩ := fields_reads ht h
  refine ⟨hl, ?_⟩
  have key : ∀ l' : List Field, (∀ f ∈ l', f ∈ l) → flds enc P w base spare held cs l' := by
    intro l'
    induction l' with
    | nil => intro _; trivial
    | cons f fs ih =>
      intro hm
      obtain ⟨i, hi, e⟩ := List.getElem_of_mem (hm f List.mem_cons_self)
      exact ⟨hf i f (by simp [hi, e]), ih fun g hg => hm g (List.mem_cons_of_mem _ hg)⟩
  exact key l fun _ h => h
end
end Go.Sp
/-
  What a sample reads as.
-/
namespace Go.Sp
open Go Go.Proofs Go.ChangeShapes Go.WideShapes Go.RowKit
theorem laidTryz : laidOutB Tryz.prog = true := by kernel_rfl
theorem cells_3 : Tryz.prog.cellsOf 3 = 1 := by kernel_rfl
theorem cells_4 : Tryz.prog.cellsOf 4 = 1 := by kernel_rfl
theorem cells_22 : Tryz.prog.cellsOf 22 = 1 := by kernel_rfl
theorem cells_23 : Tryz.prog.cellsOf 23 = 1 := by kernel_rfl
theorem cells_24 : Tryz.prog.cellsOf 24 = 1 := by kernel_rfl
theorem cells_77 : Tryz.prog.cellsOf 77 = 5 := by kernel_rfl
theorem cells_75 : Tryz.prog.cellsOf 75 = 2 := by kernel_rfl
theorem cells_65 : Tryz.prog.cellsOf 65 = 3 := by kernel_rfl
theorem cells_26 : Tryz.prog.cellsOf 26 = 7 := by kernel_rfl
theorem wf64 {n : Int} (h : (Lit.int .i64 n).wf = true) : -9223372036854775808 ≤ n ∧ n ≤ 9223372036854775807 := by
  simpa [Lit.wf, IntKind.min, IntKind.max, IntKind.signed, IntKind.bits] using h
theorem wf8 {n : Int} (h : (Lit.int .u8 n).wf = true) : 0 ≤ n ∧ n ≤ 255 := by
  simpa [Lit.wf, IntKind.min, IntKind.max, IntKind.signed, IntKind.bits] using h
abbrev Bd (n : Int) : Prop := -9223372036854775808 ≤ n ∧ n ≤ 9223372036854775807
theorem two' {α : Type} {l : List α} (h : l.length = 2) : ∃ a b, l = [a, b] := by
  match l, h with
  | [a, b], _ => exact ⟨a, b, rfl⟩
theorem three' {α : Type} {l : List α} (h : l.length = 3) : ∃ a b c, l = [a, b, c] := by
  match l, h with
  | [a, b, c], _ => exact ⟨a, b, c, rfl⟩
theorem five' {α : Type} {l : List α} (h : l.length = 5) : ∃ a b c d e, l = [a, b, c, d, e] := by
  match l, h with
  | [a, b, c, d, e], _ => exact ⟨a, b, c, d, e, rfl⟩
theorem seven' {α : Type} {l : List α} (h : l.length = 7) : ∃ a b c d e f g, l = [a, b, c, d, e, f, g] := by
  match l, h with
  | [a, b, c, d, e, f, g], _ => exact ⟨a, b, c, d, e, f, g, rfl⟩
theorem flatten_map {α : Type} (enc : α → List Value) (xs : List α) : (xs.map enc).flatten = xs.flatMap enc := rfl
section
variable {H : Type} {enc : TypeId × Value → H} {w : World} {base : Nat} {spare : Nat → Bool} {held : Bool}
theorem bools_reads {fuel : Nat} {cs : List Value} {x : DataW H × List MemPlace} (h : DataW.trod enc Tryz.prog w base spare held fuel 22 cs = some x) :
    ∃ (sl : Value) (l : List Bool), cs = [sl] ∧ RdS 1 boE w sl l ∧ l.length ≤ maxLen := by
  obtain ⟨ad, cap, ess, rfl, hm, hr, hes⟩ := slice_reads Tryz.underlying22 (by rw [cells_4]; decide) h
  obtain ⟨xs, rfl, hxs⟩ := exists_map (f := boE) (q := fun _ => True) ess (fun es h => by
    obtain ⟨m, y, hy⟩ := hes es h
    obtain ⟨b, rfl, _⟩ := DataW.trod_bool Tryz.underlying4 hy
    exact ⟨b, rfl, trivial⟩)
  rw [flatten_map, cells_4] at hr
  simp only [List.length_map] at hr hm
  exact ⟨_, xs, by simp, hr, hm⟩
theorem rng_reads {fuel : Nat} {cs : List Value} {x : DataW H × List MemPlace} (h : DataW.trod enc Tryz.prog w base spare held fuel 75 cs = some x) :
    ∃ a b : Int, cs = [vi a, vi b] ∧ Bd a ∧ Bd b := by
  obtain ⟨hl, hf⟩ := fields_list Tryz.underlying75 h
  rw [cells_75] at hl
  obtain ⟨c0, c1, rfl⟩ := two' hl
  obtain ⟨⟨_, _, f0⟩, ⟨_, _, f1⟩, _⟩ := hf
  rw [cells_3] at f0 f1
  obtain ⟨n0, e0, _, w0⟩ := DataW.trod_int Tryz.underlying3 f0
  obtain ⟨n1, e1, _, w1⟩ := DataW.trod_int Tryz.underlying3 f1
  simp at e0 e1
  subst e0; subst e1
  exact ⟨n0, n1, rfl, wf64 w0, wf64 w1⟩
theorem pas_reads {fuel : Nat} {cs : List Value} {x : DataW H × List MemPlace} (h : DataW.trod enc Tryz.prog w base spare held fuel 77 cs = some x) :
    ∃ p : Pas, cs = psE p := by
  obtain ⟨hl, hf⟩ := fields_list Tryz.underlying77 h
  rw [cells_77] at hl
  obtain ⟨c0, c1, c2, c3, c4, rfl⟩ := five' hl
  obtain ⟨⟨_, _, f0⟩, ⟨_, _, f1⟩, ⟨_, _, f2⟩, ⟨_, _, f3⟩, _⟩ := hf
  rw [cells_3] at f0 f1 f2
  rw [cells_75] at f3
  obtain ⟨n0, e0, _, w0⟩ := DataW.trod_int Tryz.underlying3 f0
  obtain ⟨n1, e1, _, w1⟩ := DataW.trod_int Tryz.underlying3 f1
  obtain ⟨n2, e2, _, w2⟩ := DataW.trod_int Tryz.underlying3 f2
  obtain ⟨a, b, e3, _, _⟩ := rng_reads f3
  simp at e0 e1 e2 e3
  obtain ⟨rfl, rfl⟩ := e3
  subst e0; subst e1; subst e2
  exact ⟨⟨n0, n1, n2, a, b⟩, rfl⟩
theorem sgt_reads {fuel : Nat} {cs : List Value} {x : DataW H × List MemPlace} (h : DataW.trod enc Tryz.prog w base spare held fuel 65 cs = some x) :
    ∃ g : Sgt, cs = sgE g := by
  obtain ⟨hl, hf⟩ := fields_list Tryz.underlying65 h
  rw [cells_65] at hl
  obtain ⟨c0, c1, c2, rfl⟩ := three' hl
  obtain ⟨⟨_, _, f0⟩, ⟨_, _, f1⟩, ⟨_, _, f2⟩, _⟩ := hf
  rw [cells_3] at f0 f1
  rw [cells_4] at f2
  obtain ⟨n0, e0, _, w0⟩ := DataW.trod_int Tryz.underlying3 f0
  obtain ⟨n1, e1, _, w1⟩ := DataW.trod_int Tryz.underlying3 f1
  obtain ⟨b, e2, _⟩ := DataW.trod_bool Tryz.underlying4 f2
  simp at e0 e1 e2
  subst e0; subst e1; subst e2
  exact ⟨⟨n0, n1, b⟩, rfl⟩
theorem pass_reads {fuel : Nat} {cs : List Value} {x : DataW H × List MemPlace} (h : DataW.trod enc Tryz.prog w base spare held fuel 23 cs = some x) :
    ∃ (sl : Value) (l : List Pas), cs = [sl] ∧ RdS 5 psE w sl l ∧ l.length ≤ maxLen := by
  obtain ⟨ad, cap, ess, rfl, hm, hr, hes⟩ := slice_reads Tryz.underlying23 (by rw [cells_77]; decide) h
  obtain ⟨xs, rfl, hxs⟩ := exists_map (f := psE) (q := fun _ => True) ess (fun es h => by
    obtain ⟨m, y, hy⟩ := hes es h
    obtain ⟨p, hp⟩ := pas_reads hy
    exact ⟨p, hp, trivial⟩)
  rw [flatten_map, cells_77] at hr
  simp only [List.length_map] at hr hm
  exact ⟨_, xs, by simp, hr, hm⟩
theorem sgts_reads {fuel : Nat} {cs : List Value} {x : DataW H × List MemPlace} (h : DataW.trod enc Tryz.prog w base spare held fuel 24 cs = some x) :
    ∃ (sl : Value) (l : List Sgt), cs = [sl] ∧ RdS 3 sgE w sl l ∧ l.length ≤ maxLen := by
  obtain ⟨ad, cap, ess, rfl, hm, hr, hes⟩ := slice_reads Tryz.underlying24 (by rw [cells_65]; decide) h
  obtain ⟨xs, rfl, hxs⟩ := exists_map (f := sgE) (q := fun _ => True) ess (fun es h => by
    obtain ⟨m, y, hy⟩ := hes es h
    obtain ⟨p, hp⟩ := sgt_reads hy
    exact ⟨p, hp, trivial⟩)
  rw [flatten_map, cells_65] at hr
  simp only [List.length_map] at hr hm
  exact ⟨_, xs, by simp, hr, hm⟩
theorem smp_reads {fuel : Nat} {cs : List Value} {x : DataW H × List MemPlace} (h : DataW.trod enc Tryz.prog w base spare held fuel 26 cs = some x) :
    ∃ (s : Smp) (tv pv gv : Value), cs = [vi s.B, vi s.P, vi s.L, vi s.F, tv, pv, gv] ∧ RdSm w s tv pv gv := by
  obtain ⟨hl, hf⟩ := fields_list Tryz.underlying26 h
  rw [cells_26] at hl
  obtain ⟨c0, c1, c2, c3, c4, c5, c6, rfl⟩ := seven' hl
  obtain ⟨⟨_, _, f0⟩, ⟨_, _, f1⟩, ⟨_, _, f2⟩, ⟨_, _, f3⟩, ⟨_, _, f4⟩, ⟨_, _, f5⟩, ⟨_, _, f6⟩, _⟩ := hf
  rw [cells_3] at f0 f1 f2 f3
  rw [cells_22] at f4
  rw [cells_23] at f5
  rw [cells_24] at f6
  obtain ⟨n0, e0, _, w0⟩ := DataW.trod_int Tryz.underlying3 f0
  obtain ⟨n1, e1, _, w1⟩ := DataW.trod_int Tryz.underlying3 f1
  obtain ⟨n2, e2, _, w2⟩ := DataW.trod_int Tryz.underlying3 f2
  obtain ⟨n3, e3, _, w3⟩ := DataW.trod_int Tryz.underlying3 f3
  obtain ⟨tv, st, e4, h4, _⟩ := bools_reads f4
  obtain ⟨pv, ps, e5, h5, _⟩ := pass_reads f5
  obtain ⟨gv, sg, e6, h6, _⟩ := sgts_reads f6
  simp at e0 e1 e2 e3 e4 e5 e6
  subst e0; subst e1; subst e2; subst e3; subst e4; subst e5; subst e6
  exact ⟨⟨n0, n1, n2, n3, st, ps, sg⟩, _, _, _, rfl, h4, h5, h6⟩
end
end Go.Sp
