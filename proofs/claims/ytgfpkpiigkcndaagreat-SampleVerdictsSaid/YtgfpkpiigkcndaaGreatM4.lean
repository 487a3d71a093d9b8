
/-
  The reference of samples: whether a bottle in some hands has a way; whether a sample has a truth.
-/
import Derived.Test.YtgfpkpiigkcndaaGreatM3
import Derived.Test.YtgfpkpiigkcndaaGreatRows
import Derived.ProofKit
import Derived.OpenShut
import Derived.Carry
import Derived.Deep.Fields
set_option linter.unusedVariables false
set_option linter.unusedSimpArgs false
set_option linter.deprecated false
namespace Go.Sp
open Go Go.Proofs
def pUp (s : Smp) (b : Int) (h : Nat) (c : List Int) (k : Bool) (acc : List Bool) (n : Nat) : List Bool := if actIs k (stB s c h) n = true ∧ seenB s b h (actY k n) = true then acc.set (actY k n).toNat true else acc
def pAct (s : Smp) (b : Int) (h : Nat) (c : List Int) (k : Bool) (acc : List Bool) : Nat → List Bool
  | 0 => acc
  | n + 1 => pUp s b h c k (pAct s b h c k acc n) n
def pBoth (s : Smp) (b : Int) (h : Nat) (c : List Int) (now : List Bool) : Nat → List Bool
  | 0 => [false, false]
  | k + 1 => if now.getD k false = true then pAct s b h c (blF k) (pBoth s b h c now k) 4 else pBoth s b h c now k
def pNow (s : Smp) (b : Int) (c : List Int) : Nat → List Bool
  | 0 => [true, false]
  | h + 1 => pBoth s b h c (pNow s b c h) 2
def passF (s : Smp) (b : Int) (c : List Int) : Bool := (pNow s b c (s.L + 1).toNat).getD 0 false || (pNow s b c (s.L + 1).toNat).getD 1 false
theorem pAct_len (s : Smp) (b : Int) (h : Nat) (c : List Int) (k : Bool) (acc : List Bool) : ∀ n, (pAct s b h c k acc n).length = acc.length
  | 0 => rfl
  | n + 1 => by
    rw [pAct, pUp]
    split
    · rw [List.length_set, pAct_len s b h c k acc n]
    · exact pAct_len s b h c k acc n
theorem pBoth_len (s : Smp) (b : Int) (h : Nat) (c : List Int) (now : List Bool) : ∀ n, (pBoth s b h c now n).length = 2
  | 0 => rfl
  | n + 1 => by
    rw [pBoth]
    split
    · rw [pAct_len, pBoth_len s b h c now n]
    · exact pBoth_len s b h c now n
theorem pNow_len (s : Smp) (b : Int) (c : List Int) : ∀ n, (pNow s b c n).length = 2
  | 0 => rfl
  | n + 1 => pBoth_len ..
theorem actedN_c {k n : Nat} (hn : n < 4) (st : Bool) (w : World) : CnV Tryz.prog 74 #[.bool (decide ((k : Int) = 1)), .bool st, vi n] w (.tuple #[.bool (actY (blF k) n), .bool (actIs (blF k) st n)]) := by
  have h := acted_c (decide ((k : Int) = 1)) st n w
  have e : decide ((k : Int) = 1) = blF k := by
    unfold blF
    rw [Bool.eq_iff_iff]; simp; omega
  rw [acY_nat _ hn, acIs_nat _ _ hn, e] at h
  rw [e]; exact h
set_option maxHeartbeats 2000000 in
theorem passes_c (s : Smp) (hf : Few s) (hv : VSm s) (b : Int) (c : List Int) (hcl : (c.length : Int) = s.L + 1) (hcb : ∀ i, i < c.length → 0 ≤ c.getD i 0 ∧ c.getD i 0 < s.P) (tv pv gv cv : Value) (w : World) (hr : RdSm w s tv pv gv) (hcr : RdI w cv c) :
    CnV Tryz.prog 76 #[smV s tv pv gv, vi b, cv] w (.bool (passF s b c)) := by
  have hr0 := hr
  have hl0 := hv.l0
  have hl9 := hv.l9
  have hst := hv.st
  have hp4 := hv.p4
  obtain ⟨adt, cpt, bt, ot, rfl, hadt, hct⟩ := hr.st.open boE_len false
  obtain ⟨adc, cpc, bc, oc, rfl, hadc, hcc⟩ := hcr.open
  refine cnv (vs := [_, _, _]) Tryz.func76 rfl rfl ?_
  all_goals refine tc_seq fun K1 hK1 => ?_; refine tc_region ?_; refine tl_e (e_box rfl rfl rfl) rfl (fun b3 _ => ?_); refine tl_q (y_assign rfl) rfl ?_; refine tl_nil ?_; ((refine hK1 ?_; try (clear hK1; clear K1)))
  all_goals refine tc_seq fun K2 hK2 => ?_; refine tc_region ?_; refine tl_q (y_build_ga [(0, 1), (1, 1)] (by repeat constructor) (by decide)) rfl ?_; refine tl_e (e_allocN rfl) rfl (fun b7 _ => ?_); refine tl_e (e_storeW rfl rfl (by repeat constructor) (by rfl) (by rfl) (bsV_one [true, false])) rfl (fun _ _ => ?_); refine tl_nil ?_; ((refine hK2 ?_; try (clear hK2; clear K2)))
  all_goals refine tc_seq fun K3 hK3 => ?_; refine tc_seq fun K4 hK4 => ?_; refine tc_region ?_; refine tl_q (y_assign rfl) rfl ?_; refine tl_nil ?_; ((refine hK4 ?_; try (clear hK4; clear K4)))
  all_goals refine tc_block ?_
  all_goals (
   refine tc_loop (fun h : Nat => (h : Int) ≤ s.L + 1) (fun h => [(1, vi b), (2, .slice adc c.length cpc), (3, ptr b3), (7, ptr b7), (8, vi h)]) (fun _ => [(w, [])]) (fun h => [(b7, .cells (bsV (pNow s b c h)) 139 (0, 0)), (b3, .cells #[vi s.B, vi s.P, vi s.L, vi s.F, .slice adt s.st.length cpt, pv, gv] 26 (0, 0))]) (fun h => (s.L + 1).toNat - h) ?_ ?_
   · exact tk_start 0 (by omega) (.cons rfl (.cons rfl (.cons rfl (.cons rfl (.cons rfl .nil))))) (fun _ h => h.subl (SB.s (by repeat constructor)) (SB.s (by repeat constructor)))
   · rintro h hh
     have hpl := pNow_len s b c h
     all_goals refine tc_seq fun K5 hK5 => ?_; refine tc_seq fun K6 hK6 => ?_; refine tc_region ?_; refine tl_q (y_move rfl) rfl ?_; refine tl_q (y_field rfl) rfl ?_; refine tl_q (y_load1 rfl (by repeat constructor) (by rfl)) rfl ?_; refine tl_q (y_leq rfl rfl) rfl ?_; refine tl_nil ?_; ((refine hK6 ?_; try (clear hK6; clear K6)))
     all_goals (
      refine tc_cond rfl (fun hc => ?_) (fun hc => ?_)
      · try simp only [decide_eq_true_eq, decide_eq_false_iff_not, Int.not_lt, Int.not_le, Bool.not_eq_true', Bool.not_eq_false', Decidable.not_not, not_true_eq_false] at hc
        all_goals refine tc_skip ?_; ((refine hK5 ?_; try (clear hK5; clear K5)))
        all_goals refine tc_seq fun K7 hK7 => ?_; refine tc_block ?_; refine tc_seq fun K8 hK8 => ?_; refine tc_region ?_; refine tl_e (e_allocN rfl) rfl (fun b9 _ => ?_); refine tl_nil ?_; ((refine hK8 ?_; try (clear hK8; clear K8)))
        all_goals refine tc_seq fun K9 hK9 => ?_; refine tc_seq fun K10 hK10 => ?_; refine tc_region ?_; refine tl_q (y_assign rfl) rfl ?_; refine tl_nil ?_; ((refine hK10 ?_; try (clear hK10; clear K10)))
        all_goals refine tc_block ?_
        all_goals (
         refine tc_loop (fun k : Nat => k ≤ 2) (fun k => [(1, vi b), (2, .slice adc c.length cpc), (3, ptr b3), (7, ptr b7), (8, vi h), (9, ptr b9), (10, vi k)]) (fun _ => [(w, [])]) (fun k => [(b9, .cells (bsV (pBoth s b h c (pNow s b c h) k)) 139 (0, 0)), (b7, .cells (bsV (pNow s b c h)) 139 (0, 0)), (b3, .cells #[vi s.B, vi s.P, vi s.L, vi s.F, .slice adt s.st.length cpt, pv, gv] 26 (0, 0))]) (fun k => 2 - k) ?_ ?_
         · exact tk_start 0 (by omega) (.cons rfl (.cons rfl (.cons rfl (.cons rfl (.cons rfl (.cons rfl (.cons rfl .nil))))))) (fun _ h => h.subl (SB.s (by repeat constructor)) (SB.s (by repeat constructor)))
         · rintro k hk
           have hbl := pBoth_len s b h c (pNow s b c h) k
           all_goals refine tc_seq fun K11 hK11 => ?_; refine tc_seq fun K12 hK12 => ?_; refine tc_region ?_; refine tl_q (y_move rfl) rfl ?_; refine tl_q (y_lss rfl rfl) rfl ?_; refine tl_nil ?_; ((refine hK12 ?_; try (clear hK12; clear K12)))
           all_goals (
            refine tc_cond rfl (fun hc => ?_) (fun hc => ?_)
            · try simp only [decide_eq_true_eq, decide_eq_false_iff_not, Int.not_lt, Int.not_le, Bool.not_eq_true', Bool.not_eq_false', Decidable.not_not, not_true_eq_false] at hc
              all_goals refine tc_skip ?_; ((refine hK11 ?_; try (clear hK11; clear K11)))
              all_goals refine tc_seq fun K13 hK13 => ?_; refine tc_block ?_; refine tc_seq fun K14 hK14 => ?_; refine tc_region ?_; refine tl_q (y_assign rfl) rfl ?_; refine tl_nil ?_; ((refine hK14 ?_; try (clear hK14; clear K14)))
              all_goals refine tc_block ?_
              all_goals (
               refine tc_loop (fun n : Nat => n ≤ 4 ∧ (0 < n → (pNow s b c h).getD k false = true)) (fun n => [(1, vi b), (2, .slice adc c.length cpc), (3, ptr b3), (7, ptr b7), (8, vi h), (9, ptr b9), (10, vi k), (11, vi n)]) (fun _ => [(w, [])]) (fun n => [(b9, .cells (bsV (pAct s b h c (blF k) (pBoth s b h c (pNow s b c h) k) n)) 139 (0, 0)), (b7, .cells (bsV (pNow s b c h)) 139 (0, 0)), (b3, .cells #[vi s.B, vi s.P, vi s.L, vi s.F, .slice adt s.st.length cpt, pv, gv] 26 (0, 0))]) (fun n => 4 - n) ?_ ?_
               · exact tk_start 0 ⟨by omega, fun h => absurd h (Nat.lt_irrefl 0)⟩ (.cons rfl (.cons rfl (.cons rfl (.cons rfl (.cons rfl (.cons rfl (.cons rfl (.cons rfl .nil)))))))) (fun _ h => h.subl (SB.s (by repeat constructor)) (SB.s (by repeat constructor)))
               · rintro n ⟨hn, hnow⟩
                 have hal : (pAct s b h c (blF k) (pBoth s b h c (pNow s b c h) k) n).length = 2 := by rw [pAct_len, hbl]
                 have hb01 : (pNow s b c h).getD (0 + Int.toNat (k : Int) * 1) false = (pNow s b c h).getD k false := by rw [show 0 + Int.toNat (k : Int) * 1 = k from by omega]
                 all_goals refine tc_seq fun K15 hK15 => ?_; refine tc_seq fun K16 hK16 => ?_; refine tc_region ?_; refine tl_q (y_move rfl) rfl ?_; refine tl_q (y_lss rfl rfl) rfl ?_; refine tl_q (y_move rfl) rfl ?_; ((refine tl_gs rfl rfl (fun hc => ?_) (fun hc => ?_) <;> (try simp only [decide_eq_true_eq, decide_eq_false_iff_not, Int.not_lt, Int.not_le, Bool.not_eq_true', Bool.not_eq_false', Decidable.not_not, not_true_eq_false] at hc) <;> (first | refine tl_sk rfl rfl rfl rfl ?_ | refine tl_qg rfl rfl (y_move rfl) rfl ?_)))
                 all_goals (first | refine tl_sk rfl rfl rfl rfl ?_ | refine tl_qg rfl rfl (y_indexA rfl rfl (by omega)) rfl ?_); (first | refine tl_sk rfl rfl rfl rfl ?_ | refine tl_qg rfl rfl (y_load1 (v := .bool ((pNow s b c h).getD (0 + Int.toNat (k : Int) * 1) false)) rfl (by repeat constructor) (cellAt_bs (by omega))) rfl ?_); (first | refine tl_q (y_pick_t rfl rfl) rfl ?_ | refine tl_q (y_pick_f rfl rfl) rfl ?_); refine tl_nil ?_; ((refine hK16 ?_; try (clear hK16; clear K16)))
                 all_goals (
                  refine tc_cond rfl (fun hc => ?_) (fun hc => ?_)
                  · all_goals ((first | (exfalso; with_reducible exact bft hc) | skip))
                    all_goals refine tc_skip ?_; ((refine hK15 ?_; try (clear hK15; clear K15)))
                    all_goals refine tc_seq fun K17 hK17 => ?_; refine tc_block ?_; refine tc_seq fun K18 hK18 => ?_; ((have hcbh := hcb h (by omega); have hcn := hc))
                    all_goals refine tc_draw (by kernel_rfl) ?_; refine tx_p 0 rfl (by kernel_rfl) (y_move rfl) rfl (fun _ _ _ h => h) (fun _ h => h) ?_; refine tx_p 1 rfl (by kernel_rfl) (y_eql rfl rfl) rfl (fun _ _ _ h => h) (fun _ h => h) ?_; refine tx_p 2 rfl (by kernel_rfl) (y_field rfl) rfl (fun _ _ _ h => h) (fun _ h => h) ?_; refine tx_q 3 rfl (by kernel_rfl) (y_load1 rfl (by repeat constructor) (by rfl)) rfl (fun _ _ _ h => h) (fun _ h => h) ?_; refine tx_p 4 rfl (by kernel_rfl) (y_move rfl) rfl (fun _ _ _ h => h) (fun _ h => h) ?_; refine tx_p 5 rfl (by kernel_rfl) (y_move rfl) rfl (fun _ _ _ h => h) (fun _ h => h) ?_; refine tx_p 6 rfl (by kernel_rfl) (y_index rfl rfl (by omega) (hadc (by omega))) rfl (fun _ _ _ h => h) (fun _ h => h) ?_; ((refine tx_q 7 rfl (by kernel_rfl) (y_load1o (v := vi (c.getD h 0)) rfl (fun w' hw' => by rw [show Int.toNat (h : Int) * 1 = h from by omega]; exact hcc w' (hw'.fr (w0 := w) (S := []) (MI.m (by repeat constructor))) h (by omega))) rfl (fun _ _ _ h => h) (fun _ h => h) ?_))
                    all_goals (refine tx_p 8 rfl (by kernel_rfl) (y_index rfl rfl (by omega) (hadt (by omega))) rfl (fun _ _ _ h => h) (fun _ h => h) ?_); ((refine tx_q 9 rfl (by kernel_rfl) (y_load1o (v := .bool (stB s c h)) rfl (fun w' hw' => by unfold stB; rw [Int.toNat_natCast]; have hx := (hct w' [] (hw'.fr (w0 := w) (S := []) (MI.m (by repeat constructor))) (by simp) (c.getD h 0).toNat (by omega)).get 0 _ rfl; exact hx)) rfl (fun _ _ _ h => h) (fun _ h => h) ?_))
                    all_goals refine tx_p 10 rfl (by kernel_rfl) (y_move rfl) rfl (fun _ _ _ h => h) (fun _ h => h) ?_; refine tx_e 11 rfl (by kernel_rfl) rfl (e_callV rfl (.cons rfl (.cons rfl (.cons rfl .nil))) (fun w' _ => actedN_c (k := k) (n := n) (by omega) _ w')) (.inr fun _ _ h => h) (fun _ _ => ?_); refine tx_p 12 rfl (by kernel_rfl) (y_move rfl) rfl (fun _ _ _ h => h) (fun _ h => h) ?_; refine tx_p 13 rfl (by kernel_rfl) (y_extract rfl rfl) rfl (fun _ _ _ h => h) (fun _ h => h) ?_; refine tx_p 14 rfl (by kernel_rfl) (y_extract rfl rfl) rfl (fun _ _ _ h => h) (fun _ h => h) ?_; refine tx_p 15 rfl (by kernel_rfl) (y_assign rfl) rfl (fun _ _ _ h => h) (fun _ h => h) ?_; refine tx_p 16 rfl (by kernel_rfl) (y_assign rfl) rfl (fun _ _ _ h => h) (fun _ h => h) ?_; refine tx_done (by kernel_rfl) ?_; ((refine hK18 ?_; try (clear hK18; clear K18)))
                    all_goals refine tc_seq fun K19 hK19 => ?_; refine tc_region ?_; refine tl_q (y_move rfl) rfl ?_; refine tl_q (y_move rfl) rfl ?_; ((refine tl_gs rfl rfl (fun hc => ?_) (fun hc => ?_) <;> (try simp only [decide_eq_true_eq, decide_eq_false_iff_not, Int.not_lt, Int.not_le, Bool.not_eq_true', Bool.not_eq_false', Decidable.not_not, not_true_eq_false] at hc) <;> (first | refine tl_sk rfl rfl rfl rfl ?_ | refine tl_qg rfl rfl (y_loadW rfl (by repeat constructor) (by rfl)) rfl ?_)))
                    all_goals (first | refine tl_sk rfl rfl rfl rfl ?_ | refine tl_qg rfl rfl (y_move rfl) rfl ?_); (first | refine tl_sk rfl rfl rfl rfl ?_ | refine tl_qg rfl rfl (y_move rfl) rfl ?_); (first | refine tl_sk rfl rfl rfl rfl ?_ | refine tl_qg rfl rfl (y_move rfl) rfl ?_); (first | refine tl_sk rfl rfl rfl rfl ?_ | refine tl_eg rfl rfl rfl (e_callV rfl (.cons rfl (.cons rfl (.cons rfl (.cons rfl .nil)))) (fun w' hw' => agrees_c s hf.sg b h _ _ _ _ w' (hr0.sg.fr (hw'.fr (w0 := w) (S := []) (MI.m (by repeat constructor)))))) (fun _ _ => ?_)); (first | refine tl_q (y_pick_t rfl rfl) rfl ?_ | refine tl_q (y_pick_f rfl rfl) rfl ?_); refine tl_nil ?_; ((refine hK19 ?_; try (clear hK19; clear K19)))
                    all_goals (
                     refine tc_cond rfl (fun hc => ?_) (fun hc => ?_)
                     · all_goals ((first | (exfalso; with_reducible exact bft hc) | skip))
                       all_goals refine tc_seq fun K20 hK20 => ?_; refine tc_region ?_; refine tl_q (y_move rfl) rfl ?_; refine tl_nil ?_; ((refine hK20 ?_; try (clear hK20; clear K20)))
                       all_goals (
                        refine tc_cond rfl (fun hc => ?_) (fun hc => ?_)
                        · all_goals (skip)
                          all_goals refine tc_region ?_; refine tl_q (y_indexA rfl rfl (by omega)) rfl ?_; refine tl_e (e_storeB (l := pAct s b h c (blF k) (pBoth s b h c (pNow s b c h) k) n) rfl rfl (by omega) (by repeat constructor)) rfl (fun _ _ => ?_); refine tl_nil ?_; ((refine hK17 ?_; try (clear hK17; clear K17)))
                          all_goals refine tc_region ?_; refine tl_q (y_move rfl) rfl ?_; refine tl_q (y_add rfl rfl (by omega)) rfl ?_; refine tl_q (y_assign rfl) rfl ?_; refine tl_nil ?_
                          all_goals (
                           first
                           | (have hs : pAct s b h c (blF k) (pBoth s b h c (pNow s b c h) k) (n + 1) = (pAct s b h c (blF k) (pBoth s b h c (pNow s b c h) k) n).set 1 true := by
                                rw [pAct, pUp, if_pos ⟨by assumption, by assumption⟩, show actY (blF k) n = true from hc]; rfl
                              exact tk_round (n + 1) ⟨by omega, fun _ => by rw [← hb01]; exact hcn⟩ (by omega) (.cons rfl (.cons rfl (.cons rfl (.cons rfl (.cons rfl (.cons rfl (.cons rfl (.cons rfl .nil)))))))) (fun _ h => by rw [hs]; exact h.subl (SB.s (by repeat constructor)) (SB.s (by repeat constructor))))
                           | (have hs : pAct s b h c (blF k) (pBoth s b h c (pNow s b c h) k) (n + 1) = (pAct s b h c (blF k) (pBoth s b h c (pNow s b c h) k) n).set 0 true := by
                                rw [pAct, pUp, if_pos ⟨by assumption, by assumption⟩, show actY (blF k) n = false from hc]; rfl
                              exact tk_round (n + 1) ⟨by omega, fun _ => by rw [← hb01]; exact hcn⟩ (by omega) (.cons rfl (.cons rfl (.cons rfl (.cons rfl (.cons rfl (.cons rfl (.cons rfl (.cons rfl .nil)))))))) (fun _ h => by rw [hs]; exact h.subl (SB.s (by repeat constructor)) (SB.s (by repeat constructor))))
                           | (have hs : pAct s b h c (blF k) (pBoth s b h c (pNow s b c h) k) (n + 1) = pAct s b h c (blF k) (pBoth s b h c (pNow s b c h) k) n := by
                                rw [pAct, pUp, if_neg (fun g => by simp_all)]
                              exact tk_round (n + 1) ⟨by omega, fun _ => by rw [← hb01]; exact hcn⟩ (by omega) (.cons rfl (.cons rfl (.cons rfl (.cons rfl (.cons rfl (.cons rfl (.cons rfl (.cons rfl .nil)))))))) (fun _ h => by rw [hs]; exact h.subl (SB.s (by repeat constructor)) (SB.s (by repeat constructor)))))
                        · all_goals (skip)
                          all_goals refine tc_region ?_; refine tl_q (y_indexA rfl rfl (by omega)) rfl ?_; refine tl_e (e_storeB (l := pAct s b h c (blF k) (pBoth s b h c (pNow s b c h) k) n) rfl rfl (by omega) (by repeat constructor)) rfl (fun _ _ => ?_); refine tl_nil ?_; ((refine hK17 ?_; try (clear hK17; clear K17)))
                          all_goals refine tc_region ?_; refine tl_q (y_move rfl) rfl ?_; refine tl_q (y_add rfl rfl (by omega)) rfl ?_; refine tl_q (y_assign rfl) rfl ?_; refine tl_nil ?_
                          all_goals (
                           first
                           | (have hs : pAct s b h c (blF k) (pBoth s b h c (pNow s b c h) k) (n + 1) = (pAct s b h c (blF k) (pBoth s b h c (pNow s b c h) k) n).set 1 true := by
                                rw [pAct, pUp, if_pos ⟨by assumption, by assumption⟩, show actY (blF k) n = true from hc]; rfl
                              exact tk_round (n + 1) ⟨by omega, fun _ => by rw [← hb01]; exact hcn⟩ (by omega) (.cons rfl (.cons rfl (.cons rfl (.cons rfl (.cons rfl (.cons rfl (.cons rfl (.cons rfl .nil)))))))) (fun _ h => by rw [hs]; exact h.subl (SB.s (by repeat constructor)) (SB.s (by repeat constructor))))
                           | (have hs : pAct s b h c (blF k) (pBoth s b h c (pNow s b c h) k) (n + 1) = (pAct s b h c (blF k) (pBoth s b h c (pNow s b c h) k) n).set 0 true := by
                                rw [pAct, pUp, if_pos ⟨by assumption, by assumption⟩, show actY (blF k) n = false from hc]; rfl
                              exact tk_round (n + 1) ⟨by omega, fun _ => by rw [← hb01]; exact hcn⟩ (by omega) (.cons rfl (.cons rfl (.cons rfl (.cons rfl (.cons rfl (.cons rfl (.cons rfl (.cons rfl .nil)))))))) (fun _ h => by rw [hs]; exact h.subl (SB.s (by repeat constructor)) (SB.s (by repeat constructor))))
                           | (have hs : pAct s b h c (blF k) (pBoth s b h c (pNow s b c h) k) (n + 1) = pAct s b h c (blF k) (pBoth s b h c (pNow s b c h) k) n := by
                                rw [pAct, pUp, if_neg (fun g => by simp_all)]
                              exact tk_round (n + 1) ⟨by omega, fun _ => by rw [← hb01]; exact hcn⟩ (by omega) (.cons rfl (.cons rfl (.cons rfl (.cons rfl (.cons rfl (.cons rfl (.cons rfl (.cons rfl .nil)))))))) (fun _ h => by rw [hs]; exact h.subl (SB.s (by repeat constructor)) (SB.s (by repeat constructor))))))
                     · try simp only [decide_eq_true_eq, decide_eq_false_iff_not, Int.not_lt, Int.not_le, Bool.not_eq_true', Bool.not_eq_false', Decidable.not_not, not_true_eq_false] at hc
                       all_goals refine tc_skip ?_; ((refine hK17 ?_; try (clear hK17; clear K17)))
                       all_goals refine tc_region ?_; refine tl_q (y_move rfl) rfl ?_; refine tl_q (y_add rfl rfl (by omega)) rfl ?_; refine tl_q (y_assign rfl) rfl ?_; refine tl_nil ?_
                       all_goals (
                        first
                        | (have hs : pAct s b h c (blF k) (pBoth s b h c (pNow s b c h) k) (n + 1) = (pAct s b h c (blF k) (pBoth s b h c (pNow s b c h) k) n).set 1 true := by
                             rw [pAct, pUp, if_pos ⟨by assumption, by assumption⟩, show actY (blF k) n = true from hc]; rfl
                           exact tk_round (n + 1) ⟨by omega, fun _ => by rw [← hb01]; exact hcn⟩ (by omega) (.cons rfl (.cons rfl (.cons rfl (.cons rfl (.cons rfl (.cons rfl (.cons rfl (.cons rfl .nil)))))))) (fun _ h => by rw [hs]; exact h.subl (SB.s (by repeat constructor)) (SB.s (by repeat constructor))))
                        | (have hs : pAct s b h c (blF k) (pBoth s b h c (pNow s b c h) k) (n + 1) = (pAct s b h c (blF k) (pBoth s b h c (pNow s b c h) k) n).set 0 true := by
                             rw [pAct, pUp, if_pos ⟨by assumption, by assumption⟩, show actY (blF k) n = false from hc]; rfl
                           exact tk_round (n + 1) ⟨by omega, fun _ => by rw [← hb01]; exact hcn⟩ (by omega) (.cons rfl (.cons rfl (.cons rfl (.cons rfl (.cons rfl (.cons rfl (.cons rfl (.cons rfl .nil)))))))) (fun _ h => by rw [hs]; exact h.subl (SB.s (by repeat constructor)) (SB.s (by repeat constructor))))
                        | (have hs : pAct s b h c (blF k) (pBoth s b h c (pNow s b c h) k) (n + 1) = pAct s b h c (blF k) (pBoth s b h c (pNow s b c h) k) n := by
                             rw [pAct, pUp, if_neg (fun g => by simp_all)]
                           exact tk_round (n + 1) ⟨by omega, fun _ => by rw [← hb01]; exact hcn⟩ (by omega) (.cons rfl (.cons rfl (.cons rfl (.cons rfl (.cons rfl (.cons rfl (.cons rfl (.cons rfl .nil)))))))) (fun _ h => by rw [hs]; exact h.subl (SB.s (by repeat constructor)) (SB.s (by repeat constructor))))))
                  · try simp only [decide_eq_true_eq, decide_eq_false_iff_not, Int.not_lt, Int.not_le, Bool.not_eq_true', Bool.not_eq_false', Decidable.not_not, not_true_eq_false] at hc
                    all_goals refine tc_exit ?_; ((refine hK13 ?_; try (clear hK13; clear K13)))
                    all_goals refine tc_region ?_; refine tl_q (y_move rfl) rfl ?_; refine tl_q (y_add rfl rfl (by omega)) rfl ?_; refine tl_q (y_assign rfl) rfl ?_; refine tl_nil ?_
                    all_goals (
                     first
                     | (have hn0 : n = 0 := by refine Decidable.byContradiction fun g => ?_; rw [hb01, hnow (by omega)] at hc; cases hc
                        have hs : pBoth s b h c (pNow s b c h) (k + 1) = pAct s b h c (blF k) (pBoth s b h c (pNow s b c h) k) n := by
                          rw [pBoth, if_neg (by rw [← hb01, hc]; exact Bool.false_ne_true), hn0]; rfl
                        exact tk_round (k + 1) (by omega) (by omega) (.cons rfl (.cons rfl (.cons rfl (.cons rfl (.cons rfl (.cons rfl (.cons rfl .nil))))))) (fun _ h => by rw [hs]; exact h.subl (SB.s (by repeat constructor)) (SB.s (by repeat constructor))))
                     | (obtain rfl : n = 4 := by omega
                        have hs : pBoth s b h c (pNow s b c h) (k + 1) = pAct s b h c (blF k) (pBoth s b h c (pNow s b c h) k) 4 := by
                          rw [pBoth, if_pos (hnow (by omega))]
                        exact tk_round (k + 1) (by omega) (by omega) (.cons rfl (.cons rfl (.cons rfl (.cons rfl (.cons rfl (.cons rfl (.cons rfl .nil))))))) (fun _ h => by rw [hs]; exact h.subl (SB.s (by repeat constructor)) (SB.s (by repeat constructor)))))))
            · try simp only [decide_eq_true_eq, decide_eq_false_iff_not, Int.not_lt, Int.not_le, Bool.not_eq_true', Bool.not_eq_false', Decidable.not_not, not_true_eq_false] at hc
              all_goals refine tc_exit ?_; ((refine hK9 ?_; try (clear hK9; clear K9)))
              all_goals refine tc_region ?_; refine tl_q (y_loadW rfl (by repeat constructor) (by rw [bsV_size, pBoth_len])) rfl ?_; refine tl_e (e_storeW rfl rfl (by repeat constructor) (by rw [bsV_size, pBoth_len]) (by rw [bsV_size, pNow_len]) (bsV_one _)) rfl (fun _ _ => ?_); refine tl_nil ?_; ((refine hK7 ?_; try (clear hK7; clear K7)))
              all_goals refine tc_region ?_; refine tl_q (y_move rfl) rfl ?_; refine tl_q (y_add rfl rfl (by omega)) rfl ?_; refine tl_q (y_assign rfl) rfl ?_; refine tl_nil ?_
              all_goals (
               obtain rfl : k = 2 := by omega
               have hs : pNow s b c (h + 1) = pBoth s b h c (pNow s b c h) 2 := rfl
               exact tk_round (h + 1) (by omega) (by omega) (.cons rfl (.cons rfl (.cons rfl (.cons rfl (.cons rfl .nil))))) (fun _ h => by rw [hs]; exact h.subl (SB.s (by repeat constructor)) (SB.s (by repeat constructor))))))
      · try simp only [decide_eq_true_eq, decide_eq_false_iff_not, Int.not_lt, Int.not_le, Bool.not_eq_true', Bool.not_eq_false', Decidable.not_not, not_true_eq_false] at hc
        all_goals refine tc_exit ?_; ((refine hK3 ?_; try (clear hK3; clear K3)))
        all_goals refine tc_seq fun K21 hK21 => ?_; refine tc_region ?_; refine tl_q (y_indexA rfl rfl (by omega)) rfl ?_; refine tl_q (y_load1 (v := .bool ((pNow s b c h).getD 0 false)) rfl (by repeat constructor) (cellAt_bs (by omega))) rfl ?_; refine tl_q (y_move rfl) rfl ?_; ((refine tl_gs rfl rfl (fun hc => ?_) (fun hc => ?_) <;> (try simp only [decide_eq_true_eq, decide_eq_false_iff_not, Int.not_lt, Int.not_le, Bool.not_eq_true', Bool.not_eq_false', Decidable.not_not, not_true_eq_false] at hc) <;> (first | refine tl_sk rfl rfl rfl rfl ?_ | refine tl_qg rfl rfl (y_indexA rfl rfl (by omega)) rfl ?_)))
        all_goals (first | refine tl_sk rfl rfl rfl rfl ?_ | refine tl_qg rfl rfl (y_load1 (v := .bool ((pNow s b c h).getD 1 false)) rfl (by repeat constructor) (cellAt_bs (by omega))) rfl ?_); (first | refine tl_q (y_pick_t rfl rfl) rfl ?_ | refine tl_q (y_pick_f rfl rfl) rfl ?_); refine tl_q (y_assign rfl) rfl ?_; refine tl_nil ?_; ((refine hK21 ?_; try (clear hK21; clear K21)))
        all_goals refine tc_ret ?_; (repeat (first | refine tk_then_ret ?_))
        all_goals (refine tk_ret rfl rfl (.cons (.tmp rfl) .nil) ?_)
        all_goals (
         obtain rfl : h = (s.L + 1).toNat := by omega
         refine fun w' hw' => ⟨congrArg (fun x => Ending.returned (Value.bool x)) ?_, hw'.fr (w0 := w) (S := []) (MI.m (by repeat constructor))⟩
         unfold passF
         first
         | (rw [show (pNow s b c (s.L + 1).toNat).getD 0 false = true from hc]; rfl)
         | (rw [show (pNow s b c (s.L + 1).toNat).getD 0 false = false from hc]; rfl))))
def hasN (s : Smp) (b : Int) (n : Nat) : Bool := match heldF s b (nthL s n) with
  | none => false
  | some c => passF s b c
def hasB (s : Smp) (b : Int) : Bool := (List.range (manyS s.ps).toNat).any fun n => hasN s b n
def hasF (s : Smp) : Bool := (List.range s.B.toNat).all fun (b : Nat) => hasB s b
theorem held_no {s : Smp} {b : Int} {ts : List Int} (hE : heldF s b ts = none) (hv : VSm s) (hts : ts.length = s.ps.length) (tv pv gv hv' : Value) (w : World) (hr : RdSm w s tv pv gv) (hh : RdI w hv' ts) :
    CnX Tryz.prog 59 #[smV s tv pv gv, vi b, hv'] w [] (fun y : Option Addr × Nat => .tuple #[slV ([] : List Int).length y, .bool false]) (fun y w' => RdI w' (slV ([] : List Int).length y) []) := by
  have h := held_c s hv b ts hts tv pv gv hv' w hr hh
  rw [hE] at h
  exact h
theorem held_yes {s : Smp} {b : Int} {ts c : List Int} (hE : heldF s b ts = some c) (hv : VSm s) (hts : ts.length = s.ps.length) (tv pv gv hv' : Value) (w : World) (hr : RdSm w s tv pv gv) (hh : RdI w hv' ts) :
    CnX Tryz.prog 59 #[smV s tv pv gv, vi b, hv'] w [] (fun y : Option Addr × Nat => .tuple #[slV c.length y, .bool true]) (fun y w' => RdI w' (slV c.length y) c) := by
  have h := held_c s hv b ts hts tv pv gv hv' w hr hh
  rw [hE] at h
  exact h
theorem heldF_ok {s : Smp} (hv : VSm s) {b : Int} {ts c : List Int} (h : heldF s b ts = some c) : (c.length : Int) = s.L + 1 ∧ ∀ i, i < c.length → 0 ≤ c.getD i 0 ∧ c.getD i 0 < s.P := by
  unfold heldF at h
  obtain ⟨q, h1, rfl⟩ := Option.map_eq_some_iff.1 h
  have hl := chN_len h1
  have hl0 := hv.l0
  exact ⟨by omega, fun i hi => (chN_ok hv h1).2 _ (getD_memG hi)⟩
theorem manyS_v {s : Smp} (hv : VSm s) : 1 ≤ manyS s.ps ∧ manyS s.ps ≤ 1000 :=
  ⟨(manyS_sub (List.Sublist.refl _) (fun p hp => by have := hv.ps p hp; omega)).1, hv.many⟩
theorem rMany_v (s : Smp) (hv : VSm s) (tv pv gv : Value) (w : World) (hr : RdSm w s tv pv gv) : CnV Tryz.prog 52 #[smV s tv pv gv] w (vi (manyS s.ps)) :=
  rMany_c s hv.l9 (List.all_eq_true.2 fun p hp => pasOk_iff.2 (by have := hv.ps p hp; omega)) hv.n6 tv pv gv w hr.ps
theorem any_upto {α : Type} {p : Nat → Bool} {n : Nat} (h : ∀ j, j < n → p j = false) : (List.range n).any p = false := by
  cases hg : (List.range n).any p
  · rfl
  · obtain ⟨j, h1, h2⟩ := List.any_eq_true.1 hg
    rw [h j (List.mem_range.1 h1)] at h2; cases h2
theorem any_at {p : Nat → Bool} {n j : Nat} (hj : j < n) (h : p j = true) : (List.range n).any p = true := List.any_eq_true.2 ⟨j, List.mem_range.2 hj, h⟩
set_option maxHeartbeats 2000000 in
theorem has_c (s : Smp) (hf : Few s) (hv : VSm s) (tv pv gv : Value) (w : World) (hr : RdSm w s tv pv gv) : CnV Tryz.prog 39 #[smV s tv pv gv] w (.bool (hasF s)) := by
  have hr0 := hr
  have hb1 := hv.b1
  have hb3 := hv.b3
  have hmb := manyS_v hv
  refine cnv (vs := [_]) Tryz.func39 rfl rfl ?_
  all_goals refine tc_seq fun K1 hK1 => ?_; refine tc_region ?_; refine tl_e (e_box rfl rfl rfl) rfl (fun b1 _ => ?_); refine tl_q (y_assign rfl) rfl ?_; refine tl_nil ?_; ((refine hK1 ?_; try (clear hK1; clear K1)))
  all_goals refine tc_seq fun K2 hK2 => ?_; refine tc_seq fun K3 hK3 => ?_; refine tc_region ?_; refine tl_q (y_assign rfl) rfl ?_; refine tl_nil ?_; ((refine hK3 ?_; try (clear hK3; clear K3)))
  all_goals refine tc_block ?_
  all_goals (
   refine tc_loop (fun k : Nat => (k : Int) ≤ s.B ∧ ∀ j, j < k → hasB s (j : Nat) = true) (fun k => [(1, ptr b1), (3, vi k)]) (fun _ => [(w, [])]) (fun _ => [(b1, .cells #[vi s.B, vi s.P, vi s.L, vi s.F, tv, pv, gv] 26 (0, 0))]) (fun k => s.B.toNat - k) ?_ ?_
   · exact tk_start 0 ⟨by omega, fun j hj => absurd hj (Nat.not_lt_zero j)⟩ (.cons rfl (.cons rfl .nil)) (fun _ h => h.subl (SB.s (by repeat constructor)) (SB.s (by repeat constructor)))
   · rintro k ⟨hk, hj⟩
     all_goals refine tc_seq fun K4 hK4 => ?_; refine tc_seq fun K5 hK5 => ?_; refine tc_region ?_; refine tl_q (y_move rfl) rfl ?_; refine tl_q (y_field rfl) rfl ?_; refine tl_q (y_load1 rfl (by repeat constructor) (by rfl)) rfl ?_; refine tl_q (y_lss rfl rfl) rfl ?_; refine tl_nil ?_; ((refine hK5 ?_; try (clear hK5; clear K5)))
     all_goals (
      refine tc_cond rfl (fun hc => ?_) (fun hc => ?_)
      · try simp only [decide_eq_true_eq, decide_eq_false_iff_not, Int.not_lt, Int.not_le, Bool.not_eq_true', Bool.not_eq_false', Decidable.not_not, not_true_eq_false] at hc
        all_goals refine tc_skip ?_; ((refine hK4 ?_; try (clear hK4; clear K4)))
        all_goals refine tc_seq fun K6 hK6 => ?_; refine tc_block ?_; refine tc_seq fun K7 hK7 => ?_; refine tc_region ?_; refine tl_q (y_assign rfl) rfl ?_; refine tl_nil ?_; ((refine hK7 ?_; try (clear hK7; clear K7)))
        all_goals refine tc_seq fun K8 hK8 => ?_; refine tc_seq fun K9 hK9 => ?_; refine tc_region ?_; refine tl_q (y_assign rfl) rfl ?_; refine tl_nil ?_; ((refine hK9 ?_; try (clear hK9; clear K9)))
        all_goals refine tc_block ?_
        all_goals (
         refine tc_loop (fun p : Nat × Bool => (p.1 : Int) ≤ manyS s.ps ∧ (p.2 = true → hasB s (k : Nat) = true) ∧ (p.2 = false → ∀ j, j < p.1 → hasN s (k : Nat) j = false)) (fun p => [(1, ptr b1), (3, vi k), (4, .bool p.2), (5, vi p.1)]) (fun _ => [(w, [])]) (fun _ => [(b1, .cells #[vi s.B, vi s.P, vi s.L, vi s.F, tv, pv, gv] 26 (0, 0))]) (fun p => (manyS s.ps).toNat - p.1) ?_ ?_
         · exact tk_start (0, false) ⟨by dsimp only; omega, (fun g => by cases g), fun _ j hj => absurd hj (Nat.not_lt_zero j)⟩ (.cons rfl (.cons rfl (.cons rfl (.cons rfl .nil)))) (fun _ h => h.subl (SB.s (by repeat constructor)) (SB.s (by repeat constructor)))
         · rintro ⟨n, fo⟩ ⟨hn, hyes, hno⟩
           dsimp only at hn hyes hno ⊢
           all_goals refine tc_seq fun K10 hK10 => ?_; refine tc_seq fun K11 hK11 => ?_; refine tc_region ?_; refine tl_q (y_move rfl) rfl ?_; refine tl_q (y_loadW rfl (by repeat constructor) (by rfl)) rfl ?_; refine tl_e (e_callV rfl (.cons rfl .nil) (fun w' hw' => rMany_v s hv _ _ _ w' (hr0.fr (hw'.fr (w0 := w) (S := []) (MI.m (by repeat constructor)))))) rfl (fun _ _ => ?_); refine tl_q (y_lss rfl rfl) rfl ?_; refine tl_q (y_move rfl) rfl ?_; ((refine tl_gs rfl rfl (fun hc => ?_) (fun hc => ?_) <;> (try simp only [decide_eq_true_eq, decide_eq_false_iff_not, Int.not_lt, Int.not_le, Bool.not_eq_true', Bool.not_eq_false', Decidable.not_not, not_true_eq_false] at hc) <;> (first | refine tl_sk rfl rfl rfl rfl ?_ | refine tl_qg rfl rfl (y_move rfl) rfl ?_)))
           all_goals (first | refine tl_sk rfl rfl rfl rfl ?_ | refine tl_qg rfl rfl (y_not rfl) rfl ?_); (first | refine tl_q (y_pick_t rfl rfl) rfl ?_ | refine tl_q (y_pick_f rfl rfl) rfl ?_); refine tl_nil ?_; ((refine hK11 ?_; try (clear hK11; clear K11)))
           all_goals (
            refine tc_cond rfl (fun hc => ?_) (fun hc => ?_)
            · try simp only [decide_eq_true_eq, decide_eq_false_iff_not, Int.not_lt, Int.not_le, Bool.not_eq_true', Bool.not_eq_false', Decidable.not_not, not_true_eq_false] at hc
              all_goals ((first | (exfalso; with_reducible exact bft hc) | skip))
              all_goals refine tc_skip ?_; ((refine hK10 ?_; try (clear hK10; clear K10)))
              all_goals refine tc_seq fun K12 hK12 => ?_; refine tc_block ?_; refine tc_seq fun K13 hK13 => ?_; ((have hfo := hc; rcases hhf : heldF s (k : Nat) (nthL s n) with _ | c))
              all_goals refine tc_draw (by kernel_rfl) ?_; refine tx_q 0 rfl (by kernel_rfl) (y_loadW rfl (by repeat constructor) (by rfl)) rfl (fun _ _ _ h => h) (fun _ h => h) ?_; refine tx_p 1 rfl (by kernel_rfl) (y_move rfl) rfl (fun _ _ _ h => h) (fun _ h => h) ?_; refine tx_q 2 rfl (by kernel_rfl) (y_loadW rfl (by repeat constructor) (by rfl)) rfl (fun _ _ _ h => h) (fun _ h => h) ?_; refine tx_p 3 rfl (by kernel_rfl) (y_move rfl) rfl (fun _ _ _ h => h) (fun _ h => h) ?_; refine tx_e 4 rfl (by kernel_rfl) rfl (e_callX rfl (.cons rfl (.cons rfl .nil)) (fun w' hw' => nth_c s hv n (by omega) _ _ _ w' (hr0.fr (hw'.fr (w0 := w) (S := []) (MI.m (by repeat constructor)))))) (.inr fun _ _ h => h.sub (fun _ h => List.mem_cons_of_mem _ h) (List.Sublist.refl _)) (fun y hy => ?_); (first | refine tx_e 5 rfl (by kernel_rfl) rfl (e_callX rfl (.cons rfl (.cons rfl (.cons rfl .nil))) (fun w' hw' => held_no hhf hv (nthS_len _ _ _) _ _ _ _ w' (hr0.fr (hw'.fr (w0 := w) (S := []) (MI.m (by repeat constructor)))) (hy.1.fr (hw'.calm hy.2 (MI.m (by repeat constructor)) (SB.s (by repeat constructor)))))) (.inr fun _ _ h => h.sub (fun _ h => List.mem_cons_of_mem _ h) (List.Sublist.refl _)) (fun z hz => ?_) | refine tx_e 5 rfl (by kernel_rfl) rfl (e_callX rfl (.cons rfl (.cons rfl (.cons rfl .nil))) (fun w' hw' => held_yes hhf hv (nthS_len _ _ _) _ _ _ _ w' (hr0.fr (hw'.fr (w0 := w) (S := []) (MI.m (by repeat constructor)))) (hy.1.fr (hw'.calm hy.2 (MI.m (by repeat constructor)) (SB.s (by repeat constructor)))))) (.inr fun _ _ h => h.sub (fun _ h => List.mem_cons_of_mem _ h) (List.Sublist.refl _)) (fun z hz => ?_)); refine tx_p 6 rfl (by kernel_rfl) (y_move rfl) rfl (fun _ _ _ h => h) (fun _ h => h) ?_; refine tx_p 7 rfl (by kernel_rfl) (y_extract rfl rfl) rfl (fun _ _ _ h => h) (fun _ h => h) ?_; refine tx_p 8 rfl (by kernel_rfl) (y_extract rfl rfl) rfl (fun _ _ _ h => h) (fun _ h => h) ?_; refine tx_p 9 rfl (by kernel_rfl) (y_assign rfl) rfl (fun _ _ _ h => h) (fun _ h => h) ?_; refine tx_p 10 rfl (by kernel_rfl) (y_assign rfl) rfl (fun _ _ _ h => h) (fun _ h => h) ?_; refine tx_done (by kernel_rfl) ?_; ((refine hK13 ?_; try (clear hK13; clear K13)))
              all_goals refine tc_region ?_; refine tl_q (y_move rfl) rfl ?_; refine tl_q (y_move rfl) rfl ?_; (first | refine tl_sk rfl rfl rfl rfl ?_ | refine tl_qg rfl rfl (y_loadW rfl (by repeat constructor) (by rfl)) rfl ?_); (first | refine tl_sk rfl rfl rfl rfl ?_ | refine tl_qg rfl rfl (y_move rfl) rfl ?_); (first | refine tl_sk rfl rfl rfl rfl ?_ | refine tl_qg rfl rfl (y_move rfl) rfl ?_); (first | refine tl_sk rfl rfl rfl rfl ?_ | refine tl_eg rfl rfl rfl (e_callV rfl (.cons rfl (.cons rfl (.cons rfl .nil))) (fun w' hw' => passes_c s hf hv k c (heldF_ok hv hhf).1 (heldF_ok hv hhf).2 _ _ _ _ w' (hr0.fr (hw'.fr (w0 := w) (S := []) (MI.m (by repeat constructor)))) (hz.1.fr (hw'.calm hz.2 (MI.m (by repeat constructor)) (SB.s (by repeat constructor)))))) (fun _ _ => ?_)); (first | refine tl_q (y_pick_t rfl rfl) rfl ?_ | refine tl_q (y_pick_f rfl rfl) rfl ?_); refine tl_q (y_assign rfl) rfl ?_; refine tl_nil ?_; ((refine hK12 ?_; try (clear hK12; clear K12)))
              all_goals refine tc_region ?_; refine tl_q (y_move rfl) rfl ?_; refine tl_q (y_add rfl rfl (by omega)) rfl ?_; refine tl_q (y_assign rfl) rfl ?_; refine tl_nil ?_
              all_goals (
               first
               | (have hN : hasN s (k : Nat) n = false := by unfold hasN; rw [hhf]
                  exact tk_round (n + 1, false) ⟨by dsimp only; omega, (fun g => by cases g), fun _ j hj => by rcases Nat.lt_succ_iff_lt_or_eq.1 hj with h | rfl; exact hno hfo j h; exact hN⟩ (by dsimp only; omega) (.cons rfl (.cons rfl (.cons rfl (.cons rfl .nil)))) (fun _ h => h.subl (SB.s (by repeat constructor)) (SB.s (by repeat constructor))))
               | (have hN : hasN s (k : Nat) n = passF s k c := by unfold hasN; rw [hhf]
                  exact tk_round (n + 1, passF s k c) ⟨by dsimp only; omega, fun g => any_at (j := n) (by omega) (hN.trans g), fun g j hj => by rcases Nat.lt_succ_iff_lt_or_eq.1 hj with h | rfl; exact hno hfo j h; exact hN.trans g⟩ (by dsimp only; omega) (.cons rfl (.cons rfl (.cons rfl (.cons rfl .nil)))) (fun _ h => h.subl (SB.s (by repeat constructor)) (SB.s (by repeat constructor)))))
            · try simp only [decide_eq_true_eq, decide_eq_false_iff_not, Int.not_lt, Int.not_le, Bool.not_eq_true', Bool.not_eq_false', Decidable.not_not, not_true_eq_false] at hc
              all_goals refine tc_exit ?_; ((refine hK8 ?_; try (clear hK8; clear K8)))
              all_goals refine tc_seq fun K14 hK14 => ?_; refine tc_region ?_; refine tl_q (y_move rfl) rfl ?_; refine tl_q (y_not rfl) rfl ?_; refine tl_nil ?_; ((refine hK14 ?_; try (clear hK14; clear K14)))
              all_goals (
               refine tc_cond rfl (fun hc => ?_) (fun hc => ?_)
               · try simp only [decide_eq_true_eq, decide_eq_false_iff_not, Int.not_lt, Int.not_le, Bool.not_eq_true', Bool.not_eq_false', Decidable.not_not, not_true_eq_false] at hc
                 all_goals refine tc_seq fun K15 hK15 => ?_; refine tc_region ?_; refine tl_q (y_assign rfl) rfl ?_; refine tl_nil ?_; ((refine hK15 ?_; try (clear hK15; clear K15)))
                 all_goals refine tc_ret ?_; (repeat (first | refine tk_then_ret ?_ | refine tk_block_ret ?_))
                 all_goals (refine tk_ret rfl rfl (.cons (.tmp rfl) .nil) ?_)
                 all_goals (
                  first
                  | (have h1 : fo = true := by assumption
                     have h2 : fo = false := by assumption
                     rw [h1] at h2; cases h2)
                  | (have hE : hasF s = false := by
                       have hB : hasB s (k : Nat) = false := any_upto (α := Nat) fun j hj => hno (by assumption) j (by omega)
                       cases hg : hasF s
                       · rfl
                       · have := List.all_eq_true.1 hg k (List.mem_range.2 (by omega))
                         rw [hB] at this; cases this
                     rw [hE]
                     exact fun w' hw' => ⟨rfl, hw'.fr (w0 := w) (S := []) (MI.m (by repeat constructor))⟩)
                  | (have hE : hasF s = true := List.all_eq_true.2 fun j hjm => hj j (by rw [List.mem_range] at hjm; omega)
                     rw [hE]
                     exact fun w' hw' => ⟨rfl, hw'.fr (w0 := w) (S := []) (MI.m (by repeat constructor))⟩))
               · try simp only [decide_eq_true_eq, decide_eq_false_iff_not, Int.not_lt, Int.not_le, Bool.not_eq_true', Bool.not_eq_false', Decidable.not_not, not_true_eq_false] at hc
                 all_goals refine tc_skip ?_; ((refine hK6 ?_; try (clear hK6; clear K6)))
                 all_goals refine tc_region ?_; refine tl_q (y_move rfl) rfl ?_; refine tl_q (y_add rfl rfl (by omega)) rfl ?_; refine tl_q (y_assign rfl) rfl ?_; refine tl_nil ?_
                 all_goals (
                  exact tk_round (k + 1) ⟨by omega, fun j hj' => by rcases Nat.lt_succ_iff_lt_or_eq.1 hj' with h | rfl; exact hj j h; exact hyes (by assumption)⟩ (by omega) (.cons rfl (.cons rfl .nil)) (fun _ h => h.subl (SB.s (by repeat constructor)) (SB.s (by repeat constructor)))))))
      · try simp only [decide_eq_true_eq, decide_eq_false_iff_not, Int.not_lt, Int.not_le, Bool.not_eq_true', Bool.not_eq_false', Decidable.not_not, not_true_eq_false] at hc
        all_goals refine tc_exit ?_; ((refine hK2 ?_; try (clear hK2; clear K2)))
        all_goals refine tc_seq fun K16 hK16 => ?_; refine tc_region ?_; refine tl_q (y_assign rfl) rfl ?_; refine tl_nil ?_; ((refine hK16 ?_; try (clear hK16; clear K16)))
        all_goals refine tc_ret ?_; (repeat (first | refine tk_then_ret ?_))
        all_goals (refine tk_ret rfl rfl (.cons (.tmp rfl) .nil) ?_)
        all_goals (
         first
         | (have h1 : fo = true := by assumption
            have h2 : fo = false := by assumption
            rw [h1] at h2; cases h2)
         | (have hE : hasF s = false := by
              have hB : hasB s (k : Nat) = false := any_upto (α := Nat) fun j hj => hno (by assumption) j (by omega)
              cases hg : hasF s
              · rfl
              · have := List.all_eq_true.1 hg k (List.mem_range.2 (by omega))
                rw [hB] at this; cases this
            rw [hE]
            exact fun w' hw' => ⟨rfl, hw'.fr (w0 := w) (S := []) (MI.m (by repeat constructor))⟩)
         | (have hE : hasF s = true := List.all_eq_true.2 fun j hjm => hj j (by rw [List.mem_range] at hjm; omega)
            rw [hE]
            exact fun w' hw' => ⟨rfl, hw'.fr (w0 := w) (S := []) (MI.m (by repeat constructor))⟩))))
end Go.Sp
/-
  A sample has a truth after the reference if it has one after the package.
-/
namespace Go.Sp
open Go Go.Proofs
theorem mem_stepL {s : Smp} {b h : Int} {st x : Bool} {y : Bool × Int} : y ∈ stepL s b h st x ↔ ∃ n : Nat, n < 4 ∧ (actIs x st n = true ∧ seenB s b h (actY x n) = true) ∧ y = (actY x n, if x = true ∨ opF n = true then 1 else 0) := by
  show y ∈ stepN s b h st x 4 ↔ _
  unfold stepN
  rw [List.mem_flatMap]
  constructor
  · rintro ⟨n, hn, hy⟩
    unfold stp1 at hy
    split at hy
    · rename_i hc
      exact ⟨n, List.mem_range.1 hn, hc, List.mem_singleton.1 hy⟩
    · cases hy
  · rintro ⟨n, hn, hc, rfl⟩
    exact ⟨n, List.mem_range.2 hn, by unfold stp1; rw [if_pos hc]; exact List.mem_singleton.2 rfl⟩
theorem minP_any {l : List (Bool × Int)} {r : Bool → Option Int} : ∀ {n : Nat}, n ≤ l.length → (minP l r n).isSome = true → ∃ i, i < n ∧ (r (l.getD i (false, 0)).1).isSome = true
  | 0, _, h => by cases h
  | n + 1, hn, h => by
    rw [minP] at h
    split at h
    · obtain ⟨i, h1, h2⟩ := minP_any (by omega) h
      exact ⟨i, by omega, h2⟩
    · rename_i m hm
      exact ⟨n, by omega, by rw [hm]; rfl⟩
theorem rst_some {s : Smp} {b : Int} {c : List Int} {k : Nat} {x : Bool} : (rstF s b c (k + 1) x).isSome = true ↔ ∃ y ∈ stepL s b (s.L - k) (stB s c (s.L - k)) x, (rstF s b c k y.1).isSome = true := by
  rw [rstF]
  constructor
  · intro h
    obtain ⟨i, hi, hs⟩ := minP_any (Nat.le_refl _) h
    exact ⟨_, getD_memG hi, hs⟩
  · rintro ⟨y, hy, hs⟩
    obtain ⟨i, hi, rfl⟩ := List.getElem_of_mem hy
    refine minP_some (Nat.le_refl _) (i := i) hi ?_
    rw [List.getD_eq_getElem?_getD, List.getElem?_eq_getElem hi]; exact hs
theorem getD_set2 {l : List Bool} (hl : l.length = 2) (x y : Bool) : (l.set x.toNat true).getD y.toNat false = (l.getD y.toNat false || decide (x = y)) := by
  match l, hl with
  | [a, b], _ => cases x <;> cases y <;> simp
theorem pAct_get {s : Smp} {b : Int} {h : Nat} {c : List Int} {k : Bool} {acc : List Bool} (ha : acc.length = 2) (y : Bool) : ∀ n, (pAct s b h c k acc n).getD y.toNat false = true ↔ acc.getD y.toNat false = true ∨ ∃ m, m < n ∧ (actIs k (stB s c h) m = true ∧ seenB s b h (actY k m) = true) ∧ actY k m = y
  | 0 => by
    rw [pAct]
    exact ⟨fun h => .inl h, fun h => h.resolve_right (fun ⟨m, hm, _⟩ => absurd hm (Nat.not_lt_zero m))⟩
  | n + 1 => by
    have ih := pAct_get (s := s) (b := b) (h := h) (c := c) (k := k) ha y n
    rw [pAct, pUp]
    split
    · rename_i hc
      rw [getD_set2 (by rw [pAct_len, ha]), Bool.or_eq_true, ih, decide_eq_true_eq]
      constructor
      · rintro ((h1 | ⟨m, h1, h2⟩) | h1)
        · exact .inl h1
        · exact .inr ⟨m, by omega, h2⟩
        · exact .inr ⟨n, by omega, hc, h1⟩
      · rintro (h1 | ⟨m, h1, h2, h3⟩)
        · exact .inl (.inl h1)
        · by_cases hm : m = n
          · subst hm; exact .inr h3
          · exact .inl (.inr ⟨m, by omega, h2, h3⟩)
    · rename_i hc
      rw [ih]
      constructor
      · rintro (h1 | ⟨m, h1, h2⟩)
        · exact .inl h1
        · exact .inr ⟨m, by omega, h2⟩
      · rintro (h1 | ⟨m, h1, h2, h3⟩)
        · exact .inl h1
        · by_cases hm : m = n
          · subst hm; exact absurd h2 hc
          · exact .inr ⟨m, by omega, h2, h3⟩
theorem pBoth_get {s : Smp} {b : Int} {h : Nat} {c : List Int} {now : List Bool} (y : Bool) : ∀ k, (pBoth s b h c now k).getD y.toNat false = true ↔ ∃ i, i < k ∧ now.getD i false = true ∧ ∃ m, m < 4 ∧ (actIs (blF i) (stB s c h) m = true ∧ seenB s b h (actY (blF i) m) = true) ∧ actY (blF i) m = y
  | 0 => by
    rw [pBoth]
    constructor
    · intro h; cases y <;> cases h
    · rintro ⟨i, hi, _⟩; exact absurd hi (Nat.not_lt_zero i)
  | k + 1 => by
    have ih := pBoth_get (s := s) (b := b) (h := h) (c := c) (now := now) y k
    rw [pBoth]
    split
    · rename_i hc
      rw [pAct_get (pBoth_len s b h c now k), ih]
      constructor
      · rintro (⟨i, h1, h2⟩ | h1)
        · exact ⟨i, by omega, h2⟩
        · exact ⟨k, by omega, hc, h1⟩
      · rintro ⟨i, h1, h2, h3⟩
        by_cases hi : i = k
        · subst hi; exact .inr h3
        · exact .inl ⟨i, by omega, h2, h3⟩
    · rename_i hc
      rw [ih]
      constructor
      · rintro ⟨i, h1, h2⟩; exact ⟨i, by omega, h2⟩
      · rintro ⟨i, h1, h2, h3⟩
        by_cases hi : i = k
        · subst hi; exact absurd h2 hc
        · exact ⟨i, by omega, h2, h3⟩
abbrev fwP (s : Smp) (b : Int) (c : List Int) (h : Nat) (x : Bool) : Prop := (pNow s b c h).getD x.toNat false = true
theorem fwP_succ {s : Smp} {b : Int} {c : List Int} {h : Nat} {y : Bool} : fwP s b c (h + 1) y ↔ ∃ x, fwP s b c h x ∧ ∃ z ∈ stepL s b h (stB s c h) x, z.1 = y := by
  unfold fwP
  rw [pNow, pBoth_get]
  constructor
  · rintro ⟨i, hi, h1, m, hm, h2, h3⟩
    have e : (blF i).toNat = i := by
      match i, hi with
      | 0, _ => rfl
      | 1, _ => rfl
    exact ⟨blF i, by rw [e]; exact h1, _, mem_stepL.2 ⟨m, hm, h2, rfl⟩, h3⟩
  · rintro ⟨x, h1, z, hz, rfl⟩
    obtain ⟨m, hm, h2, rfl⟩ := mem_stepL.1 hz
    have e : blF x.toNat = x := by cases x <;> rfl
    refine ⟨x.toNat, by cases x <;> decide, h1, m, hm, ?_⟩
    rw [e]
    exact ⟨h2, rfl⟩
theorem fw_can {s : Smp} (hl : 0 ≤ s.L) {b : Int} {c c' : List Int} (hst : ∀ h : Nat, (h : Int) ≤ s.L → stB s c h = stB s c' h) : ∀ h : Nat, (h : Int) ≤ s.L + 1 → ((∃ x, fwP s b c h x ∧ (rstF s b c' (s.L + 1 - h).toNat x).isSome = true) ↔ canF s b c' = true)
  | 0, _ => by
    unfold canF
    rw [show (s.L + 1 - ((0 : Nat) : Int)).toNat = (s.L + 1).toNat from by omega]
    constructor
    · rintro ⟨x, h1, h2⟩
      cases x with
      | false => exact h2
      | true => cases h1
    · intro h; exact ⟨false, rfl, h⟩
  | h + 1, hh => by
    rw [← fw_can hl hst h (by omega)]
    have e : (s.L + 1 - (h : Int)).toNat = (s.L + 1 - ((h + 1 : Nat) : Int)).toNat + 1 := by omega
    have e2 : s.L - (((s.L + 1 - ((h + 1 : Nat) : Int)).toNat : Nat) : Int) = (h : Int) := by omega
    rw [e]
    constructor
    · rintro ⟨y, h1, h2⟩
      obtain ⟨x, h3, z, hz, rfl⟩ := fwP_succ.1 h1
      exact ⟨x, h3, rst_some.2 ⟨z, by rw [e2, ← hst h (by omega)]; exact hz, h2⟩⟩
    · rintro ⟨x, h1, h2⟩
      obtain ⟨z, hz, h3⟩ := rst_some.1 h2
      rw [e2, ← hst h (by omega)] at hz
      exact ⟨z.1, fwP_succ.2 ⟨x, h1, z, hz, rfl⟩, h3⟩
theorem pass_can {s : Smp} (hl : 0 ≤ s.L) {b : Int} {c c' : List Int} (hst : ∀ h : Nat, (h : Int) ≤ s.L → stB s c h = stB s c' h) : passF s b c = canF s b c' := by
  rw [Bool.eq_iff_iff, ← fw_can hl hst (s.L + 1).toNat (by omega)]
  unfold passF fwP
  rw [show (s.L + 1 - (((s.L + 1).toNat : Nat) : Int)).toNat = 0 from by omega, Bool.or_eq_true]
  constructor
  · rintro (h | h)
    · exact ⟨false, h, rfl⟩
    · exact ⟨true, h, rfl⟩
  · rintro ⟨x, h, _⟩
    cases x
    · exact .inl h
    · exact .inr h
theorem stB_pad {s : Smp} {c : List Int} {h : Nat} (hh : h < c.length) : stB s c h = stB s (padC c) h := by
  unfold stB padC
  rw [Int.toNat_natCast, List.getD_eq_getElem?_getD (l := c ++ _), List.getElem?_append_left hh, ← List.getD_eq_getElem?_getD]
def nthC : List Pas → Int → List Int
  | [], _ => []
  | p :: ps, n => (p.lo + n % (p.hi - p.lo + 1)) :: nthC ps (n / (p.hi - p.lo + 1))
theorem nthS_C (ps : List Pas) (n : Int) : ∀ i, i ≤ ps.length → (nthS ps n i).1 ++ nthC (ps.drop i) (nthS ps n i).2 = nthC ps n
  | 0, _ => rfl
  | i + 1, hi => by
    rw [← nthS_C ps n i (by omega), nthS]
    have e : ps.drop i = ps.getD i pas0 :: ps.drop (i + 1) := by
      rw [List.drop_eq_getElem_cons (by omega), List.getD_eq_getElem?_getD, List.getElem?_eq_getElem (by omega)]; rfl
    rw [e, nthC, List.append_assoc]; rfl
theorem nthL_C (s : Smp) (n : Int) : nthL s n = nthC s.ps n := by
  have := nthS_C s.ps n s.ps.length (Nat.le_refl _)
  rw [List.drop_length] at this
  unfold nthL
  rw [← this]; simp [nthC]
/-- Hours that are within the passes' ranges. -/
def InR : List Pas → List Int → Prop
  | [], hs => hs = []
  | p :: ps, hs => ∃ h t, hs = h :: t ∧ (p.lo ≤ h ∧ h ≤ p.hi) ∧ InR ps t
theorem nthC_in : ∀ {ps : List Pas} (n : Int), (∀ p ∈ ps, p.lo ≤ p.hi) → InR ps (nthC ps n)
  | [], _, _ => rfl
  | p :: ps, n, hp => by
    have h1 := hp p (List.mem_cons_self ..)
    have h2 := Int.emod_nonneg n (show p.hi - p.lo + 1 ≠ 0 by omega)
    have h3 := Int.emod_lt_of_pos n (show 0 < p.hi - p.lo + 1 by omega)
    exact ⟨_, _, rfl, by omega, nthC_in _ fun q hq => hp q (List.mem_cons_of_mem _ hq)⟩
theorem nthC_all : ∀ {ps : List Pas} {hs : List Int}, (∀ p ∈ ps, p.lo ≤ p.hi) → InR ps hs → ∃ n : Int, (0 ≤ n ∧ n < manyS ps) ∧ nthC ps n = hs
  | [], hs, _, h => by
    obtain rfl : hs = [] := h
    exact ⟨0, by unfold manyS; omega, rfl⟩
  | p :: ps, hs, hp, h => by
    obtain ⟨a, t, rfl, ha, ht⟩ := h
    obtain ⟨n, hn, he⟩ := nthC_all (fun q hq => hp q (List.mem_cons_of_mem _ hq)) ht
    obtain ⟨z, hz⟩ : ∃ z, z = p.hi - p.lo + 1 := ⟨_, rfl⟩
    obtain ⟨d, hd⟩ : ∃ d, d = a - p.lo := ⟨_, rfl⟩
    have hz0 : 0 < z := by omega
    have hdz : 0 ≤ d ∧ d < z := by omega
    refine ⟨d + z * n, ⟨?_, ?_⟩, ?_⟩
    · have := Int.mul_nonneg (show 0 ≤ z by omega) hn.1; omega
    · rw [manyS, ← hz]
      have h1 : z * (n + 1) ≤ z * manyS ps := Int.mul_le_mul_of_nonneg_left (by omega) (by omega)
      rw [Int.mul_add, Int.mul_one] at h1
      omega
    · rw [nthC, ← hz, Int.add_mul_emod_self_left, Int.add_mul_ediv_left _ _ (by omega), Int.emod_eq_of_lt hdz.1 hdz.2, Int.ediv_eq_zero_of_lt hdz.1 hdz.2, Int.zero_add, he]
      rw [show p.lo + d = a from by omega]
theorem InR.len : ∀ {ps : List Pas} {hs : List Int}, InR ps hs → hs.length = ps.length
  | [], hs, h => by obtain rfl : hs = [] := h; rfl
  | p :: ps, hs, h => by
    obtain ⟨a, t, rfl, _, ht⟩ := h
    simp [InR.len ht]
theorem zOwn_in {b : Int} : ∀ {ps : List Pas} {hs : List Int}, InR ps hs → zOwn b ps hs ∈ zAll b ps
  | [], hs, h => by
    obtain rfl : hs = [] := h
    simp [zAll, genT, zOwn]
  | p :: ps, hs, h => by
    obtain ⟨a, t, rfl, ha, ht⟩ := h
    have ih := zOwn_in (b := b) ht
    by_cases hb : p.b = b
    · rw [zAll_own hb, List.mem_flatMap]
      refine ⟨(a - p.lo).toNat, List.mem_range.2 (by omega), List.mem_map.2 ⟨zOwn b ps t, ih, ?_⟩⟩
      rw [show p.lo + (((a - p.lo).toNat : Nat) : Int) = a from by omega]
      simp [zOwn, hb]
    · rw [zAll_oth hb]
      simpa [zOwn, hb] using ih
theorem zAll_ex {b : Int} : ∀ {ps : List Pas} {z : List (Pas × Int)}, (∀ p ∈ ps, p.lo ≤ p.hi) → z ∈ zAll b ps → ∃ hs, InR ps hs ∧ zOwn b ps hs = z
  | [], z, _, h => by
    refine ⟨[], rfl, ?_⟩
    simp [zAll, genT, zOwn] at h
    subst h; rfl
  | p :: ps, z, hp, h => by
    have hp2 : ∀ q ∈ ps, q.lo ≤ q.hi := fun q hq => hp q (List.mem_cons_of_mem _ hq)
    by_cases hb : p.b = b
    · rw [zAll_own hb, List.mem_flatMap] at h
      obtain ⟨j, hj, h⟩ := h
      obtain ⟨z', hz', rfl⟩ := List.mem_map.1 h
      obtain ⟨hs, h1, rfl⟩ := zAll_ex hp2 hz'
      rw [List.mem_range] at hj
      refine ⟨(p.lo + (j : Int)) :: hs, ⟨_, _, rfl, by omega, h1⟩, ?_⟩
      simp [zOwn, hb]
    · rw [zAll_oth hb] at h
      obtain ⟨hs, h1, rfl⟩ := zAll_ex hp2 h
      refine ⟨p.lo :: hs, ⟨_, _, rfl, ⟨Int.le_refl _, hp p (List.mem_cons_self ..)⟩, h1⟩, ?_⟩
      simp [zOwn, hb]
/-- The hours of all passes that are possible, and who has the bottle. -/
theorem poss_iff {s : Smp} (hp : ∀ p ∈ s.ps, p.lo ≤ p.hi) {b : Int} : possF s b = true ↔ ∃ hs q, InR s.ps hs ∧ chN s b hs (s.L + 1).toNat = some q ∧ canF s b (padC q.1) = true := by
  have hz : ∀ c, c ∈ chainsL s b ↔ ∃ z ∈ zAll b s.ps, zchF s.L s.F b z = some c := fun c => by
    show c ∈ ddC s b (timesL s b) ↔ _
    rw [ddC_mem]
    unfold zAll timesL
    constructor
    · rintro ⟨ts, h1, h2⟩
      refine ⟨_, List.mem_map.2 ⟨ts, h1, rfl⟩, ?_⟩
      rw [← chF_z (genT_len b s.ps [] ts h1 |>.trans (by simp))]; exact h2
    · rintro ⟨z, h1, h2⟩
      obtain ⟨ts, h3, rfl⟩ := List.mem_map.1 h1
      exact ⟨ts, h3, by rw [chF_z (genT_len b s.ps [] ts h3 |>.trans (by simp))]; exact h2⟩
  unfold possF
  rw [List.any_eq_true]
  constructor
  · rintro ⟨c, h1, h2⟩
    obtain ⟨z, h3, h4⟩ := (hz c).1 h1
    obtain ⟨hs, h5, rfl⟩ := zAll_ex hp h3
    unfold zchF at h4
    rw [← chN_z s b hs h5.len] at h4
    obtain ⟨q, h6, rfl⟩ := Option.map_eq_some_iff.1 h4
    exact ⟨hs, q, h5, h6, h2⟩
  · rintro ⟨hs, q, h1, h2, h3⟩
    refine ⟨padC q.1, (hz _).2 ⟨zOwn b s.ps hs, zOwn_in h1, ?_⟩, h3⟩
    unfold zchF
    rw [← chN_z s b hs h1.len, h2]; rfl
theorem VSm.ple {s : Smp} (hv : VSm s) : ∀ p ∈ s.ps, p.lo ≤ p.hi := fun p hp => (hv.ps p hp).2.2.2.2.2.1
theorem hasB_poss {s : Smp} (hv : VSm s) (b : Int) : hasB s b = possF s b := by
  rw [Bool.eq_iff_iff, poss_iff hv.ple]
  have hl0 := hv.l0
  have hcan : ∀ (hs : List Int) q, chN s b hs (s.L + 1).toNat = some q → passF s b q.1 = canF s b (padC q.1) := fun hs q hq =>
    pass_can hl0 fun h hh => stB_pad (by have := chN_len hq; omega)
  unfold hasB
  rw [List.any_eq_true]
  constructor
  · rintro ⟨n, hn, h1⟩
    unfold hasN heldF at h1
    cases hc : chN s b (nthL s n) (s.L + 1).toNat with
    | none => rw [hc] at h1; cases h1
    | some q =>
      rw [hc] at h1
      refine ⟨nthL s n, q, by rw [nthL_C]; exact nthC_in _ hv.ple, hc, ?_⟩
      rw [← hcan _ q hc]; exact h1
  · rintro ⟨hs, q, h1, h2, h3⟩
    obtain ⟨n, hn, rfl⟩ := nthC_all hv.ple h1
    refine ⟨n.toNat, List.mem_range.2 (by omega), ?_⟩
    unfold hasN heldF
    rw [nthL_C, show ((n.toNat : Nat) : Int) = n from by omega, h2]
    show passF s b q.1 = true
    rw [hcan _ q h2]; exact h3
theorem hasF_cons {s : Smp} (hv : VSm s) : hasF s = consF s := by
  unfold hasF consF
  exact congrArg (fun f => (List.range s.B.toNat).all f) (funext fun b => hasB_poss hv b)
theorem hasC_c (s : Smp) (hf : Few s) (hv : VSm s) (tv pv gv : Value) (w : World) (hr : RdSm w s tv pv gv) : CnV Tryz.prog 39 #[smV s tv pv gv] w (.bool (consF s)) := by
  rw [← hasF_cons hv]; exact has_c s hf hv tv pv gv w hr
end Go.Sp
/-
  Runs: what can be done with a bottle, from hour to hour; what ask returns, in terms of them.
-/
namespace Go.Sp
open Go Go.Proofs
/-- What is done in the last k hours, from a seal on. -/
def RunF (s : Smp) (b : Int) (c : List Int) : Nat → Bool → List (Bool × Int) → Prop
  | 0, _, l => l = []
  | k + 1, x, l => ∃ z t, l = z :: t ∧ z ∈ stepL s b (s.L - k) (stB s c (s.L - k)) x ∧ RunF s b c k z.1 t
def sumR (l : List (Bool × Int)) : Int := (l.map Prod.snd).sum
theorem rst_run {s : Smp} {b : Int} {c : List Int} : ∀ {k : Nat} {x : Bool}, (rstF s b c k x).isSome = true ↔ ∃ l, RunF s b c k x l
  | 0, x => ⟨fun _ => ⟨[], rfl⟩, fun _ => rfl⟩
  | k + 1, x => by
    rw [rst_some]
    constructor
    · rintro ⟨y, hy, h⟩
      obtain ⟨t, ht⟩ := rst_run.1 h
      exact ⟨y :: t, y, t, rfl, hy, ht⟩
    · rintro ⟨l, z, t, rfl, hz, ht⟩
      exact ⟨z, hz, rst_run.2 ⟨t, ht⟩⟩
theorem minP_le {l : List (Bool × Int)} {r : Bool → Option Int} : ∀ {n : Nat} {m : Int}, n ≤ l.length → minP l r n = some m → (∃ i, i < n ∧ ∃ v, r (l.getD i (false, 0)).1 = some v ∧ m = v + (l.getD i (false, 0)).2) ∧ ∀ i, i < n → ∀ v, r (l.getD i (false, 0)).1 = some v → m ≤ v + (l.getD i (false, 0)).2
  | 0, m, _, h => by cases h
  | n + 1, m, hn, h => by
    rw [minP] at h
    split at h
    · rename_i h0
      obtain ⟨⟨i, hi, h1⟩, h2⟩ := minP_le (by omega) h
      refine ⟨⟨i, by omega, h1⟩, fun i hi v hv => ?_⟩
      by_cases hin : i = n
      · subst hin; rw [h0] at hv; cases hv
      · exact h2 i (by omega) v hv
    · rename_i m1 h0
      split at h
      · rename_i h3
        cases h
        refine ⟨⟨n, by omega, m1, h0, rfl⟩, fun i hi v hv => ?_⟩
        by_cases hin : i = n
        · subst hin; rw [h0] at hv; cases hv; exact Int.le_refl _
        · have := minP_some (l := l) (r := r) (n := n) (by omega) (i := i) (by omega) (by rw [hv]; rfl)
          rw [h3] at this; cases this
      · rename_i own h3
        cases h
        obtain ⟨⟨i, hi, v, h1, h4⟩, h2⟩ := minP_le (by omega) h3
        refine ⟨?_, fun i hi v hv => ?_⟩
        · by_cases hle : own ≤ m1 + (l.getD n (false, 0)).2
          · exact ⟨i, by omega, v, h1, by omega⟩
          · exact ⟨n, by omega, m1, h0, by omega⟩
        · by_cases hin : i = n
          · subst hin; rw [h0] at hv; cases hv; omega
          · have := h2 i (by omega) v hv; omega
theorem rst_min {s : Smp} {b : Int} {c : List Int} : ∀ {k : Nat} {x : Bool} {m : Int}, rstF s b c k x = some m → (∃ l, RunF s b c k x l ∧ sumR l = m) ∧ ∀ l, RunF s b c k x l → m ≤ sumR l
  | 0, x, m, h => by
    cases h
    exact ⟨⟨[], rfl, rfl⟩, fun l hl => by obtain rfl : l = [] := hl; exact Int.le_refl _⟩
  | k + 1, x, m, h => by
    rw [rstF] at h
    obtain ⟨⟨i, hi, v, h1, h2⟩, h3⟩ := minP_le (Nat.le_refl _) h
    constructor
    · obtain ⟨⟨t, ht, hs⟩, _⟩ := rst_min h1
      refine ⟨_ :: t, ⟨_, t, rfl, getD_memG hi, ht⟩, ?_⟩
      rw [h2, ← hs]
      simp [sumR, Int.add_comm]
    · rintro l ⟨z, t, rfl, hz, ht⟩
      obtain ⟨j, hj, rfl⟩ := List.getElem_of_mem hz
      have hso := rst_run.2 ⟨t, ht⟩
      obtain ⟨v', hv'⟩ := Option.isSome_iff_exists.1 hso
      have h4 := (rst_min hv').2 t ht
      have e : (stepL s b (s.L - k) (stB s c (s.L - k)) x).getD j (false, 0) = (stepL s b (s.L - k) (stB s c (s.L - k)) x)[j] := by
        rw [List.getD_eq_getElem?_getD, List.getElem?_eq_getElem hj]; rfl
      have h5 := h3 j hj v' (by rw [e]; exact hv')
      rw [e] at h5
      simp only [sumR, List.map_cons, List.sum_cons] at h4 ⊢
      omega
/-- What is done in the first hours. -/
def PreF (s : Smp) (b : Int) (c : List Int) : Nat → List (Bool × Int) → Bool → Prop
  | 0, l, x => l = [] ∧ x = false
  | h + 1, l, x => ∃ l' z y, l = l' ++ [z] ∧ PreF s b c h l' y ∧ z ∈ stepL s b h (stB s c h) y ∧ z.1 = x
theorem PreF.len {s : Smp} {b : Int} {c : List Int} : ∀ {h : Nat} {l : List (Bool × Int)} {x : Bool}, PreF s b c h l x → l.length = h
  | 0, _, _, ⟨rfl, _⟩ => rfl
  | h + 1, _, _, ⟨l', z, y, rfl, h1, _, _⟩ => by simp [PreF.len h1]
theorem PreF.join {s : Smp} {b : Int} {c : List Int} : ∀ {h : Nat} {l : List (Bool × Int)} {x : Bool} {t : List (Bool × Int)}, (h : Int) ≤ s.L + 1 → PreF s b c h l x → RunF s b c (s.L + 1 - h).toNat x t → RunF s b c (s.L + 1).toNat false (l ++ t)
  | 0, _, _, t, hh, ⟨rfl, rfl⟩, h => by
    rw [show (s.L + 1 - ((0 : Nat) : Int)).toNat = (s.L + 1).toNat from by omega] at h
    exact h
  | h + 1, _, _, t, hh, ⟨l', z, y, rfl, h1, h2, h3⟩, ht => by
    rw [List.append_assoc]
    subst h3
    refine PreF.join (h := h) (by omega) h1 ?_
    rw [show (s.L + 1 - (h : Int)).toNat = (s.L + 1 - ((h + 1 : Nat) : Int)).toNat + 1 from by omega]
    refine ⟨z, t, rfl, ?_, ht⟩
    rw [show s.L - (((s.L + 1 - ((h + 1 : Nat) : Int)).toNat : Nat) : Int) = (h : Int) from by omega]
    exact h2
theorem RunF.split {s : Smp} {b : Int} {c : List Int} {l : List (Bool × Int)} (hl : RunF s b c (s.L + 1).toNat false l) : ∀ h : Nat, (h : Int) ≤ s.L + 1 → ∃ l1 t x, l = l1 ++ t ∧ PreF s b c h l1 x ∧ RunF s b c (s.L + 1 - h).toNat x t
  | 0, _ => ⟨[], l, false, rfl, ⟨rfl, rfl⟩, by rw [show (s.L + 1 - ((0 : Nat) : Int)).toNat = (s.L + 1).toNat from by omega]; exact hl⟩
  | h + 1, hh => by
    obtain ⟨l1, t, x, rfl, h1, h2⟩ := RunF.split hl h (by omega)
    rw [show (s.L + 1 - (h : Int)).toNat = (s.L + 1 - ((h + 1 : Nat) : Int)).toNat + 1 from by omega] at h2
    obtain ⟨z, t', rfl, hz, ht⟩ := h2
    rw [show s.L - (((s.L + 1 - ((h + 1 : Nat) : Int)).toNat : Nat) : Int) = (h : Int) from by omega] at hz
    exact ⟨l1 ++ [z], t', z.1, by simp, ⟨l1, z, x, rfl, h1, hz, rfl⟩, ht⟩
theorem RunF.len {s : Smp} {b : Int} {c : List Int} : ∀ {k : Nat} {x : Bool} {l : List (Bool × Int)}, RunF s b c k x l → l.length = k
  | 0, _, _, h => by obtain rfl := h; rfl
  | k + 1, _, _, ⟨z, t, h, _, ht⟩ => by subst h; simp [RunF.len ht]
theorem ddB_mem (x : Bool) : ∀ l : List Bool, x ∈ ddB l ↔ x ∈ l := by
  intro l
  obtain ⟨r, rfl⟩ : ∃ r : List Bool, l = r.reverse := ⟨l.reverse, by simp⟩
  induction r with
  | nil => simp [ddB]
  | cons y r ih =>
    rw [List.reverse_cons, ddB_snoc]
    split
    · rename_i h
      rw [ih, List.mem_append]
      constructor
      · exact fun h => .inl h
      · rintro (h1 | h1)
        · exact h1
        · obtain rfl := List.mem_singleton.1 h1
          obtain ⟨z, hz, hxz⟩ := List.any_eq_true.1 h
          obtain rfl := of_decide_eq_true hxz
          exact ih.1 hz
    · rw [List.mem_append, List.mem_append, ih]
theorem cnd_mem {s : Smp} {b : Int} {c : List Int} {h : Nat} {now : List Bool} {z : Bool × Int} : z ∈ cnd s b c h now ↔ ∃ x ∈ now, z ∈ stepL s b h (stB s c h) x ∧ (rstF s b c (s.L - h).toNat z.1).isSome = true := by
  show z ∈ (now.flatMap fun x => onL s b c h x (stepL s b h (stB s c h) x).length) ↔ _
  rw [List.mem_flatMap]
  constructor
  · rintro ⟨x, hx, h1⟩
    unfold onL at h1
    rw [List.take_length] at h1
    obtain ⟨h2, h3⟩ := List.mem_filter.1 h1
    exact ⟨x, hx, h2, h3⟩
  · rintro ⟨x, hx, h2, h3⟩
    refine ⟨x, hx, ?_⟩
    unfold onL
    rw [List.take_length]
    exact List.mem_filter.2 ⟨h2, h3⟩
theorem nowN_mem {s : Smp} {b : Int} {c : List Int} (hc : canF s b c = true) : ∀ {h : Nat} {x : Bool}, (h : Int) ≤ s.L + 1 → (x ∈ nowN s b c h ↔ (∃ l, PreF s b c h l x) ∧ (rstF s b c (s.L + 1 - h).toNat x).isSome = true)
  | 0, x, _ => by
    unfold canF at hc
    rw [nowN, List.mem_singleton, show (s.L + 1 - ((0 : Nat) : Int)).toNat = (s.L + 1).toNat from by omega]
    constructor
    · rintro rfl; exact ⟨⟨[], rfl, rfl⟩, hc⟩
    · rintro ⟨⟨l, _, h⟩, _⟩; exact h
  | h + 1, x, hh => by
    rw [nowN, ddB_mem, List.mem_map]
    have e : (s.L + 1 - ((h + 1 : Nat) : Int)).toNat = (s.L - (h : Int)).toNat := by omega
    have e1 : (s.L + 1 - (h : Int)).toNat = (s.L - (h : Int)).toNat + 1 := by omega
    have e2 : s.L - (((s.L - (h : Int)).toNat : Nat) : Int) = (h : Int) := by omega
    rw [e]
    constructor
    · rintro ⟨z, hz, rfl⟩
      obtain ⟨y, hy, h1, h2⟩ := cnd_mem.1 hz
      obtain ⟨⟨l, hl⟩, _⟩ := (nowN_mem hc (by omega)).1 hy
      exact ⟨⟨l ++ [z], l, z, y, rfl, hl, h1, rfl⟩, h2⟩
    · rintro ⟨⟨l, l', z, y, rfl, h1, h2, h3⟩, h4⟩
      subst h3
      refine ⟨z, cnd_mem.2 ⟨y, (nowN_mem hc (by omega)).2 ⟨⟨l', h1⟩, ?_⟩, h2, h4⟩, rfl⟩
      rw [e1, rst_some]
      exact ⟨z, by rw [e2]; exact h2, h4⟩
theorem opn_run {s : Smp} {b : Int} {c : List Int} (hc : canF s b c = true) {h : Nat} (hh : (h : Int) ≤ s.L) : opnH s b c h = true ↔ ∃ l, RunF s b c (s.L + 1).toNat false l ∧ (l.getD h (false, 0)).2 = 1 := by
  have e1 : (s.L + 1 - (h : Int)).toNat = (s.L - (h : Int)).toNat + 1 := by omega
  have e2 : s.L - (((s.L - (h : Int)).toNat : Nat) : Int) = (h : Int) := by omega
  unfold opnH
  rw [List.any_eq_true]
  constructor
  · rintro ⟨z, hz, h1⟩
    obtain ⟨x, hx, h2, h3⟩ := cnd_mem.1 hz
    obtain ⟨⟨l, hl⟩, _⟩ := (nowN_mem hc (by omega)).1 hx
    obtain ⟨t, ht⟩ := rst_run.1 h3
    refine ⟨l ++ z :: t, hl.join (by omega) ?_, ?_⟩
    · rw [e1]; exact ⟨z, t, rfl, by rw [e2]; exact h2, ht⟩
    · rw [List.getD_eq_getElem?_getD, List.getElem?_append_right (by rw [hl.len]; exact Nat.le_refl _), hl.len, Nat.sub_self]
      exact of_decide_eq_true h1
  · rintro ⟨l, hl, h1⟩
    obtain ⟨l1, t, x, rfl, h2, h3⟩ := hl.split h (by omega)
    have h3' := h3
    rw [e1] at h3
    obtain ⟨z, t', rfl, hz, ht⟩ := h3
    rw [e2] at hz
    rw [List.getD_eq_getElem?_getD, List.getElem?_append_right (by rw [h2.len]; exact Nat.le_refl _), h2.len, Nat.sub_self] at h1
    exact ⟨z, cnd_mem.2 ⟨x, (nowN_mem hc (by omega)).2 ⟨⟨l1, h2⟩, rst_run.2 ⟨_, h3'⟩⟩, hz, rst_run.2 ⟨t', ht⟩⟩, decide_eq_true h1⟩
theorem opnL_get {s : Smp} {b : Int} {c : List Int} {h : Nat} (hh : (h : Int) ≤ s.L) (h9 : s.L ≤ 9) : (opnL s b c).getD h false = opnH s b c h := by
  show (outN s b c (s.L + 1).toNat false).getD h false = _
  rw [outN_get (by omega), if_pos (by omega)]
theorem getD_setB {l : List Bool} {i o : Nat} {v : Bool} (hi : i < l.length) : (l.set i v).getD o false = if i = o then v else l.getD o false := by
  rw [List.getD_eq_getElem?_getD, List.getD_eq_getElem?_getD, List.getElem?_set]
  split
  · rename_i h; subst h; simp [hi]
  · rfl
theorem opN_get {s : Smp} {c : List Int} (hv : VSm s) (hco : ChOk s c) {q : Kwn} (hq : KnOk q) (op : List Bool) (o : Nat) : ∀ n : Nat, (n : Int) ≤ s.L + 1 → ((opN c op q n).getD o false = true ↔ q.opn.getD o false = true ∨ ∃ h : Nat, h < n ∧ o = (c.getD h 0).toNat ∧ op.getD h false = true)
  | 0, _ => by
    rw [opN]
    exact ⟨fun h => .inl h, fun h => h.resolve_right (fun ⟨m, hm, _⟩ => absurd hm (Nat.not_lt_zero m))⟩
  | n + 1, hn => by
    have ih := opN_get hv hco hq op o n (by omega)
    have hl' : (opN c op q n).length = 4 := by
      clear ih hn
      induction n with
      | zero => exact hq.o
      | succ n ih => rw [opN, List.length_set]; exact ih
    have h9 := hv.l9
    have hp4 := hv.p4
    have hcn := hco.pp n (by omega)
    rw [opN, show 0 + Int.toNat (n : Int) * 1 = n from by omega, show Int.toNat (c.getD n 0) * 1 = (c.getD n 0).toNat from by omega, getD_setB (by omega)]
    split
    · rename_i h
      subst h
      rw [Bool.or_eq_true, ih]
      constructor
      · rintro ((h1 | ⟨m, h1, h2⟩) | h1)
        · exact .inl h1
        · exact .inr ⟨m, by omega, h2⟩
        · exact .inr ⟨n, by omega, rfl, h1⟩
      · rintro (h1 | ⟨m, h1, h2, h3⟩)
        · exact .inl (.inl h1)
        · by_cases hm : m = n
          · subst hm; exact .inr h3
          · exact .inl (.inr ⟨m, by omega, h2, h3⟩)
    · rename_i hne
      rw [ih]
      constructor
      · rintro (h1 | ⟨m, h1, h2⟩)
        · exact .inl h1
        · exact .inr ⟨m, by omega, h2⟩
      · rintro (h1 | ⟨m, h1, h2⟩)
        · exact .inl h1
        · by_cases hm : m = n
          · subst hm; exact absurd h2.1.symm hne
          · exact .inr ⟨m, by omega, h2⟩
theorem ask_opn {s : Smp} (hv : VSm s) {b : Int} (o : Nat) : (askF s b).opn.getD o false = true ↔ ∃ c ∈ chainsL s b, canF s b c = true ∧ ∃ h : Nat, (h : Int) ≤ s.L ∧ o = (c.getD h 0).toNat ∧ opnH s b c h = true := by
  have h0 := hv.l0
  have h9 := hv.l9
  have gen : ∀ (l : List (List Int)) (q : Kwn), KnOk q → (∀ c ∈ l, ChOk s c) → ((l.foldl (askU s b) q).opn.getD o false = true ↔ q.opn.getD o false = true ∨ ∃ c ∈ l, canF s b c = true ∧ ∃ h : Nat, (h : Int) ≤ s.L ∧ o = (c.getD h 0).toNat ∧ opnH s b c h = true) := fun l => by
    induction l with
    | nil => intro q _ _; simp
    | cons c l ih =>
      intro q hq hl
      rw [List.foldl_cons, ih _ (askU_ok hq) (fun c hc => hl c (List.mem_cons_of_mem _ hc))]
      have hco := hl c (List.mem_cons_self ..)
      unfold askU
      split
      · rename_i hc
        rw [show (Kwn.mk _ (opN c (opnL s b c) q (s.L + 1).toNat) _ _).opn = opN c (opnL s b c) q (s.L + 1).toNat from rfl, opN_get hv hco hq _ o _ (by omega)]
        constructor
        · rintro ((h1 | ⟨h, h1, h2, h3⟩) | ⟨c', h1, h2⟩)
          · exact .inl h1
          · exact .inr ⟨c, List.mem_cons_self .., hc, h, by omega, h2, by rw [opnL_get (by omega) h9] at h3; exact h3⟩
          · exact .inr ⟨c', List.mem_cons_of_mem _ h1, h2⟩
        · rintro (h1 | ⟨c', h1, h2, h, h3, h4, h5⟩)
          · exact .inl (.inl h1)
          · rcases List.mem_cons.1 h1 with rfl | h1
            · exact .inl (.inr ⟨h, by omega, h4, by rw [opnL_get (by omega) h9]; exact h5⟩)
            · exact .inr ⟨c', h1, h2, h, h3, h4, h5⟩
      · rename_i hc
        constructor
        · rintro (h1 | ⟨c', h1, h2⟩)
          · exact .inl h1
          · exact .inr ⟨c', List.mem_cons_of_mem _ h1, h2⟩
        · rintro (h1 | ⟨c', h1, h2, h3⟩)
          · exact .inl h1
          · rcases List.mem_cons.1 h1 with rfl | h1
            · exact absurd h2 hc
            · exact .inr ⟨c', h1, h2, h3⟩
  have := gen (chainsL s b) kn0 ⟨rfl, rfl⟩ (fun c hc => chainsL_ok hv hc)
  unfold askF
  rw [this]
  have hz : kn0.opn.getD o false = false := by
    rw [kn0, List.getD_eq_getElem?_getD, List.getElem?_replicate]; split <;> rfl
  rw [hz]
  exact ⟨fun h => h.resolve_left (by decide), fun h => .inr h⟩
theorem ask_least {s : Smp} {b : Int} (hp : possF s b = true) : (∃ c ∈ chainsL s b, canF s b c = true ∧ lsN s b c = (askF s b).least) ∧ ∀ c ∈ chainsL s b, canF s b c = true → (askF s b).least ≤ lsN s b c := by
  have gen : ∀ (l : List (List Int)) (q : Kwn), ((l.foldl (askU s b) q).sm = true → (q.sm = true ∧ (l.foldl (askU s b) q).least = q.least) ∨ ∃ c ∈ l, canF s b c = true ∧ lsN s b c = (l.foldl (askU s b) q).least) ∧ ((q.sm = true → (l.foldl (askU s b) q).least ≤ q.least) ∧ ∀ c ∈ l, canF s b c = true → (l.foldl (askU s b) q).least ≤ lsN s b c) := fun l => by
    induction l with
    | nil => intro q; exact ⟨fun h => .inl ⟨h, rfl⟩, fun _ => Int.le_refl _, fun c hc => by cases hc⟩
    | cons c l ih =>
      intro q
      rw [List.foldl_cons]
      obtain ⟨i1, i2, i3⟩ := ih (askU s b q c)
      by_cases hc : canF s b c = true
      · have e : (askU s b q c).least = if q.sm = true ∧ ¬ lsN s b c < q.least then q.least else lsN s b c := by unfold askU; rw [if_pos hc]
        have e2 : (askU s b q c).sm = true := by unfold askU; rw [if_pos hc]
        refine ⟨fun h => ?_, fun hq => ?_, fun c' hc' hcc => ?_⟩
        · rcases i1 h with ⟨_, h2⟩ | ⟨c', h1, h2⟩
          · rw [h2, e]
            split
            · rename_i hh; exact .inl ⟨hh.1, rfl⟩
            · exact .inr ⟨c, List.mem_cons_self .., hc, rfl⟩
          · exact .inr ⟨c', List.mem_cons_of_mem _ h1, h2⟩
        · have := i2 e2
          rw [e] at this
          split at this
          · exact this
          · rename_i hh
            have : lsN s b c < q.least := Decidable.byContradiction fun g => hh ⟨hq, g⟩
            omega
        · rcases List.mem_cons.1 hc' with rfl | hc'
          · have := i2 e2
            rw [e] at this
            split at this
            · rename_i hh; omega
            · exact this
          · exact i3 c' hc' hcc
      · have e : askU s b q c = q := by unfold askU; rw [if_neg hc]
        rw [e] at i1 i2 i3 ⊢
        refine ⟨fun h => ?_, i2, fun c' hc' hcc => ?_⟩
        · rcases i1 h with h1 | ⟨c', h1, h2⟩
          · exact .inl h1
          · exact .inr ⟨c', List.mem_cons_of_mem _ h1, h2⟩
        · rcases List.mem_cons.1 hc' with rfl | hc'
          · exact absurd hcc hc
          · exact i3 c' hc' hcc
  obtain ⟨g1, _, g3⟩ := gen (chainsL s b) kn0
  have hsm := askF_sm s b
  rw [hp] at hsm
  exact ⟨(g1 hsm).resolve_left (fun h => by cases h.1), g3⟩
theorem pplN_mem {l : List Bool} {n : Nat} {e : Int} : e ∈ pplN l n ↔ ∃ i : Nat, i < n ∧ l.getD i false = true ∧ e = i := by
  unfold pplN
  constructor
  · intro h
    obtain ⟨i, hi, rfl⟩ := List.mem_map.1 h
    obtain ⟨h1, h2⟩ := List.mem_filter.1 hi
    exact ⟨i, List.mem_range.1 h1, h2, rfl⟩
  · rintro ⟨i, h1, h2, rfl⟩
    exact List.mem_map.2 ⟨i, List.mem_filter.2 ⟨List.mem_range.2 h1, h2⟩, rfl⟩
theorem sure_ok {s : Smp} (hv : VSm s) (hc : consF s = true) : sureE s true = 0 := by
  unfold sureE
  rw [if_neg (fun h => h (chkS_0.2 hv)), if_neg (by decide), if_neg (by rw [hc]; decide)]
theorem opE_ok {s : Smp} (hv : VSm s) (hc : consF s = true) {b : Int} (hb : 0 ≤ b ∧ b < s.B) : opE s b = 0 := by
  unfold opE
  rw [decide_eq_true (by omega)]; exact sure_ok hv hc
theorem opL_mem {s : Smp} (hv : VSm s) {b : Int} (he : opE s b = 0) {e : Int} : e ∈ opL s b ↔ ∃ c ∈ chainsL s b, canF s b c = true ∧ ∃ h : Nat, (h : Int) ≤ s.L ∧ c.getD h 0 = e ∧ opnH s b c h = true := by
  unfold opL
  rw [if_pos he]
  show e ∈ pplN _ _ ↔ _
  rw [pplN_mem]
  constructor
  · rintro ⟨i, hi, h1, rfl⟩
    obtain ⟨c, h2, h3, h, h4, h5, h6⟩ := (ask_opn hv i).1 h1
    have := (chainsL_ok hv h2).pp h h4
    exact ⟨c, h2, h3, h, h4, by omega, h6⟩
  · rintro ⟨c, h2, h3, h, h4, h5, h6⟩
    have := (chainsL_ok hv h2).pp h h4
    exact ⟨e.toNat, by omega, (ask_opn hv _).2 ⟨c, h2, h3, h, h4, by omega, h6⟩, by omega⟩
end Go.Sp
/-
  The document's examples, computed.
-/
namespace Go.Sp
open Go Go.Proofs
def twoS (m : List Sgt) : Smp := ⟨2, 3, 4, 0, [false, false, true], [⟨0, 0, 1, 1, 2⟩, ⟨0, 1, 2, 3, 3⟩, ⟨1, 0, 1, 2, 2⟩], [⟨0, 2, true⟩, ⟨1, 4, true⟩] ++ m⟩
abbrev badG : Sgt := ⟨0, 2, false⟩
theorem two_few (m : List Sgt) (h : m.length ≤ 1) : Few (twoS m) := ⟨by simp [twoS], by simp [twoS], by simp [twoS]; omega⟩
theorem aw_h : hdE (twoS []) 0 1 = 0 ∧ hdL (twoS []) 0 1 = [0, 1] := by decide +kernel
theorem aw_o : opE (twoS []) 0 = 0 ∧ opL (twoS []) 0 = [2] := by decide +kernel
theorem aw_v : vdE (twoS []) = 0 ∧ vdL (twoS []) = [3, 2] := by decide +kernel
theorem aw_a : alF (twoS []) = 3 := by decide +kernel
theorem aw_l : lsL (twoS []) = [0, 0] := by decide +kernel
theorem aw_f : frsE (twoS [badG]) = (5, 0) := by decide +kernel
theorem aw_x : chkS (twoS [badG]) = 0 ∧ lvN (twoS [badG]) 2 = [3] := by decide +kernel
theorem aw_x2 : levL (twoS [badG]) = [3] := by
  unfold levL lvS
  rw [if_pos aw_x.1, show (twoS [badG]).B.toNat = 2 from rfl, aw_x.2]
  simp
end Go.Sp
/-
  The document's examples, walked: two, awake.
-/
namespace Go.Sp
open Go Go.Proofs
theorem between_c (a b : Int) (w : World) : CnV Tryz.prog 49 #[vi a, vi b] w (.agg #[vi a, vi b]) := by
  refine cnv (vs := [_, _]) Tryz.func49 rfl rfl ?_
  all_goals refine tc_seq fun K1 hK1 => ?_; refine tc_region ?_; refine tl_e (e_allocN rfl) rfl (fun b4 _ => ?_); refine tl_nil ?_; ((refine hK1 ?_; try (clear hK1; clear K1)))
  all_goals refine tc_seq fun K2 hK2 => ?_; refine tc_region ?_; refine tl_q (y_move rfl) rfl ?_; refine tl_q (y_move rfl) rfl ?_; refine tl_q (y_build_g (by repeat constructor)) rfl ?_; refine tl_e (e_storeW rfl rfl (by repeat constructor) (by rfl) (by rfl) (by simp [Value.oneCell'])) rfl (fun _ _ => ?_); refine tl_nil ?_; ((refine hK2 ?_; try (clear hK2; clear K2)))
  all_goals refine tc_ret ?_; (repeat (first | refine tk_then_ret ?_))
  all_goals (refine tk_ret rfl rfl (.cons (.agg inferInstance rfl (by repeat constructor) (by rfl)) .nil) ?_)
  all_goals (
   exact fun w' hw' => ⟨rfl, hw'.fr (by simp)⟩)
set_option maxHeartbeats 1000000 in
theorem two_c (m : List Sgt) (hm : m.length ≤ 1) (mv : Value) (w : World) (hr : RdS 3 sgE w mv m) :
    CnX Tryz.prog 48 #[mv] w [] (fun y : Nat × Nat × Nat × Nat × List Value => smV (twoS m) (.slice (some ⟨y.1, 0, none⟩) 3 3) (.slice (some ⟨y.2.1, 0, none⟩) 3 3) (.slice (some ⟨y.2.2.1, 0, none⟩) (2 + m.length) y.2.2.2.1))
      (fun y w' => RdSm w' (twoS m) (.slice (some ⟨y.1, 0, none⟩) 3 3) (.slice (some ⟨y.2.1, 0, none⟩) 3 3) (.slice (some ⟨y.2.2.1, 0, none⟩) (2 + m.length) y.2.2.2.1)) := by
  refine cnx0 (vs := [_]) Tryz.func48 rfl rfl ?_
  all_goals refine tc_seq fun K1 hK1 => ?_; refine tc_region ?_; refine tl_e (e_allocN rfl) rfl (fun b2 _ => ?_); refine tl_nil ?_; ((refine hK1 ?_; try (clear hK1; clear K1)))
  all_goals refine tc_seq fun K2 hK2 => ?_; refine tc_region ?_; ((refine tl_e (e_bslice rfl (by (repeat (first | exact .nil | apply PV.one rfl rfl)); done) rfl rfl) rfl (fun b3 _ => ?_)))
  all_goals refine tl_e (e_callV rfl (.cons rfl (.cons rfl .nil)) (fun w' _ => between_c _ _ w')) rfl (fun _ _ => ?_); refine tl_q (y_build_g (by repeat constructor)) rfl ?_; refine tl_e (e_callV rfl (.cons rfl (.cons rfl .nil)) (fun w' _ => between_c _ _ w')) rfl (fun _ _ => ?_); refine tl_q (y_build_g (by repeat constructor)) rfl ?_; refine tl_e (e_callV rfl (.cons rfl (.cons rfl .nil)) (fun w' _ => between_c _ _ w')) rfl (fun _ _ => ?_); refine tl_q (y_build_g (by repeat constructor)) rfl ?_; refine tl_e (e_bsliceG rfl (.agg rfl rfl (.agg rfl rfl (.agg rfl rfl .nil))) rfl rfl) rfl (fun b10 _ => ?_); refine tl_q (y_build_g (by repeat constructor)) rfl ?_; refine tl_q (y_build_g (by repeat constructor)) rfl ?_; refine tl_e (e_bsliceG rfl (.agg rfl rfl (.agg rfl rfl .nil)) rfl rfl) rfl (fun b13 _ => ?_); refine tl_q (y_move rfl) rfl ?_; refine tl_e (e_append_own (old := [vi 0, vi 2, .bool true, vi 1, vi 4, .bool true]) (junk := []) rfl rfl rfl (by repeat constructor) rfl rfl (Nat.le_refl 2) (fun w' hw' => hr.fr (hw'.fr (w0 := w) (S := []) (MI.m (by repeat constructor)))) (one_flat sgE_one _) (by omega) rfl) rfl (fun r hq => ?_); refine tl_q (y_build_g (by repeat constructor)) rfl ?_; refine tl_e (e_storeW rfl rfl (by repeat constructor) (by rfl) (by rfl) (by simp [Value.oneCell'])) rfl (fun _ _ => ?_); refine tl_nil ?_; ((refine hK2 ?_; try (clear hK2; clear K2)))
  all_goals refine tc_ret ?_; (repeat (first | refine tk_then_ret ?_))
  all_goals (refine tk_ret rfl rfl (.cons (.agg inferInstance rfl (by repeat constructor) (by rfl)) .nil) ?_)
  all_goals (
   refine fun w' hw' => ⟨(b3, b10, r.1, r.2.1, r.2.2), rfl, hw'.fr (w0 := w) (S := []) (MI.m (by repeat constructor)), ?_, ?_, ?_⟩
   · exact RdS.own (xs := (twoS m).st) (cap := 3) (junk := []) boE_len hw' (b := b3) (by repeat constructor)
   · exact RdS.own (xs := (twoS m).ps) (cap := 3) (junk := []) psE_len hw' (b := b10) (by repeat constructor)
   · have := RdS.own (xs := (twoS m).sg) (cap := r.2.1) (junk := r.2.2) sgE_len hw' (b := r.1) (by repeat constructor)
     rw [show (twoS m).sg.length = 2 + m.length from by simp [twoS]; omega] at this
     exact this)
theorem two0 : Few (twoS []) := two_few [] (by simp)
theorem two1 : Few (twoS [badG]) := two_few [badG] (by simp)
theorem hold_v (tv pv gv : Value) (w : World) (hr : RdSm w (twoS []) tv pv gv) : CnX Tryz.prog 17 #[smV (twoS []) tv pv gv, vi 0, vi 1] w [] (fun y : Option Addr × Nat => .tuple #[slV 2 y, vi 0]) (fun y w' => RdI w' (slV 2 y) [0, 1]) := by
  have h := holders_c (twoS []) two0 0 1 tv pv gv w hr
  rw [aw_h.1, aw_h.2] at h
  exact h.imp id (fun _ => rfl) (fun _ h => h) (fun _ _ _ h => h.toI)
theorem open_v (tv pv gv : Value) (w : World) (hr : RdSm w (twoS []) tv pv gv) : CnX Tryz.prog 19 #[smV (twoS []) tv pv gv, vi 0] w [] (fun y : Option Addr × Nat => .tuple #[slV 1 y, vi 0]) (fun y w' => RdI w' (slV 1 y) [2]) := by
  have h := openers_c (twoS []) two0 0 tv pv gv w hr
  rw [aw_o.1, aw_o.2] at h
  exact h.imp id (fun _ => rfl) (fun _ h => h) (fun _ _ _ h => h.toI)
theorem verd_v (tv pv gv : Value) (w : World) (hr : RdSm w (twoS []) tv pv gv) : CnX Tryz.prog 26 #[smV (twoS []) tv pv gv] w [] (fun y : Option Addr × Nat => .tuple #[slV 2 y, vi 0]) (fun y w' => RdI w' (slV 2 y) [3, 2]) := by
  have h := verdicts_c (twoS []) two0 tv pv gv w hr
  rw [aw_v.1, aw_v.2] at h
  exact h.imp id (fun _ => rfl) (fun _ h => h) (fun _ _ _ h => h.toI)
theorem alik_v (tv pv gv : Value) (w : World) (hr : RdSm w (twoS []) tv pv gv) : CnV Tryz.prog 27 #[smV (twoS []) tv pv gv] w (.tuple #[vi 3, vi 0]) := by
  have h := alike_c (twoS []) two0 tv pv gv w hr
  rw [aw_a, aw_v.1] at h
  exact h
theorem leas_v (tv pv gv : Value) (w : World) (hr : RdSm w (twoS []) tv pv gv) : CnX Tryz.prog 28 #[smV (twoS []) tv pv gv] w [] (fun y : Option Addr × Nat => .tuple #[slV 2 y, vi 0]) (fun y w' => RdI w' (slV 2 y) [0, 0]) := by
  have h := least_c (twoS []) two0 tv pv gv w hr
  rw [aw_v.1, aw_l] at h
  exact h.imp id (fun _ => rfl) (fun _ h => h) (fun _ _ _ h => h.toI)
theorem frst_v (tv pv gv : Value) (w : World) (hr : RdSm w (twoS [badG]) tv pv gv) : CnV Tryz.prog 30 #[smV (twoS [badG]) tv pv gv] w (.tuple #[vi 5, vi 0]) := by
  have h := first_c (twoS [badG]) two1 tv pv gv w hr
  rw [aw_f] at h
  exact h
theorem leav_v (tv pv gv : Value) (w : World) (hr : RdSm w (twoS [badG]) tv pv gv) : CnX Tryz.prog 31 #[smV (twoS [badG]) tv pv gv] w [] (fun y : Option Addr × Nat => .tuple #[slV 1 y, vi 0]) (fun y w' => RdI w' (slV 1 y) [3]) := by
  have h := leaveAll_c (twoS [badG]) two1 tv pv gv w hr
  rw [aw_x.1, aw_x2] at h
  exact h
set_option maxHeartbeats 4000000 in
theorem awake_c (w : World) : CnV Tryz.prog 16 #[] w (.bool true) := by
  refine cnv (vs := []) Tryz.func16 rfl rfl ?_
  all_goals refine tc_seq fun K1 hK1 => ?_; refine tc_region ?_; refine tl_q (y_assign rfl) rfl ?_; refine tl_nil ?_; ((refine hK1 ?_; try (clear hK1; clear K1)))
  all_goals refine tc_seq fun K2 hK2 => ?_; refine tc_lay ([]) (SB.s .nil) (fun wl1 hl1 => ?_); refine tc_region ?_; refine tl_e (e_callX rfl (.cons rfl .nil) (fun w' hw' => two_c [] (by simp) (.slice none 0 0) w' (RdS.nil _ _ _ _))) rfl (fun x1 hx1 => ?_); refine tl_e (e_callX rfl (.cons rfl (.cons rfl (.cons rfl .nil))) (fun w' hw' => hold_v _ _ _ w' (hx1.1.fr (hw'.calm hx1.2 (MI.m (by repeat constructor)) (SB.s (by repeat constructor)))))) rfl (fun y1 hy1 => ?_); refine tl_q (y_move rfl) rfl ?_; refine tl_q (y_extract rfl rfl) rfl ?_; refine tl_q (y_extract rfl rfl) rfl ?_; refine tl_q (y_assign rfl) rfl ?_; refine tl_q (y_assign rfl) rfl ?_; refine tl_nil ?_; ((refine hK2 ?_; try (clear hK2; clear K2)))
  all_goals refine tc_seq fun K3 hK3 => ?_; refine tc_lay ([]) (SB.s .nil) (fun wl2 hl2 => ?_); refine tc_region ?_; refine tl_e (e_callX rfl (.cons rfl .nil) (fun w' hw' => two_c [] (by simp) (.slice none 0 0) w' (RdS.nil _ _ _ _))) rfl (fun x2 hx2 => ?_); refine tl_e (e_callX rfl (.cons rfl (.cons rfl .nil)) (fun w' hw' => open_v _ _ _ w' (hx2.1.fr (hw'.calm hx2.2 (MI.m (by repeat constructor)) (SB.s (by repeat constructor)))))) rfl (fun y2 hy2 => ?_); refine tl_q (y_move rfl) rfl ?_; refine tl_q (y_extract rfl rfl) rfl ?_; refine tl_q (y_extract rfl rfl) rfl ?_; refine tl_q (y_assign rfl) rfl ?_; refine tl_q (y_assign rfl) rfl ?_; refine tl_nil ?_; ((refine hK3 ?_; try (clear hK3; clear K3)))
  all_goals refine tc_seq fun K4 hK4 => ?_; refine tc_lay ([]) (SB.s .nil) (fun wl3 hl3 => ?_); refine tc_region ?_; refine tl_e (e_callX rfl (.cons rfl .nil) (fun w' hw' => two_c [] (by simp) (.slice none 0 0) w' (RdS.nil _ _ _ _))) rfl (fun x3 hx3 => ?_); refine tl_e (e_callX rfl (.cons rfl .nil) (fun w' hw' => verd_v _ _ _ w' (hx3.1.fr (hw'.calm hx3.2 (MI.m (by repeat constructor)) (SB.s (by repeat constructor)))))) rfl (fun y3 hy3 => ?_); refine tl_q (y_move rfl) rfl ?_; refine tl_q (y_extract rfl rfl) rfl ?_; refine tl_q (y_extract rfl rfl) rfl ?_; refine tl_q (y_assign rfl) rfl ?_; refine tl_q (y_assign rfl) rfl ?_; refine tl_nil ?_; ((refine hK4 ?_; try (clear hK4; clear K4)))
  all_goals refine tc_seq fun K5 hK5 => ?_; refine tc_lay ([]) (SB.s .nil) (fun wl4 hl4 => ?_); refine tc_region ?_; refine tl_e (e_callX rfl (.cons rfl .nil) (fun w' hw' => two_c [] (by simp) (.slice none 0 0) w' (RdS.nil _ _ _ _))) rfl (fun x4 hx4 => ?_); refine tl_e (e_callV rfl (.cons rfl .nil) (fun w' hw' => alik_v _ _ _ w' (hx4.1.fr (hw'.calm hx4.2 (MI.m (by repeat constructor)) (SB.s (by repeat constructor)))))) rfl (fun _ _ => ?_); refine tl_q (y_move rfl) rfl ?_; refine tl_q (y_extract rfl rfl) rfl ?_; refine tl_q (y_extract rfl rfl) rfl ?_; refine tl_q (y_assign rfl) rfl ?_; refine tl_q (y_assign rfl) rfl ?_; refine tl_nil ?_; ((refine hK5 ?_; try (clear hK5; clear K5)))
  all_goals refine tc_seq fun K6 hK6 => ?_; refine tc_lay ([]) (SB.s .nil) (fun wl5 hl5 => ?_); refine tc_region ?_; refine tl_e (e_callX rfl (.cons rfl .nil) (fun w' hw' => two_c [] (by simp) (.slice none 0 0) w' (RdS.nil _ _ _ _))) rfl (fun x5 hx5 => ?_); refine tl_e (e_callX rfl (.cons rfl .nil) (fun w' hw' => leas_v _ _ _ w' (hx5.1.fr (hw'.calm hx5.2 (MI.m (by repeat constructor)) (SB.s (by repeat constructor)))))) rfl (fun y5 hy5 => ?_); refine tl_q (y_move rfl) rfl ?_; refine tl_q (y_extract rfl rfl) rfl ?_; refine tl_q (y_extract rfl rfl) rfl ?_; refine tl_q (y_assign rfl) rfl ?_; refine tl_q (y_assign rfl) rfl ?_; refine tl_nil ?_; ((refine hK6 ?_; try (clear hK6; clear K6)))
  all_goals refine tc_seq fun K7 hK7 => ?_; refine tc_lay ([]) (SB.s .nil) (fun wl6 hl6 => ?_); refine tc_region ?_; refine tl_q (y_build_g (by repeat constructor)) rfl ?_; refine tl_e (e_bsliceG rfl (.agg rfl rfl .nil) rfl rfl) rfl (fun b42 _ => ?_); refine tl_e (e_callX rfl (.cons rfl .nil) (fun w' hw' => two_c [badG] (by simp) _ w' (RdS.own0 (xs := [badG]) sgE_len hw' (by repeat constructor)))) rfl (fun x6 hx6 => ?_); refine tl_e (e_callV rfl (.cons rfl .nil) (fun w' hw' => frst_v _ _ _ w' (hx6.1.fr (hw'.calm hx6.2 (MI.m (by repeat constructor)) (SB.s (by repeat constructor)))))) rfl (fun _ _ => ?_); refine tl_q (y_move rfl) rfl ?_; refine tl_q (y_extract rfl rfl) rfl ?_; refine tl_q (y_extract rfl rfl) rfl ?_; refine tl_q (y_assign rfl) rfl ?_; refine tl_q (y_assign rfl) rfl ?_; refine tl_nil ?_; ((refine hK7 ?_; try (clear hK7; clear K7)))
  all_goals refine tc_seq fun K8 hK8 => ?_; refine tc_lay ([]) (SB.s .nil) (fun wl7 hl7 => ?_); refine tc_region ?_; refine tl_q (y_build_g (by repeat constructor)) rfl ?_; refine tl_e (e_bsliceG rfl (.agg rfl rfl .nil) rfl rfl) rfl (fun b49 _ => ?_); refine tl_e (e_callX rfl (.cons rfl .nil) (fun w' hw' => two_c [badG] (by simp) _ w' (RdS.own0 (xs := [badG]) sgE_len hw' (by repeat constructor)))) rfl (fun x7 hx7 => ?_); refine tl_e (e_callX rfl (.cons rfl .nil) (fun w' hw' => leav_v _ _ _ w' (hx7.1.fr (hw'.calm hx7.2 (MI.m (by repeat constructor)) (SB.s (by repeat constructor)))))) rfl (fun y7 hy7 => ?_); refine tl_q (y_move rfl) rfl ?_; refine tl_q (y_extract rfl rfl) rfl ?_; refine tl_q (y_extract rfl rfl) rfl ?_; refine tl_q (y_assign rfl) rfl ?_; refine tl_q (y_assign rfl) rfl ?_; refine tl_nil ?_; ((refine hK8 ?_; try (clear hK8; clear K8)))
  all_goals refine tc_seq fun K9 hK9 => ?_; refine tc_lay ([]) (SB.s .nil) (fun wl8 hl8 => ?_); refine tc_region ?_; refine tl_q (y_move rfl) rfl ?_; refine tl_q (y_eql rfl rfl) rfl ?_; refine tl_q (y_move rfl) rfl ?_; refine tl_qg rfl rfl (y_move rfl) rfl ?_; ((refine tl_eg rfl rfl rfl (e_bslice rfl (by (repeat (first | exact .nil | apply PV.one rfl rfl)); done) rfl rfl) (fun _ _ => ?_)))
  all_goals (refine tl_eg rfl rfl rfl (e_callV rfl (.cons rfl (.cons rfl .nil)) (fun w' hw' => rSame_c [0, 1] [0, 1] (by decide) (by decide) _ _ w' (hy1.1.fr (hw'.fr (MI.m (by repeat constructor)))) (RdI.own0 hw' (by repeat constructor)))) (fun _ _ => ?_)); refine tl_q (y_pick_t rfl rfl) rfl ?_; refine tl_q (y_move rfl) rfl ?_; refine tl_qg rfl rfl (y_move rfl) rfl ?_; refine tl_qg rfl rfl (y_eql rfl rfl) rfl ?_; refine tl_q (y_pick_t rfl rfl) rfl ?_; refine tl_q (y_move rfl) rfl ?_; refine tl_qg rfl rfl (y_move rfl) rfl ?_; ((refine tl_eg rfl rfl rfl (e_bslice rfl (by (repeat (first | exact .nil | apply PV.one rfl rfl)); done) rfl rfl) (fun _ _ => ?_)))
  all_goals (refine tl_eg rfl rfl rfl (e_callV rfl (.cons rfl (.cons rfl .nil)) (fun w' hw' => rSame_c [2] [2] (by decide) (by decide) _ _ w' (hy2.1.fr (hw'.fr (MI.m (by repeat constructor)))) (RdI.own0 hw' (by repeat constructor)))) (fun _ _ => ?_)); refine tl_q (y_pick_t rfl rfl) rfl ?_; refine tl_q (y_move rfl) rfl ?_; refine tl_qg rfl rfl (y_move rfl) rfl ?_; refine tl_qg rfl rfl (y_eql rfl rfl) rfl ?_; refine tl_q (y_pick_t rfl rfl) rfl ?_; refine tl_q (y_move rfl) rfl ?_; refine tl_qg rfl rfl (y_move rfl) rfl ?_; ((refine tl_eg rfl rfl rfl (e_bslice rfl (by (repeat (first | exact .nil | apply PV.one rfl rfl)); done) rfl rfl) (fun _ _ => ?_)))
  all_goals (refine tl_eg rfl rfl rfl (e_callV rfl (.cons rfl (.cons rfl .nil)) (fun w' hw' => rSame_c [3, 2] [3, 2] (by decide) (by decide) _ _ w' (hy3.1.fr (hw'.fr (MI.m (by repeat constructor)))) (RdI.own0 hw' (by repeat constructor)))) (fun _ _ => ?_)); refine tl_q (y_pick_t rfl rfl) rfl ?_; refine tl_q (y_move rfl) rfl ?_; refine tl_qg rfl rfl (y_move rfl) rfl ?_; refine tl_qg rfl rfl (y_eql rfl rfl) rfl ?_; refine tl_q (y_pick_t rfl rfl) rfl ?_; refine tl_q (y_move rfl) rfl ?_; refine tl_qg rfl rfl (y_move rfl) rfl ?_; refine tl_qg rfl rfl (y_eql rfl rfl) rfl ?_; refine tl_q (y_pick_t rfl rfl) rfl ?_; refine tl_q (y_move rfl) rfl ?_; refine tl_qg rfl rfl (y_move rfl) rfl ?_; refine tl_qg rfl rfl (y_eql rfl rfl) rfl ?_; refine tl_q (y_pick_t rfl rfl) rfl ?_; refine tl_q (y_move rfl) rfl ?_; refine tl_qg rfl rfl (y_move rfl) rfl ?_; ((refine tl_eg rfl rfl rfl (e_bslice rfl (by (repeat (first | exact .nil | apply PV.one rfl rfl)); done) rfl rfl) (fun _ _ => ?_)))
  all_goals (refine tl_eg rfl rfl rfl (e_callV rfl (.cons rfl (.cons rfl .nil)) (fun w' hw' => rSame_c [0, 0] [0, 0] (by decide) (by decide) _ _ w' (hy5.1.fr (hw'.fr (MI.m (by repeat constructor)))) (RdI.own0 hw' (by repeat constructor)))) (fun _ _ => ?_)); refine tl_q (y_pick_t rfl rfl) rfl ?_; refine tl_q (y_move rfl) rfl ?_; refine tl_qg rfl rfl (y_move rfl) rfl ?_; refine tl_qg rfl rfl (y_eql rfl rfl) rfl ?_; refine tl_q (y_pick_t rfl rfl) rfl ?_; refine tl_q (y_move rfl) rfl ?_; refine tl_qg rfl rfl (y_move rfl) rfl ?_; refine tl_qg rfl rfl (y_eql rfl rfl) rfl ?_; refine tl_q (y_pick_t rfl rfl) rfl ?_; refine tl_q (y_move rfl) rfl ?_; refine tl_qg rfl rfl (y_move rfl) rfl ?_; refine tl_qg rfl rfl (y_eql rfl rfl) rfl ?_; refine tl_q (y_pick_t rfl rfl) rfl ?_; refine tl_q (y_move rfl) rfl ?_; refine tl_qg rfl rfl (y_move rfl) rfl ?_; ((refine tl_eg rfl rfl rfl (e_bslice rfl (by (repeat (first | exact .nil | apply PV.one rfl rfl)); done) rfl rfl) (fun _ _ => ?_)))
  all_goals (refine tl_eg rfl rfl rfl (e_callV rfl (.cons rfl (.cons rfl .nil)) (fun w' hw' => rSame_c [3] [3] (by decide) (by decide) _ _ w' ((hy7.1.fr (hl8.calm hy7.2 (MI.m (by repeat constructor)) (SB.s (by repeat constructor)))).fr (hw'.fr (w0 := wl8) (S := []) (MI.m (by repeat constructor)))) (RdI.own0 hw' (by repeat constructor)))) (fun _ _ => ?_)); refine tl_q (y_pick_t rfl rfl) rfl ?_; refine tl_q (y_assign rfl) rfl ?_; refine tl_nil ?_; ((refine hK9 ?_; try (clear hK9; clear K9)))
  all_goals refine tc_ret ?_; (repeat (first | refine tk_then_ret ?_))
  all_goals (refine tk_ret rfl rfl (.cons (.tmp rfl) .nil) ?_)
  all_goals (
   exact fun w' hw' => ⟨rfl, hw'.fr (w0 := w) (S := []) (MI.m (by repeat constructor))⟩)
end Go.Sp
/-
  SampleVerdicts, walked.
-/
namespace Go.Sp
open Go Go.Proofs
theorem lsure_c (s : Smp) (hf : Few s) (tv pv gv : Value) (w : World) (hr : RdSm w s tv pv gv) : CnV Tryz.prog 20 #[smV s tv pv gv] w (vi (vdE s)) := by
  have hr0 := hr
  refine cnv (vs := [_]) Tryz.func20 rfl rfl ?_
  all_goals refine tc_seq fun K1 hK1 => ?_; refine tc_region ?_; refine tl_e (e_box rfl rfl rfl) rfl (fun b1 _ => ?_); refine tl_q (y_assign rfl) rfl ?_; refine tl_nil ?_; ((refine hK1 ?_; try (clear hK1; clear K1)))
  all_goals refine tc_seq fun K2 hK2 => ?_; refine tc_seq fun K3 hK3 => ?_; refine tc_region ?_; refine tl_q (y_loadW rfl (by repeat constructor) (by rfl)) rfl ?_; refine tl_e (e_callV rfl (.cons rfl .nil) (fun w' hw' => fault_c s tv pv gv w' (hr0.fr (hw'.fr (w0 := w) (S := []) (MI.m (by repeat constructor)))) hf)) rfl (fun _ _ => ?_); refine tl_q (y_assign rfl) rfl ?_; refine tl_nil ?_; ((refine hK3 ?_; try (clear hK3; clear K3)))
  all_goals refine tc_seq fun K4 hK4 => ?_; refine tc_region ?_; refine tl_q (y_move rfl) rfl ?_; refine tl_q (y_neq rfl rfl) rfl ?_; refine tl_nil ?_; ((refine hK4 ?_; try (clear hK4; clear K4)))
  all_goals (
   refine tc_cond rfl (fun hc => ?_) (fun hc => ?_)
   · try simp only [decide_eq_true_eq, decide_eq_false_iff_not, Int.not_lt, Int.not_le, Bool.not_eq_true', Bool.not_eq_false', Decidable.not_not, not_true_eq_false] at hc
     all_goals refine tc_seq fun K5 hK5 => ?_; refine tc_region ?_; refine tl_q (y_move rfl) rfl ?_; refine tl_q (y_assign rfl) rfl ?_; refine tl_nil ?_; ((refine hK5 ?_; try (clear hK5; clear K5)))
     all_goals refine tc_ret ?_; (repeat (refine tk_then_ret ?_))
     all_goals (refine tk_ret rfl rfl (.cons (.tmp rfl) .nil) ?_)
     all_goals (
      first
      | (have hE : vdE s = chkS s := by unfold vdE sureE; rw [if_pos (by assumption)]
         rw [hE]
         exact fun w' hw' => ⟨rfl, hw'.fr (w0 := w) (S := []) (MI.m (by repeat constructor))⟩)
      | (have hE : vdE s = 9 := by unfold vdE sureE; rw [if_neg (fun g => g (by assumption)), if_neg (by decide), if_pos (by assumption)]
         rw [hE]
         exact fun w' hw' => ⟨rfl, hw'.fr (w0 := w) (S := []) (MI.m (by repeat constructor))⟩)
      | (have hE : vdE s = 0 := sure_ok (chkS_0.1 (by assumption)) (by assumption)
         rw [hE]
         exact fun w' hw' => ⟨rfl, hw'.fr (w0 := w) (S := []) (MI.m (by repeat constructor))⟩))
   · try simp only [decide_eq_true_eq, decide_eq_false_iff_not, Int.not_lt, Int.not_le, Bool.not_eq_true', Bool.not_eq_false', Decidable.not_not, not_true_eq_false] at hc
     all_goals refine tc_skip ?_; ((refine hK2 ?_; try (clear hK2; clear K2)))
     all_goals refine tc_seq fun K6 hK6 => ?_; refine tc_seq fun K7 hK7 => ?_; refine tc_region ?_; refine tl_q (y_loadW rfl (by repeat constructor) (by rfl)) rfl ?_; refine tl_e (e_callV rfl (.cons rfl .nil) (fun w' hw' => hasC_c s hf (chkS_0.1 (by assumption)) tv pv gv w' (hr0.fr (hw'.fr (w0 := w) (S := []) (MI.m (by repeat constructor)))))) rfl (fun _ _ => ?_); refine tl_q (y_not rfl) rfl ?_; refine tl_nil ?_; ((refine hK7 ?_; try (clear hK7; clear K7)))
     all_goals (
      refine tc_cond rfl (fun hc => ?_) (fun hc => ?_)
      · try simp only [decide_eq_true_eq, decide_eq_false_iff_not, Int.not_lt, Int.not_le, Bool.not_eq_true', Bool.not_eq_false', Decidable.not_not, not_true_eq_false] at hc
        all_goals refine tc_seq fun K8 hK8 => ?_; refine tc_region ?_; refine tl_q (y_assign rfl) rfl ?_; refine tl_nil ?_; ((refine hK8 ?_; try (clear hK8; clear K8)))
        all_goals refine tc_ret ?_; (repeat (refine tk_then_ret ?_))
        all_goals (refine tk_ret rfl rfl (.cons (.tmp rfl) .nil) ?_)
        all_goals (
         first
         | (have hE : vdE s = chkS s := by unfold vdE sureE; rw [if_pos (by assumption)]
            rw [hE]
            exact fun w' hw' => ⟨rfl, hw'.fr (w0 := w) (S := []) (MI.m (by repeat constructor))⟩)
         | (have hE : vdE s = 9 := by unfold vdE sureE; rw [if_neg (fun g => g (by assumption)), if_neg (by decide), if_pos (by assumption)]
            rw [hE]
            exact fun w' hw' => ⟨rfl, hw'.fr (w0 := w) (S := []) (MI.m (by repeat constructor))⟩)
         | (have hE : vdE s = 0 := sure_ok (chkS_0.1 (by assumption)) (by assumption)
            rw [hE]
            exact fun w' hw' => ⟨rfl, hw'.fr (w0 := w) (S := []) (MI.m (by repeat constructor))⟩))
      · try simp only [decide_eq_true_eq, decide_eq_false_iff_not, Int.not_lt, Int.not_le, Bool.not_eq_true', Bool.not_eq_false', Decidable.not_not, not_true_eq_false] at hc
        all_goals refine tc_skip ?_; ((refine hK6 ?_; try (clear hK6; clear K6)))
        all_goals refine tc_seq fun K9 hK9 => ?_; refine tc_region ?_; refine tl_q (y_assign rfl) rfl ?_; refine tl_nil ?_; ((refine hK9 ?_; try (clear hK9; clear K9)))
        all_goals refine tc_ret ?_; (repeat (first | refine tk_then_ret ?_))
        all_goals (refine tk_ret rfl rfl (.cons (.tmp rfl) .nil) ?_)
        all_goals (
         first
         | (have hE : vdE s = chkS s := by unfold vdE sureE; rw [if_pos (by assumption)]
            rw [hE]
            exact fun w' hw' => ⟨rfl, hw'.fr (w0 := w) (S := []) (MI.m (by repeat constructor))⟩)
         | (have hE : vdE s = 9 := by unfold vdE sureE; rw [if_neg (fun g => g (by assumption)), if_neg (by decide), if_pos (by assumption)]
            rw [hE]
            exact fun w' hw' => ⟨rfl, hw'.fr (w0 := w) (S := []) (MI.m (by repeat constructor))⟩)
         | (have hE : vdE s = 0 := sure_ok (chkS_0.1 (by assumption)) (by assumption)
            rw [hE]
            exact fun w' hw' => ⟨rfl, hw'.fr (w0 := w) (S := []) (MI.m (by repeat constructor))⟩))))
theorem sum_zero : ∀ {l : List (Bool × Int)}, (∀ z ∈ l, z.2 = 0) → sumR l = 0
  | [], _ => rfl
  | z :: l, h => by
    have := sum_zero (l := l) fun y hy => h y (List.mem_cons_of_mem _ hy)
    have h1 := h z (List.mem_cons_self ..)
    simp only [sumR, List.map_cons, List.sum_cons] at this ⊢
    omega
theorem RunF.mem {s : Smp} {b : Int} {c : List Int} : ∀ {k : Nat} {x : Bool} {l : List (Bool × Int)}, RunF s b c k x l → ∀ z ∈ l, z.2 = 0 ∨ z.2 = 1
  | 0, _, _, h, z, hz => by obtain rfl := h; cases hz
  | k + 1, _, _, ⟨y, t, h, hy, ht⟩, z, hz => by
    subst h
    rcases List.mem_cons.1 hz with rfl | hz
    · obtain ⟨n, _, _, rfl⟩ := mem_stepL.1 hy
      dsimp only
      split
      · exact .inr rfl
      · exact .inl rfl
    · exact RunF.mem ht z hz
theorem opn_none {s : Smp} (hv : VSm s) {b : Int} (h : (askF s b).opn = List.replicate 4 false) : ∀ c ∈ chainsL s b, canF s b c = true → ∀ h : Nat, (h : Int) ≤ s.L → opnH s b c h = false := fun c hc hcc n hn => by
  cases ho : opnH s b c n with
  | false => rfl
  | true =>
    have h1 := (ask_opn hv (b := b) (c.getD n 0).toNat).2 ⟨c, hc, hcc, n, hn, rfl, ho⟩
    rw [h, List.getD_eq_getElem?_getD, List.getElem?_replicate] at h1
    split at h1 <;> cases h1
theorem least_none {s : Smp} (hv : VSm s) {b : Int} (hp : possF s b = true) (h : (askF s b).opn = List.replicate 4 false) : (askF s b).least ≤ 0 := by
  obtain ⟨⟨c, hc, hcc, hl⟩, _⟩ := ask_least hp
  have hl0 := hv.l0
  rw [← hl]
  unfold lsN
  have hcc' := hcc
  unfold canF at hcc'
  obtain ⟨m, hm⟩ := Option.isSome_iff_exists.1 hcc'
  rw [hm]
  obtain ⟨⟨l, hr, hs⟩, _⟩ := rst_min hm
  show m ≤ 0
  rw [← hs, sum_zero fun z hz => ?_]
  · exact Int.le_refl _
  · obtain ⟨i, hi, rfl⟩ := List.getElem_of_mem hz
    have hlen := hr.len
    have e : l.getD i (false, 0) = l[i] := by rw [List.getD_eq_getElem?_getD, List.getElem?_eq_getElem hi]; rfl
    refine (hr.mem _ hz).resolve_right fun h1 => ?_
    have := (opn_run hcc (h := i) (by omega)).2 ⟨l, hr, by rw [e]; exact h1⟩
    rw [opn_none hv h c hc hcc i (by omega)] at this
    cases this
theorem opL_nil {s : Smp} (hv : VSm s) {b : Int} (he : opE s b = 0) : (opL s b).length = 0 ↔ (askF s b).opn = List.replicate 4 false := by
  have hko : (askF s b).opn.length = 4 := (foldl_ok (chainsL s b)).o
  constructor
  · intro h
    have hno := List.length_eq_zero_iff.1 h
    apply List.ext_getElem (by simp [hko])
    intro i h1 h2
    rw [List.getElem_replicate]
    cases ho : (askF s b).opn[i] with
    | false => rfl
    | true =>
      exfalso
      have h3 : (askF s b).opn.getD i false = true := by rw [List.getD_eq_getElem?_getD, List.getElem?_eq_getElem h1, ho]; rfl
      obtain ⟨c, h4, h5, h, h6, h7, h8⟩ := (ask_opn hv i).1 h3
      have := (opL_mem hv he).2 ⟨c, h4, h5, h, h6, rfl, h8⟩
      rw [hno] at this; cases this
  · intro h
    rw [List.length_eq_zero_iff, List.eq_nil_iff_forall_not_mem]
    intro e hm
    obtain ⟨c, h4, h5, h', h6, h7, h8⟩ := (opL_mem hv he).1 hm
    rw [opn_none hv h c h4 h5 h' h6] at h8
    cases h8
theorem cons_poss {s : Smp} (hc : consF s = true) {k : Nat} (hk : k < s.B.toNat) : possF s (k : Int) = true := List.all_eq_true.1 hc k (List.mem_range.2 hk)
/-- The verdict, the fewest open hours, and the openers of a bottle. -/
theorem verd_case {s : Smp} (hv : VSm s) (hc : consF s = true) {k : Nat} (hk : k < s.B.toNat) :
    (decide (verdF (askF s k) = 1) = decide (0 < (askF s k).least) ∧ decide (verdF (askF s k) = 2) = decide (((opL s k).length : Int) = 0)) ∧ (1 ≤ verdF (askF s k) ∧ verdF (askF s k) ≤ 3) := by
  have he := opE_ok hv hc (b := (k : Int)) (by omega)
  have hn := opL_nil hv he
  have hl := least_none hv (cons_poss hc hk)
  unfold verdF
  by_cases h0 : 0 < (askF s (k : Int)).least
  · rw [if_pos h0, decide_eq_true h0]
    refine ⟨⟨rfl, ?_⟩, by decide⟩
    rw [decide_eq_false (by decide), eq_comm, decide_eq_false_iff_not]
    intro h
    have := hl (hn.1 (by omega)); omega
  · rw [if_neg h0, decide_eq_false h0]
    by_cases h1 : (askF s (k : Int)).opn = List.replicate 4 false
    · rw [if_pos h1]
      refine ⟨⟨rfl, ?_⟩, by decide⟩
      rw [decide_eq_true rfl, eq_comm, decide_eq_true_eq]
      have := hn.2 h1; omega
    · rw [if_neg h1]
      refine ⟨⟨rfl, ?_⟩, by decide⟩
      rw [decide_eq_false (by decide), eq_comm, decide_eq_false_iff_not]
      intro h
      exact h1 (hn.1 (by omega))
def alwN (s : Smp) (n : Nat) : Bool := (List.range n).any fun k => decide (0 < (askF s (k : Nat)).least)
def nevN (s : Smp) (n : Nat) : Bool := (List.range n).all fun k => decide (((opL s (k : Nat)).length : Int) = 0)
theorem alwN_succ (s : Smp) (n : Nat) : alwN s (n + 1) = (alwN s n || decide (0 < (askF s (n : Nat)).least)) := by simp [alwN, List.range_succ]
theorem nevN_succ (s : Smp) (n : Nat) : nevN s (n + 1) = (nevN s n && decide (((opL s (n : Nat)).length : Int) = 0)) := by simp [nevN, List.range_succ]
theorem vdL_v {s : Smp} (h : vdE s = 0) : vdL s = vdN s s.B.toNat := if_pos h
theorem lsL_v {s : Smp} (h : vdE s = 0) : lsL s = lsN' s s.B.toNat := if_pos h
theorem vdN_get {s : Smp} {n k : Nat} (h : k < n) : (vdN s n).getD k 0 = verdF (askF s k) := by
  rw [List.getD_eq_getElem?_getD, vdN, List.getElem?_map, List.getElem?_range h]; rfl
theorem lsN'_get {s : Smp} {n k : Nat} (h : k < n) : (lsN' s n).getD k 0 = (askF s k).least := by
  rw [List.getD_eq_getElem?_getD, lsN', List.getElem?_map, List.getElem?_range h]; rfl
theorem vdN_mem {s : Smp} {n : Nat} {e : Int} : e ∈ vdN s n ↔ ∃ k : Nat, k < n ∧ verdF (askF s k) = e := by
  unfold vdN
  rw [List.mem_map]
  exact ⟨fun ⟨k, h1, h2⟩ => ⟨k, List.mem_range.1 h1, h2⟩, fun ⟨k, h1, h2⟩ => ⟨k, List.mem_range.2 h1, h2⟩⟩
theorem alike_case {s : Smp} (hv : VSm s) (hc : consF s = true) : (decide (alF s = 2) = alwN s s.B.toNat ∧ decide (alF s = 1) = nevN s s.B.toNat) ∧ (1 ≤ alF s ∧ alF s ≤ 3) := by
  have h0 : vdE s = 0 := sure_ok hv hc
  unfold alF
  rw [if_neg (fun h => h h0), vdL_v h0]
  have ha : alwN s s.B.toNat = true ↔ (1 : Int) ∈ vdN s s.B.toNat := by
    rw [vdN_mem]
    unfold alwN
    rw [List.any_eq_true]
    constructor
    · rintro ⟨k, h1, h2⟩
      rw [List.mem_range] at h1
      have := (verd_case hv hc h1).1.1
      rw [h2] at this
      exact ⟨k, h1, of_decide_eq_true this⟩
    · rintro ⟨k, h1, h2⟩
      have := (verd_case hv hc h1).1.1
      rw [decide_eq_true h2] at this
      exact ⟨k, List.mem_range.2 h1, this.symm⟩
  have hn : nevN s s.B.toNat = true ↔ ¬ (1 : Int) ∈ vdN s s.B.toNat ∧ ¬ (3 : Int) ∈ vdN s s.B.toNat := by
    rw [vdN_mem, vdN_mem]
    unfold nevN
    rw [List.all_eq_true]
    constructor
    · intro h
      constructor
      · rintro ⟨k, h1, h2⟩
        have := (verd_case hv hc h1).1.2
        rw [h k (List.mem_range.2 h1), h2] at this; cases this
      · rintro ⟨k, h1, h2⟩
        have := (verd_case hv hc h1).1.2
        rw [h k (List.mem_range.2 h1), h2] at this; cases this
    · rintro ⟨h1, h3⟩ k hk
      rw [List.mem_range] at hk
      obtain ⟨⟨_, h4⟩, h5⟩ := verd_case hv hc hk
      rw [← h4, decide_eq_true_eq]
      have g1 : ¬ verdF (askF s k) = 1 := fun g => h1 ⟨k, hk, g⟩
      have g3 : ¬ verdF (askF s k) = 3 := fun g => h3 ⟨k, hk, g⟩
      omega
  split
  · rename_i h1
    refine ⟨⟨by rw [ha.2 h1]; rfl, ?_⟩, by decide⟩
    cases hq : nevN s s.B.toNat with
    | false => rfl
    | true => exact absurd h1 (hn.1 hq).1
  · rename_i h1
    have ha' : alwN s s.B.toNat = false := by
      cases hq : alwN s s.B.toNat with
      | false => rfl
      | true => exact absurd (ha.1 hq) h1
    rw [ha']
    split
    · rename_i h3
      refine ⟨⟨rfl, ?_⟩, by decide⟩
      cases hq : nevN s s.B.toNat with
      | false => rfl
      | true => exact absurd h3 (hn.1 hq).2
    · rename_i h3
      exact ⟨⟨rfl, (hn.2 ⟨h1, h3⟩).symm ▸ rfl⟩, by decide⟩
theorem openersK_v {s : Smp} {b : Int} (hE : opE s b = 0) (hf : Few s) (tv pv gv : Value) (w : World) (hr : RdSm w s tv pv gv) :
    CnX Tryz.prog 19 #[smV s tv pv gv, vi b] w [] (fun y : Option Addr × Nat => .tuple #[slV (opL s b).length y, vi 0]) (fun y w' => RdI w' (slV (opL s b).length y) (opL s b)) := by
  have h := openers_c s hf b tv pv gv w hr
  rw [hE] at h
  exact h.imp id (fun _ => rfl) (fun _ h => h) (fun _ _ _ h => h.toI)
theorem verdictsI_c (s : Smp) (hf : Few s) (tv pv gv : Value) (w : World) (hr : RdSm w s tv pv gv) :
    CnX Tryz.prog 26 #[smV s tv pv gv] w [] (fun y : Option Addr × Nat => .tuple #[slV (vdL s).length y, vi (vdE s)]) (fun y w' => RdI w' (slV (vdL s).length y) (vdL s)) :=
  (verdicts_c s hf tv pv gv w hr).imp id (fun _ => rfl) (fun _ h => h) (fun _ _ _ h => h.toI)
theorem leastI_c (s : Smp) (hf : Few s) (tv pv gv : Value) (w : World) (hr : RdSm w s tv pv gv) :
    CnX Tryz.prog 28 #[smV s tv pv gv] w [] (fun y : Option Addr × Nat => .tuple #[slV (lsL s).length y, vi (vdE s)]) (fun y w' => RdI w' (slV (lsL s).length y) (lsL s)) :=
  (least_c s hf tv pv gv w hr).imp id (fun _ => rfl) (fun _ h => h) (fun _ _ _ h => h.toI)
theorem RdI.opensK2 {w : World} {xs : List Int} {x : Option Addr × Nat} (h : RdI w (slV xs.length x) xs) : ∃ b o, (0 < xs.length → x.1 = some ⟨b, o, none⟩) ∧ ∀ w', Fr [] w w' → ∀ i, i < xs.length → w'.cell? ⟨b, o + i, none⟩ = some (vi (xs.getD i 0)) := by
  obtain ⟨ad, cap, b, o, e, had, hcell⟩ := h.open
  injection e with e1 e2 e3
  subst e1
  exact ⟨b, o, had, hcell⟩
set_option maxHeartbeats 8000000 in
theorem sverd_c (s : Smp) (tv pv gv : Value) (w : World) (hr : RdSm w s tv pv gv) : CnV Tryz.prog 8 #[smV s tv pv gv] w (.bool true) := by
  have hr0 := hr
  obtain ⟨adt, cpt, _, _, rfl, _, _⟩ := hr.st.open boE_len false
  obtain ⟨adp, cpp, _, _, rfl, _, _⟩ := hr.ps.open psE_len pas0
  obtain ⟨adg, cpg, _, _, rfl, _, _⟩ := hr.sg.open sgE_len sgt0
  refine cnv (vs := [_]) Tryz.func8 rfl rfl ?_
  all_goals refine tc_seq fun K1 hK1 => ?_; refine tc_region ?_; refine tl_e (e_box rfl rfl rfl) rfl (fun b1 _ => ?_); refine tl_q (y_assign rfl) rfl ?_; refine tl_nil ?_; ((refine hK1 ?_; try (clear hK1; clear K1)))
  all_goals refine tc_seq fun K2 hK2 => ?_; refine tc_seq fun K3 hK3 => ?_; refine tc_lay ([]) (SB.s .nil) (fun wl1 hl1 => ?_); refine tc_region ?_; refine tl_q (y_loadWf rfl (hl1.at (by repeat constructor)) (MI.m (by repeat constructor)) (by simp) (by rfl)) rfl ?_; refine tl_e (e_callV rfl (.cons rfl .nil) (fun w' hw' => ready_c s _ _ _ w' (hr0.fr (hw'.fr (w0 := w) (S := []) (MI.m (by repeat constructor)))))) rfl (fun _ _ => ?_); refine tl_q (y_not_dec rfl) rfl ?_; refine tl_nil ?_; ((refine hK3 ?_; try (clear hK3; clear K3)))
  all_goals (
   refine tc_cond rfl (fun hc => ?_) (fun hc => ?_)
   · try simp only [decide_eq_true_eq, decide_eq_false_iff_not, Int.not_lt, Int.not_le, Bool.not_eq_true', Bool.not_eq_false', Decidable.not_not, not_true_eq_false] at hc
     all_goals refine tc_seq fun K4 hK4 => ?_; refine tc_lay ([]) (SB.s .nil) (fun wl2 hl2 => ?_); refine tc_region ?_; refine tl_e (e_callV rfl .nil (fun w' _ => awake_c w')) rfl (fun _ _ => ?_); refine tl_q (y_assign rfl) rfl ?_; refine tl_nil ?_; ((refine hK4 ?_; try (clear hK4; clear K4)))
     all_goals refine tc_ret ?_; (repeat (refine tk_then_ret ?_))
     all_goals (refine tk_ret rfl rfl (.cons (.tmp rfl) .nil) ?_)
     all_goals (
      first
      | exact fun w' hw' => ⟨rfl, hw'.fr (w0 := w) (S := []) (MI.m (by repeat constructor))⟩
      | (exfalso
         have h : (decide (verdF (askF s k) = 1) != decide (0 < (askF s k).least)) = true := by assumption
         rw [c1] at h; simp at h; done)
      | (exfalso
         have h : (decide (verdF (askF s k) = 2) != decide (((opL s k).length : Int) = 0)) = true := by assumption
         rw [c2] at h; simp at h; done)
      | (exfalso
         obtain rfl : k = s.B.toNat := by omega
         have h : (decide (alF s = 2) == alwN s s.B.toNat) = false := by assumption
         rw [ha1] at h; simp at h; done)
      | (exfalso
         obtain rfl : k = s.B.toNat := by omega
         have h : (decide (alF s = 1) == nevN s s.B.toNat) = false := by assumption
         rw [ha2] at h; simp at h; done))
   · try simp only [decide_eq_true_eq, decide_eq_false_iff_not, Int.not_lt, Int.not_le, Bool.not_eq_true', Bool.not_eq_false', Decidable.not_not, not_true_eq_false] at hc
     all_goals refine tc_skip ?_; ((refine hK2 ?_; try (clear hK2; clear K2)))
     all_goals refine tc_seq fun K5 hK5 => ?_; refine tc_lay ([]) (SB.s .nil) (fun wl3 hl3 => ?_); ((have hv := chkS_0.1 hc.2; have hf := hc.1.few; have hb1 := hv.b1; have hb3 := hv.b3))
     all_goals refine tc_region ?_; refine tl_q (y_loadWf rfl (hl1.at (by repeat constructor)) (MI.m (by repeat constructor)) (by simp) (by rfl)) rfl ?_; refine tl_e (e_callX rfl (.cons rfl .nil) (fun w' hw' => lawSample_c s hf _ _ _ w' (hr0.fr (hw'.fr (w0 := w) (S := []) (MI.m (by repeat constructor)))))) rfl (fun x3 hx3 => ?_); refine tl_e (e_callX rfl (.cons rfl .nil) (fun w' hw' => verdictsI_c s hf _ _ _ w' (hx3.1.fr (hw'.calm hx3.2 (MI.m (by repeat constructor)) (SB.s (by repeat constructor)))))) rfl (fun v3 hv3 => ?_); refine tl_q (y_move rfl) rfl ?_; refine tl_q (y_extract rfl rfl) rfl ?_; refine tl_q (y_extract rfl rfl) rfl ?_; refine tl_q (y_assign rfl) rfl ?_; refine tl_q (y_assign rfl) rfl ?_; refine tl_nil ?_; ((refine hK5 ?_; try (clear hK5; clear K5)))
     all_goals refine tc_seq fun K6 hK6 => ?_; refine tc_lay ([]) (SB.s .nil) (fun wl4 hl4 => ?_); refine tc_region ?_; refine tl_q (y_loadWf rfl (hl1.at (by repeat constructor)) (MI.m (by repeat constructor)) (by simp) (by rfl)) rfl ?_; refine tl_e (e_callX rfl (.cons rfl .nil) (fun w' hw' => lawSample_c s hf _ _ _ w' (hr0.fr (hw'.fr (w0 := w) (S := []) (MI.m (by repeat constructor)))))) rfl (fun x4 hx4 => ?_); refine tl_e (e_callV rfl (.cons rfl .nil) (fun w' hw' => alike_c s hf _ _ _ w' (hx4.1.fr (hw'.calm hx4.2 (MI.m (by repeat constructor)) (SB.s (by repeat constructor)))))) rfl (fun _ _ => ?_); refine tl_q (y_move rfl) rfl ?_; refine tl_q (y_extract rfl rfl) rfl ?_; refine tl_q (y_extract rfl rfl) rfl ?_; refine tl_q (y_assign rfl) rfl ?_; refine tl_q (y_assign rfl) rfl ?_; refine tl_nil ?_; ((refine hK6 ?_; try (clear hK6; clear K6)))
     all_goals refine tc_seq fun K7 hK7 => ?_; refine tc_lay ([]) (SB.s .nil) (fun wl5 hl5 => ?_); refine tc_region ?_; refine tl_q (y_loadWf rfl (hl1.at (by repeat constructor)) (MI.m (by repeat constructor)) (by simp) (by rfl)) rfl ?_; refine tl_e (e_callX rfl (.cons rfl .nil) (fun w' hw' => lawSample_c s hf _ _ _ w' (hr0.fr (hw'.fr (w0 := w) (S := []) (MI.m (by repeat constructor)))))) rfl (fun x5 hx5 => ?_); refine tl_e (e_callX rfl (.cons rfl .nil) (fun w' hw' => leastI_c s hf _ _ _ w' (hx5.1.fr (hw'.calm hx5.2 (MI.m (by repeat constructor)) (SB.s (by repeat constructor)))))) rfl (fun l5 hl5 => ?_); refine tl_q (y_move rfl) rfl ?_; refine tl_q (y_extract rfl rfl) rfl ?_; refine tl_q (y_extract rfl rfl) rfl ?_; refine tl_q (y_assign rfl) rfl ?_; refine tl_q (y_assign rfl) rfl ?_; refine tl_nil ?_; ((refine hK7 ?_; try (clear hK7; clear K7)))
     all_goals refine tc_seq fun K8 hK8 => ?_; refine tc_seq fun K9 hK9 => ?_; refine tc_lay ([]) (SB.s .nil) (fun wl6 hl6 => ?_); refine tc_region ?_; refine tl_q (y_move rfl) rfl ?_; refine tl_q (y_move rfl) rfl ?_; refine tl_q (y_neq rfl rfl) rfl ?_; refine tl_q (y_move rfl) rfl ?_; ((refine tl_gs rfl rfl (fun hc => ?_) (fun hc => ?_) <;> (try simp only [decide_eq_true_eq, decide_eq_false_iff_not, Int.not_lt, Int.not_le, Bool.not_eq_true', Bool.not_eq_false', Decidable.not_not, not_true_eq_false] at hc) <;> (refine tl_qg rfl rfl (y_move rfl) rfl ?_)))
     all_goals (refine tl_qg rfl rfl (y_move rfl) rfl ?_); refine tl_qg rfl rfl (y_neq rfl rfl) rfl ?_; refine tl_q (y_pick_f rfl rfl) rfl ?_; refine tl_q (y_move rfl) rfl ?_; ((refine tl_gs rfl rfl (fun hc => ?_) (fun hc => ?_) <;> (try simp only [decide_eq_true_eq, decide_eq_false_iff_not, Int.not_lt, Int.not_le, Bool.not_eq_true', Bool.not_eq_false', Decidable.not_not, not_true_eq_false] at hc) <;> (refine tl_qg rfl rfl (y_move rfl) rfl ?_)))
     all_goals (refine tl_qg rfl rfl (y_loadWf rfl (hl1.at (by repeat constructor)) (MI.m (by repeat constructor)) (by simp) (by rfl)) rfl ?_); refine tl_eg rfl rfl rfl (e_callV rfl (.cons rfl .nil) (fun w' hw' => lsure_c s hf _ _ _ w' (hr0.fr (hw'.fr (w0 := w) (S := []) (MI.m (by repeat constructor)))))) (fun _ _ => ?_); refine tl_qg rfl rfl (y_neq rfl rfl) rfl ?_; refine tl_q (y_pick_f rfl rfl) rfl ?_; refine tl_nil ?_; ((refine hK9 ?_; try (clear hK9; clear K9)))
     all_goals (
      refine tc_cond rfl (fun hc => ?_) (fun hc => ?_)
      · try simp only [decide_eq_true_eq, decide_eq_false_iff_not, Int.not_lt, Int.not_le, Bool.not_eq_true', Bool.not_eq_false', Decidable.not_not, not_true_eq_false] at hc
      · try simp only [decide_eq_true_eq, decide_eq_false_iff_not, Int.not_lt, Int.not_le, Bool.not_eq_true', Bool.not_eq_false', Decidable.not_not, not_true_eq_false] at hc
        all_goals refine tc_skip ?_; ((refine hK8 ?_; try (clear hK8; clear K8)))
        all_goals refine tc_seq fun K11 hK11 => ?_; refine tc_seq fun K12 hK12 => ?_; refine tc_lay ([]) (SB.s .nil) (fun wl8 hl8 => ?_); refine tc_region ?_; refine tl_q (y_move rfl) rfl ?_; refine tl_q (y_neq rfl rfl) rfl ?_; refine tl_nil ?_; ((refine hK12 ?_; try (clear hK12; clear K12)))
        all_goals (
         refine tc_cond rfl (fun hc => ?_) (fun hc => ?_)
         · try simp only [decide_eq_true_eq, decide_eq_false_iff_not, Int.not_lt, Int.not_le, Bool.not_eq_true', Bool.not_eq_false', Decidable.not_not, not_true_eq_false] at hc
           all_goals refine tc_seq fun K13 hK13 => ?_; refine tc_lay ([]) (SB.s .nil) (fun wl9 hl9 => ?_); refine tc_region ?_; refine tl_e (e_callV rfl .nil (fun w' _ => awake_c w')) rfl (fun _ _ => ?_); refine tl_q (y_assign rfl) rfl ?_; refine tl_nil ?_; ((refine hK13 ?_; try (clear hK13; clear K13)))
           all_goals refine tc_ret ?_; (repeat (refine tk_then_ret ?_))
           all_goals (refine tk_ret rfl rfl (.cons (.tmp rfl) .nil) ?_)
           all_goals (
            first
            | exact fun w' hw' => ⟨rfl, hw'.fr (w0 := w) (S := []) (MI.m (by repeat constructor))⟩
            | (exfalso
               have h : (decide (verdF (askF s k) = 1) != decide (0 < (askF s k).least)) = true := by assumption
               rw [c1] at h; simp at h; done)
            | (exfalso
               have h : (decide (verdF (askF s k) = 2) != decide (((opL s k).length : Int) = 0)) = true := by assumption
               rw [c2] at h; simp at h; done)
            | (exfalso
               obtain rfl : k = s.B.toNat := by omega
               have h : (decide (alF s = 2) == alwN s s.B.toNat) = false := by assumption
               rw [ha1] at h; simp at h; done)
            | (exfalso
               obtain rfl : k = s.B.toNat := by omega
               have h : (decide (alF s = 1) == nevN s s.B.toNat) = false := by assumption
               rw [ha2] at h; simp at h; done))
         · try simp only [decide_eq_true_eq, decide_eq_false_iff_not, Int.not_lt, Int.not_le, Bool.not_eq_true', Bool.not_eq_false', Decidable.not_not, not_true_eq_false] at hc
           all_goals refine tc_skip ?_; ((refine hK11 ?_; try (clear hK11; clear K11)))
           all_goals refine tc_seq fun K14 hK14 => ?_; refine tc_seq fun K15 hK15 => ?_; refine tc_lay ([]) (SB.s .nil) (fun wl10 hl10 => ?_); (have hE : vdE s = 0 := by assumption)
           all_goals (have hcs : consF s = true := (sureE_0 hE).2.2; have hvl : (vdL s).length = s.B.toNat := by rw [vdL_v hE, vdN_len]
                      have hll : (lsL s).length = s.B.toNat := by rw [lsL_v hE, lsN'_len])
           all_goals (obtain ⟨⟨ha1, ha2⟩, ha3⟩ := alike_case hv hcs)
           all_goals refine tc_region ?_; refine tl_q (y_move rfl) rfl ?_; refine tl_q (y_len rfl) rfl ?_; refine tl_q (y_field rfl) rfl ?_; refine tl_q (y_load1f rfl (hl1.at (by repeat constructor)) (MI.m (by repeat constructor)) (by simp) (by rfl)) rfl ?_; refine tl_q (y_neq rfl rfl) rfl ?_; refine tl_q (y_move rfl) rfl ?_; ((refine tl_gs rfl rfl (fun hc => ?_) (fun hc => ?_) <;> (try simp only [decide_eq_true_eq, decide_eq_false_iff_not, Int.not_lt, Int.not_le, Bool.not_eq_true', Bool.not_eq_false', Decidable.not_not, not_true_eq_false] at hc) <;> (first | (exfalso; omega) | refine tl_qg rfl rfl (y_move rfl) rfl ?_)))
           all_goals (refine tl_qg rfl rfl (y_len rfl) rfl ?_); refine tl_qg rfl rfl (y_field rfl) rfl ?_; refine tl_qg rfl rfl (y_load1f rfl (hl1.at (by repeat constructor)) (MI.m (by repeat constructor)) (by simp) (by rfl)) rfl ?_; refine tl_qg rfl rfl (y_neq rfl rfl) rfl ?_; refine tl_q (y_pick_f rfl rfl) rfl ?_; refine tl_nil ?_; ((refine hK15 ?_; try (clear hK15; clear K15)))
           all_goals (
            refine tc_cond rfl (fun hc => ?_) (fun hc => ?_)
            · try simp only [decide_eq_true_eq, decide_eq_false_iff_not, Int.not_lt, Int.not_le, Bool.not_eq_true', Bool.not_eq_false', Decidable.not_not, not_true_eq_false] at hc
              all_goals ((exfalso; omega))
            · try simp only [decide_eq_true_eq, decide_eq_false_iff_not, Int.not_lt, Int.not_le, Bool.not_eq_true', Bool.not_eq_false', Decidable.not_not, not_true_eq_false] at hc
              all_goals refine tc_skip ?_; ((refine hK14 ?_; try (clear hK14; clear K14)))
              all_goals refine tc_seq fun K17 hK17 => ?_; refine tc_lay ([]) (SB.s .nil) (fun wl12 hl12 => ?_); refine tc_region ?_; refine tl_q (y_assign rfl) rfl ?_; refine tl_q (y_assign rfl) rfl ?_; refine tl_nil ?_; ((refine hK17 ?_; try (clear hK17; clear K17)))
              all_goals refine tc_seq fun K18 hK18 => ?_; refine tc_seq fun K19 hK19 => ?_; refine tc_lay ([]) (SB.s .nil) (fun wl13 hl13 => ?_); refine tc_region ?_; refine tl_q (y_assign rfl) rfl ?_; refine tl_nil ?_; ((refine hK19 ?_; try (clear hK19; clear K19)))
              all_goals refine tc_block ?_
              all_goals (
               refine tc_loop (fun k : Nat => (k : Int) ≤ s.B) (fun k => [(1, ptr b1), (3, slV (vdL s).length v3.1), (5, vi (alF s)), (7, slV (lsL s).length l5.1), (9, .bool (alwN s k)), (10, .bool (nevN s k)), (11, vi k)]) (fun _ => [(l5.2, []), (v3.2, []), (wl1, []), (w, [])]) (fun _ => []) (fun k => s.B.toNat - k) ?_ ?_
               · exact tk_start 0 (by omega) (.cons rfl (.cons rfl (.cons rfl (.cons rfl (.cons rfl (.cons rfl (.cons rfl .nil))))))) (fun _ h => h.subl (SB.s (by repeat constructor)) (SB.s (by repeat constructor)))
               · rintro k hk
                 all_goals refine tc_seq fun K20 hK20 => ?_; refine tc_seq fun K21 hK21 => ?_; refine tc_lay ([]) (SB.s .nil) (fun wl14 hl14 => ?_); refine tc_region ?_; refine tl_q (y_move rfl) rfl ?_; refine tl_q (y_field rfl) rfl ?_; refine tl_q (y_load1f rfl (hl1.at (by repeat constructor)) (MI.m (by repeat constructor)) (by simp) (by rfl)) rfl ?_; refine tl_q (y_lss rfl rfl) rfl ?_; refine tl_nil ?_; ((refine hK21 ?_; try (clear hK21; clear K21)))
                 all_goals (
                  refine tc_cond rfl (fun hc => ?_) (fun hc => ?_)
                  · try simp only [decide_eq_true_eq, decide_eq_false_iff_not, Int.not_lt, Int.not_le, Bool.not_eq_true', Bool.not_eq_false', Decidable.not_not, not_true_eq_false] at hc
                    all_goals refine tc_skip ?_; ((refine hK20 ?_; try (clear hK20; clear K20)))
                    all_goals refine tc_seq fun K22 hK22 => ?_; refine tc_block ?_; refine tc_seq fun K23 hK23 => ?_; refine tc_lay ([]) (SB.s .nil) (fun wl16 hl16 => ?_); (have hkB : k < s.B.toNat := by omega)
                    all_goals ((obtain ⟨⟨c1, c2⟩, c3⟩ := verd_case hv hcs hkB; have ho := opE_ok hv hcs (b := (k : Int)) (by omega)))
                    all_goals ((obtain ⟨vb, vo, hadv, hcv⟩ := hv3.1.opensK2; obtain ⟨lb, lo, hadl, hcl⟩ := hl5.1.opensK2; have hadv' := hadv (by omega); have hadl' := hadl (by omega)))
                    all_goals (have hvg : (vdL s).getD k 0 = verdF (askF s k) := by rw [vdL_v hE, vdN_get hkB]
                               have hlg : (lsL s).getD k 0 = (askF s k).least := by rw [lsL_v hE, lsN'_get hkB])
                    all_goals ((have has := alwN_succ s k; have hns := nevN_succ s k))
                    all_goals refine tc_region ?_; refine tl_q (y_loadWf rfl (hl1.at (by repeat constructor)) (MI.m (by repeat constructor)) (by simp) (by rfl)) rfl ?_; refine tl_e (e_callX rfl (.cons rfl .nil) (fun w' hw' => lawSample_c s hf _ _ _ w' (hr0.fr (hw'.fr (w0 := w) (S := []) (MI.m (by repeat constructor)))))) rfl (fun x16 hx16 => ?_); refine tl_q (y_move rfl) rfl ?_; refine tl_e (e_callX rfl (.cons rfl (.cons rfl .nil)) (fun w' hw' => openersK_v ho hf _ _ _ w' (hx16.1.fr (hw'.calm hx16.2 (MI.m (by repeat constructor)) (SB.s (by repeat constructor)))))) rfl (fun o16 ho16 => ?_); refine tl_q (y_move rfl) rfl ?_; refine tl_q (y_extract rfl rfl) rfl ?_; refine tl_q (y_extract rfl rfl) rfl ?_; refine tl_q (y_assign rfl) rfl ?_; refine tl_q (y_assign rfl) rfl ?_; refine tl_nil ?_; ((refine hK23 ?_; try (clear hK23; clear K23)))
                    all_goals refine tc_seq fun K24 hK24 => ?_; refine tc_seq fun K25 hK25 => ?_; refine tc_lay ([]) (SB.s .nil) (fun wl17 hl17 => ?_); refine tc_draw (by kernel_rfl) ?_; refine tx_p 0 rfl (by kernel_rfl) (y_move rfl) rfl (fun _ _ _ h => h) (fun _ h => h) ?_; refine tx_p 1 rfl (by kernel_rfl) (y_neq rfl rfl) rfl (fun _ _ _ h => h) (fun _ h => h) ?_; refine tx_p 2 rfl (by kernel_rfl) (y_move rfl) rfl (fun _ _ _ h => h) (fun _ h => h) ?_; refine tx_pg 3 rfl (by kernel_rfl) rfl rfl (y_move rfl) rfl (fun _ _ _ h => h) (fun _ h => h) ?_; refine tx_pg 4 rfl (by kernel_rfl) rfl rfl (y_move rfl) rfl (fun _ _ _ h => h) (fun _ h => h) ?_; refine tx_pg 5 rfl (by kernel_rfl) rfl rfl (y_index rfl rfl (by omega) hadv') rfl (fun _ _ _ h => h) (fun _ h => h) ?_; refine tx_norm (L' := [true, true, true, true, true, true, false, false, false, false, false, false, false, false, false, false, false, false, false, false, false, false, false, false, false, false, false, false, false, false, false, false, false, false]) (by kernel_rfl) ?_; ((refine tx_qg 6 rfl (by kernel_rfl) rfl rfl (y_load1o (v := vi (verdF (askF s k))) rfl (fun w' hw' => by rw [show Int.toNat (k : Int) * 1 = k from by omega, ← hvg]; exact hcv w' (hw'.fr (w0 := v3.2) (S := []) (MI.m (by repeat constructor))) k (by omega))) rfl (fun _ _ _ h => h) (fun _ h => h) ?_))
                    all_goals (refine tx_pg 7 rfl (by kernel_rfl) rfl rfl (y_eql rfl rfl) rfl (fun _ _ _ h => h) (fun _ h => h) ?_); refine tx_pg 8 rfl (by kernel_rfl) rfl rfl (y_move rfl) rfl (fun _ _ _ h => h) (fun _ h => h) ?_; refine tx_pg 9 rfl (by kernel_rfl) rfl rfl (y_move rfl) rfl (fun _ _ _ h => h) (fun _ h => h) ?_; refine tx_pg 10 rfl (by kernel_rfl) rfl rfl (y_index rfl rfl (by omega) hadl') rfl (fun _ _ _ h => h) (fun _ h => h) ?_; ((refine tx_qg 11 rfl (by kernel_rfl) rfl rfl (y_load1o (v := vi (askF s k).least) rfl (fun w' hw' => by rw [show Int.toNat (k : Int) * 1 = k from by omega, ← hlg]; exact hcl w' (hw'.fr (w0 := l5.2) (S := []) (MI.m (by repeat constructor))) k (by omega))) rfl (fun _ _ _ h => h) (fun _ h => h) ?_))
                    all_goals refine tx_norm (L' := [true, true, true, true, true, true, true, true, true, true, true, true, false, false, false, false, false, false, false, false, false, false, false, false, false, false, false, false, false, false, false, false, false, false]) (by kernel_rfl) ?_; refine tx_pg 12 rfl (by kernel_rfl) rfl rfl (y_gtr rfl rfl) rfl (fun _ _ _ h => h) (fun _ h => h) ?_; refine tx_pg 13 rfl (by kernel_rfl) rfl rfl (y_neqb rfl rfl) rfl (fun _ _ _ h => h) (fun _ h => h) ?_; refine tx_p 14 rfl (by kernel_rfl) (y_pick_f rfl rfl) rfl (fun _ _ _ h => h) (fun _ h => h) ?_; refine tx_p 15 rfl (by kernel_rfl) (y_move rfl) rfl (fun _ _ _ h => h) (fun _ h => h) ?_; ((refine tx_gs 93 rfl (fun hc => ?_) (fun hc => ?_) <;> (try simp only [decide_eq_true_eq, decide_eq_false_iff_not, Int.not_lt, Int.not_le, Bool.not_eq_true', Bool.not_eq_false', Decidable.not_not, not_true_eq_false] at hc) <;> (first | refine tx_sk 16 rfl (by kernel_rfl) rfl rfl rfl rfl (fun _ _ _ h => h) (fun _ h => h) ?_ | refine tx_pg 16 rfl (by kernel_rfl) rfl rfl (y_move rfl) rfl (fun _ _ _ h => h) (fun _ h => h) ?_)))
                    all_goals (first | refine tx_sk 17 rfl (by kernel_rfl) rfl rfl rfl rfl (fun _ _ _ h => h) (fun _ h => h) ?_ | refine tx_pg 17 rfl (by kernel_rfl) rfl rfl (y_move rfl) rfl (fun _ _ _ h => h) (fun _ h => h) ?_); refine tx_norm (L' := [true, true, true, true, true, true, true, true, true, true, true, true, true, true, true, true, true, true, false, false, false, false, false, false, false, false, false, false, false, false, false, false, false, false]) (by kernel_rfl) ?_; (first | refine tx_sk 18 rfl (by kernel_rfl) rfl rfl rfl rfl (fun _ _ _ h => h) (fun _ h => h) ?_ | refine tx_pg 18 rfl (by kernel_rfl) rfl rfl (y_index rfl rfl (by omega) hadv') rfl (fun _ _ _ h => h) (fun _ h => h) ?_); ((first | refine tx_sk 19 rfl (by kernel_rfl) rfl rfl rfl rfl (fun _ _ _ h => h) (fun _ h => h) ?_ | refine tx_qg 19 rfl (by kernel_rfl) rfl rfl (y_load1o (v := vi (verdF (askF s k))) rfl (fun w' hw' => by rw [show Int.toNat (k : Int) * 1 = k from by omega, ← hvg]; exact hcv w' (hw'.fr (w0 := v3.2) (S := []) (MI.m (by repeat constructor))) k (by omega))) rfl (fun _ _ _ h => h) (fun _ h => h) ?_))
                    all_goals (first | refine tx_sk 20 rfl (by kernel_rfl) rfl rfl rfl rfl (fun _ _ _ h => h) (fun _ h => h) ?_ | refine tx_pg 20 rfl (by kernel_rfl) rfl rfl (y_eql rfl rfl) rfl (fun _ _ _ h => h) (fun _ h => h) ?_); (first | refine tx_sk 21 rfl (by kernel_rfl) rfl rfl rfl rfl (fun _ _ _ h => h) (fun _ h => h) ?_ | refine tx_pg 21 rfl (by kernel_rfl) rfl rfl (y_move rfl) rfl (fun _ _ _ h => h) (fun _ h => h) ?_); (first | refine tx_sk 22 rfl (by kernel_rfl) rfl rfl rfl rfl (fun _ _ _ h => h) (fun _ h => h) ?_ | refine tx_qg 22 rfl (by kernel_rfl) rfl rfl (y_len rfl) rfl (fun _ _ _ h => h) (fun _ h => h) ?_); (first | refine tx_sk 23 rfl (by kernel_rfl) rfl rfl rfl rfl (fun _ _ _ h => h) (fun _ h => h) ?_ | refine tx_pg 23 rfl (by kernel_rfl) rfl rfl (y_eql rfl rfl) rfl (fun _ _ _ h => h) (fun _ h => h) ?_); refine tx_norm (L' := [true, true, true, true, true, true, true, true, true, true, true, true, true, true, true, true, true, true, true, true, true, true, true, true, false, false, false, false, false, false, false, false, false, false]) (by kernel_rfl) ?_; (first | refine tx_sk 24 rfl (by kernel_rfl) rfl rfl rfl rfl (fun _ _ _ h => h) (fun _ h => h) ?_ | refine tx_pg 24 rfl (by kernel_rfl) rfl rfl (y_neqb rfl rfl) rfl (fun _ _ _ h => h) (fun _ h => h) ?_); (first | refine tx_p 25 rfl (by kernel_rfl) (y_pick_t rfl rfl) rfl (fun _ _ _ h => h) (fun _ h => h) ?_ | refine tx_p 25 rfl (by kernel_rfl) (y_pick_f rfl rfl) rfl (fun _ _ _ h => h) (fun _ h => h) ?_); refine tx_p 26 rfl (by kernel_rfl) (y_move rfl) rfl (fun _ _ _ h => h) (fun _ h => h) ?_; ((first | refine tx_sk 27 rfl (by kernel_rfl) rfl rfl rfl rfl (fun _ _ _ h => h) (fun _ h => h) ?_ | (refine tx_gs 104 rfl (fun hc => ?_) (fun hc => ?_) <;> (try simp only [decide_eq_true_eq, decide_eq_false_iff_not, Int.not_lt, Int.not_le, Bool.not_eq_true', Bool.not_eq_false', Decidable.not_not, not_true_eq_false] at hc) <;> (first | refine tx_sk 27 rfl (by kernel_rfl) rfl rfl rfl rfl (fun _ _ _ h => h) (fun _ h => h) ?_ | refine tx_pg 27 rfl (by kernel_rfl) rfl rfl (y_move rfl) rfl (fun _ _ _ h => h) (fun _ h => h) ?_))))
                    all_goals (first | refine tx_sk 28 rfl (by kernel_rfl) rfl rfl rfl rfl (fun _ _ _ h => h) (fun _ h => h) ?_ | refine tx_pg 28 rfl (by kernel_rfl) rfl rfl (y_move rfl) rfl (fun _ _ _ h => h) (fun _ h => h) ?_); (first | refine tx_sk 29 rfl (by kernel_rfl) rfl rfl rfl rfl (fun _ _ _ h => h) (fun _ h => h) ?_ | refine tx_pg 29 rfl (by kernel_rfl) rfl rfl (y_index rfl rfl (by omega) hadv') rfl (fun _ _ _ h => h) (fun _ h => h) ?_); refine tx_norm (L' := [true, true, true, true, true, true, true, true, true, true, true, true, true, true, true, true, true, true, true, true, true, true, true, true, true, true, true, true, true, true, false, false, false, false]) (by kernel_rfl) ?_; ((first | refine tx_sk 30 rfl (by kernel_rfl) rfl rfl rfl rfl (fun _ _ _ h => h) (fun _ h => h) ?_ | refine tx_qg 30 rfl (by kernel_rfl) rfl rfl (y_load1o (v := vi (verdF (askF s k))) rfl (fun w' hw' => by rw [show Int.toNat (k : Int) * 1 = k from by omega, ← hvg]; exact hcv w' (hw'.fr (w0 := v3.2) (S := []) (MI.m (by repeat constructor))) k (by omega))) rfl (fun _ _ _ h => h) (fun _ h => h) ?_))
                    all_goals (first | refine tx_sk 31 rfl (by kernel_rfl) rfl rfl rfl rfl (fun _ _ _ h => h) (fun _ h => h) ?_ | refine tx_eg 31 rfl (by kernel_rfl) rfl rfl rfl (e_callV rfl (.cons rfl (.cons rfl (.cons rfl .nil))) (fun w' _ => rIn_c _ _ _ w')) (.inr fun _ _ h => h) (fun _ _ => ?_)); (first | refine tx_sk 32 rfl (by kernel_rfl) rfl rfl rfl rfl (fun _ _ _ h => h) (fun _ h => h) ?_ | refine tx_pg 32 rfl (by kernel_rfl) rfl rfl (y_not_dec rfl) rfl (fun _ _ _ h => h) (fun _ h => h) ?_); (first | refine tx_p 33 rfl (by kernel_rfl) (y_pick_t rfl rfl) rfl (fun _ _ _ h => h) (fun _ h => h) ?_ | refine tx_p 33 rfl (by kernel_rfl) (y_pick_f rfl rfl) rfl (fun _ _ _ h => h) (fun _ h => h) ?_); refine tx_done (by kernel_rfl) ?_; ((refine hK25 ?_; try (clear hK25; clear K25)))
                    all_goals (
                     refine tc_cond rfl (fun hc => ?_) (fun hc => ?_)
                     · try simp only [decide_eq_true_eq, decide_eq_false_iff_not, Int.not_lt, Int.not_le, Bool.not_eq_true', Bool.not_eq_false', Decidable.not_not, not_true_eq_false] at hc
                       all_goals ((first | (exfalso; omega) | skip))
                       all_goals refine tc_seq fun K26 hK26 => ?_; refine tc_lay ([]) (SB.s .nil) (fun wl18 hl18 => ?_); refine tc_region ?_; refine tl_q (y_assign rfl) rfl ?_; refine tl_nil ?_; ((refine hK26 ?_; try (clear hK26; clear K26)))
                       all_goals refine tc_ret ?_; (repeat (first | refine tk_then_ret ?_ | refine tk_block_ret ?_))
                       all_goals (refine tk_ret rfl rfl (.cons (.tmp rfl) .nil) ?_)
                       all_goals (
                        first
                        | exact fun w' hw' => ⟨rfl, hw'.fr (w0 := w) (S := []) (MI.m (by repeat constructor))⟩
                        | (exfalso
                           have h : (decide (verdF (askF s k) = 1) != decide (0 < (askF s k).least)) = true := by assumption
                           rw [c1] at h; simp at h; done)
                        | (exfalso
                           have h : (decide (verdF (askF s k) = 2) != decide (((opL s k).length : Int) = 0)) = true := by assumption
                           rw [c2] at h; simp at h; done)
                        | (exfalso
                           obtain rfl : k = s.B.toNat := by omega
                           have h : (decide (alF s = 2) == alwN s s.B.toNat) = false := by assumption
                           rw [ha1] at h; simp at h; done)
                        | (exfalso
                           obtain rfl : k = s.B.toNat := by omega
                           have h : (decide (alF s = 1) == nevN s s.B.toNat) = false := by assumption
                           rw [ha2] at h; simp at h; done))
                     · try simp only [decide_eq_true_eq, decide_eq_false_iff_not, Int.not_lt, Int.not_le, Bool.not_eq_true', Bool.not_eq_false', Decidable.not_not, not_true_eq_false] at hc
                       all_goals ((first | (exfalso; with_reducible exact btf hc) | skip))
                       all_goals refine tc_skip ?_; ((refine hK24 ?_; try (clear hK24; clear K24)))
                       all_goals refine tc_lay ([]) (SB.s .nil) (fun wl19 hl19 => ?_); refine tc_region ?_; refine tl_q (y_move rfl) rfl ?_; refine tl_q (y_move rfl) rfl ?_; ((refine tl_gs rfl rfl (fun hc => ?_) (fun hc => ?_) <;> (try simp only [decide_eq_true_eq, decide_eq_false_iff_not, Int.not_lt, Int.not_le, Bool.not_eq_true', Bool.not_eq_false', Decidable.not_not, not_true_eq_false] at hc) <;> (first | refine tl_sk rfl rfl rfl rfl ?_ | refine tl_qg rfl rfl (y_move rfl) rfl ?_)))
                       all_goals (first | refine tl_sk rfl rfl rfl rfl ?_ | refine tl_qg rfl rfl (y_move rfl) rfl ?_); (first | refine tl_sk rfl rfl rfl rfl ?_ | refine tl_qg rfl rfl (y_index rfl rfl (by omega) hadl') rfl ?_); ((first | refine tl_sk rfl rfl rfl rfl ?_ | refine tl_qg rfl rfl (y_load1o (v := vi (askF s k).least) rfl (fun w' hw' => by rw [show Int.toNat (k : Int) * 1 = k from by omega, ← hlg]; exact hcl w' (hw'.fr (w0 := l5.2) (S := []) (MI.m (by repeat constructor))) k (by omega))) rfl ?_))
                       all_goals (first | refine tl_sk rfl rfl rfl rfl ?_ | refine tl_qg rfl rfl (y_gtr rfl rfl) rfl ?_); (first | refine tl_q (y_pick_t rfl rfl) rfl ?_ | refine tl_q (y_pick_f rfl rfl) rfl ?_); refine tl_q (y_move rfl) rfl ?_; refine tl_q (y_move rfl) rfl ?_; ((refine tl_gs rfl rfl (fun hc => ?_) (fun hc => ?_) <;> (try simp only [decide_eq_true_eq, decide_eq_false_iff_not, Int.not_lt, Int.not_le, Bool.not_eq_true', Bool.not_eq_false', Decidable.not_not, not_true_eq_false] at hc) <;> (first | refine tl_sk rfl rfl rfl rfl ?_ | refine tl_qg rfl rfl (y_move rfl) rfl ?_)))
                       all_goals (first | refine tl_sk rfl rfl rfl rfl ?_ | refine tl_qg rfl rfl (y_len rfl) rfl ?_); (first | refine tl_sk rfl rfl rfl rfl ?_ | refine tl_qg rfl rfl (y_eql rfl rfl) rfl ?_); (first | refine tl_q (y_pick_t rfl rfl) rfl ?_ | refine tl_q (y_pick_f rfl rfl) rfl ?_); refine tl_q (y_assign rfl) rfl ?_; refine tl_q (y_assign rfl) rfl ?_; refine tl_nil ?_; ((refine hK22 ?_; try (clear hK22; clear K22)))
                       all_goals refine tc_lay ([]) (SB.s .nil) (fun wl15 hl15 => ?_); refine tc_region ?_; refine tl_q (y_move rfl) rfl ?_; refine tl_q (y_add rfl rfl (by omega)) rfl ?_; refine tl_q (y_assign rfl) rfl ?_; refine tl_nil ?_
                       all_goals (
                        exact tk_round (k + 1) (by omega) (by omega) (.cons rfl (.cons rfl (.cons rfl (.cons rfl (.cons (by first | (rw [has, show alwN s k = true by assumption]; rfl) | (rw [has, show alwN s k = false by assumption, Bool.false_or]; rfl)) (.cons (by first | (rw [hns, show nevN s k = false by assumption]; rfl) | (rw [hns, show nevN s k = true by assumption, Bool.true_and]; rfl)) (.cons rfl .nil))))))) (fun _ h => h.subl (SB.s (by repeat constructor)) (SB.s (by repeat constructor)))))
                  · try simp only [decide_eq_true_eq, decide_eq_false_iff_not, Int.not_lt, Int.not_le, Bool.not_eq_true', Bool.not_eq_false', Decidable.not_not, not_true_eq_false] at hc
                    all_goals refine tc_exit ?_; ((refine hK18 ?_; try (clear hK18; clear K18)))
                    all_goals refine tc_seq fun K27 hK27 => ?_; refine tc_lay ([]) (SB.s .nil) (fun wl20 hl20 => ?_); refine tc_region ?_; refine tl_q (y_move rfl) rfl ?_; refine tl_q (y_eql rfl rfl) rfl ?_; refine tl_q (y_move rfl) rfl ?_; refine tl_q (y_eqlb rfl rfl) rfl ?_; refine tl_q (y_move rfl) rfl ?_; ((refine tl_gs rfl rfl (fun hc => ?_) (fun hc => ?_) <;> (try simp only [decide_eq_true_eq, decide_eq_false_iff_not, Int.not_lt, Int.not_le, Bool.not_eq_true', Bool.not_eq_false', Decidable.not_not, not_true_eq_false] at hc) <;> (first | refine tl_sk rfl rfl rfl rfl ?_ | refine tl_qg rfl rfl (y_move rfl) rfl ?_)))
                    all_goals (first | refine tl_sk rfl rfl rfl rfl ?_ | refine tl_qg rfl rfl (y_eql rfl rfl) rfl ?_); (first | refine tl_sk rfl rfl rfl rfl ?_ | refine tl_qg rfl rfl (y_move rfl) rfl ?_); (first | refine tl_sk rfl rfl rfl rfl ?_ | refine tl_qg rfl rfl (y_eqlb rfl rfl) rfl ?_); (first | refine tl_q (y_pick_t rfl rfl) rfl ?_ | refine tl_q (y_pick_f rfl rfl) rfl ?_); refine tl_q (y_move rfl) rfl ?_; ((first | refine tl_sk rfl rfl rfl rfl ?_ | (refine tl_gs rfl rfl (fun hc => ?_) (fun hc => ?_) <;> (try simp only [decide_eq_true_eq, decide_eq_false_iff_not, Int.not_lt, Int.not_le, Bool.not_eq_true', Bool.not_eq_false', Decidable.not_not, not_true_eq_false] at hc) <;> (first | refine tl_sk rfl rfl rfl rfl ?_ | refine tl_qg rfl rfl (y_move rfl) rfl ?_))))
                    all_goals (first | refine tl_sk rfl rfl rfl rfl ?_ | refine tl_eg rfl rfl rfl (e_callV rfl (.cons rfl (.cons rfl (.cons rfl .nil))) (fun w' _ => rIn_c _ _ _ w')) (fun _ _ => ?_)); (first | refine tl_q (y_pick_t rfl rfl) rfl ?_ | refine tl_q (y_pick_f rfl rfl) rfl ?_); refine tl_q (y_move rfl) rfl ?_; ((first | refine tl_sk rfl rfl rfl rfl ?_ | (refine tl_gs rfl rfl (fun hc => ?_) (fun hc => ?_) <;> (try simp only [decide_eq_true_eq, decide_eq_false_iff_not, Int.not_lt, Int.not_le, Bool.not_eq_true', Bool.not_eq_false', Decidable.not_not, not_true_eq_false] at hc) <;> (first | (exfalso; omega) | refine tl_eg rfl rfl rfl (e_callV rfl .nil (fun w' _ => awake_c w')) (fun _ _ => ?_)))))
                    all_goals (first | refine tl_q (y_pick_t rfl rfl) rfl ?_ | refine tl_q (y_pick_f rfl rfl) rfl ?_); refine tl_q (y_assign rfl) rfl ?_; refine tl_nil ?_; ((refine hK27 ?_; try (clear hK27; clear K27)))
                    all_goals refine tc_ret ?_; (repeat (first | refine tk_then_ret ?_))
                    all_goals (refine tk_ret rfl rfl (.cons (.tmp rfl) .nil) ?_)
                    all_goals (
                     first
                     | exact fun w' hw' => ⟨rfl, hw'.fr (w0 := w) (S := []) (MI.m (by repeat constructor))⟩
                     | (exfalso
                        have h : (decide (verdF (askF s k) = 1) != decide (0 < (askF s k).least)) = true := by assumption
                        rw [c1] at h; simp at h; done)
                     | (exfalso
                        have h : (decide (verdF (askF s k) = 2) != decide (((opL s k).length : Int) = 0)) = true := by assumption
                        rw [c2] at h; simp at h; done)
                     | (exfalso
                        obtain rfl : k = s.B.toNat := by omega
                        have h : (decide (alF s = 2) == alwN s s.B.toNat) = false := by assumption
                        rw [ha1] at h; simp at h; done)
                     | (exfalso
                        obtain rfl : k = s.B.toNat := by omega
                        have h : (decide (alF s = 1) == nevN s s.B.toNat) = false := by assumption
                        rw [ha2] at h; simp at h; done))))))))
end Go.Sp
/-
  From a contract of a law's function to its row: what the arguments read as, and that they read so afterwards.
-/
namespace Go.Sp
open Go Go.Proofs Go.ChangeShapes Go.WideShapes Go.RowKit
section
variable {H : Type} {enc : TypeId × Value → H} {P : Program} {w : World} {base : Nat} {spare : Nat → Bool} {held : Bool}
theorem Fr.kept {W W' : World} (h : Fr [] W W') (p : MemPlace → Prop) : W.keptBut W' p :=
  ⟨h.os, h.output, fun i hi => by
    have e := h.block i hi (by simp)
    rw [e]
    cases hb : W.heap[i]? with
    | none => trivial
    | some o => cases o <;> simp⟩
/-- What is left of a post without 'again'. -/
theorem post_na {f : Func} {s : ChangeSpec} {apart fresh handsOn : Bool} {W W' : World} {args : Array Value} {v : Value} {ds gs : List (DataW H)} {before pa pv : List MemPlace}
    (hW : DataW.Whole enc P f.params.toList s.vars apart W args.toList ds gs before)
    (hres : ∀ (b : Nat) (sp : Nat → Bool) (hd : Bool), DataW.TrodAll enc P W' b sp hd f.resultTypes.toList (v.resultList f.resultTypes.size) (s.fn H (ds ++ gs)).results [])
    (hargs : ∀ sp : Nat → Bool, (∀ p ∈ before, sp p.block = true) → DataW.TrodAll enc P W' 0 sp true f.params.toList args.toList (s.fn H (ds ++ gs)).args pa)
    (hvars : ∀ sp : Nat → Bool, (∀ p ∈ before, sp p.block = true) → DataW.TrodVars enc P W' sp s.vars (s.fn H (ds ++ gs)).vars pv)
    (hps : before = pa ++ pv) (hk : W.keptBut W' (· ∈ before)) : s.post enc P f apart fresh handsOn false W args v W' := by
  have hold : ∀ p ∈ before, (fun b => decide (b < W.heap.size)) p.block = true := fun p hp => by simpa using hW.lt p hp
  refine ⟨ds, gs, before, [], pa, pv, hW, hres _ _ _, hargs _ hold, hvars _ hold, World.keptBut_mono (fun p hp => ⟨hp, ?_⟩) hk, fun h => by cases h⟩
  rw [hps, List.mem_append] at hp
  exact Or.inr hp
theorem all_stays (hl : laidOutB P = true) {W W' : World} {sp : Nat → Bool} (hb : Below W.heap.size W W') : ∀ {ts : List TypeId} {vs : List Value} {ds : List (DataW H)} {ps : List MemPlace}, (ts.all fun t => P.readableRec t && decide (t < P.types.size)) = true →
    DataW.TrodAll enc P W 0 (fun _ => true) true ts vs ds ps → (∀ p ∈ ps, sp p.block = true) → DataW.TrodAll enc P W' 0 sp true ts vs ds ps := by
  intro ts
  induction ts with
  | nil => intro vs ds ps _ h _; cases vs <;> cases ds <;> simp [DataW.TrodAll] at h ⊢; exact h
  | cons t ts ih =>
    intro vs ds ps ht h hs
    have hlt := h.lt
    obtain ⟨v, vs', d, ds', p, q, rfl, rfl, rfl, h1, h2⟩ := trodAll_cons h
    simp only [List.all_cons, Bool.and_eq_true, decide_eq_true_eq] at ht
    exact ⟨p, q, WideElems.Trod_stays hl ht.1.1 ht.1.2 h1 (fun x hx => hb.same (hlt x (List.mem_append_left _ hx))) (fun x hx => hs x (List.mem_append_left _ hx)),
      ih (by simpa using ht.2) h2 (fun x hx => hs x (List.mem_append_right _ hx)), rfl⟩
/-- A slice reads as the cells of its elements, each of which reads. -/
theorem slice_reads {t e : TypeId} {fuel : Nat} {cs : List Value} {x : DataW H × List MemPlace} (ht : P.underlying t = some (.slice e)) (hc : 0 < P.cellsOf e) (h : DataW.trod enc P w base spare held fuel t cs = some x) :
    ∃ ad cap, ∃ ess : List (List Value), cs = [.slice ad ess.length cap] ∧ ess.length ≤ maxLen ∧ Reads w (.slice ad ess.length cap) (P.cellsOf e) ess.length ess.flatten ∧ ∀ es ∈ ess, ∃ m y, DataW.trod enc P w base spare held m e es = some y := by
  rcases DataW.trod_slice ht h with ⟨rfl, _⟩ | ⟨a, len, cap, elems, rest, n, _, rfl, _, hb, hl, hm, hlen, hel, _, _⟩
  · exact ⟨none, 0, [], rfl, Nat.zero_le _, ⟨by simp, none, 0, rfl, fun h => absurd rfl h⟩, by simp⟩
  · -- the cells of each element
    have hone : ∀ i, i < len → ∃ es y, w.cells? base (a.add (i * P.cellsOf e)) (P.cellsOf e) = some es ∧ DataW.trod enc P w base spare held n e es = some y := fun i hi => by
      have h1 := hel i hi
      rw [List.getElem?_eq_getElem (by omega)] at h1
      obtain ⟨es, h2, h3⟩ := Option.bind_eq_some_iff.1 h1
      exact ⟨es, _, h2, h3⟩
    have hadd : ∀ m, a.spot = none → a.add m = ⟨a.block, a.off + m, none⟩ := fun m hs => by
      obtain ⟨b, o, sp⟩ := a
      simp only at hs
      subst hs
      unfold Addr.add; split
      · rename_i h0; subst h0; rfl
      · rfl
    have hsp0 : 0 < len → a.spot = none := fun h0 => by
      obtain ⟨es, y, g1, g2⟩ := hone 0 h0
      obtain ⟨_, hl1, hat⟩ := World.cells?_some g1
      have := hat 0 hc
      rw [List.getElem?_eq_getElem (by omega), Nat.zero_mul, show (a.add 0).add 0 = a from rfl] at this
      unfold World.cell? at this
      split at this
      · split at this
        · cases this
        · rename_i hs; simpa using hs
      · cases this
    have hcell : ∀ k, k ≤ len → ∃ ess : List (List Value), ess.length = k ∧ (∀ es ∈ ess, ∃ m y, DataW.trod enc P w base spare held m e es = some y) ∧ ess.flatten.length = k * P.cellsOf e ∧
        (k ≠ 0 → a.spot = none) ∧ ∀ j v, ess.flatten[j]? = some v → w.cell? ⟨a.block, a.off + j, none⟩ = some v := by
      intro k
      induction k with
      | zero => intro _; exact ⟨[], rfl, by simp, by simp, fun h => absurd rfl h, by simp⟩
      | succ k ih =>
        intro hk
        obtain ⟨ess, h1, h2, h3, h4, h5⟩ := ih (by omega)
        obtain ⟨es, y, g1, g2⟩ := hone k (by omega)
        obtain ⟨_, hl1, hat⟩ := World.cells?_some g1
        have hspot : a.spot = none := hsp0 (by omega)
        refine ⟨ess ++ [es], by simp [h1], fun u hu => ?_, ?_, fun _ => hspot, fun j v hv => ?_⟩
        · rcases List.mem_append.1 hu with hu | hu
          · exact h2 u hu
          · obtain rfl := List.mem_singleton.1 hu; exact ⟨n, y, g2⟩
        · rw [List.flatten_append, List.length_append, h3]; simp [hl1]; rw [Nat.add_mul]; omega
        · rw [List.flatten_append] at hv
          by_cases hj : j < ess.flatten.length
          · rw [List.getElem?_append_left hj] at hv; exact h5 j v hv
          · rw [List.getElem?_append_right (by omega)] at hv
            simp only [List.flatten_cons, List.flatten_nil, List.append_nil] at hv
            have hjl : j - ess.flatten.length < es.length := (List.getElem?_eq_some_iff.1 hv).1
            have := hat (j - ess.flatten.length) (by omega)
            rw [hv, hadd _ hspot] at this
            have e2 : (⟨a.block, a.off + k * P.cellsOf e, none⟩ : Addr).add (j - ess.flatten.length) = ⟨a.block, a.off + j, none⟩ := by
              unfold Addr.add; split
              · rename_i h0; simp only [Addr.mk.injEq, true_and, and_true]; omega
              · simp only [Addr.mk.injEq, true_and, and_true]; omega
            rw [e2] at this
            exact this
    obtain ⟨ess, h1, h2, h3, h4, h5⟩ := hcell len (Nat.le_refl _)
    subst h1
    refine ⟨some a, cap, ess, rfl, by omega, ⟨h3, _, _, rfl, fun hn => ⟨a.block, a.off, ?_, ?_⟩⟩, h2⟩
    · have := h4 hn
      obtain ⟨b, o, sp⟩ := a
      simp only at this
      subst this
      rfl
    · rw [← h3]
      generalize ess.flatten = vs at h5
      have key : ∀ (vs : List Value) (o : Nat), (∀ j v, vs[j]? = some v → w.cell? ⟨a.block, o + j, none⟩ = some v) → CA (fun k => w.cell? ⟨a.block, k, none⟩) o vs.length vs := by
        intro vs
        induction vs with
        | nil => intro o _; exact .nil
        | cons v vs ih => intro o hv; exact .cons (hv 0 v rfl) (ih (o + 1) fun j u hu => by rw [Nat.add_assoc, Nat.add_comm 1 j]; exact hv (j + 1) u hu)
      exact key vs a.off h5
theorem exists_map {α β : Type} {f : α → β} {q : α → Prop} : ∀ (l : List β), (∀ y ∈ l, ∃ x, y = f x ∧ q x) → ∃ xs : List α, l = xs.map f ∧ ∀ x ∈ xs, q x
  | [], _ => ⟨[], rfl, by simp⟩
  | y :: l, h => by
    obtain ⟨x, rfl, hq⟩ := h y List.mem_cons_self
    obtain ⟨xs, rfl, hxs⟩ := exists_map l (fun z hz => h z (List.mem_cons_of_mem _ hz))
    exact ⟨x :: xs, rfl, fun z hz => by rcases List.mem_cons.1 hz with rfl | hz; exact hq; exact hxs z hz⟩
/-- The fields of a struct. -/
theorem fields_reads {t : TypeId} {fs : Array Field} {fuel : Nat} {cs : List Value} {x : DataW H × List MemPlace} (ht : P.underlying t = some (.struct fs)) (h : DataW.trod enc P w base spare held fuel t cs = some x) :
    cs.length = P.cellsOf t ∧ ∀ (i : Nat) (f : Field), fs[i]? = some f → ∃ m y, DataW.trod enc P w base spare held m f.type ((cs.drop f.offset).take (P.cellsOf f.type)) = some y := by
  obtain ⟨xs, n, _, _, hl, hx, hf⟩ := DataW.trod_struct ht h
  refine ⟨hl, fun i f hi => ?_⟩
  have := hf i f hi
  have hlt : i < fs.size := (Array.getElem?_eq_some_iff.1 hi).1
  rw [List.getElem?_eq_getElem (by omega)] at this
  exact ⟨n, _, this⟩
def flds (enc : TypeId × Value → H) (P : Program) (w : World) (base : Nat) (spare : Nat → Bool) (held : Bool) (cs : List Value) : List Field → Prop
  | [] => True
  | f :: fs => (∃ m y, DataW.trod enc P w base spare held m f.type ((cs.drop f.offset).take (P.cellsOf f.type)) = some y) ∧ flds enc P w base spare held cs fs
theorem fields_list {t : TypeId} {l : List Field} {fuel : Nat} {cs : List Value} {x : DataW H × List MemPlace} (ht : P.underlying t = some (.struct l.toArray)) (h : DataW.trod enc P w base spare held fuel t cs = some x) :
    cs.length = P.cellsOf t ∧ flds enc P w base spare held cs l := by
  obtain ⟨hl, hf⟩ := fields_reads ht h
  refine ⟨hl, ?_⟩
  have key : ∀ l' : List Field, (∀ f ∈ l', f ∈ l) → flds enc P w base spare held cs l' := by
    intro l'
    induction l' with
    | nil => intro _; trivial
    | cons f fs ih =>
      intro hm
      obtain ⟨i, hi, e⟩ := List.getElem_of_mem (hm f List.mem_cons_self)
      exact ⟨hf i f (by simp [hi, e]), ih fun g hg => hm g (List.mem_cons_of_mem _ hg)⟩
  exact key l fun _ h => h
end
end Go.Sp
/-
  What a sample reads as.
-/
namespace Go.Sp
open Go Go.Proofs Go.ChangeShapes Go.WideShapes Go.RowKit
theorem laidTryz : laidOutB Tryz.prog = true := by kernel_rfl
theorem cells_3 : Tryz.prog.cellsOf 3 = 1 := by kernel_rfl
theorem cells_4 : Tryz.prog.cellsOf 4 = 1 := by kernel_rfl
theorem cells_22 : Tryz.prog.cellsOf 22 = 1 := by kernel_rfl
theorem cells_23 : Tryz.prog.cellsOf 23 = 1 := by kernel_rfl
theorem cells_24 : Tryz.prog.cellsOf 24 = 1 := by kernel_rfl
theorem cells_77 : Tryz.prog.cellsOf 77 = 5 := by kernel_rfl
theorem cells_75 : Tryz.prog.cellsOf 75 = 2 := by kernel_rfl
theorem cells_65 : Tryz.prog.cellsOf 65 = 3 := by kernel_rfl
theorem cells_26 : Tryz.prog.cellsOf 26 = 7 := by kernel_rfl
theorem wf64 {n : Int} (h : (Lit.int .i64 n).wf = true) : -9223372036854775808 ≤ n ∧ n ≤ 9223372036854775807 := by
  simpa [Lit.wf, IntKind.min, IntKind.max, IntKind.signed, IntKind.bits] using h
abbrev Bd (n : Int) : Prop := -9223372036854775808 ≤ n ∧ n ≤ 9223372036854775807
theorem two' {α : Type} {l : List α} (h : l.length = 2) : ∃ a b, l = [a, b] := by
  match l, h with
  | [a, b], _ => exact ⟨a, b, rfl⟩
theorem three' {α : Type} {l : List α} (h : l.length = 3) : ∃ a b c, l = [a, b, c] := by
  match l, h with
  | [a, b, c], _ => exact ⟨a, b, c, rfl⟩
theorem five' {α : Type} {l : List α} (h : l.length = 5) : ∃ a b c d e, l = [a, b, c, d, e] := by
  match l, h with
  | [a, b, c, d, e], _ => exact ⟨a, b, c, d, e, rfl⟩
theorem seven' {α : Type} {l : List α} (h : l.length = 7) : ∃ a b c d e f g, l = [a, b, c, d, e, f, g] := by
  match l, h with
  | [a, b, c, d, e, f, g], _ => exact ⟨a, b, c, d, e, f, g, rfl⟩
theorem flatten_map {α : Type} (enc : α → List Value) (xs : List α) : (xs.map enc).flatten = xs.flatMap enc := rfl
section
variable {H : Type} {enc : TypeId × Value → H} {w : World} {base : Nat} {spare : Nat → Bool} {held : Bool}
theorem bools_reads {fuel : Nat} {cs : List Value} {x : DataW H × List MemPlace} (h : DataW.trod enc Tryz.prog w base spare held fuel 22 cs = some x) :
    ∃ (sl : Value) (l : List Bool), cs = [sl] ∧ RdS 1 boE w sl l ∧ l.length ≤ maxLen := by
  obtain ⟨ad, cap, ess, rfl, hm, hr, hes⟩ := slice_reads Tryz.underlying22 (by rw [cells_4]; decide) h
  obtain ⟨xs, rfl, hxs⟩ := exists_map (f := boE) (q := fun _ => True) ess (fun es h => by
    obtain ⟨m, y, hy⟩ := hes es h
    obtain ⟨b, rfl, _⟩ := DataW.trod_bool Tryz.underlying4 hy
    exact ⟨b, rfl, trivial⟩)
  rw [flatten_map, cells_4] at hr
  simp only [List.length_map] at hr hm
  exact ⟨_, xs, by simp, hr, hm⟩
theorem rng_reads {fuel : Nat} {cs : List Value} {x : DataW H × List MemPlace} (h : DataW.trod enc Tryz.prog w base spare held fuel 75 cs = some x) :
    ∃ a b : Int, cs = [vi a, vi b] ∧ Bd a ∧ Bd b := by
  obtain ⟨hl, hf⟩ := fields_list Tryz.underlying75 h
  rw [cells_75] at hl
  obtain ⟨c0, c1, rfl⟩ := two' hl
  obtain ⟨⟨_, _, f0⟩, ⟨_, _, f1⟩, _⟩ := hf
  rw [cells_3] at f0 f1
  obtain ⟨n0, e0, _, w0⟩ := DataW.trod_int Tryz.underlying3 f0
  obtain ⟨n1, e1, _, w1⟩ := DataW.trod_int Tryz.underlying3 f1
  simp at e0 e1
  subst e0; subst e1
  exact ⟨n0, n1, rfl, wf64 w0, wf64 w1⟩
theorem pas_reads {fuel : Nat} {cs : List Value} {x : DataW H × List MemPlace} (h : DataW.trod enc Tryz.prog w base spare held fuel 77 cs = some x) :
    ∃ p : Pas, cs = psE p := by
  obtain ⟨hl, hf⟩ := fields_list Tryz.underlying77 h
  rw [cells_77] at hl
  obtain ⟨c0, c1, c2, c3, c4, rfl⟩ := five' hl
  obtain ⟨⟨_, _, f0⟩, ⟨_, _, f1⟩, ⟨_, _, f2⟩, ⟨_, _, f3⟩, _⟩ := hf
  rw [cells_3] at f0 f1 f2
  rw [cells_75] at f3
  obtain ⟨n0, e0, _, w0⟩ := DataW.trod_int Tryz.underlying3 f0
  obtain ⟨n1, e1, _, w1⟩ := DataW.trod_int Tryz.underlying3 f1
  obtain ⟨n2, e2, _, w2⟩ := DataW.trod_int Tryz.underlying3 f2
  obtain ⟨a, b, e3, _, _⟩ := rng_reads f3
  simp at e0 e1 e2 e3
  obtain ⟨rfl, rfl⟩ := e3
  subst e0; subst e1; subst e2
  exact ⟨⟨n0, n1, n2, a, b⟩, rfl⟩
theorem sgt_reads {fuel : Nat} {cs : List Value} {x : DataW H × List MemPlace} (h : DataW.trod enc Tryz.prog w base spare held fuel 65 cs = some x) :
    ∃ g : Sgt, cs = sgE g := by
  obtain ⟨hl, hf⟩ := fields_list Tryz.underlying65 h
  rw [cells_65] at hl
  obtain ⟨c0, c1, c2, rfl⟩ := three' hl
  obtain ⟨⟨_, _, f0⟩, ⟨_, _, f1⟩, ⟨_, _, f2⟩, _⟩ := hf
  rw [cells_3] at f0 f1
  rw [cells_4] at f2
  obtain ⟨n0, e0, _, w0⟩ := DataW.trod_int Tryz.underlying3 f0
  obtain ⟨n1, e1, _, w1⟩ := DataW.trod_int Tryz.underlying3 f1
  obtain ⟨b, e2, _⟩ := DataW.trod_bool Tryz.underlying4 f2
  simp at e0 e1 e2
  subst e0; subst e1; subst e2
  exact ⟨⟨n0, n1, b⟩, rfl⟩
theorem pass_reads {fuel : Nat} {cs : List Value} {x : DataW H × List MemPlace} (h : DataW.trod enc Tryz.prog w base spare held fuel 23 cs = some x) :
    ∃ (sl : Value) (l : List Pas), cs = [sl] ∧ RdS 5 psE w sl l ∧ l.length ≤ maxLen := by
  obtain ⟨ad, cap, ess, rfl, hm, hr, hes⟩ := slice_reads Tryz.underlying23 (by rw [cells_77]; decide) h
  obtain ⟨xs, rfl, hxs⟩ := exists_map (f := psE) (q := fun _ => True) ess (fun es h => by
    obtain ⟨m, y, hy⟩ := hes es h
    obtain ⟨p, hp⟩ := pas_reads hy
    exact ⟨p, hp, trivial⟩)
  rw [flatten_map, cells_77] at hr
  simp only [List.length_map] at hr hm
  exact ⟨_, xs, by simp, hr, hm⟩
theorem sgts_reads {fuel : Nat} {cs : List Value} {x : DataW H × List MemPlace} (h : DataW.trod enc Tryz.prog w base spare held fuel 24 cs = some x) :
    ∃ (sl : Value) (l : List Sgt), cs = [sl] ∧ RdS 3 sgE w sl l ∧ l.length ≤ maxLen := by
  obtain ⟨ad, cap, ess, rfl, hm, hr, hes⟩ := slice_reads Tryz.underlying24 (by rw [cells_65]; decide) h
  obtain ⟨xs, rfl, hxs⟩ := exists_map (f := sgE) (q := fun _ => True) ess (fun es h => by
    obtain ⟨m, y, hy⟩ := hes es h
    obtain ⟨p, hp⟩ := sgt_reads hy
    exact ⟨p, hp, trivial⟩)
  rw [flatten_map, cells_65] at hr
  simp only [List.length_map] at hr hm
  exact ⟨_, xs, by simp, hr, hm⟩
theorem smp_reads {fuel : Nat} {cs : List Value} {x : DataW H × List MemPlace} (h : DataW.trod enc Tryz.prog w base spare held fuel 26 cs = some x) :
    ∃ (s : Smp) (tv pv gv : Value), cs = [vi s.B, vi s.P, vi s.L, vi s.F, tv, pv, gv] ∧ RdSm w s tv pv gv := by
  obtain ⟨hl, hf⟩ := fields_list Tryz.underlying26 h
  rw [cells_26] at hl
  obtain ⟨c0, c1, c2, c3, c4, c5, c6, rfl⟩ := seven' hl
  obtain ⟨⟨_, _, f0⟩, ⟨_, _, f1⟩, ⟨_, _, f2⟩, ⟨_, _, f3⟩, ⟨_, _, f4⟩, ⟨_, _, f5⟩, ⟨_, _, f6⟩, _⟩ := hf
  rw [cells_3] at f0 f1 f2 f3
  rw [cells_22] at f4
  rw [cells_23] at f5
  rw [cells_24] at f6
  obtain ⟨n0, e0, _, w0⟩ := DataW.trod_int Tryz.underlying3 f0
  obtain ⟨n1, e1, _, w1⟩ := DataW.trod_int Tryz.underlying3 f1
  obtain ⟨n2, e2, _, w2⟩ := DataW.trod_int Tryz.underlying3 f2
  obtain ⟨n3, e3, _, w3⟩ := DataW.trod_int Tryz.underlying3 f3
  obtain ⟨tv, st, e4, h4, _⟩ := bools_reads f4
  obtain ⟨pv, ps, e5, h5, _⟩ := pass_reads f5
  obtain ⟨gv, sg, e6, h6, _⟩ := sgts_reads f6
  simp at e0 e1 e2 e3 e4 e5 e6
  subst e0; subst e1; subst e2; subst e3; subst e4; subst e5; subst e6
  exact ⟨⟨n0, n1, n2, n3, st, ps, sg⟩, _, _, _, rfl, h4, h5, h6⟩
end
end Go.Sp
