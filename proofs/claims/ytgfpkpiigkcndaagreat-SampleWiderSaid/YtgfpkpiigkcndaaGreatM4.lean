
/-
  The reference of samples: whether a bottle in some hands has a way; whether a sample has a truth.
-/
import Derived.Test.YtgfpkpiigkcndaaGreatM3
import Derived.Laws.AppendOwn
import Derived.Test.YtgfpkpiigkcndaaGreatRows
import Derived.ProofKit
import Derived.OpenShut
import Derived.Carry
import Derived.Deep.Fields
set_option linter.unusedVariables false
set_option linter.unusedSimpArgs false
set_option linter.deprecated false
namespace Go.Sp
open Go Go.Proofs
def pUp (s : Smp) (b : Int) (h : Nat) (c : List Int) (k : Bool) (acc : List Bool) (n : Nat) : List Bool := if actIs k (stB s c h) n = true ∧ seenB s b h (actY k n) = true then acc.set (actY k n).toNat true else acc
def pAct (s : Smp) (b : Int) (h : Nat) (c : List Int) (k : Bool) (acc : List Bool) : Nat → List Bool
  | 0 => acc
  | n + 1 => pUp s b h c k (pAct s b h c k acc n) n
def pBoth (s : Smp) (b : Int) (h : Nat) (c : List Int) (now : List Bool) : Nat → List Bool
  | 0 => [false, false]
  | k + 1 => if now.getD k false = true then pAct s b h c (blF k) (pBoth s b h c now k) 4 else pBoth s b h c now k
def pNow (s : Smp) (b : Int) (c : List Int) : Nat → List Bool
  | 0 => [true, false]
  | h + 1 => pBoth s b h c (pNow s b c h) 2
def passF (s : Smp) (b : Int) (c : List Int) : Bool := (pNow s b c (s.L + 1).toNat).getD 0 false || (pNow s b c (s.L + 1).toNat).getD 1 false
theorem pAct_len (s : Smp) (b : Int) (h : Nat) (c : List Int) (k : Bool) (acc : List Bool) : ∀ n, (pAct s b h c k acc n).length = acc.length
  | 0 => rfl
  | n + 1 => by
    rw [pAct, pUp]
    split
    · rw [List.length_set, pAct_len s b h c k acc n]
    · exact pAct_len s b h c k acc n
theorem pBoth_len (s : Smp) (b : Int) (h : Nat) (c : List Int) (now : List Bool) : ∀ n, (pBoth s b h c now n).length = 2
  | 0 => rfl
  | n + 1 => by
    rw [pBoth]
    split
    · rw [pAct_len, pBoth_len s b h c now n]
    · exact pBoth_len s b h c now n
theorem pNow_len (s : Smp) (b : Int) (c : List Int) : ∀ n, (pNow s b c n).length = 2
  | 0 => rfl
  | n + 1 => pBoth_len ..
theorem actedN_c {k n : Nat} (hn : n < 4) (st : Bool) (w : World) : CnV Tryz.prog 74 #[.bool (decide ((k : Int) = 1)), .bool st, vi n] w (.tuple #[.bool (actY (blF k) n), .bool (actIs (blF k) st n)]) := by
  have h := acted_c (decide ((k : Int) = 1)) st n w
  have e : decide ((k : Int) = 1) = blF k := by
    unfold blF
    rw [Bool.eq_iff_iff]; simp; omega
  rw [acY_nat _ hn, acIs_nat _ _ hn, e] at h
  rw [e]; exact h
set_option maxHeartbeats 2000000 in
theorem passes_c (s : Smp) (hf : Few s) (hv : VSm s) (b : Int) (c : List Int) (hcl : (c.length : Int) = s.L + 1) (hcb : ∀ i, i < c.length → 0 ≤ c.getD i 0 ∧ c.getD i 0 < s.P) (tv pv gv cv : Value) (w : World) (hr : RdSm w s tv pv gv) (hcr : RdI w cv c) :
    CnV Tryz.prog 76 #[smV s tv pv gv, vi b, cv] w (.bool (passF s b c)) := by
  have hr0 := hr
  have hl0 := hv.l0
  have hl9 := hv.l9
  have hst := hv.st
  have hp4 := hv.p4
  obtain ⟨adt, cpt, bt, ot, rfl, hadt, hct⟩ := hr.st.open boE_len false
  obtain ⟨adc, cpc, bc, oc, rfl, hadc, hcc⟩ := hcr.open
  refine cnv (vs := [_, _, _]) Tryz.func76 rfl rfl ?_
  all_goals refine tc_seq fun K1 hK1 => ?_; refine tc_region ?_; refine tl_e (e_box rfl rfl rfl) rfl (fun b3 _ => ?_); refine tl_q (y_assign rfl) rfl ?_; refine tl_nil ?_; ((refine hK1 ?_; try (clear hK1; clear K1)))
  all_goals refine tc_seq fun K2 hK2 => ?_; refine tc_region ?_; refine tl_q (y_build_ga [(0, 1), (1, 1)] (by repeat constructor) (by decide)) rfl ?_; refine tl_e (e_allocN rfl) rfl (fun b7 _ => ?_); refine tl_e (e_storeW rfl rfl (by repeat constructor) (by rfl) (by rfl) (bsV_one [true, false])) rfl (fun _ _ => ?_); refine tl_nil ?_; ((refine hK2 ?_; try (clear hK2; clear K2)))
  all_goals refine tc_seq fun K3 hK3 => ?_; refine tc_seq fun K4 hK4 => ?_; refine tc_region ?_; refine tl_q (y_assign rfl) rfl ?_; refine tl_nil ?_; ((refine hK4 ?_; try (clear hK4; clear K4)))
  all_goals refine tc_block ?_
  all_goals (
   refine tc_loop (fun h : Nat => (h : Int) ≤ s.L + 1) (fun h => [(1, vi b), (2, .slice adc c.length cpc), (3, ptr b3), (7, ptr b7), (8, vi h)]) (fun _ => [(w, [])]) (fun h => [(b7, .cells (bsV (pNow s b c h)) 139 (0, 0)), (b3, .cells #[vi s.B, vi s.P, vi s.L, vi s.F, .slice adt s.st.length cpt, pv, gv] 26 (0, 0))]) (fun h => (s.L + 1).toNat - h) ?_ ?_
   · exact tk_start 0 (by omega) (.cons rfl (.cons rfl (.cons rfl (.cons rfl (.cons rfl .nil))))) (fun _ h => h.subl (SB.s (by repeat constructor)) (SB.s (by repeat constructor)))
   · rintro h hh
     have hpl := pNow_len s b c h
     all_goals refine tc_seq fun K5 hK5 => ?_; refine tc_seq fun K6 hK6 => ?_; refine tc_region ?_; refine tl_q (y_move rfl) rfl ?_; refine tl_q (y_field rfl) rfl ?_; refine tl_q (y_load1 rfl (by repeat constructor) (by rfl)) rfl ?_; refine tl_q (y_leq rfl rfl) rfl ?_; refine tl_nil ?_; ((refine hK6 ?_; try (clear hK6; clear K6)))
     all_goals (
      refine tc_cond rfl (fun hc => ?_) (fun hc => ?_)
      · try simp only [decide_eq_true_eq, decide_eq_false_iff_not, Int.not_lt, Int.not_le, Bool.not_eq_true', Bool.not_eq_false', Decidable.not_not, not_true_eq_false] at hc
        all_goals refine tc_skip ?_; ((refine hK5 ?_; try (clear hK5; clear K5)))
        all_goals refine tc_seq fun K7 hK7 => ?_; refine tc_block ?_; refine tc_seq fun K8 hK8 => ?_; refine tc_region ?_; refine tl_e (e_allocN rfl) rfl (fun b9 _ => ?_); refine tl_nil ?_; ((refine hK8 ?_; try (clear hK8; clear K8)))
        all_goals refine tc_seq fun K9 hK9 => ?_; refine tc_seq fun K10 hK10 => ?_; refine tc_region ?_; refine tl_q (y_assign rfl) rfl ?_; refine tl_nil ?_; ((refine hK10 ?_; try (clear hK10; clear K10)))
        all_goals refine tc_block ?_
        all_goals (
         refine tc_loop (fun k : Nat => k ≤ 2) (fun k => [(1, vi b), (2, .slice adc c.length cpc), (3, ptr b3), (7, ptr b7), (8, vi h), (9, ptr b9), (10, vi k)]) (fun _ => [(w, [])]) (fun k => [(b9, .cells (bsV (pBoth s b h c (pNow s b c h) k)) 139 (0, 0)), (b7, .cells (bsV (pNow s b c h)) 139 (0, 0)), (b3, .cells #[vi s.B, vi s.P, vi s.L, vi s.F, .slice adt s.st.length cpt, pv, gv] 26 (0, 0))]) (fun k => 2 - k) ?_ ?_
         · exact tk_start 0 (by omega) (.cons rfl (.cons rfl (.cons rfl (.cons rfl (.cons rfl (.cons rfl (.cons rfl .nil))))))) (fun _ h => h.subl (SB.s (by repeat constructor)) (SB.s (by repeat constructor)))
         · rintro k hk
           have hbl := pBoth_len s b h c (pNow s b c h) k
           all_goals refine tc_seq fun K11 hK11 => ?_; refine tc_seq fun K12 hK12 => ?_; refine tc_region ?_; refine tl_q (y_move rfl) rfl ?_; refine tl_q (y_lss rfl rfl) rfl ?_; refine tl_nil ?_; ((refine hK12 ?_; try (clear hK12; clear K12)))
           all_goals (
            refine tc_cond rfl (fun hc => ?_) (fun hc => ?_)
            · try simp only [decide_eq_true_eq, decide_eq_false_iff_not, Int.not_lt, Int.not_le, Bool.not_eq_true', Bool.not_eq_false', Decidable.not_not, not_true_eq_false] at hc
              all_goals refine tc_skip ?_; ((refine hK11 ?_; try (clear hK11; clear K11)))
              all_goals refine tc_seq fun K13 hK13 => ?_; refine tc_block ?_; refine tc_seq fun K14 hK14 => ?_; refine tc_region ?_; refine tl_q (y_assign rfl) rfl ?_; refine tl_nil ?_; ((refine hK14 ?_; try (clear hK14; clear K14)))
              all_goals refine tc_block ?_
              all_goals (
               refine tc_loop (fun n : Nat => n ≤ 4 ∧ (0 < n → (pNow s b c h).getD k false = true)) (fun n => [(1, vi b), (2, .slice adc c.length cpc), (3, ptr b3), (7, ptr b7), (8, vi h), (9, ptr b9), (10, vi k), (11, vi n)]) (fun _ => [(w, [])]) (fun n => [(b9, .cells (bsV (pAct s b h c (blF k) (pBoth s b h c (pNow s b c h) k) n)) 139 (0, 0)), (b7, .cells (bsV (pNow s b c h)) 139 (0, 0)), (b3, .cells #[vi s.B, vi s.P, vi s.L, vi s.F, .slice adt s.st.length cpt, pv, gv] 26 (0, 0))]) (fun n => 4 - n) ?_ ?_
               · exact tk_start 0 ⟨by omega, fun h => absurd h (Nat.lt_irrefl 0)⟩ (.cons rfl (.cons rfl (.cons rfl (.cons rfl (.cons rfl (.cons rfl (.cons rfl (.cons rfl .nil)))))))) (fun _ h => h.subl (SB.s (by repeat constructor)) (SB.s (by repeat constructor)))
               · rintro n ⟨hn, hnow⟩
                 have hal : (pAct s b h c (blF k) (pBoth s b h c (pNow s b c h) k) n).length = 2 := by rw [pAct_len, hbl]
                 have hb01 : (pNow s b c h).getD (0 + Int.toNat (k : Int) * 1) false = (pNow s b c h).getD k false := by rw [show 0 + Int.toNat (k : Int) * 1 = k from by omega]
                 all_goals refine tc_seq fun K15 hK15 => ?_; refine tc_seq fun K16 hK16 => ?_; refine tc_region ?_; refine tl_q (y_move rfl) rfl ?_; refine tl_q (y_lss rfl rfl) rfl ?_; refine tl_q (y_move rfl) rfl ?_; ((refine tl_gs rfl rfl (fun hc => ?_) (fun hc => ?_) <;> (try simp only [decide_eq_true_eq, decide_eq_false_iff_not, Int.not_lt, Int.not_le, Bool.not_eq_true', Bool.not_eq_false', Decidable.not_not, not_true_eq_false] at hc) <;> (first | refine tl_sk rfl rfl rfl rfl ?_ | refine tl_qg rfl rfl (y_move rfl) rfl ?_)))
                 all_goals (first | refine tl_sk rfl rfl rfl rfl ?_ | refine tl_qg rfl rfl (y_indexA rfl rfl (by omega)) rfl ?_); (first | refine tl_sk rfl rfl rfl rfl ?_ | refine tl_qg rfl rfl (y_load1 (v := .bool ((pNow s b c h).getD (0 + Int.toNat (k : Int) * 1) false)) rfl (by repeat constructor) (cellAt_bs (by omega))) rfl ?_); (first | refine tl_q (y_pick_t rfl rfl) rfl ?_ | refine tl_q (y_pick_f rfl rfl) rfl ?_); refine tl_nil ?_; ((refine hK16 ?_; try (clear hK16; clear K16)))
                 all_goals (
                  refine tc_cond rfl (fun hc => ?_) (fun hc => ?_)
                  · all_goals ((first | (exfalso; with_reducible exact bft hc) | skip))
                    all_goals refine tc_skip ?_; ((refine hK15 ?_; try (clear hK15; clear K15)))
                    all_goals refine tc_seq fun K17 hK17 => ?_; refine tc_block ?_; refine tc_seq fun K18 hK18 => ?_; ((have hcbh := hcb h (by omega); have hcn := hc))
                    all_goals refine tc_draw (by kernel_rfl) ?_; refine tx_p 0 rfl (by kernel_rfl) (y_move rfl) rfl (fun _ _ _ h => h) (fun _ h => h) ?_; refine tx_p 1 rfl (by kernel_rfl) (y_eql rfl rfl) rfl (fun _ _ _ h => h) (fun _ h => h) ?_; refine tx_p 2 rfl (by kernel_rfl) (y_field rfl) rfl (fun _ _ _ h => h) (fun _ h => h) ?_; refine tx_q 3 rfl (by kernel_rfl) (y_load1 rfl (by repeat constructor) (by rfl)) rfl (fun _ _ _ h => h) (fun _ h => h) ?_; refine tx_p 4 rfl (by kernel_rfl) (y_move rfl) rfl (fun _ _ _ h => h) (fun _ h => h) ?_; refine tx_p 5 rfl (by kernel_rfl) (y_move rfl) rfl (fun _ _ _ h => h) (fun _ h => h) ?_; refine tx_p 6 rfl (by kernel_rfl) (y_index rfl rfl (by omega) (hadc (by omega))) rfl (fun _ _ _ h => h) (fun _ h => h) ?_; ((refine tx_q 7 rfl (by kernel_rfl) (y_load1o (v := vi (c.getD h 0)) rfl (fun w' hw' => by rw [show Int.toNat (h : Int) * 1 = h from by omega]; exact hcc w' (hw'.fr (w0 := w) (S := []) (MI.m (by repeat constructor))) h (by omega))) rfl (fun _ _ _ h => h) (fun _ h => h) ?_))
                    all_goals (refine tx_p 8 rfl (by kernel_rfl) (y_index rfl rfl (by omega) (hadt (by omega))) rfl (fun _ _ _ h => h) (fun _ h => h) ?_); ((refine tx_q 9 rfl (by kernel_rfl) (y_load1o (v := .bool (stB s c h)) rfl (fun w' hw' => by unfold stB; rw [Int.toNat_natCast]; have hx := (hct w' [] (hw'.fr (w0 := w) (S := []) (MI.m (by repeat constructor))) (by simp) (c.getD h 0).toNat (by omega)).get 0 _ rfl; exact hx)) rfl (fun _ _ _ h => h) (fun _ h => h) ?_))
                    all_goals refine tx_p 10 rfl (by kernel_rfl) (y_move rfl) rfl (fun _ _ _ h => h) (fun _ h => h) ?_; refine tx_e 11 rfl (by kernel_rfl) rfl (e_callV rfl (.cons rfl (.cons rfl (.cons rfl .nil))) (fun w' _ => actedN_c (k := k) (n := n) (by omega) _ w')) (.inr fun _ _ h => h) (fun _ _ => ?_); refine tx_p 12 rfl (by kernel_rfl) (y_move rfl) rfl (fun _ _ _ h => h) (fun _ h => h) ?_; refine tx_p 13 rfl (by kernel_rfl) (y_extract rfl rfl) rfl (fun _ _ _ h => h) (fun _ h => h) ?_; refine tx_p 14 rfl (by kernel_rfl) (y_extract rfl rfl) rfl (fun _ _ _ h => h) (fun _ h => h) ?_; refine tx_p 15 rfl (by kernel_rfl) (y_assign rfl) rfl (fun _ _ _ h => h) (fun _ h => h) ?_; refine tx_p 16 rfl (by kernel_rfl) (y_assign rfl) rfl (fun _ _ _ h => h) (fun _ h => h) ?_; refine tx_done (by kernel_rfl) ?_; ((refine hK18 ?_; try (clear hK18; clear K18)))
                    all_goals refine tc_seq fun K19 hK19 => ?_; refine tc_region ?_; refine tl_q (y_move rfl) rfl ?_; refine tl_q (y_move rfl) rfl ?_; ((refine tl_gs rfl rfl (fun hc => ?_) (fun hc => ?_) <;> (try simp only [decide_eq_true_eq, decide_eq_false_iff_not, Int.not_lt, Int.not_le, Bool.not_eq_true', Bool.not_eq_false', Decidable.not_not, not_true_eq_false] at hc) <;> (first | refine tl_sk rfl rfl rfl rfl ?_ | refine tl_qg rfl rfl (y_loadW rfl (by repeat constructor) (by rfl)) rfl ?_)))
                    all_goals (first | refine tl_sk rfl rfl rfl rfl ?_ | refine tl_qg rfl rfl (y_move rfl) rfl ?_); (first | refine tl_sk rfl rfl rfl rfl ?_ | refine tl_qg rfl rfl (y_move rfl) rfl ?_); (first | refine tl_sk rfl rfl rfl rfl ?_ | refine tl_qg rfl rfl (y_move rfl) rfl ?_); (first | refine tl_sk rfl rfl rfl rfl ?_ | refine tl_eg rfl rfl rfl (e_callV rfl (.cons rfl (.cons rfl (.cons rfl (.cons rfl .nil)))) (fun w' hw' => agrees_c s hf.sg b h _ _ _ _ w' (hr0.sg.fr (hw'.fr (w0 := w) (S := []) (MI.m (by repeat constructor)))))) (fun _ _ => ?_)); (first | refine tl_q (y_pick_t rfl rfl) rfl ?_ | refine tl_q (y_pick_f rfl rfl) rfl ?_); refine tl_nil ?_; ((refine hK19 ?_; try (clear hK19; clear K19)))
                    all_goals (
                     refine tc_cond rfl (fun hc => ?_) (fun hc => ?_)
                     · all_goals ((first | (exfalso; with_reducible exact bft hc) | skip))
                       all_goals refine tc_seq fun K20 hK20 => ?_; refine tc_region ?_; refine tl_q (y_move rfl) rfl ?_; refine tl_nil ?_; ((refine hK20 ?_; try (clear hK20; clear K20)))
                       all_goals (
                        refine tc_cond rfl (fun hc => ?_) (fun hc => ?_)
                        · all_goals (skip)
                          all_goals refine tc_region ?_; refine tl_q (y_indexA rfl rfl (by omega)) rfl ?_; refine tl_e (e_storeB (l := pAct s b h c (blF k) (pBoth s b h c (pNow s b c h) k) n) rfl rfl (by omega) (by repeat constructor)) rfl (fun _ _ => ?_); refine tl_nil ?_; ((refine hK17 ?_; try (clear hK17; clear K17)))
                          all_goals refine tc_region ?_; refine tl_q (y_move rfl) rfl ?_; refine tl_q (y_add rfl rfl (by omega)) rfl ?_; refine tl_q (y_assign rfl) rfl ?_; refine tl_nil ?_
                          all_goals (
                           first
                           | (have hs : pAct s b h c (blF k) (pBoth s b h c (pNow s b c h) k) (n + 1) = (pAct s b h c (blF k) (pBoth s b h c (pNow s b c h) k) n).set 1 true := by
                                rw [pAct, pUp, if_pos ⟨by assumption, by assumption⟩, show actY (blF k) n = true from hc]; rfl
                              exact tk_round (n + 1) ⟨by omega, fun _ => by rw [← hb01]; exact hcn⟩ (by omega) (.cons rfl (.cons rfl (.cons rfl (.cons rfl (.cons rfl (.cons rfl (.cons rfl (.cons rfl .nil)))))))) (fun _ h => by rw [hs]; exact h.subl (SB.s (by repeat constructor)) (SB.s (by repeat constructor))))
                           | (have hs : pAct s b h c (blF k) (pBoth s b h c (pNow s b c h) k) (n + 1) = (pAct s b h c (blF k) (pBoth s b h c (pNow s b c h) k) n).set 0 true := by
                                rw [pAct, pUp, if_pos ⟨by assumption, by assumption⟩, show actY (blF k) n = false from hc]; rfl
                              exact tk_round (n + 1) ⟨by omega, fun _ => by rw [← hb01]; exact hcn⟩ (by omega) (.cons rfl (.cons rfl (.cons rfl (.cons rfl (.cons rfl (.cons rfl (.cons rfl (.cons rfl .nil)))))))) (fun _ h => by rw [hs]; exact h.subl (SB.s (by repeat constructor)) (SB.s (by repeat constructor))))
                           | (have hs : pAct s b h c (blF k) (pBoth s b h c (pNow s b c h) k) (n + 1) = pAct s b h c (blF k) (pBoth s b h c (pNow s b c h) k) n := by
                                rw [pAct, pUp, if_neg (fun g => by simp_all)]
                              exact tk_round (n + 1) ⟨by omega, fun _ => by rw [← hb01]; exact hcn⟩ (by omega) (.cons rfl (.cons rfl (.cons rfl (.cons rfl (.cons rfl (.cons rfl (.cons rfl (.cons rfl .nil)))))))) (fun _ h => by rw [hs]; exact h.subl (SB.s (by repeat constructor)) (SB.s (by repeat constructor)))))
                        · all_goals (skip)
                          all_goals refine tc_region ?_; refine tl_q (y_indexA rfl rfl (by omega)) rfl ?_; refine tl_e (e_storeB (l := pAct s b h c (blF k) (pBoth s b h c (pNow s b c h) k) n) rfl rfl (by omega) (by repeat constructor)) rfl (fun _ _ => ?_); refine tl_nil ?_; ((refine hK17 ?_; try (clear hK17; clear K17)))
                          all_goals refine tc_region ?_; refine tl_q (y_move rfl) rfl ?_; refine tl_q (y_add rfl rfl (by omega)) rfl ?_; refine tl_q (y_assign rfl) rfl ?_; refine tl_nil ?_
                          all_goals (
                           first
                           | (have hs : pAct s b h c (blF k) (pBoth s b h c (pNow s b c h) k) (n + 1) = (pAct s b h c (blF k) (pBoth s b h c (pNow s b c h) k) n).set 1 true := by
                                rw [pAct, pUp, if_pos ⟨by assumption, by assumption⟩, show actY (blF k) n = true from hc]; rfl
                              exact tk_round (n + 1) ⟨by omega, fun _ => by rw [← hb01]; exact hcn⟩ (by omega) (.cons rfl (.cons rfl (.cons rfl (.cons rfl (.cons rfl (.cons rfl (.cons rfl (.cons rfl .nil)))))))) (fun _ h => by rw [hs]; exact h.subl (SB.s (by repeat constructor)) (SB.s (by repeat constructor))))
                           | (have hs : pAct s b h c (blF k) (pBoth s b h c (pNow s b c h) k) (n + 1) = (pAct s b h c (blF k) (pBoth s b h c (pNow s b c h) k) n).set 0 true := by
                                rw [pAct, pUp, if_pos ⟨by assumption, by assumption⟩, show actY (blF k) n = false from hc]; rfl
                              exact tk_round (n + 1) ⟨by omega, fun _ => by rw [← hb01]; exact hcn⟩ (by omega) (.cons rfl (.cons rfl (.cons rfl (.cons rfl (.cons rfl (.cons rfl (.cons rfl (.cons rfl .nil)))))))) (fun _ h => by rw [hs]; exact h.subl (SB.s (by repeat constructor)) (SB.s (by repeat constructor))))
                           | (have hs : pAct s b h c (blF k) (pBoth s b h c (pNow s b c h) k) (n + 1) = pAct s b h c (blF k) (pBoth s b h c (pNow s b c h) k) n := by
                                rw [pAct, pUp, if_neg (fun g => by simp_all)]
                              exact tk_round (n + 1) ⟨by omega, fun _ => by rw [← hb01]; exact hcn⟩ (by omega) (.cons rfl (.cons rfl (.cons rfl (.cons rfl (.cons rfl (.cons rfl (.cons rfl (.cons rfl .nil)))))))) (fun _ h => by rw [hs]; exact h.subl (SB.s (by repeat constructor)) (SB.s (by repeat constructor))))))
                     · try simp only [decide_eq_true_eq, decide_eq_false_iff_not, Int.not_lt, Int.not_le, Bool.not_eq_true', Bool.not_eq_false', Decidable.not_not, not_true_eq_false] at hc
                       all_goals refine tc_skip ?_; ((refine hK17 ?_; try (clear hK17; clear K17)))
                       all_goals refine tc_region ?_; refine tl_q (y_move rfl) rfl ?_; refine tl_q (y_add rfl rfl (by omega)) rfl ?_; refine tl_q (y_assign rfl) rfl ?_; refine tl_nil ?_
                       all_goals (
                        first
                        | (have hs : pAct s b h c (blF k) (pBoth s b h c (pNow s b c h) k) (n + 1) = (pAct s b h c (blF k) (pBoth s b h c (pNow s b c h) k) n).set 1 true := by
                             rw [pAct, pUp, if_pos ⟨by assumption, by assumption⟩, show actY (blF k) n = true from hc]; rfl
                           exact tk_round (n + 1) ⟨by omega, fun _ => by rw [← hb01]; exact hcn⟩ (by omega) (.cons rfl (.cons rfl (.cons rfl (.cons rfl (.cons rfl (.cons rfl (.cons rfl (.cons rfl .nil)))))))) (fun _ h => by rw [hs]; exact h.subl (SB.s (by repeat constructor)) (SB.s (by repeat constructor))))
                        | (have hs : pAct s b h c (blF k) (pBoth s b h c (pNow s b c h) k) (n + 1) = (pAct s b h c (blF k) (pBoth s b h c (pNow s b c h) k) n).set 0 true := by
                             rw [pAct, pUp, if_pos ⟨by assumption, by assumption⟩, show actY (blF k) n = false from hc]; rfl
                           exact tk_round (n + 1) ⟨by omega, fun _ => by rw [← hb01]; exact hcn⟩ (by omega) (.cons rfl (.cons rfl (.cons rfl (.cons rfl (.cons rfl (.cons rfl (.cons rfl (.cons rfl .nil)))))))) (fun _ h => by rw [hs]; exact h.subl (SB.s (by repeat constructor)) (SB.s (by repeat constructor))))
                        | (have hs : pAct s b h c (blF k) (pBoth s b h c (pNow s b c h) k) (n + 1) = pAct s b h c (blF k) (pBoth s b h c (pNow s b c h) k) n := by
                             rw [pAct, pUp, if_neg (fun g => by simp_all)]
                           exact tk_round (n + 1) ⟨by omega, fun _ => by rw [← hb01]; exact hcn⟩ (by omega) (.cons rfl (.cons rfl (.cons rfl (.cons rfl (.cons rfl (.cons rfl (.cons rfl (.cons rfl .nil)))))))) (fun _ h => by rw [hs]; exact h.subl (SB.s (by repeat constructor)) (SB.s (by repeat constructor))))))
                  · try simp only [decide_eq_true_eq, decide_eq_false_iff_not, Int.not_lt, Int.not_le, Bool.not_eq_true', Bool.not_eq_false', Decidable.not_not, not_true_eq_false] at hc
                    all_goals refine tc_exit ?_; ((refine hK13 ?_; try (clear hK13; clear K13)))
                    all_goals refine tc_region ?_; refine tl_q (y_move rfl) rfl ?_; refine tl_q (y_add rfl rfl (by omega)) rfl ?_; refine tl_q (y_assign rfl) rfl ?_; refine tl_nil ?_
                    all_goals (
                     first
                     | (have hn0 : n = 0 := by refine Decidable.byContradiction fun g => ?_; rw [hb01, hnow (by omega)] at hc; cases hc
                        have hs : pBoth s b h c (pNow s b c h) (k + 1) = pAct s b h c (blF k) (pBoth s b h c (pNow s b c h) k) n := by
                          rw [pBoth, if_neg (by rw [← hb01, hc]; exact Bool.false_ne_true), hn0]; rfl
                        exact tk_round (k + 1) (by omega) (by omega) (.cons rfl (.cons rfl (.cons rfl (.cons rfl (.cons rfl (.cons rfl (.cons rfl .nil))))))) (fun _ h => by rw [hs]; exact h.subl (SB.s (by repeat constructor)) (SB.s (by repeat constructor))))
                     | (obtain rfl : n = 4 := by omega
                        have hs : pBoth s b h c (pNow s b c h) (k + 1) = pAct s b h c (blF k) (pBoth s b h c (pNow s b c h) k) 4 := by
                          rw [pBoth, if_pos (hnow (by omega))]
                        exact tk_round (k + 1) (by omega) (by omega) (.cons rfl (.cons rfl (.cons rfl (.cons rfl (.cons rfl (.cons rfl (.cons rfl .nil))))))) (fun _ h => by rw [hs]; exact h.subl (SB.s (by repeat constructor)) (SB.s (by repeat constructor)))))))
            · try simp only [decide_eq_true_eq, decide_eq_false_iff_not, Int.not_lt, Int.not_le, Bool.not_eq_true', Bool.not_eq_false', Decidable.not_not, not_true_eq_false] at hc
              all_goals refine tc_exit ?_; ((refine hK9 ?_; try (clear hK9; clear K9)))
              all_goals refine tc_region ?_; refine tl_q (y_loadW rfl (by repeat constructor) (by rw [bsV_size, pBoth_len])) rfl ?_; refine tl_e (e_storeW rfl rfl (by repeat constructor) (by rw [bsV_size, pBoth_len]) (by rw [bsV_size, pNow_len]) (bsV_one _)) rfl (fun _ _ => ?_); refine tl_nil ?_; ((refine hK7 ?_; try (clear hK7; clear K7)))
              all_goals refine tc_region ?_; refine tl_q (y_move rfl) rfl ?_; refine tl_q (y_add rfl rfl (by omega)) rfl ?_; refine tl_q (y_assign rfl) rfl ?_; refine tl_nil ?_
              all_goals (
               obtain rfl : k = 2 := by omega
               have hs : pNow s b c (h + 1) = pBoth s b h c (pNow s b c h) 2 := rfl
               exact tk_round (h + 1) (by omega) (by omega) (.cons rfl (.cons rfl (.cons rfl (.cons rfl (.cons rfl .nil))))) (fun _ h => by rw [hs]; exact h.subl (SB.s (by repeat constructor)) (SB.s (by repeat constructor))))))
      · try simp only [decide_eq_true_eq, decide_eq_false_iff_not, Int.not_lt, Int.not_le, Bool.not_eq_true', Bool.not_eq_false', Decidable.not_not, not_true_eq_false] at hc
        all_goals refine tc_exit ?_; ((refine hK3 ?_; try (clear hK3; clear K3)))
        all_goals refine tc_seq fun K21 hK21 => ?_; refine tc_region ?_; refine tl_q (y_indexA rfl rfl (by omega)) rfl ?_; refine tl_q (y_load1 (v := .bool ((pNow s b c h).getD 0 false)) rfl (by repeat constructor) (cellAt_bs (by omega))) rfl ?_; refine tl_q (y_move rfl) rfl ?_; ((refine tl_gs rfl rfl (fun hc => ?_) (fun hc => ?_) <;> (try simp only [decide_eq_true_eq, decide_eq_false_iff_not, Int.not_lt, Int.not_le, Bool.not_eq_true', Bool.not_eq_false', Decidable.not_not, not_true_eq_false] at hc) <;> (first | refine tl_sk rfl rfl rfl rfl ?_ | refine tl_qg rfl rfl (y_indexA rfl rfl (by omega)) rfl ?_)))
        all_goals (first | refine tl_sk rfl rfl rfl rfl ?_ | refine tl_qg rfl rfl (y_load1 (v := .bool ((pNow s b c h).getD 1 false)) rfl (by repeat constructor) (cellAt_bs (by omega))) rfl ?_); (first | refine tl_q (y_pick_t rfl rfl) rfl ?_ | refine tl_q (y_pick_f rfl rfl) rfl ?_); refine tl_q (y_assign rfl) rfl ?_; refine tl_nil ?_; ((refine hK21 ?_; try (clear hK21; clear K21)))
        all_goals refine tc_ret ?_; (repeat (first | refine tk_then_ret ?_))
        all_goals (refine tk_ret rfl rfl (.cons (.tmp rfl) .nil) ?_)
        all_goals (
         obtain rfl : h = (s.L + 1).toNat := by omega
         refine fun w' hw' => ⟨congrArg (fun x => Ending.returned (Value.bool x)) ?_, hw'.fr (w0 := w) (S := []) (MI.m (by repeat constructor))⟩
         unfold passF
         first
         | (rw [show (pNow s b c (s.L + 1).toNat).getD 0 false = true from hc]; rfl)
         | (rw [show (pNow s b c (s.L + 1).toNat).getD 0 false = false from hc]; rfl))))
def hasN (s : Smp) (b : Int) (n : Nat) : Bool := match heldF s b (nthL s n) with
  | none => false
  | some c => passF s b c
def hasB (s : Smp) (b : Int) : Bool := (List.range (manyS s.ps).toNat).any fun n => hasN s b n
def hasF (s : Smp) : Bool := (List.range s.B.toNat).all fun (b : Nat) => hasB s b
theorem held_no {s : Smp} {b : Int} {ts : List Int} (hE : heldF s b ts = none) (hv : VSm s) (hts : ts.length = s.ps.length) (tv pv gv hv' : Value) (w : World) (hr : RdSm w s tv pv gv) (hh : RdI w hv' ts) :
    CnX Tryz.prog 59 #[smV s tv pv gv, vi b, hv'] w [] (fun y : Option Addr × Nat => .tuple #[slV ([] : List Int).length y, .bool false]) (fun y w' => RdI w' (slV ([] : List Int).length y) []) := by
  have h := held_c s hv b ts hts tv pv gv hv' w hr hh
  rw [hE] at h
  exact h
theorem held_yes {s : Smp} {b : Int} {ts c : List Int} (hE : heldF s b ts = some c) (hv : VSm s) (hts : ts.length = s.ps.length) (tv pv gv hv' : Value) (w : World) (hr : RdSm w s tv pv gv) (hh : RdI w hv' ts) :
    CnX Tryz.prog 59 #[smV s tv pv gv, vi b, hv'] w [] (fun y : Option Addr × Nat => .tuple #[slV c.length y, .bool true]) (fun y w' => RdI w' (slV c.length y) c) := by
  have h := held_c s hv b ts hts tv pv gv hv' w hr hh
  rw [hE] at h
  exact h
theorem heldF_ok {s : Smp} (hv : VSm s) {b : Int} {ts c : List Int} (h : heldF s b ts = some c) : (c.length : Int) = s.L + 1 ∧ ∀ i, i < c.length → 0 ≤ c.getD i 0 ∧ c.getD i 0 < s.P := by
  unfold heldF at h
  obtain ⟨q, h1, rfl⟩ := Option.map_eq_some_iff.1 h
  have hl := chN_len h1
  have hl0 := hv.l0
  exact ⟨by omega, fun i hi => (chN_ok hv h1).2 _ (getD_memG hi)⟩
theorem manyS_v {s : Smp} (hv : VSm s) : 1 ≤ manyS s.ps ∧ manyS s.ps ≤ 1000 :=
  ⟨(manyS_sub (List.Sublist.refl _) (fun p hp => by have := hv.ps p hp; omega)).1, hv.many⟩
theorem rMany_v (s : Smp) (hv : VSm s) (tv pv gv : Value) (w : World) (hr : RdSm w s tv pv gv) : CnV Tryz.prog 52 #[smV s tv pv gv] w (vi (manyS s.ps)) :=
  rMany_c s hv.l9 (List.all_eq_true.2 fun p hp => pasOk_iff.2 (by have := hv.ps p hp; omega)) hv.n6 tv pv gv w hr.ps
theorem any_upto {α : Type} {p : Nat → Bool} {n : Nat} (h : ∀ j, j < n → p j = false) : (List.range n).any p = false := by
  cases hg : (List.range n).any p
  · rfl
  · obtain ⟨j, h1, h2⟩ := List.any_eq_true.1 hg
    rw [h j (List.mem_range.1 h1)] at h2; cases h2
theorem any_at {p : Nat → Bool} {n j : Nat} (hj : j < n) (h : p j = true) : (List.range n).any p = true := List.any_eq_true.2 ⟨j, List.mem_range.2 hj, h⟩
set_option maxHeartbeats 2000000 in
theorem has_c (s : Smp) (hf : Few s) (hv : VSm s) (tv pv gv : Value) (w : World) (hr : RdSm w s tv pv gv) : CnV Tryz.prog 39 #[smV s tv pv gv] w (.bool (hasF s)) := by
  have hr0 := hr
  have hb1 := hv.b1
  have hb3 := hv.b3
  have hmb := manyS_v hv
  refine cnv (vs := [_]) Tryz.func39 rfl rfl ?_
  all_goals refine tc_seq fun K1 hK1 => ?_; refine tc_region ?_; refine tl_e (e_box rfl rfl rfl) rfl (fun b1 _ => ?_); refine tl_q (y_assign rfl) rfl ?_; refine tl_nil ?_; ((refine hK1 ?_; try (clear hK1; clear K1)))
  all_goals refine tc_seq fun K2 hK2 => ?_; refine tc_seq fun K3 hK3 => ?_; refine tc_region ?_; refine tl_q (y_assign rfl) rfl ?_; refine tl_nil ?_; ((refine hK3 ?_; try (clear hK3; clear K3)))
  all_goals refine tc_block ?_
  all_goals (
   refine tc_loop (fun k : Nat => (k : Int) ≤ s.B ∧ ∀ j, j < k → hasB s (j : Nat) = true) (fun k => [(1, ptr b1), (3, vi k)]) (fun _ => [(w, [])]) (fun _ => [(b1, .cells #[vi s.B, vi s.P, vi s.L, vi s.F, tv, pv, gv] 26 (0, 0))]) (fun k => s.B.toNat - k) ?_ ?_
   · exact tk_start 0 ⟨by omega, fun j hj => absurd hj (Nat.not_lt_zero j)⟩ (.cons rfl (.cons rfl .nil)) (fun _ h => h.subl (SB.s (by repeat constructor)) (SB.s (by repeat constructor)))
   · rintro k ⟨hk, hj⟩
     all_goals refine tc_seq fun K4 hK4 => ?_; refine tc_seq fun K5 hK5 => ?_; refine tc_region ?_; refine tl_q (y_move rfl) rfl ?_; refine tl_q (y_field rfl) rfl ?_; refine tl_q (y_load1 rfl (by repeat constructor) (by rfl)) rfl ?_; refine tl_q (y_lss rfl rfl) rfl ?_; refine tl_nil ?_; ((refine hK5 ?_; try (clear hK5; clear K5)))
     all_goals (
      refine tc_cond rfl (fun hc => ?_) (fun hc => ?_)
      · try simp only [decide_eq_true_eq, decide_eq_false_iff_not, Int.not_lt, Int.not_le, Bool.not_eq_true', Bool.not_eq_false', Decidable.not_not, not_true_eq_false] at hc
        all_goals refine tc_skip ?_; ((refine hK4 ?_; try (clear hK4; clear K4)))
        all_goals refine tc_seq fun K6 hK6 => ?_; refine tc_block ?_; refine tc_seq fun K7 hK7 => ?_; refine tc_region ?_; refine tl_q (y_assign rfl) rfl ?_; refine tl_nil ?_; ((refine hK7 ?_; try (clear hK7; clear K7)))
        all_goals refine tc_seq fun K8 hK8 => ?_; refine tc_seq fun K9 hK9 => ?_; refine tc_region ?_; refine tl_q (y_assign rfl) rfl ?_; refine tl_nil ?_; ((refine hK9 ?_; try (clear hK9; clear K9)))
        all_goals refine tc_block ?_
        all_goals (
         refine tc_loop (fun p : Nat × Bool => (p.1 : Int) ≤ manyS s.ps ∧ (p.2 = true → hasB s (k : Nat) = true) ∧ (p.2 = false → ∀ j, j < p.1 → hasN s (k : Nat) j = false)) (fun p => [(1, ptr b1), (3, vi k), (4, .bool p.2), (5, vi p.1)]) (fun _ => [(w, [])]) (fun _ => [(b1, .cells #[vi s.B, vi s.P, vi s.L, vi s.F, tv, pv, gv] 26 (0, 0))]) (fun p => (manyS s.ps).toNat - p.1) ?_ ?_
         · exact tk_start (0, false) ⟨by dsimp only; omega, (fun g => by cases g), fun _ j hj => absurd hj (Nat.not_lt_zero j)⟩ (.cons rfl (.cons rfl (.cons rfl (.cons rfl .nil)))) (fun _ h => h.subl (SB.s (by repeat constructor)) (SB.s (by repeat constructor)))
         · rintro ⟨n, fo⟩ ⟨hn, hyes, hno⟩
           dsimp only at hn hyes hno ⊢
           all_goals refine tc_seq fun K10 hK10 => ?_; refine tc_seq fun K11 hK11 => ?_; refine tc_region ?_; refine tl_q (y_move rfl) rfl ?_; refine tl_q (y_loadW rfl (by repeat constructor) (by rfl)) rfl ?_; refine tl_e (e_callV rfl (.cons rfl .nil) (fun w' hw' => rMany_v s hv _ _ _ w' (hr0.fr (hw'.fr (w0 := w) (S := []) (MI.m (by repeat constructor)))))) rfl (fun _ _ => ?_); refine tl_q (y_lss rfl rfl) rfl ?_; refine tl_q (y_move rfl) rfl ?_; ((refine tl_gs rfl rfl (fun hc => ?_) (fun hc => ?_) <;> (try simp only [decide_eq_true_eq, decide_eq_false_iff_not, Int.not_lt, Int.not_le, Bool.not_eq_true', Bool.not_eq_false', Decidable.not_not, not_true_eq_false] at hc) <;> (first | refine tl_sk rfl rfl rfl rfl ?_ | refine tl_qg rfl rfl (y_move rfl) rfl ?_)))
           all_goals (first | refine tl_sk rfl rfl rfl rfl ?_ | refine tl_qg rfl rfl (y_not rfl) rfl ?_); (first | refine tl_q (y_pick_t rfl rfl) rfl ?_ | refine tl_q (y_pick_f rfl rfl) rfl ?_); refine tl_nil ?_; ((refine hK11 ?_; try (clear hK11; clear K11)))
           all_goals (
            refine tc_cond rfl (fun hc => ?_) (fun hc => ?_)
            · try simp only [decide_eq_true_eq, decide_eq_false_iff_not, Int.not_lt, Int.not_le, Bool.not_eq_true', Bool.not_eq_false', Decidable.not_not, not_true_eq_false] at hc
              all_goals ((first | (exfalso; with_reducible exact bft hc) | skip))
              all_goals refine tc_skip ?_; ((refine hK10 ?_; try (clear hK10; clear K10)))
              all_goals refine tc_seq fun K12 hK12 => ?_; refine tc_block ?_; refine tc_seq fun K13 hK13 => ?_; ((have hfo := hc; rcases hhf : heldF s (k : Nat) (nthL s n) with _ | c))
              all_goals refine tc_draw (by kernel_rfl) ?_; refine tx_q 0 rfl (by kernel_rfl) (y_loadW rfl (by repeat constructor) (by rfl)) rfl (fun _ _ _ h => h) (fun _ h => h) ?_; refine tx_p 1 rfl (by kernel_rfl) (y_move rfl) rfl (fun _ _ _ h => h) (fun _ h => h) ?_; refine tx_q 2 rfl (by kernel_rfl) (y_loadW rfl (by repeat constructor) (by rfl)) rfl (fun _ _ _ h => h) (fun _ h => h) ?_; refine tx_p 3 rfl (by kernel_rfl) (y_move rfl) rfl (fun _ _ _ h => h) (fun _ h => h) ?_; refine tx_e 4 rfl (by kernel_rfl) rfl (e_callX rfl (.cons rfl (.cons rfl .nil)) (fun w' hw' => nth_c s hv n (by omega) _ _ _ w' (hr0.fr (hw'.fr (w0 := w) (S := []) (MI.m (by repeat constructor)))))) (.inr fun _ _ h => h.sub (fun _ h => List.mem_cons_of_mem _ h) (List.Sublist.refl _)) (fun y hy => ?_); (first | refine tx_e 5 rfl (by kernel_rfl) rfl (e_callX rfl (.cons rfl (.cons rfl (.cons rfl .nil))) (fun w' hw' => held_no hhf hv (nthS_len _ _ _) _ _ _ _ w' (hr0.fr (hw'.fr (w0 := w) (S := []) (MI.m (by repeat constructor)))) (hy.1.fr (hw'.calm hy.2 (MI.m (by repeat constructor)) (SB.s (by repeat constructor)))))) (.inr fun _ _ h => h.sub (fun _ h => List.mem_cons_of_mem _ h) (List.Sublist.refl _)) (fun z hz => ?_) | refine tx_e 5 rfl (by kernel_rfl) rfl (e_callX rfl (.cons rfl (.cons rfl (.cons rfl .nil))) (fun w' hw' => held_yes hhf hv (nthS_len _ _ _) _ _ _ _ w' (hr0.fr (hw'.fr (w0 := w) (S := []) (MI.m (by repeat constructor)))) (hy.1.fr (hw'.calm hy.2 (MI.m (by repeat constructor)) (SB.s (by repeat constructor)))))) (.inr fun _ _ h => h.sub (fun _ h => List.mem_cons_of_mem _ h) (List.Sublist.refl _)) (fun z hz => ?_)); refine tx_p 6 rfl (by kernel_rfl) (y_move rfl) rfl (fun _ _ _ h => h) (fun _ h => h) ?_; refine tx_p 7 rfl (by kernel_rfl) (y_extract rfl rfl) rfl (fun _ _ _ h => h) (fun _ h => h) ?_; refine tx_p 8 rfl (by kernel_rfl) (y_extract rfl rfl) rfl (fun _ _ _ h => h) (fun _ h => h) ?_; refine tx_p 9 rfl (by kernel_rfl) (y_assign rfl) rfl (fun _ _ _ h => h) (fun _ h => h) ?_; refine tx_p 10 rfl (by kernel_rfl) (y_assign rfl) rfl (fun _ _ _ h => h) (fun _ h => h) ?_; refine tx_done (by kernel_rfl) ?_; ((refine hK13 ?_; try (clear hK13; clear K13)))
              all_goals refine tc_region ?_; refine tl_q (y_move rfl) rfl ?_; refine tl_q (y_move rfl) rfl ?_; (first | refine tl_sk rfl rfl rfl rfl ?_ | refine tl_qg rfl rfl (y_loadW rfl (by repeat constructor) (by rfl)) rfl ?_); (first | refine tl_sk rfl rfl rfl rfl ?_ | refine tl_qg rfl rfl (y_move rfl) rfl ?_); (first | refine tl_sk rfl rfl rfl rfl ?_ | refine tl_qg rfl rfl (y_move rfl) rfl ?_); (first | refine tl_sk rfl rfl rfl rfl ?_ | refine tl_eg rfl rfl rfl (e_callV rfl (.cons rfl (.cons rfl (.cons rfl .nil))) (fun w' hw' => passes_c s hf hv k c (heldF_ok hv hhf).1 (heldF_ok hv hhf).2 _ _ _ _ w' (hr0.fr (hw'.fr (w0 := w) (S := []) (MI.m (by repeat constructor)))) (hz.1.fr (hw'.calm hz.2 (MI.m (by repeat constructor)) (SB.s (by repeat constructor)))))) (fun _ _ => ?_)); (first | refine tl_q (y_pick_t rfl rfl) rfl ?_ | refine tl_q (y_pick_f rfl rfl) rfl ?_); refine tl_q (y_assign rfl) rfl ?_; refine tl_nil ?_; ((refine hK12 ?_; try (clear hK12; clear K12)))
              all_goals refine tc_region ?_; refine tl_q (y_move rfl) rfl ?_; refine tl_q (y_add rfl rfl (by omega)) rfl ?_; refine tl_q (y_assign rfl) rfl ?_; refine tl_nil ?_
              all_goals (
               first
               | (have hN : hasN s (k : Nat) n = false := by unfold hasN; rw [hhf]
                  exact tk_round (n + 1, false) ⟨by dsimp only; omega, (fun g => by cases g), fun _ j hj => by rcases Nat.lt_succ_iff_lt_or_eq.1 hj with h | rfl; exact hno hfo j h; exact hN⟩ (by dsimp only; omega) (.cons rfl (.cons rfl (.cons rfl (.cons rfl .nil)))) (fun _ h => h.subl (SB.s (by repeat constructor)) (SB.s (by repeat constructor))))
               | (have hN : hasN s (k : Nat) n = passF s k c := by unfold hasN; rw [hhf]
                  exact tk_round (n + 1, passF s k c) ⟨by dsimp only; omega, fun g => any_at (j := n) (by omega) (hN.trans g), fun g j hj => by rcases Nat.lt_succ_iff_lt_or_eq.1 hj with h | rfl; exact hno hfo j h; exact hN.trans g⟩ (by dsimp only; omega) (.cons rfl (.cons rfl (.cons rfl (.cons rfl .nil)))) (fun _ h => h.subl (SB.s (by repeat constructor)) (SB.s (by repeat constructor)))))
            · try simp only [decide_eq_true_eq, decide_eq_false_iff_not, Int.not_lt, Int.not_le, Bool.not_eq_true', Bool.not_eq_false', Decidable.not_not, not_true_eq_false] at hc
              all_goals refine tc_exit ?_; ((refine hK8 ?_; try (clear hK8; clear K8)))
              all_goals refine tc_seq fun K14 hK14 => ?_; refine tc_region ?_; refine tl_q (y_move rfl) rfl ?_; refine tl_q (y_not rfl) rfl ?_; refine tl_nil ?_; ((refine hK14 ?_; try (clear hK14; clear K14)))
              all_goals (
               refine tc_cond rfl (fun hc => ?_) (fun hc => ?_)
               · try simp only [decide_eq_true_eq, decide_eq_false_iff_not, Int.not_lt, Int.not_le, Bool.not_eq_true', Bool.not_eq_false', Decidable.not_not, not_true_eq_false] at hc
                 all_goals refine tc_seq fun K15 hK15 => ?_; refine tc_region ?_; refine tl_q (y_assign rfl) rfl ?_; refine tl_nil ?_; ((refine hK15 ?_; try (clear hK15; clear K15)))
                 all_goals refine tc_ret ?_; (repeat (first | refine tk_then_ret ?_ | refine tk_block_ret ?_))
                 all_goals (refine tk_ret rfl rfl (.cons (.tmp rfl) .nil) ?_)
                 all_goals (
                  first
                  | (have h1 : fo = true := by assumption
                     have h2 : fo = false := by assumption
                     rw [h1] at h2; cases h2)
                  | (have hE : hasF s = false := by
                       have hB : hasB s (k : Nat) = false := any_upto (α := Nat) fun j hj => hno (by assumption) j (by omega)
                       cases hg : hasF s
                       · rfl
                       · have := List.all_eq_true.1 hg k (List.mem_range.2 (by omega))
                         rw [hB] at this; cases this
                     rw [hE]
                     exact fun w' hw' => ⟨rfl, hw'.fr (w0 := w) (S := []) (MI.m (by repeat constructor))⟩)
                  | (have hE : hasF s = true := List.all_eq_true.2 fun j hjm => hj j (by rw [List.mem_range] at hjm; omega)
                     rw [hE]
                     exact fun w' hw' => ⟨rfl, hw'.fr (w0 := w) (S := []) (MI.m (by repeat constructor))⟩))
               · try simp only [decide_eq_true_eq, decide_eq_false_iff_not, Int.not_lt, Int.not_le, Bool.not_eq_true', Bool.not_eq_false', Decidable.not_not, not_true_eq_false] at hc
                 all_goals refine tc_skip ?_; ((refine hK6 ?_; try (clear hK6; clear K6)))
                 all_goals refine tc_region ?_; refine tl_q (y_move rfl) rfl ?_; refine tl_q (y_add rfl rfl (by omega)) rfl ?_; refine tl_q (y_assign rfl) rfl ?_; refine tl_nil ?_
                 all_goals (
                  exact tk_round (k + 1) ⟨by omega, fun j hj' => by rcases Nat.lt_succ_iff_lt_or_eq.1 hj' with h | rfl; exact hj j h; exact hyes (by assumption)⟩ (by omega) (.cons rfl (.cons rfl .nil)) (fun _ h => h.subl (SB.s (by repeat constructor)) (SB.s (by repeat constructor)))))))
      · try simp only [decide_eq_true_eq, decide_eq_false_iff_not, Int.not_lt, Int.not_le, Bool.not_eq_true', Bool.not_eq_false', Decidable.not_not, not_true_eq_false] at hc
        all_goals refine tc_exit ?_; ((refine hK2 ?_; try (clear hK2; clear K2)))
        all_goals refine tc_seq fun K16 hK16 => ?_; refine tc_region ?_; refine tl_q (y_assign rfl) rfl ?_; refine tl_nil ?_; ((refine hK16 ?_; try (clear hK16; clear K16)))
        all_goals refine tc_ret ?_; (repeat (first | refine tk_then_ret ?_))
        all_goals (refine tk_ret rfl rfl (.cons (.tmp rfl) .nil) ?_)
        all_goals (
         first
         | (have h1 : fo = true := by assumption
            have h2 : fo = false := by assumption
            rw [h1] at h2; cases h2)
         | (have hE : hasF s = false := by
              have hB : hasB s (k : Nat) = false := any_upto (α := Nat) fun j hj => hno (by assumption) j (by omega)
              cases hg : hasF s
              · rfl
              · have := List.all_eq_true.1 hg k (List.mem_range.2 (by omega))
                rw [hB] at this; cases this
            rw [hE]
            exact fun w' hw' => ⟨rfl, hw'.fr (w0 := w) (S := []) (MI.m (by repeat constructor))⟩)
         | (have hE : hasF s = true := List.all_eq_true.2 fun j hjm => hj j (by rw [List.mem_range] at hjm; omega)
            rw [hE]
            exact fun w' hw' => ⟨rfl, hw'.fr (w0 := w) (S := []) (MI.m (by repeat constructor))⟩))))
end Go.Sp
/-
  A sample has a truth after the reference if it has one after the package.
-/
namespace Go.Sp
open Go Go.Proofs
theorem mem_stepL {s : Smp} {b h : Int} {st x : Bool} {y : Bool × Int} : y ∈ stepL s b h st x ↔ ∃ n : Nat, n < 4 ∧ (actIs x st n = true ∧ seenB s b h (actY x n) = true) ∧ y = (actY x n, if x = true ∨ opF n = true then 1 else 0) := by
  show y ∈ stepN s b h st x 4 ↔ _
  unfold stepN
  rw [List.mem_flatMap]
  constructor
  · rintro ⟨n, hn, hy⟩
    unfold stp1 at hy
    split at hy
    · rename_i hc
      exact ⟨n, List.mem_range.1 hn, hc, List.mem_singleton.1 hy⟩
    · cases hy
  · rintro ⟨n, hn, hc, rfl⟩
    exact ⟨n, List.mem_range.2 hn, by unfold stp1; rw [if_pos hc]; exact List.mem_singleton.2 rfl⟩
theorem minP_any {l : List (Bool × Int)} {r : Bool → Option Int} : ∀ {n : Nat}, n ≤ l.length → (minP l r n).isSome = true → ∃ i, i < n ∧ (r (l.getD i (false, 0)).1).isSome = true
  | 0, _, h => by cases h
  | n + 1, hn, h => by
    rw [minP] at h
    split at h
    · obtain ⟨i, h1, h2⟩ := minP_any (by omega) h
      exact ⟨i, by omega, h2⟩
    · rename_i m hm
      exact ⟨n, by omega, by rw [hm]; rfl⟩
theorem rst_some {s : Smp} {b : Int} {c : List Int} {k : Nat} {x : Bool} : (rstF s b c (k + 1) x).isSome = true ↔ ∃ y ∈ stepL s b (s.L - k) (stB s c (s.L - k)) x, (rstF s b c k y.1).isSome = true := by
  rw [rstF]
  constructor
  · intro h
    obtain ⟨i, hi, hs⟩ := minP_any (Nat.le_refl _) h
    exact ⟨_, getD_memG hi, hs⟩
  · rintro ⟨y, hy, hs⟩
    obtain ⟨i, hi, rfl⟩ := List.getElem_of_mem hy
    refine minP_some (Nat.le_refl _) (i := i) hi ?_
    rw [List.getD_eq_getElem?_getD, List.getElem?_eq_getElem hi]; exact hs
theorem getD_set2 {l : List Bool} (hl : l.length = 2) (x y : Bool) : (l.set x.toNat true).getD y.toNat false = (l.getD y.toNat false || decide (x = y)) := by
  match l, hl with
  | [a, b], _ => cases x <;> cases y <;> simp
theorem pAct_get {s : Smp} {b : Int} {h : Nat} {c : List Int} {k : Bool} {acc : List Bool} (ha : acc.length = 2) (y : Bool) : ∀ n, (pAct s b h c k acc n).getD y.toNat false = true ↔ acc.getD y.toNat false = true ∨ ∃ m, m < n ∧ (actIs k (stB s c h) m = true ∧ seenB s b h (actY k m) = true) ∧ actY k m = y
  | 0 => by
    rw [pAct]
    exact ⟨fun h => .inl h, fun h => h.resolve_right (fun ⟨m, hm, _⟩ => absurd hm (Nat.not_lt_zero m))⟩
  | n + 1 => by
    have ih := pAct_get (s := s) (b := b) (h := h) (c := c) (k := k) ha y n
    rw [pAct, pUp]
    split
    · rename_i hc
      rw [getD_set2 (by rw [pAct_len, ha]), Bool.or_eq_true, ih, decide_eq_true_eq]
      constructor
      · rintro ((h1 | ⟨m, h1, h2⟩) | h1)
        · exact .inl h1
        · exact .inr ⟨m, by omega, h2⟩
        · exact .inr ⟨n, by omega, hc, h1⟩
      · rintro (h1 | ⟨m, h1, h2, h3⟩)
        · exact .inl (.inl h1)
        · by_cases hm : m = n
          · subst hm; exact .inr h3
          · exact .inl (.inr ⟨m, by omega, h2, h3⟩)
    · rename_i hc
      rw [ih]
      constructor
      · rintro (h1 | ⟨m, h1, h2⟩)
        · exact .inl h1
        · exact .inr ⟨m, by omega, h2⟩
      · rintro (h1 | ⟨m, h1, h2, h3⟩)
        · exact .inl h1
        · by_cases hm : m = n
          · subst hm; exact absurd h2 hc
          · exact .inr ⟨m, by omega, h2, h3⟩
theorem pBoth_get {s : Smp} {b : Int} {h : Nat} {c : List Int} {now : List Bool} (y : Bool) : ∀ k, (pBoth s b h c now k).getD y.toNat false = true ↔ ∃ i, i < k ∧ now.getD i false = true ∧ ∃ m, m < 4 ∧ (actIs (blF i) (stB s c h) m = true ∧ seenB s b h (actY (blF i) m) = true) ∧ actY (blF i) m = y
  | 0 => by
    rw [pBoth]
    constructor
    · intro h; cases y <;> cases h
    · rintro ⟨i, hi, _⟩; exact absurd hi (Nat.not_lt_zero i)
  | k + 1 => by
    have ih := pBoth_get (s := s) (b := b) (h := h) (c := c) (now := now) y k
    rw [pBoth]
    split
    · rename_i hc
      rw [pAct_get (pBoth_len s b h c now k), ih]
      constructor
      · rintro (⟨i, h1, h2⟩ | h1)
        · exact ⟨i, by omega, h2⟩
        · exact ⟨k, by omega, hc, h1⟩
      · rintro ⟨i, h1, h2, h3⟩
        by_cases hi : i = k
        · subst hi; exact .inr h3
        · exact .inl ⟨i, by omega, h2, h3⟩
    · rename_i hc
      rw [ih]
      constructor
      · rintro ⟨i, h1, h2⟩; exact ⟨i, by omega, h2⟩
      · rintro ⟨i, h1, h2, h3⟩
        by_cases hi : i = k
        · subst hi; exact absurd h2 hc
        · exact ⟨i, by omega, h2, h3⟩
abbrev fwP (s : Smp) (b : Int) (c : List Int) (h : Nat) (x : Bool) : Prop := (pNow s b c h).getD x.toNat false = true
theorem fwP_succ {s : Smp} {b : Int} {c : List Int} {h : Nat} {y : Bool} : fwP s b c (h + 1) y ↔ ∃ x, fwP s b c h x ∧ ∃ z ∈ stepL s b h (stB s c h) x, z.1 = y := by
  unfold fwP
  rw [pNow, pBoth_get]
  constructor
  · rintro ⟨i, hi, h1, m, hm, h2, h3⟩
    have e : (blF i).toNat = i := by
      match i, hi with
      | 0, _ => rfl
      | 1, _ => rfl
    exact ⟨blF i, by rw [e]; exact h1, _, mem_stepL.2 ⟨m, hm, h2, rfl⟩, h3⟩
  · rintro ⟨x, h1, z, hz, rfl⟩
    obtain ⟨m, hm, h2, rfl⟩ := mem_stepL.1 hz
    have e : blF x.toNat = x := by cases x <;> rfl
    refine ⟨x.toNat, by cases x <;> decide, h1, m, hm, ?_⟩
    rw [e]
    exact ⟨h2, rfl⟩
theorem fw_can {s : Smp} (hl : 0 ≤ s.L) {b : Int} {c c' : List Int} (hst : ∀ h : Nat, (h : Int) ≤ s.L → stB s c h = stB s c' h) : ∀ h : Nat, (h : Int) ≤ s.L + 1 → ((∃ x, fwP s b c h x ∧ (rstF s b c' (s.L + 1 - h).toNat x).isSome = true) ↔ canF s b c' = true)
  | 0, _ => by
    unfold canF
    rw [show (s.L + 1 - ((0 : Nat) : Int)).toNat = (s.L + 1).toNat from by omega]
    constructor
    · rintro ⟨x, h1, h2⟩
      cases x with
      | false => exact h2
      | true => cases h1
    · intro h; exact ⟨false, rfl, h⟩
  | h + 1, hh => by
    rw [← fw_can hl hst h (by omega)]
    have e : (s.L + 1 - (h : Int)).toNat = (s.L + 1 - ((h + 1 : Nat) : Int)).toNat + 1 := by omega
    have e2 : s.L - (((s.L + 1 - ((h + 1 : Nat) : Int)).toNat : Nat) : Int) = (h : Int) := by omega
    rw [e]
    constructor
    · rintro ⟨y, h1, h2⟩
      obtain ⟨x, h3, z, hz, rfl⟩ := fwP_succ.1 h1
      exact ⟨x, h3, rst_some.2 ⟨z, by rw [e2, ← hst h (by omega)]; exact hz, h2⟩⟩
    · rintro ⟨x, h1, h2⟩
      obtain ⟨z, hz, h3⟩ := rst_some.1 h2
      rw [e2, ← hst h (by omega)] at hz
      exact ⟨z.1, fwP_succ.2 ⟨x, h1, z, hz, rfl⟩, h3⟩
theorem pass_can {s : Smp} (hl : 0 ≤ s.L) {b : Int} {c c' : List Int} (hst : ∀ h : Nat, (h : Int) ≤ s.L → stB s c h = stB s c' h) : passF s b c = canF s b c' := by
  rw [Bool.eq_iff_iff, ← fw_can hl hst (s.L + 1).toNat (by omega)]
  unfold passF fwP
  rw [show (s.L + 1 - (((s.L + 1).toNat : Nat) : Int)).toNat = 0 from by omega, Bool.or_eq_true]
  constructor
  · rintro (h | h)
    · exact ⟨false, h, rfl⟩
    · exact ⟨true, h, rfl⟩
  · rintro ⟨x, h, _⟩
    cases x
    · exact .inl h
    · exact .inr h
theorem stB_pad {s : Smp} {c : List Int} {h : Nat} (hh : h < c.length) : stB s c h = stB s (padC c) h := by
  unfold stB padC
  rw [Int.toNat_natCast, List.getD_eq_getElem?_getD (l := c ++ _), List.getElem?_append_left hh, ← List.getD_eq_getElem?_getD]
def nthC : List Pas → Int → List Int
  | [], _ => []
  | p :: ps, n => (p.lo + n % (p.hi - p.lo + 1)) :: nthC ps (n / (p.hi - p.lo + 1))
theorem nthS_C (ps : List Pas) (n : Int) : ∀ i, i ≤ ps.length → (nthS ps n i).1 ++ nthC (ps.drop i) (nthS ps n i).2 = nthC ps n
  | 0, _ => rfl
  | i + 1, hi => by
    rw [← nthS_C ps n i (by omega), nthS]
    have e : ps.drop i = ps.getD i pas0 :: ps.drop (i + 1) := by
      rw [List.drop_eq_getElem_cons (by omega), List.getD_eq_getElem?_getD, List.getElem?_eq_getElem (by omega)]; rfl
    rw [e, nthC, List.append_assoc]; rfl
theorem nthL_C (s : Smp) (n : Int) : nthL s n = nthC s.ps n := by
  have := nthS_C s.ps n s.ps.length (Nat.le_refl _)
  rw [List.drop_length] at this
  unfold nthL
  rw [← this]; simp [nthC]
/-- Hours that are within the passes' ranges. -/
def InR : List Pas → List Int → Prop
  | [], hs => hs = []
  | p :: ps, hs => ∃ h t, hs = h :: t ∧ (p.lo ≤ h ∧ h ≤ p.hi) ∧ InR ps t
theorem nthC_in : ∀ {ps : List Pas} (n : Int), (∀ p ∈ ps, p.lo ≤ p.hi) → InR ps (nthC ps n)
  | [], _, _ => rfl
  | p :: ps, n, hp => by
    have h1 := hp p (List.mem_cons_self ..)
    have h2 := Int.emod_nonneg n (show p.hi - p.lo + 1 ≠ 0 by omega)
    have h3 := Int.emod_lt_of_pos n (show 0 < p.hi - p.lo + 1 by omega)
    exact ⟨_, _, rfl, by omega, nthC_in _ fun q hq => hp q (List.mem_cons_of_mem _ hq)⟩
theorem nthC_all : ∀ {ps : List Pas} {hs : List Int}, (∀ p ∈ ps, p.lo ≤ p.hi) → InR ps hs → ∃ n : Int, (0 ≤ n ∧ n < manyS ps) ∧ nthC ps n = hs
  | [], hs, _, h => by
    obtain rfl : hs = [] := h
    exact ⟨0, by unfold manyS; omega, rfl⟩
  | p :: ps, hs, hp, h => by
    obtain ⟨a, t, rfl, ha, ht⟩ := h
    obtain ⟨n, hn, he⟩ := nthC_all (fun q hq => hp q (List.mem_cons_of_mem _ hq)) ht
    obtain ⟨z, hz⟩ : ∃ z, z = p.hi - p.lo + 1 := ⟨_, rfl⟩
    obtain ⟨d, hd⟩ : ∃ d, d = a - p.lo := ⟨_, rfl⟩
    have hz0 : 0 < z := by omega
    have hdz : 0 ≤ d ∧ d < z := by omega
    refine ⟨d + z * n, ⟨?_, ?_⟩, ?_⟩
    · have := Int.mul_nonneg (show 0 ≤ z by omega) hn.1; omega
    · rw [manyS, ← hz]
      have h1 : z * (n + 1) ≤ z * manyS ps := Int.mul_le_mul_of_nonneg_left (by omega) (by omega)
      rw [Int.mul_add, Int.mul_one] at h1
      omega
    · rw [nthC, ← hz, Int.add_mul_emod_self_left, Int.add_mul_ediv_left _ _ (by omega), Int.emod_eq_of_lt hdz.1 hdz.2, Int.ediv_eq_zero_of_lt hdz.1 hdz.2, Int.zero_add, he]
      rw [show p.lo + d = a from by omega]
theorem InR.len : ∀ {ps : List Pas} {hs : List Int}, InR ps hs → hs.length = ps.length
  | [], hs, h => by obtain rfl : hs = [] := h; rfl
  | p :: ps, hs, h => by
    obtain ⟨a, t, rfl, _, ht⟩ := h
    simp [InR.len ht]
theorem zOwn_in {b : Int} : ∀ {ps : List Pas} {hs : List Int}, InR ps hs → zOwn b ps hs ∈ zAll b ps
  | [], hs, h => by
    obtain rfl : hs = [] := h
    simp [zAll, genT, zOwn]
  | p :: ps, hs, h => by
    obtain ⟨a, t, rfl, ha, ht⟩ := h
    have ih := zOwn_in (b := b) ht
    by_cases hb : p.b = b
    · rw [zAll_own hb, List.mem_flatMap]
      refine ⟨(a - p.lo).toNat, List.mem_range.2 (by omega), List.mem_map.2 ⟨zOwn b ps t, ih, ?_⟩⟩
      rw [show p.lo + (((a - p.lo).toNat : Nat) : Int) = a from by omega]
      simp [zOwn, hb]
    · rw [zAll_oth hb]
      simpa [zOwn, hb] using ih
theorem zAll_ex {b : Int} : ∀ {ps : List Pas} {z : List (Pas × Int)}, (∀ p ∈ ps, p.lo ≤ p.hi) → z ∈ zAll b ps → ∃ hs, InR ps hs ∧ zOwn b ps hs = z
  | [], z, _, h => by
    refine ⟨[], rfl, ?_⟩
    simp [zAll, genT, zOwn] at h
    subst h; rfl
  | p :: ps, z, hp, h => by
    have hp2 : ∀ q ∈ ps, q.lo ≤ q.hi := fun q hq => hp q (List.mem_cons_of_mem _ hq)
    by_cases hb : p.b = b
    · rw [zAll_own hb, List.mem_flatMap] at h
      obtain ⟨j, hj, h⟩ := h
      obtain ⟨z', hz', rfl⟩ := List.mem_map.1 h
      obtain ⟨hs, h1, rfl⟩ := zAll_ex hp2 hz'
      rw [List.mem_range] at hj
      refine ⟨(p.lo + (j : Int)) :: hs, ⟨_, _, rfl, by omega, h1⟩, ?_⟩
      simp [zOwn, hb]
    · rw [zAll_oth hb] at h
      obtain ⟨hs, h1, rfl⟩ := zAll_ex hp2 h
      refine ⟨p.lo :: hs, ⟨_, _, rfl, ⟨Int.le_refl _, hp p (List.mem_cons_self ..)⟩, h1⟩, ?_⟩
      simp [zOwn, hb]
/-- The hours of all passes that are possible, and who has the bottle. -/
theorem poss_iff {s : Smp} (hp : ∀ p ∈ s.ps, p.lo ≤ p.hi) {b : Int} : possF s b = true ↔ ∃ hs q, InR s.ps hs ∧ chN s b hs (s.L + 1).toNat = some q ∧ canF s b (padC q.1) = true := by
  have hz : ∀ c, c ∈ chainsL s b ↔ ∃ z ∈ zAll b s.ps, zchF s.L s.F b z = some c := fun c => by
    show c ∈ ddC s b (timesL s b) ↔ _
    rw [ddC_mem]
    unfold zAll timesL
    constructor
    · rintro ⟨ts, h1, h2⟩
      refine ⟨_, List.mem_map.2 ⟨ts, h1, rfl⟩, ?_⟩
      rw [← chF_z (genT_len b s.ps [] ts h1 |>.trans (by simp))]; exact h2
    · rintro ⟨z, h1, h2⟩
      obtain ⟨ts, h3, rfl⟩ := List.mem_map.1 h1
      exact ⟨ts, h3, by rw [chF_z (genT_len b s.ps [] ts h3 |>.trans (by simp))]; exact h2⟩
  unfold possF
  rw [List.any_eq_true]
  constructor
  · rintro ⟨c, h1, h2⟩
    obtain ⟨z, h3, h4⟩ := (hz c).1 h1
    obtain ⟨hs, h5, rfl⟩ := zAll_ex hp h3
    unfold zchF at h4
    rw [← chN_z s b hs h5.len] at h4
    obtain ⟨q, h6, rfl⟩ := Option.map_eq_some_iff.1 h4
    exact ⟨hs, q, h5, h6, h2⟩
  · rintro ⟨hs, q, h1, h2, h3⟩
    refine ⟨padC q.1, (hz _).2 ⟨zOwn b s.ps hs, zOwn_in h1, ?_⟩, h3⟩
    unfold zchF
    rw [← chN_z s b hs h1.len, h2]; rfl
theorem VSm.ple {s : Smp} (hv : VSm s) : ∀ p ∈ s.ps, p.lo ≤ p.hi := fun p hp => (hv.ps p hp).2.2.2.2.2.1
theorem hasB_poss {s : Smp} (hv : VSm s) (b : Int) : hasB s b = possF s b := by
  rw [Bool.eq_iff_iff, poss_iff hv.ple]
  have hl0 := hv.l0
  have hcan : ∀ (hs : List Int) q, chN s b hs (s.L + 1).toNat = some q → passF s b q.1 = canF s b (padC q.1) := fun hs q hq =>
    pass_can hl0 fun h hh => stB_pad (by have := chN_len hq; omega)
  unfold hasB
  rw [List.any_eq_true]
  constructor
  · rintro ⟨n, hn, h1⟩
    unfold hasN heldF at h1
    cases hc : chN s b (nthL s n) (s.L + 1).toNat with
    | none => rw [hc] at h1; cases h1
    | some q =>
      rw [hc] at h1
      refine ⟨nthL s n, q, by rw [nthL_C]; exact nthC_in _ hv.ple, hc, ?_⟩
      rw [← hcan _ q hc]; exact h1
  · rintro ⟨hs, q, h1, h2, h3⟩
    obtain ⟨n, hn, rfl⟩ := nthC_all hv.ple h1
    refine ⟨n.toNat, List.mem_range.2 (by omega), ?_⟩
    unfold hasN heldF
    rw [nthL_C, show ((n.toNat : Nat) : Int) = n from by omega, h2]
    show passF s b q.1 = true
    rw [hcan _ q h2]; exact h3
theorem hasF_cons {s : Smp} (hv : VSm s) : hasF s = consF s := by
  unfold hasF consF
  exact congrArg (fun f => (List.range s.B.toNat).all f) (funext fun b => hasB_poss hv b)
theorem hasC_c (s : Smp) (hf : Few s) (hv : VSm s) (tv pv gv : Value) (w : World) (hr : RdSm w s tv pv gv) : CnV Tryz.prog 39 #[smV s tv pv gv] w (.bool (consF s)) := by
  rw [← hasF_cons hv]; exact has_c s hf hv tv pv gv w hr
end Go.Sp
/-
  Runs: what can be done with a bottle, from hour to hour; what ask returns, in terms of them.
-/
namespace Go.Sp
open Go Go.Proofs
/-- What is done in the last k hours, from a seal on. -/
def RunF (s : Smp) (b : Int) (c : List Int) : Nat → Bool → List (Bool × Int) → Prop
  | 0, _, l => l = []
  | k + 1, x, l => ∃ z t, l = z :: t ∧ z ∈ stepL s b (s.L - k) (stB s c (s.L - k)) x ∧ RunF s b c k z.1 t
theorem rst_run {s : Smp} {b : Int} {c : List Int} : ∀ {k : Nat} {x : Bool}, (rstF s b c k x).isSome = true ↔ ∃ l, RunF s b c k x l
  | 0, x => ⟨fun _ => ⟨[], rfl⟩, fun _ => rfl⟩
  | k + 1, x => by
    rw [rst_some]
    constructor
    · rintro ⟨y, hy, h⟩
      obtain ⟨t, ht⟩ := rst_run.1 h
      exact ⟨y :: t, y, t, rfl, hy, ht⟩
    · rintro ⟨l, z, t, rfl, hz, ht⟩
      exact ⟨z, hz, rst_run.2 ⟨t, ht⟩⟩
/-- What is done in the first hours. -/
def PreF (s : Smp) (b : Int) (c : List Int) : Nat → List (Bool × Int) → Bool → Prop
  | 0, l, x => l = [] ∧ x = false
  | h + 1, l, x => ∃ l' z y, l = l' ++ [z] ∧ PreF s b c h l' y ∧ z ∈ stepL s b h (stB s c h) y ∧ z.1 = x
theorem PreF.len {s : Smp} {b : Int} {c : List Int} : ∀ {h : Nat} {l : List (Bool × Int)} {x : Bool}, PreF s b c h l x → l.length = h
  | 0, _, _, ⟨rfl, _⟩ => rfl
  | h + 1, _, _, ⟨l', z, y, rfl, h1, _, _⟩ => by simp [PreF.len h1]
theorem PreF.join {s : Smp} {b : Int} {c : List Int} : ∀ {h : Nat} {l : List (Bool × Int)} {x : Bool} {t : List (Bool × Int)}, (h : Int) ≤ s.L + 1 → PreF s b c h l x → RunF s b c (s.L + 1 - h).toNat x t → RunF s b c (s.L + 1).toNat false (l ++ t)
  | 0, _, _, t, hh, ⟨rfl, rfl⟩, h => by
    rw [show (s.L + 1 - ((0 : Nat) : Int)).toNat = (s.L + 1).toNat from by omega] at h
    exact h
  | h + 1, _, _, t, hh, ⟨l', z, y, rfl, h1, h2, h3⟩, ht => by
    rw [List.append_assoc]
    subst h3
    refine PreF.join (h := h) (by omega) h1 ?_
    rw [show (s.L + 1 - (h : Int)).toNat = (s.L + 1 - ((h + 1 : Nat) : Int)).toNat + 1 from by omega]
    refine ⟨z, t, rfl, ?_, ht⟩
    rw [show s.L - (((s.L + 1 - ((h + 1 : Nat) : Int)).toNat : Nat) : Int) = (h : Int) from by omega]
    exact h2
theorem RunF.split {s : Smp} {b : Int} {c : List Int} {l : List (Bool × Int)} (hl : RunF s b c (s.L + 1).toNat false l) : ∀ h : Nat, (h : Int) ≤ s.L + 1 → ∃ l1 t x, l = l1 ++ t ∧ PreF s b c h l1 x ∧ RunF s b c (s.L + 1 - h).toNat x t
  | 0, _ => ⟨[], l, false, rfl, ⟨rfl, rfl⟩, by rw [show (s.L + 1 - ((0 : Nat) : Int)).toNat = (s.L + 1).toNat from by omega]; exact hl⟩
  | h + 1, hh => by
    obtain ⟨l1, t, x, rfl, h1, h2⟩ := RunF.split hl h (by omega)
    rw [show (s.L + 1 - (h : Int)).toNat = (s.L + 1 - ((h + 1 : Nat) : Int)).toNat + 1 from by omega] at h2
    obtain ⟨z, t', rfl, hz, ht⟩ := h2
    rw [show s.L - (((s.L + 1 - ((h + 1 : Nat) : Int)).toNat : Nat) : Int) = (h : Int) from by omega] at hz
    exact ⟨l1 ++ [z], t', z.1, by simp, ⟨l1, z, x, rfl, h1, hz, rfl⟩, ht⟩
theorem RunF.len {s : Smp} {b : Int} {c : List Int} : ∀ {k : Nat} {x : Bool} {l : List (Bool × Int)}, RunF s b c k x l → l.length = k
  | 0, _, _, h => by obtain rfl := h; rfl
  | k + 1, _, _, ⟨z, t, h, _, ht⟩ => by subst h; simp [RunF.len ht]
theorem ddB_mem (x : Bool) : ∀ l : List Bool, x ∈ ddB l ↔ x ∈ l := by
  intro l
  obtain ⟨r, rfl⟩ : ∃ r : List Bool, l = r.reverse := ⟨l.reverse, by simp⟩
  induction r with
  | nil => simp [ddB]
  | cons y r ih =>
    rw [List.reverse_cons, ddB_snoc]
    split
    · rename_i h
      rw [ih, List.mem_append]
      constructor
      · exact fun h => .inl h
      · rintro (h1 | h1)
        · exact h1
        · obtain rfl := List.mem_singleton.1 h1
          obtain ⟨z, hz, hxz⟩ := List.any_eq_true.1 h
          obtain rfl := of_decide_eq_true hxz
          exact ih.1 hz
    · rw [List.mem_append, List.mem_append, ih]
theorem cnd_mem {s : Smp} {b : Int} {c : List Int} {h : Nat} {now : List Bool} {z : Bool × Int} : z ∈ cnd s b c h now ↔ ∃ x ∈ now, z ∈ stepL s b h (stB s c h) x ∧ (rstF s b c (s.L - h).toNat z.1).isSome = true := by
  show z ∈ (now.flatMap fun x => onL s b c h x (stepL s b h (stB s c h) x).length) ↔ _
  rw [List.mem_flatMap]
  constructor
  · rintro ⟨x, hx, h1⟩
    unfold onL at h1
    rw [List.take_length] at h1
    obtain ⟨h2, h3⟩ := List.mem_filter.1 h1
    exact ⟨x, hx, h2, h3⟩
  · rintro ⟨x, hx, h2, h3⟩
    refine ⟨x, hx, ?_⟩
    unfold onL
    rw [List.take_length]
    exact List.mem_filter.2 ⟨h2, h3⟩
theorem nowN_mem {s : Smp} {b : Int} {c : List Int} (hc : canF s b c = true) : ∀ {h : Nat} {x : Bool}, (h : Int) ≤ s.L + 1 → (x ∈ nowN s b c h ↔ (∃ l, PreF s b c h l x) ∧ (rstF s b c (s.L + 1 - h).toNat x).isSome = true)
  | 0, x, _ => by
    unfold canF at hc
    rw [nowN, List.mem_singleton, show (s.L + 1 - ((0 : Nat) : Int)).toNat = (s.L + 1).toNat from by omega]
    constructor
    · rintro rfl; exact ⟨⟨[], rfl, rfl⟩, hc⟩
    · rintro ⟨⟨l, _, h⟩, _⟩; exact h
  | h + 1, x, hh => by
    rw [nowN, ddB_mem, List.mem_map]
    have e : (s.L + 1 - ((h + 1 : Nat) : Int)).toNat = (s.L - (h : Int)).toNat := by omega
    have e1 : (s.L + 1 - (h : Int)).toNat = (s.L - (h : Int)).toNat + 1 := by omega
    have e2 : s.L - (((s.L - (h : Int)).toNat : Nat) : Int) = (h : Int) := by omega
    rw [e]
    constructor
    · rintro ⟨z, hz, rfl⟩
      obtain ⟨y, hy, h1, h2⟩ := cnd_mem.1 hz
      obtain ⟨⟨l, hl⟩, _⟩ := (nowN_mem hc (by omega)).1 hy
      exact ⟨⟨l ++ [z], l, z, y, rfl, hl, h1, rfl⟩, h2⟩
    · rintro ⟨⟨l, l', z, y, rfl, h1, h2, h3⟩, h4⟩
      subst h3
      refine ⟨z, cnd_mem.2 ⟨y, (nowN_mem hc (by omega)).2 ⟨⟨l', h1⟩, ?_⟩, h2, h4⟩, rfl⟩
      rw [e1, rst_some]
      exact ⟨z, by rw [e2]; exact h2, h4⟩
theorem opn_run {s : Smp} {b : Int} {c : List Int} (hc : canF s b c = true) {h : Nat} (hh : (h : Int) ≤ s.L) : opnH s b c h = true ↔ ∃ l, RunF s b c (s.L + 1).toNat false l ∧ (l.getD h (false, 0)).2 = 1 := by
  have e1 : (s.L + 1 - (h : Int)).toNat = (s.L - (h : Int)).toNat + 1 := by omega
  have e2 : s.L - (((s.L - (h : Int)).toNat : Nat) : Int) = (h : Int) := by omega
  unfold opnH
  rw [List.any_eq_true]
  constructor
  · rintro ⟨z, hz, h1⟩
    obtain ⟨x, hx, h2, h3⟩ := cnd_mem.1 hz
    obtain ⟨⟨l, hl⟩, _⟩ := (nowN_mem hc (by omega)).1 hx
    obtain ⟨t, ht⟩ := rst_run.1 h3
    refine ⟨l ++ z :: t, hl.join (by omega) ?_, ?_⟩
    · rw [e1]; exact ⟨z, t, rfl, by rw [e2]; exact h2, ht⟩
    · rw [List.getD_eq_getElem?_getD, List.getElem?_append_right (by rw [hl.len]; exact Nat.le_refl _), hl.len, Nat.sub_self]
      exact of_decide_eq_true h1
  · rintro ⟨l, hl, h1⟩
    obtain ⟨l1, t, x, rfl, h2, h3⟩ := hl.split h (by omega)
    have h3' := h3
    rw [e1] at h3
    obtain ⟨z, t', rfl, hz, ht⟩ := h3
    rw [e2] at hz
    rw [List.getD_eq_getElem?_getD, List.getElem?_append_right (by rw [h2.len]; exact Nat.le_refl _), h2.len, Nat.sub_self] at h1
    exact ⟨z, cnd_mem.2 ⟨x, (nowN_mem hc (by omega)).2 ⟨⟨l1, h2⟩, rst_run.2 ⟨_, h3'⟩⟩, hz, rst_run.2 ⟨t', ht⟩⟩, decide_eq_true h1⟩
theorem opnL_get {s : Smp} {b : Int} {c : List Int} {h : Nat} (hh : (h : Int) ≤ s.L) (h9 : s.L ≤ 9) : (opnL s b c).getD h false = opnH s b c h := by
  show (outN s b c (s.L + 1).toNat false).getD h false = _
  rw [outN_get (by omega), if_pos (by omega)]
theorem getD_setB {l : List Bool} {i o : Nat} {v : Bool} (hi : i < l.length) : (l.set i v).getD o false = if i = o then v else l.getD o false := by
  rw [List.getD_eq_getElem?_getD, List.getD_eq_getElem?_getD, List.getElem?_set]
  split
  · rename_i h; subst h; simp [hi]
  · rfl
theorem hlN_get {s : Smp} {c : List Int} (hv : VSm s) (hco : ChOk s c) {q : Kwn} (hq : KnOk q) (o : Nat) : ∀ n : Nat, (n : Int) ≤ s.L + 1 → ((hlN c q n).getD o false = true ↔ q.hol.getD o false = true ∨ ∃ h : Nat, h < n ∧ o = h * 4 + (c.getD h 0).toNat)
  | 0, _ => by
    rw [hlN]
    exact ⟨fun h => .inl h, fun h => h.resolve_right (fun ⟨m, hm, _⟩ => absurd hm (Nat.not_lt_zero m))⟩
  | n + 1, hn => by
    have ih := hlN_get hv hco hq o n (by omega)
    have hl := (kqN_ok (s := s) (b := 0) (c := c) hq n).h
    have hl' : (hlN c q n).length = 40 := hl
    have h9 := hv.l9
    have hp4 := hv.p4
    have hcn := hco.pp n (by omega)
    rw [hlN, show 0 + Int.toNat (n : Int) * 4 + Int.toNat (c.getD (0 + Int.toNat (n : Int) * 1) 0) * 1 = n * 4 + (c.getD n 0).toNat from by rw [show 0 + Int.toNat (n : Int) * 1 = n from by omega]; omega, getD_setB (by omega)]
    split
    · rename_i h; exact ⟨fun _ => .inr ⟨n, by omega, h.symm⟩, fun _ => rfl⟩
    · rename_i hne
      rw [ih]
      constructor
      · rintro (h1 | ⟨m, h1, h2⟩)
        · exact .inl h1
        · exact .inr ⟨m, by omega, h2⟩
      · rintro (h1 | ⟨m, h1, h2⟩)
        · exact .inl h1
        · by_cases hm : m = n
          · subst hm; exact absurd h2.symm hne
          · exact .inr ⟨m, by omega, h2⟩
theorem opN_get {s : Smp} {c : List Int} (hv : VSm s) (hco : ChOk s c) {q : Kwn} (hq : KnOk q) (op : List Bool) (o : Nat) : ∀ n : Nat, (n : Int) ≤ s.L + 1 → ((opN c op q n).getD o false = true ↔ q.opn.getD o false = true ∨ ∃ h : Nat, h < n ∧ o = (c.getD h 0).toNat ∧ op.getD h false = true)
  | 0, _ => by
    rw [opN]
    exact ⟨fun h => .inl h, fun h => h.resolve_right (fun ⟨m, hm, _⟩ => absurd hm (Nat.not_lt_zero m))⟩
  | n + 1, hn => by
    have ih := opN_get hv hco hq op o n (by omega)
    have hl' : (opN c op q n).length = 4 := by
      clear ih hn
      induction n with
      | zero => exact hq.o
      | succ n ih => rw [opN, List.length_set]; exact ih
    have h9 := hv.l9
    have hp4 := hv.p4
    have hcn := hco.pp n (by omega)
    rw [opN, show 0 + Int.toNat (n : Int) * 1 = n from by omega, show Int.toNat (c.getD n 0) * 1 = (c.getD n 0).toNat from by omega, getD_setB (by omega)]
    split
    · rename_i h
      subst h
      rw [Bool.or_eq_true, ih]
      constructor
      · rintro ((h1 | ⟨m, h1, h2⟩) | h1)
        · exact .inl h1
        · exact .inr ⟨m, by omega, h2⟩
        · exact .inr ⟨n, by omega, rfl, h1⟩
      · rintro (h1 | ⟨m, h1, h2, h3⟩)
        · exact .inl (.inl h1)
        · by_cases hm : m = n
          · subst hm; exact .inr h3
          · exact .inl (.inr ⟨m, by omega, h2, h3⟩)
    · rename_i hne
      rw [ih]
      constructor
      · rintro (h1 | ⟨m, h1, h2⟩)
        · exact .inl h1
        · exact .inr ⟨m, by omega, h2⟩
      · rintro (h1 | ⟨m, h1, h2⟩)
        · exact .inl h1
        · by_cases hm : m = n
          · subst hm; exact absurd h2.1.symm hne
          · exact .inr ⟨m, by omega, h2⟩
theorem ask_hol {s : Smp} (hv : VSm s) {b : Int} (o : Nat) : (askF s b).hol.getD o false = true ↔ ∃ c ∈ chainsL s b, canF s b c = true ∧ ∃ h : Nat, (h : Int) ≤ s.L ∧ o = h * 4 + (c.getD h 0).toNat := by
  have h0 := hv.l0
  have gen : ∀ (l : List (List Int)) (q : Kwn), KnOk q → (∀ c ∈ l, ChOk s c) → ((l.foldl (askU s b) q).hol.getD o false = true ↔ q.hol.getD o false = true ∨ ∃ c ∈ l, canF s b c = true ∧ ∃ h : Nat, (h : Int) ≤ s.L ∧ o = h * 4 + (c.getD h 0).toNat) := fun l => by
    induction l with
    | nil => intro q _ _; simp
    | cons c l ih =>
      intro q hq hl
      rw [List.foldl_cons, ih _ (askU_ok hq) (fun c hc => hl c (List.mem_cons_of_mem _ hc))]
      have hco := hl c (List.mem_cons_self ..)
      unfold askU
      split
      · rename_i hc
        rw [show (Kwn.mk (hlN c q (s.L + 1).toNat) _ _ _).hol = hlN c q (s.L + 1).toNat from rfl, hlN_get hv hco hq o _ (by omega)]
        constructor
        · rintro ((h1 | ⟨h, h1, h2⟩) | ⟨c', h1, h2⟩)
          · exact .inl h1
          · exact .inr ⟨c, List.mem_cons_self .., hc, h, by omega, h2⟩
          · exact .inr ⟨c', List.mem_cons_of_mem _ h1, h2⟩
        · rintro (h1 | ⟨c', h1, h2, h, h3, h4⟩)
          · exact .inl (.inl h1)
          · rcases List.mem_cons.1 h1 with rfl | h1
            · exact .inl (.inr ⟨h, by omega, h4⟩)
            · exact .inr ⟨c', h1, h2, h, h3, h4⟩
      · rename_i hc
        constructor
        · rintro (h1 | ⟨c', h1, h2⟩)
          · exact .inl h1
          · exact .inr ⟨c', List.mem_cons_of_mem _ h1, h2⟩
        · rintro (h1 | ⟨c', h1, h2, h3⟩)
          · exact .inl h1
          · rcases List.mem_cons.1 h1 with rfl | h1
            · exact absurd h2 hc
            · exact .inr ⟨c', h1, h2, h3⟩
  have := gen (chainsL s b) kn0 ⟨rfl, rfl⟩ (fun c hc => chainsL_ok hv hc)
  unfold askF
  rw [this]
  have hz : kn0.hol.getD o false = false := by
    rw [kn0, List.getD_eq_getElem?_getD, List.getElem?_replicate]; split <;> rfl
  rw [hz]
  exact ⟨fun h => h.resolve_left (by decide), fun h => .inr h⟩
theorem ask_opn {s : Smp} (hv : VSm s) {b : Int} (o : Nat) : (askF s b).opn.getD o false = true ↔ ∃ c ∈ chainsL s b, canF s b c = true ∧ ∃ h : Nat, (h : Int) ≤ s.L ∧ o = (c.getD h 0).toNat ∧ opnH s b c h = true := by
  have h0 := hv.l0
  have h9 := hv.l9
  have gen : ∀ (l : List (List Int)) (q : Kwn), KnOk q → (∀ c ∈ l, ChOk s c) → ((l.foldl (askU s b) q).opn.getD o false = true ↔ q.opn.getD o false = true ∨ ∃ c ∈ l, canF s b c = true ∧ ∃ h : Nat, (h : Int) ≤ s.L ∧ o = (c.getD h 0).toNat ∧ opnH s b c h = true) := fun l => by
    induction l with
    | nil => intro q _ _; simp
    | cons c l ih =>
      intro q hq hl
      rw [List.foldl_cons, ih _ (askU_ok hq) (fun c hc => hl c (List.mem_cons_of_mem _ hc))]
      have hco := hl c (List.mem_cons_self ..)
      unfold askU
      split
      · rename_i hc
        rw [show (Kwn.mk _ (opN c (opnL s b c) q (s.L + 1).toNat) _ _).opn = opN c (opnL s b c) q (s.L + 1).toNat from rfl, opN_get hv hco hq _ o _ (by omega)]
        constructor
        · rintro ((h1 | ⟨h, h1, h2, h3⟩) | ⟨c', h1, h2⟩)
          · exact .inl h1
          · exact .inr ⟨c, List.mem_cons_self .., hc, h, by omega, h2, by rw [opnL_get (by omega) h9] at h3; exact h3⟩
          · exact .inr ⟨c', List.mem_cons_of_mem _ h1, h2⟩
        · rintro (h1 | ⟨c', h1, h2, h, h3, h4, h5⟩)
          · exact .inl (.inl h1)
          · rcases List.mem_cons.1 h1 with rfl | h1
            · exact .inl (.inr ⟨h, by omega, h4, by rw [opnL_get (by omega) h9]; exact h5⟩)
            · exact .inr ⟨c', h1, h2, h, h3, h4, h5⟩
      · rename_i hc
        constructor
        · rintro (h1 | ⟨c', h1, h2⟩)
          · exact .inl h1
          · exact .inr ⟨c', List.mem_cons_of_mem _ h1, h2⟩
        · rintro (h1 | ⟨c', h1, h2, h3⟩)
          · exact .inl h1
          · rcases List.mem_cons.1 h1 with rfl | h1
            · exact absurd h2 hc
            · exact .inr ⟨c', h1, h2, h3⟩
  have := gen (chainsL s b) kn0 ⟨rfl, rfl⟩ (fun c hc => chainsL_ok hv hc)
  unfold askF
  rw [this]
  have hz : kn0.opn.getD o false = false := by
    rw [kn0, List.getD_eq_getElem?_getD, List.getElem?_replicate]; split <;> rfl
  rw [hz]
  exact ⟨fun h => h.resolve_left (by decide), fun h => .inr h⟩
theorem pplN_mem {l : List Bool} {n : Nat} {e : Int} : e ∈ pplN l n ↔ ∃ i : Nat, i < n ∧ l.getD i false = true ∧ e = i := by
  unfold pplN
  constructor
  · intro h
    obtain ⟨i, hi, rfl⟩ := List.mem_map.1 h
    obtain ⟨h1, h2⟩ := List.mem_filter.1 hi
    exact ⟨i, List.mem_range.1 h1, h2, rfl⟩
  · rintro ⟨i, h1, h2, rfl⟩
    exact List.mem_map.2 ⟨i, List.mem_filter.2 ⟨List.mem_range.2 h1, h2⟩, rfl⟩
theorem sure_ok {s : Smp} (hv : VSm s) (hc : consF s = true) : sureE s true = 0 := by
  unfold sureE
  rw [if_neg (fun h => h (chkS_0.2 hv)), if_neg (by decide), if_neg (by rw [hc]; decide)]
theorem opE_ok {s : Smp} (hv : VSm s) (hc : consF s = true) {b : Int} (hb : 0 ≤ b ∧ b < s.B) : opE s b = 0 := by
  unfold opE
  rw [decide_eq_true (by omega)]; exact sure_ok hv hc
theorem hdE_ok {s : Smp} (hv : VSm s) (hc : consF s = true) {b h : Int} (hb : 0 ≤ b ∧ b < s.B) (hh : 0 ≤ h ∧ h ≤ s.L) : hdE s b h = 0 := by
  unfold hdE
  rw [decide_eq_true (by omega)]; exact sure_ok hv hc
theorem opL_mem {s : Smp} (hv : VSm s) {b : Int} (he : opE s b = 0) {e : Int} : e ∈ opL s b ↔ ∃ c ∈ chainsL s b, canF s b c = true ∧ ∃ h : Nat, (h : Int) ≤ s.L ∧ c.getD h 0 = e ∧ opnH s b c h = true := by
  unfold opL
  rw [if_pos he]
  show e ∈ pplN _ _ ↔ _
  rw [pplN_mem]
  constructor
  · rintro ⟨i, hi, h1, rfl⟩
    obtain ⟨c, h2, h3, h, h4, h5, h6⟩ := (ask_opn hv i).1 h1
    have := (chainsL_ok hv h2).pp h h4
    exact ⟨c, h2, h3, h, h4, by omega, h6⟩
  · rintro ⟨c, h2, h3, h, h4, h5, h6⟩
    have := (chainsL_ok hv h2).pp h h4
    exact ⟨e.toNat, by omega, (ask_opn hv _).2 ⟨c, h2, h3, h, h4, by omega, h6⟩, by omega⟩
theorem hdL_mem {s : Smp} (hv : VSm s) {b : Int} {h : Nat} (hh : (h : Int) ≤ s.L) (he : hdE s b h = 0) {e : Int} : e ∈ hdL s b h ↔ ∃ c ∈ chainsL s b, canF s b c = true ∧ c.getD h 0 = e := by
  have h9 := hv.l9
  have hp4 := hv.p4
  unfold hdL
  rw [if_pos he]
  show e ∈ pplN _ _ ↔ _
  rw [pplN_mem]
  have hd : ∀ i, i < 4 → (hdM s b h).getD i false = (askF s b).hol.getD (h * 4 + i) false := fun i hi => by
    unfold hdM
    rw [List.getD_eq_getElem?_getD, List.getElem?_take_of_lt hi, List.getElem?_drop, Int.toNat_natCast, List.getD_eq_getElem?_getD]
  constructor
  · rintro ⟨i, hi, h1, rfl⟩
    rw [hd i (by omega)] at h1
    obtain ⟨c, h2, h3, h', h4, h5⟩ := (ask_hol hv _).1 h1
    have := (chainsL_ok hv h2).pp h' h4
    obtain rfl : h = h' := by omega
    exact ⟨c, h2, h3, by omega⟩
  · rintro ⟨c, h2, h3, h4⟩
    have := (chainsL_ok hv h2).pp h hh
    exact ⟨e.toNat, by omega, by rw [hd _ (by omega)]; exact (ask_hol hv _).2 ⟨c, h2, h3, h, hh, by omega⟩, by omega⟩
end Go.Sp
/-
  The document's examples, computed.
-/
namespace Go.Sp
open Go Go.Proofs
def twoS (m : List Sgt) : Smp := ⟨2, 3, 4, 0, [false, false, true], [⟨0, 0, 1, 1, 2⟩, ⟨0, 1, 2, 3, 3⟩, ⟨1, 0, 1, 2, 2⟩], [⟨0, 2, true⟩, ⟨1, 4, true⟩] ++ m⟩
abbrev badG : Sgt := ⟨0, 2, false⟩
theorem two_few (m : List Sgt) (h : m.length ≤ 1) : Few (twoS m) := ⟨by simp [twoS], by simp [twoS], by simp [twoS]; omega⟩
theorem aw_h : hdE (twoS []) 0 1 = 0 ∧ hdL (twoS []) 0 1 = [0, 1] := by decide +kernel
theorem aw_o : opE (twoS []) 0 = 0 ∧ opL (twoS []) 0 = [2] := by decide +kernel
theorem aw_v : vdE (twoS []) = 0 ∧ vdL (twoS []) = [3, 2] := by decide +kernel
theorem aw_a : alF (twoS []) = 3 := by decide +kernel
theorem aw_l : lsL (twoS []) = [0, 0] := by decide +kernel
theorem aw_f : frsE (twoS [badG]) = (5, 0) := by decide +kernel
theorem aw_x : chkS (twoS [badG]) = 0 ∧ lvN (twoS [badG]) 2 = [3] := by decide +kernel
theorem aw_x2 : levL (twoS [badG]) = [3] := by
  unfold levL lvS
  rw [if_pos aw_x.1, show (twoS [badG]).B.toNat = 2 from rfl, aw_x.2]
  simp
end Go.Sp
/-
  The document's examples, walked: two, awake.
-/
namespace Go.Sp
open Go Go.Proofs
theorem between_c (a b : Int) (w : World) : CnV Tryz.prog 49 #[vi a, vi b] w (.agg #[vi a, vi b]) := by
  refine cnv (vs := [_, _]) Tryz.func49 rfl rfl ?_
  all_goals refine tc_seq fun K1 hK1 => ?_; refine tc_region ?_; refine tl_e (e_allocN rfl) rfl (fun b4 _ => ?_); refine tl_nil ?_; ((refine hK1 ?_; try (clear hK1; clear K1)))
  all_goals refine tc_seq fun K2 hK2 => ?_; refine tc_region ?_; refine tl_q (y_move rfl) rfl ?_; refine tl_q (y_move rfl) rfl ?_; refine tl_q (y_build_g (by repeat constructor)) rfl ?_; refine tl_e (e_storeW rfl rfl (by repeat constructor) (by rfl) (by rfl) (by simp [Value.oneCell'])) rfl (fun _ _ => ?_); refine tl_nil ?_; ((refine hK2 ?_; try (clear hK2; clear K2)))
  all_goals refine tc_ret ?_; (repeat (first | refine tk_then_ret ?_))
  all_goals (refine tk_ret rfl rfl (.cons (.agg inferInstance rfl (by repeat constructor) (by rfl)) .nil) ?_)
  all_goals (
   exact fun w' hw' => ⟨rfl, hw'.fr (by simp)⟩)
set_option maxHeartbeats 1000000 in
theorem two_c (m : List Sgt) (hm : m.length ≤ 1) (mv : Value) (w : World) (hr : RdS 3 sgE w mv m) :
    CnX Tryz.prog 48 #[mv] w [] (fun y : Nat × Nat × Nat × Nat × List Value => smV (twoS m) (.slice (some ⟨y.1, 0, none⟩) 3 3) (.slice (some ⟨y.2.1, 0, none⟩) 3 3) (.slice (some ⟨y.2.2.1, 0, none⟩) (2 + m.length) y.2.2.2.1))
      (fun y w' => RdSm w' (twoS m) (.slice (some ⟨y.1, 0, none⟩) 3 3) (.slice (some ⟨y.2.1, 0, none⟩) 3 3) (.slice (some ⟨y.2.2.1, 0, none⟩) (2 + m.length) y.2.2.2.1)) := by
  refine cnx0 (vs := [_]) Tryz.func48 rfl rfl ?_
  all_goals refine tc_seq fun K1 hK1 => ?_; refine tc_region ?_; refine tl_e (e_allocN rfl) rfl (fun b2 _ => ?_); refine tl_nil ?_; ((refine hK1 ?_; try (clear hK1; clear K1)))
  all_goals refine tc_seq fun K2 hK2 => ?_; refine tc_region ?_; ((refine tl_e (e_bslice rfl (by (repeat (first | exact .nil | apply PV.one rfl rfl)); done) rfl rfl) rfl (fun b3 _ => ?_)))
  all_goals refine tl_e (e_callV rfl (.cons rfl (.cons rfl .nil)) (fun w' _ => between_c _ _ w')) rfl (fun _ _ => ?_); refine tl_q (y_build_g (by repeat constructor)) rfl ?_; refine tl_e (e_callV rfl (.cons rfl (.cons rfl .nil)) (fun w' _ => between_c _ _ w')) rfl (fun _ _ => ?_); refine tl_q (y_build_g (by repeat constructor)) rfl ?_; refine tl_e (e_callV rfl (.cons rfl (.cons rfl .nil)) (fun w' _ => between_c _ _ w')) rfl (fun _ _ => ?_); refine tl_q (y_build_g (by repeat constructor)) rfl ?_; refine tl_e (e_bsliceG rfl (.agg rfl rfl (.agg rfl rfl (.agg rfl rfl .nil))) rfl rfl) rfl (fun b10 _ => ?_); refine tl_q (y_build_g (by repeat constructor)) rfl ?_; refine tl_q (y_build_g (by repeat constructor)) rfl ?_; refine tl_e (e_bsliceG rfl (.agg rfl rfl (.agg rfl rfl .nil)) rfl rfl) rfl (fun b13 _ => ?_); refine tl_q (y_move rfl) rfl ?_; refine tl_e (e_append_own (old := [vi 0, vi 2, .bool true, vi 1, vi 4, .bool true]) (junk := []) rfl rfl rfl (by repeat constructor) rfl rfl (Nat.le_refl 2) (fun w' hw' => hr.fr (hw'.fr (w0 := w) (S := []) (MI.m (by repeat constructor)))) (one_flat sgE_one _) (by omega) rfl) rfl (fun r hq => ?_); refine tl_q (y_build_g (by repeat constructor)) rfl ?_; refine tl_e (e_storeW rfl rfl (by repeat constructor) (by rfl) (by rfl) (by simp [Value.oneCell'])) rfl (fun _ _ => ?_); refine tl_nil ?_; ((refine hK2 ?_; try (clear hK2; clear K2)))
  all_goals refine tc_ret ?_; (repeat (first | refine tk_then_ret ?_))
  all_goals (refine tk_ret rfl rfl (.cons (.agg inferInstance rfl (by repeat constructor) (by rfl)) .nil) ?_)
  all_goals (
   refine fun w' hw' => ⟨(b3, b10, r.1, r.2.1, r.2.2), rfl, hw'.fr (w0 := w) (S := []) (MI.m (by repeat constructor)), ?_, ?_, ?_⟩
   · exact RdS.own (xs := (twoS m).st) (cap := 3) (junk := []) boE_len hw' (b := b3) (by repeat constructor)
   · exact RdS.own (xs := (twoS m).ps) (cap := 3) (junk := []) psE_len hw' (b := b10) (by repeat constructor)
   · have := RdS.own (xs := (twoS m).sg) (cap := r.2.1) (junk := r.2.2) sgE_len hw' (b := r.1) (by repeat constructor)
     rw [show (twoS m).sg.length = 2 + m.length from by simp [twoS]; omega] at this
     exact this)
theorem two0 : Few (twoS []) := two_few [] (by simp)
theorem two1 : Few (twoS [badG]) := two_few [badG] (by simp)
theorem hold_v (tv pv gv : Value) (w : World) (hr : RdSm w (twoS []) tv pv gv) : CnX Tryz.prog 17 #[smV (twoS []) tv pv gv, vi 0, vi 1] w [] (fun y : Option Addr × Nat => .tuple #[slV 2 y, vi 0]) (fun y w' => RdI w' (slV 2 y) [0, 1]) := by
  have h := holders_c (twoS []) two0 0 1 tv pv gv w hr
  rw [aw_h.1, aw_h.2] at h
  exact h.imp id (fun _ => rfl) (fun _ h => h) (fun _ _ _ h => h.toI)
theorem open_v (tv pv gv : Value) (w : World) (hr : RdSm w (twoS []) tv pv gv) : CnX Tryz.prog 19 #[smV (twoS []) tv pv gv, vi 0] w [] (fun y : Option Addr × Nat => .tuple #[slV 1 y, vi 0]) (fun y w' => RdI w' (slV 1 y) [2]) := by
  have h := openers_c (twoS []) two0 0 tv pv gv w hr
  rw [aw_o.1, aw_o.2] at h
  exact h.imp id (fun _ => rfl) (fun _ h => h) (fun _ _ _ h => h.toI)
theorem verd_v (tv pv gv : Value) (w : World) (hr : RdSm w (twoS []) tv pv gv) : CnX Tryz.prog 26 #[smV (twoS []) tv pv gv] w [] (fun y : Option Addr × Nat => .tuple #[slV 2 y, vi 0]) (fun y w' => RdI w' (slV 2 y) [3, 2]) := by
  have h := verdicts_c (twoS []) two0 tv pv gv w hr
  rw [aw_v.1, aw_v.2] at h
  exact h.imp id (fun _ => rfl) (fun _ h => h) (fun _ _ _ h => h.toI)
theorem alik_v (tv pv gv : Value) (w : World) (hr : RdSm w (twoS []) tv pv gv) : CnV Tryz.prog 27 #[smV (twoS []) tv pv gv] w (.tuple #[vi 3, vi 0]) := by
  have h := alike_c (twoS []) two0 tv pv gv w hr
  rw [aw_a, aw_v.1] at h
  exact h
theorem leas_v (tv pv gv : Value) (w : World) (hr : RdSm w (twoS []) tv pv gv) : CnX Tryz.prog 28 #[smV (twoS []) tv pv gv] w [] (fun y : Option Addr × Nat => .tuple #[slV 2 y, vi 0]) (fun y w' => RdI w' (slV 2 y) [0, 0]) := by
  have h := least_c (twoS []) two0 tv pv gv w hr
  rw [aw_v.1, aw_l] at h
  exact h.imp id (fun _ => rfl) (fun _ h => h) (fun _ _ _ h => h.toI)
theorem frst_v (tv pv gv : Value) (w : World) (hr : RdSm w (twoS [badG]) tv pv gv) : CnV Tryz.prog 30 #[smV (twoS [badG]) tv pv gv] w (.tuple #[vi 5, vi 0]) := by
  have h := first_c (twoS [badG]) two1 tv pv gv w hr
  rw [aw_f] at h
  exact h
theorem leav_v (tv pv gv : Value) (w : World) (hr : RdSm w (twoS [badG]) tv pv gv) : CnX Tryz.prog 31 #[smV (twoS [badG]) tv pv gv] w [] (fun y : Option Addr × Nat => .tuple #[slV 1 y, vi 0]) (fun y w' => RdI w' (slV 1 y) [3]) := by
  have h := leaveAll_c (twoS [badG]) two1 tv pv gv w hr
  rw [aw_x.1, aw_x2] at h
  exact h
set_option maxHeartbeats 4000000 in
theorem awake_c (w : World) : CnV Tryz.prog 16 #[] w (.bool true) := by
  refine cnv (vs := []) Tryz.func16 rfl rfl ?_
  all_goals refine tc_seq fun K1 hK1 => ?_; refine tc_region ?_; refine tl_q (y_assign rfl) rfl ?_; refine tl_nil ?_; ((refine hK1 ?_; try (clear hK1; clear K1)))
  all_goals refine tc_seq fun K2 hK2 => ?_; refine tc_lay ([]) (SB.s .nil) (fun wl1 hl1 => ?_); refine tc_region ?_; refine tl_e (e_callX rfl (.cons rfl .nil) (fun w' hw' => two_c [] (by simp) (.slice none 0 0) w' (RdS.nil _ _ _ _))) rfl (fun x1 hx1 => ?_); refine tl_e (e_callX rfl (.cons rfl (.cons rfl (.cons rfl .nil))) (fun w' hw' => hold_v _ _ _ w' (hx1.1.fr (hw'.calm hx1.2 (MI.m (by repeat constructor)) (SB.s (by repeat constructor)))))) rfl (fun y1 hy1 => ?_); refine tl_q (y_move rfl) rfl ?_; refine tl_q (y_extract rfl rfl) rfl ?_; refine tl_q (y_extract rfl rfl) rfl ?_; refine tl_q (y_assign rfl) rfl ?_; refine tl_q (y_assign rfl) rfl ?_; refine tl_nil ?_; ((refine hK2 ?_; try (clear hK2; clear K2)))
  all_goals refine tc_seq fun K3 hK3 => ?_; refine tc_lay ([]) (SB.s .nil) (fun wl2 hl2 => ?_); refine tc_region ?_; refine tl_e (e_callX rfl (.cons rfl .nil) (fun w' hw' => two_c [] (by simp) (.slice none 0 0) w' (RdS.nil _ _ _ _))) rfl (fun x2 hx2 => ?_); refine tl_e (e_callX rfl (.cons rfl (.cons rfl .nil)) (fun w' hw' => open_v _ _ _ w' (hx2.1.fr (hw'.calm hx2.2 (MI.m (by repeat constructor)) (SB.s (by repeat constructor)))))) rfl (fun y2 hy2 => ?_); refine tl_q (y_move rfl) rfl ?_; refine tl_q (y_extract rfl rfl) rfl ?_; refine tl_q (y_extract rfl rfl) rfl ?_; refine tl_q (y_assign rfl) rfl ?_; refine tl_q (y_assign rfl) rfl ?_; refine tl_nil ?_; ((refine hK3 ?_; try (clear hK3; clear K3)))
  all_goals refine tc_seq fun K4 hK4 => ?_; refine tc_lay ([]) (SB.s .nil) (fun wl3 hl3 => ?_); refine tc_region ?_; refine tl_e (e_callX rfl (.cons rfl .nil) (fun w' hw' => two_c [] (by simp) (.slice none 0 0) w' (RdS.nil _ _ _ _))) rfl (fun x3 hx3 => ?_); refine tl_e (e_callX rfl (.cons rfl .nil) (fun w' hw' => verd_v _ _ _ w' (hx3.1.fr (hw'.calm hx3.2 (MI.m (by repeat constructor)) (SB.s (by repeat constructor)))))) rfl (fun y3 hy3 => ?_); refine tl_q (y_move rfl) rfl ?_; refine tl_q (y_extract rfl rfl) rfl ?_; refine tl_q (y_extract rfl rfl) rfl ?_; refine tl_q (y_assign rfl) rfl ?_; refine tl_q (y_assign rfl) rfl ?_; refine tl_nil ?_; ((refine hK4 ?_; try (clear hK4; clear K4)))
  all_goals refine tc_seq fun K5 hK5 => ?_; refine tc_lay ([]) (SB.s .nil) (fun wl4 hl4 => ?_); refine tc_region ?_; refine tl_e (e_callX rfl (.cons rfl .nil) (fun w' hw' => two_c [] (by simp) (.slice none 0 0) w' (RdS.nil _ _ _ _))) rfl (fun x4 hx4 => ?_); refine tl_e (e_callV rfl (.cons rfl .nil) (fun w' hw' => alik_v _ _ _ w' (hx4.1.fr (hw'.calm hx4.2 (MI.m (by repeat constructor)) (SB.s (by repeat constructor)))))) rfl (fun _ _ => ?_); refine tl_q (y_move rfl) rfl ?_; refine tl_q (y_extract rfl rfl) rfl ?_; refine tl_q (y_extract rfl rfl) rfl ?_; refine tl_q (y_assign rfl) rfl ?_; refine tl_q (y_assign rfl) rfl ?_; refine tl_nil ?_; ((refine hK5 ?_; try (clear hK5; clear K5)))
  all_goals refine tc_seq fun K6 hK6 => ?_; refine tc_lay ([]) (SB.s .nil) (fun wl5 hl5 => ?_); refine tc_region ?_; refine tl_e (e_callX rfl (.cons rfl .nil) (fun w' hw' => two_c [] (by simp) (.slice none 0 0) w' (RdS.nil _ _ _ _))) rfl (fun x5 hx5 => ?_); refine tl_e (e_callX rfl (.cons rfl .nil) (fun w' hw' => leas_v _ _ _ w' (hx5.1.fr (hw'.calm hx5.2 (MI.m (by repeat constructor)) (SB.s (by repeat constructor)))))) rfl (fun y5 hy5 => ?_); refine tl_q (y_move rfl) rfl ?_; refine tl_q (y_extract rfl rfl) rfl ?_; refine tl_q (y_extract rfl rfl) rfl ?_; refine tl_q (y_assign rfl) rfl ?_; refine tl_q (y_assign rfl) rfl ?_; refine tl_nil ?_; ((refine hK6 ?_; try (clear hK6; clear K6)))
  all_goals refine tc_seq fun K7 hK7 => ?_; refine tc_lay ([]) (SB.s .nil) (fun wl6 hl6 => ?_); refine tc_region ?_; refine tl_q (y_build_g (by repeat constructor)) rfl ?_; refine tl_e (e_bsliceG rfl (.agg rfl rfl .nil) rfl rfl) rfl (fun b42 _ => ?_); refine tl_e (e_callX rfl (.cons rfl .nil) (fun w' hw' => two_c [badG] (by simp) _ w' (RdS.own0 (xs := [badG]) sgE_len hw' (by repeat constructor)))) rfl (fun x6 hx6 => ?_); refine tl_e (e_callV rfl (.cons rfl .nil) (fun w' hw' => frst_v _ _ _ w' (hx6.1.fr (hw'.calm hx6.2 (MI.m (by repeat constructor)) (SB.s (by repeat constructor)))))) rfl (fun _ _ => ?_); refine tl_q (y_move rfl) rfl ?_; refine tl_q (y_extract rfl rfl) rfl ?_; refine tl_q (y_extract rfl rfl) rfl ?_; refine tl_q (y_assign rfl) rfl ?_; refine tl_q (y_assign rfl) rfl ?_; refine tl_nil ?_; ((refine hK7 ?_; try (clear hK7; clear K7)))
  all_goals refine tc_seq fun K8 hK8 => ?_; refine tc_lay ([]) (SB.s .nil) (fun wl7 hl7 => ?_); refine tc_region ?_; refine tl_q (y_build_g (by repeat constructor)) rfl ?_; refine tl_e (e_bsliceG rfl (.agg rfl rfl .nil) rfl rfl) rfl (fun b49 _ => ?_); refine tl_e (e_callX rfl (.cons rfl .nil) (fun w' hw' => two_c [badG] (by simp) _ w' (RdS.own0 (xs := [badG]) sgE_len hw' (by repeat constructor)))) rfl (fun x7 hx7 => ?_); refine tl_e (e_callX rfl (.cons rfl .nil) (fun w' hw' => leav_v _ _ _ w' (hx7.1.fr (hw'.calm hx7.2 (MI.m (by repeat constructor)) (SB.s (by repeat constructor)))))) rfl (fun y7 hy7 => ?_); refine tl_q (y_move rfl) rfl ?_; refine tl_q (y_extract rfl rfl) rfl ?_; refine tl_q (y_extract rfl rfl) rfl ?_; refine tl_q (y_assign rfl) rfl ?_; refine tl_q (y_assign rfl) rfl ?_; refine tl_nil ?_; ((refine hK8 ?_; try (clear hK8; clear K8)))
  all_goals refine tc_seq fun K9 hK9 => ?_; refine tc_lay ([]) (SB.s .nil) (fun wl8 hl8 => ?_); refine tc_region ?_; refine tl_q (y_move rfl) rfl ?_; refine tl_q (y_eql rfl rfl) rfl ?_; refine tl_q (y_move rfl) rfl ?_; refine tl_qg rfl rfl (y_move rfl) rfl ?_; ((refine tl_eg rfl rfl rfl (e_bslice rfl (by (repeat (first | exact .nil | apply PV.one rfl rfl)); done) rfl rfl) (fun _ _ => ?_)))
  all_goals (refine tl_eg rfl rfl rfl (e_callV rfl (.cons rfl (.cons rfl .nil)) (fun w' hw' => rSame_c [0, 1] [0, 1] (by decide) (by decide) _ _ w' (hy1.1.fr (hw'.fr (MI.m (by repeat constructor)))) (RdI.own0 hw' (by repeat constructor)))) (fun _ _ => ?_)); refine tl_q (y_pick_t rfl rfl) rfl ?_; refine tl_q (y_move rfl) rfl ?_; refine tl_qg rfl rfl (y_move rfl) rfl ?_; refine tl_qg rfl rfl (y_eql rfl rfl) rfl ?_; refine tl_q (y_pick_t rfl rfl) rfl ?_; refine tl_q (y_move rfl) rfl ?_; refine tl_qg rfl rfl (y_move rfl) rfl ?_; ((refine tl_eg rfl rfl rfl (e_bslice rfl (by (repeat (first | exact .nil | apply PV.one rfl rfl)); done) rfl rfl) (fun _ _ => ?_)))
  all_goals (refine tl_eg rfl rfl rfl (e_callV rfl (.cons rfl (.cons rfl .nil)) (fun w' hw' => rSame_c [2] [2] (by decide) (by decide) _ _ w' (hy2.1.fr (hw'.fr (MI.m (by repeat constructor)))) (RdI.own0 hw' (by repeat constructor)))) (fun _ _ => ?_)); refine tl_q (y_pick_t rfl rfl) rfl ?_; refine tl_q (y_move rfl) rfl ?_; refine tl_qg rfl rfl (y_move rfl) rfl ?_; refine tl_qg rfl rfl (y_eql rfl rfl) rfl ?_; refine tl_q (y_pick_t rfl rfl) rfl ?_; refine tl_q (y_move rfl) rfl ?_; refine tl_qg rfl rfl (y_move rfl) rfl ?_; ((refine tl_eg rfl rfl rfl (e_bslice rfl (by (repeat (first | exact .nil | apply PV.one rfl rfl)); done) rfl rfl) (fun _ _ => ?_)))
  all_goals (refine tl_eg rfl rfl rfl (e_callV rfl (.cons rfl (.cons rfl .nil)) (fun w' hw' => rSame_c [3, 2] [3, 2] (by decide) (by decide) _ _ w' (hy3.1.fr (hw'.fr (MI.m (by repeat constructor)))) (RdI.own0 hw' (by repeat constructor)))) (fun _ _ => ?_)); refine tl_q (y_pick_t rfl rfl) rfl ?_; refine tl_q (y_move rfl) rfl ?_; refine tl_qg rfl rfl (y_move rfl) rfl ?_; refine tl_qg rfl rfl (y_eql rfl rfl) rfl ?_; refine tl_q (y_pick_t rfl rfl) rfl ?_; refine tl_q (y_move rfl) rfl ?_; refine tl_qg rfl rfl (y_move rfl) rfl ?_; refine tl_qg rfl rfl (y_eql rfl rfl) rfl ?_; refine tl_q (y_pick_t rfl rfl) rfl ?_; refine tl_q (y_move rfl) rfl ?_; refine tl_qg rfl rfl (y_move rfl) rfl ?_; refine tl_qg rfl rfl (y_eql rfl rfl) rfl ?_; refine tl_q (y_pick_t rfl rfl) rfl ?_; refine tl_q (y_move rfl) rfl ?_; refine tl_qg rfl rfl (y_move rfl) rfl ?_; ((refine tl_eg rfl rfl rfl (e_bslice rfl (by (repeat (first | exact .nil | apply PV.one rfl rfl)); done) rfl rfl) (fun _ _ => ?_)))
  all_goals (refine tl_eg rfl rfl rfl (e_callV rfl (.cons rfl (.cons rfl .nil)) (fun w' hw' => rSame_c [0, 0] [0, 0] (by decide) (by decide) _ _ w' (hy5.1.fr (hw'.fr (MI.m (by repeat constructor)))) (RdI.own0 hw' (by repeat constructor)))) (fun _ _ => ?_)); refine tl_q (y_pick_t rfl rfl) rfl ?_; refine tl_q (y_move rfl) rfl ?_; refine tl_qg rfl rfl (y_move rfl) rfl ?_; refine tl_qg rfl rfl (y_eql rfl rfl) rfl ?_; refine tl_q (y_pick_t rfl rfl) rfl ?_; refine tl_q (y_move rfl) rfl ?_; refine tl_qg rfl rfl (y_move rfl) rfl ?_; refine tl_qg rfl rfl (y_eql rfl rfl) rfl ?_; refine tl_q (y_pick_t rfl rfl) rfl ?_; refine tl_q (y_move rfl) rfl ?_; refine tl_qg rfl rfl (y_move rfl) rfl ?_; refine tl_qg rfl rfl (y_eql rfl rfl) rfl ?_; refine tl_q (y_pick_t rfl rfl) rfl ?_; refine tl_q (y_move rfl) rfl ?_; refine tl_qg rfl rfl (y_move rfl) rfl ?_; ((refine tl_eg rfl rfl rfl (e_bslice rfl (by (repeat (first | exact .nil | apply PV.one rfl rfl)); done) rfl rfl) (fun _ _ => ?_)))
  all_goals (refine tl_eg rfl rfl rfl (e_callV rfl (.cons rfl (.cons rfl .nil)) (fun w' hw' => rSame_c [3] [3] (by decide) (by decide) _ _ w' ((hy7.1.fr (hl8.calm hy7.2 (MI.m (by repeat constructor)) (SB.s (by repeat constructor)))).fr (hw'.fr (w0 := wl8) (S := []) (MI.m (by repeat constructor)))) (RdI.own0 hw' (by repeat constructor)))) (fun _ _ => ?_)); refine tl_q (y_pick_t rfl rfl) rfl ?_; refine tl_q (y_assign rfl) rfl ?_; refine tl_nil ?_; ((refine hK9 ?_; try (clear hK9; clear K9)))
  all_goals refine tc_ret ?_; (repeat (first | refine tk_then_ret ?_))
  all_goals (refine tk_ret rfl rfl (.cons (.tmp rfl) .nil) ?_)
  all_goals (
   exact fun w' hw' => ⟨rfl, hw'.fr (w0 := w) (S := []) (MI.m (by repeat constructor))⟩)
end Go.Sp
/-
  SampleVerdicts, walked.
-/
namespace Go.Sp
open Go Go.Proofs
theorem RunF.mem {s : Smp} {b : Int} {c : List Int} : ∀ {k : Nat} {x : Bool} {l : List (Bool × Int)}, RunF s b c k x l → ∀ z ∈ l, z.2 = 0 ∨ z.2 = 1
  | 0, _, _, h, z, hz => by obtain rfl := h; cases hz
  | k + 1, _, _, ⟨y, t, h, hy, ht⟩, z, hz => by
    subst h
    rcases List.mem_cons.1 hz with rfl | hz
    · obtain ⟨n, _, _, rfl⟩ := mem_stepL.1 hy
      dsimp only
      split
      · exact .inr rfl
      · exact .inl rfl
    · exact RunF.mem ht z hz
theorem cons_poss {s : Smp} (hc : consF s = true) {k : Nat} (hk : k < s.B.toNat) : possF s (k : Int) = true := List.all_eq_true.1 hc k (List.mem_range.2 hk)
theorem openersK_v {s : Smp} {b : Int} (hE : opE s b = 0) (hf : Few s) (tv pv gv : Value) (w : World) (hr : RdSm w s tv pv gv) :
    CnX Tryz.prog 19 #[smV s tv pv gv, vi b] w [] (fun y : Option Addr × Nat => .tuple #[slV (opL s b).length y, vi 0]) (fun y w' => RdI w' (slV (opL s b).length y) (opL s b)) := by
  have h := openers_c s hf b tv pv gv w hr
  rw [hE] at h
  exact h.imp id (fun _ => rfl) (fun _ h => h) (fun _ _ _ h => h.toI)
end Go.Sp
/-
  SampleApart, walked.
-/
namespace Go.Sp
open Go Go.Proofs
def psQ (s : Smp) (b : Int) (n : Nat) : List Pas := ((List.range n).filter fun i => decide ((s.ps.getD i pas0).b = b)).map fun i => s.ps.getD i pas0
def sgQ (s : Smp) (b : Int) (n : Nat) : List Sgt := ((List.range n).filter fun i => decide ((s.sg.getD i sgt0).b = b)).map fun i => s.sg.getD i sgt0
theorem psQ_len (s : Smp) (b : Int) (n : Nat) : (psQ s b n).length ≤ n := filt_len
theorem sgQ_len (s : Smp) (b : Int) (n : Nat) : (sgQ s b n).length ≤ n := filt_len
/-- The sample with the entries of a bottle alone. -/
def ownB (s : Smp) (b : Int) : Smp := { s with ps := psQ s b s.ps.length, sg := sgQ s b s.sg.length }
theorem Few.own {s : Smp} (h : Few s) (b : Int) : Few (ownB s b) := ⟨h.st, Nat.le_trans (psQ_len s b _) h.ps, Nat.le_trans (sgQ_len s b _) h.sg⟩
theorem VSm.own {s : Smp} (hv : VSm s) (b : Int) : VSm (ownB s b) := hv.sub (filt_sub s.ps pas0 _) (filt_sub s.sg sgt0 _)
theorem holdersK_v {s : Smp} {b h : Int} (hE : hdE s b h = 0) (hf : Few s) (tv pv gv : Value) (w : World) (hr : RdSm w s tv pv gv) :
    CnX Tryz.prog 17 #[smV s tv pv gv, vi b, vi h] w [] (fun y : Option Addr × Nat => .tuple #[slV (hdL s b h).length y, vi 0]) (fun y w' => RdI w' (slV (hdL s b h).length y) (hdL s b h)) := by
  have hh := holders_c s hf b h tv pv gv w hr
  rw [hE] at hh
  exact hh.imp id (fun _ => rfl) (fun _ h => h) (fun _ _ _ h => h.toI)
theorem opL_len {s : Smp} (hv : VSm s) (b : Int) : (opL s b).length ≤ 4 := by
  have hp4 := hv.p4
  unfold opL
  split
  · have := pplN_len (askF s b).opn s.P.toNat; show (pplN _ _).length ≤ 4; omega
  · exact Nat.zero_le _
theorem hdL_len {s : Smp} (hv : VSm s) (b h : Int) : (hdL s b h).length ≤ 4 := by
  have hp4 := hv.p4
  unfold hdL
  split
  · have := pplN_len (hdM s b h) s.P.toNat; show (pplN _ _).length ≤ 4; omega
  · exact Nat.zero_le _
end Go.Sp
/-
  Law's helpers: has, within, fewer.
-/
namespace Go.Sp
open Go Go.Proofs
theorem lhas_c (l : List Int) (n : Int) (hl : l.length ≤ 10) (lv : Value) (w : World) (hr : RdI w lv l) : CnV Tryz.prog 50 #[lv, vi n] w (.bool (decide (n ∈ l))) := by
  obtain ⟨ad, cp, b1, o1, rfl, had, hcell⟩ := hr.open
  refine cnv (vs := [_, _]) Tryz.func50 rfl rfl ?_
  all_goals refine tc_seq fun K1 hK1 => ?_; refine tc_region ?_; refine tl_q (y_assign rfl) rfl ?_; refine tl_nil ?_; ((refine hK1 ?_; try (clear hK1; clear K1)))
  all_goals refine tc_seq fun K2 hK2 => ?_; refine tc_seq fun K3 hK3 => ?_; refine tc_region ?_; refine tl_q (y_assign rfl) rfl ?_; refine tl_nil ?_; ((refine hK3 ?_; try (clear hK3; clear K3)))
  all_goals refine tc_block ?_
  all_goals (
   refine tc_loop (fun i : Nat => i ≤ l.length ∧ ∀ j, j < i → ¬ l.getD j 0 = n) (fun i => [(0, .slice ad l.length cp), (1, vi n), (5, vi i)]) (fun _ => [(w, [])]) (fun _ => []) (fun i => l.length - i) ?_ ?_
   · exact tk_start 0 ⟨Nat.zero_le _, fun j hj => absurd hj (Nat.not_lt_zero j)⟩ (.cons rfl (.cons rfl (.cons rfl .nil))) (fun _ h => h.subl (SB.s (by repeat constructor)) (SB.s (by repeat constructor)))
   · rintro i ⟨hi, hno⟩
     all_goals refine tc_seq fun K4 hK4 => ?_; refine tc_seq fun K5 hK5 => ?_; refine tc_region ?_; refine tl_q (y_move rfl) rfl ?_; refine tl_q (y_move rfl) rfl ?_; refine tl_q (y_len rfl) rfl ?_; refine tl_q (y_lss rfl rfl) rfl ?_; refine tl_nil ?_; ((refine hK5 ?_; try (clear hK5; clear K5)))
     all_goals (
      refine tc_cond rfl (fun hc => ?_) (fun hc => ?_)
      · try simp only [decide_eq_true_eq, decide_eq_false_iff_not, Int.not_lt, Int.not_le, Bool.not_eq_true', Bool.not_eq_false', Decidable.not_not, not_true_eq_false] at hc
        all_goals refine tc_skip ?_; ((refine hK4 ?_; try (clear hK4; clear K4)))
        all_goals refine tc_seq fun K6 hK6 => ?_; refine tc_block ?_; refine tc_seq fun K7 hK7 => ?_; refine tc_region ?_; refine tl_q (y_move rfl) rfl ?_; refine tl_q (y_move rfl) rfl ?_; refine tl_q (y_index rfl rfl (by omega) (had (by omega))) rfl ?_; ((refine tl_q (y_load1o (v := vi (l.getD i 0)) rfl (fun w' hw' => by rw [show Int.toNat (i : Int) * 1 = i from by omega]; exact hcell w' (hw'.fr (w0 := w) (S := []) (MI.m (by repeat constructor))) i (by omega))) rfl ?_))
        all_goals refine tl_q (y_move rfl) rfl ?_; refine tl_q (y_eql rfl rfl) rfl ?_; refine tl_nil ?_; ((refine hK7 ?_; try (clear hK7; clear K7)))
        all_goals (
         refine tc_cond rfl (fun hc => ?_) (fun hc => ?_)
         · try simp only [decide_eq_true_eq, decide_eq_false_iff_not, Int.not_lt, Int.not_le, Bool.not_eq_true', Bool.not_eq_false', Decidable.not_not, not_true_eq_false] at hc
           all_goals refine tc_seq fun K8 hK8 => ?_; refine tc_region ?_; refine tl_q (y_assign rfl) rfl ?_; refine tl_nil ?_; ((refine hK8 ?_; try (clear hK8; clear K8)))
           all_goals refine tc_ret ?_; (repeat (first | refine tk_then_ret ?_ | refine tk_block_ret ?_))
           all_goals (refine tk_ret rfl rfl (.cons (.tmp rfl) .nil) ?_)
           all_goals (
            first
            | (have hE : n ∈ l := by rw [← hc]; exact getD_memG (by omega)
               rw [decide_eq_true hE]
               exact fun w' hw' => ⟨rfl, hw'.fr (w0 := w) (S := []) (MI.m (by repeat constructor))⟩)
            | (have hE : ¬ n ∈ l := fun hm => by
                 obtain ⟨j, hj, hjn⟩ := List.getElem_of_mem hm
                 refine hno j (by omega) ?_
                 rw [List.getD_eq_getElem?_getD, List.getElem?_eq_getElem hj]; exact hjn
               rw [decide_eq_false hE]
               exact fun w' hw' => ⟨rfl, hw'.fr (w0 := w) (S := []) (MI.m (by repeat constructor))⟩))
         · try simp only [decide_eq_true_eq, decide_eq_false_iff_not, Int.not_lt, Int.not_le, Bool.not_eq_true', Bool.not_eq_false', Decidable.not_not, not_true_eq_false] at hc
           all_goals refine tc_skip ?_; ((refine hK6 ?_; try (clear hK6; clear K6)))
           all_goals refine tc_region ?_; refine tl_q (y_move rfl) rfl ?_; refine tl_q (y_add rfl rfl (by omega)) rfl ?_; refine tl_q (y_assign rfl) rfl ?_; refine tl_nil ?_
           all_goals (
            exact tk_round (i + 1) ⟨by omega, fun j hj => by rcases Nat.lt_succ_iff_lt_or_eq.1 hj with h | rfl; exact hno j h; exact hc⟩ (by omega) (.cons rfl (.cons rfl (.cons rfl .nil))) (fun _ h => h.subl (SB.s (by repeat constructor)) (SB.s (by repeat constructor)))))
      · try simp only [decide_eq_true_eq, decide_eq_false_iff_not, Int.not_lt, Int.not_le, Bool.not_eq_true', Bool.not_eq_false', Decidable.not_not, not_true_eq_false] at hc
        all_goals refine tc_exit ?_; ((refine hK2 ?_; try (clear hK2; clear K2)))
        all_goals refine tc_seq fun K9 hK9 => ?_; refine tc_region ?_; refine tl_q (y_assign rfl) rfl ?_; refine tl_nil ?_; ((refine hK9 ?_; try (clear hK9; clear K9)))
        all_goals refine tc_ret ?_; (repeat (first | refine tk_then_ret ?_))
        all_goals (refine tk_ret rfl rfl (.cons (.tmp rfl) .nil) ?_)
        all_goals (
         first
         | (have hE : n ∈ l := by rw [← hc]; exact getD_memG (by omega)
            rw [decide_eq_true hE]
            exact fun w' hw' => ⟨rfl, hw'.fr (w0 := w) (S := []) (MI.m (by repeat constructor))⟩)
         | (have hE : ¬ n ∈ l := fun hm => by
              obtain ⟨j, hj, hjn⟩ := List.getElem_of_mem hm
              refine hno j (by omega) ?_
              rw [List.getD_eq_getElem?_getD, List.getElem?_eq_getElem hj]; exact hjn
            rw [decide_eq_false hE]
            exact fun w' hw' => ⟨rfl, hw'.fr (w0 := w) (S := []) (MI.m (by repeat constructor))⟩))))
theorem within_v (a b : List Int) (hsub : ∀ e ∈ a, e ∈ b) (ha : a.length ≤ 4) (hb : b.length ≤ 10) (av bv : Value) (w : World) (hra : RdI w av a) (hrb : RdI w bv b) : CnV Tryz.prog 37 #[av, bv] w (.bool true) := by
  have hrb0 := hrb
  obtain ⟨ad, cp, b1, o1, rfl, had, hcell⟩ := hra.open
  refine cnv (vs := [_, _]) Tryz.func37 rfl rfl ?_
  all_goals refine tc_seq fun K1 hK1 => ?_; refine tc_region ?_; refine tl_q (y_assign rfl) rfl ?_; refine tl_nil ?_; ((refine hK1 ?_; try (clear hK1; clear K1)))
  all_goals refine tc_seq fun K2 hK2 => ?_; refine tc_seq fun K3 hK3 => ?_; refine tc_region ?_; refine tl_q (y_assign rfl) rfl ?_; refine tl_nil ?_; ((refine hK3 ?_; try (clear hK3; clear K3)))
  all_goals refine tc_block ?_
  all_goals (
   refine tc_loop (fun i : Nat => i ≤ a.length) (fun i => [(0, .slice ad a.length cp), (1, bv), (5, vi i)]) (fun _ => [(w, [])]) (fun _ => []) (fun i => a.length - i) ?_ ?_
   · exact tk_start 0 (Nat.zero_le _) (.cons rfl (.cons rfl (.cons rfl .nil))) (fun _ h => h.subl (SB.s (by repeat constructor)) (SB.s (by repeat constructor)))
   · rintro i hi
     all_goals refine tc_seq fun K4 hK4 => ?_; refine tc_seq fun K5 hK5 => ?_; refine tc_region ?_; refine tl_q (y_move rfl) rfl ?_; refine tl_q (y_move rfl) rfl ?_; refine tl_q (y_len rfl) rfl ?_; refine tl_q (y_lss rfl rfl) rfl ?_; refine tl_nil ?_; ((refine hK5 ?_; try (clear hK5; clear K5)))
     all_goals (
      refine tc_cond rfl (fun hc => ?_) (fun hc => ?_)
      · try simp only [decide_eq_true_eq, decide_eq_false_iff_not, Int.not_lt, Int.not_le, Bool.not_eq_true', Bool.not_eq_false', Decidable.not_not, not_true_eq_false] at hc
        all_goals refine tc_skip ?_; ((refine hK4 ?_; try (clear hK4; clear K4)))
        all_goals refine tc_seq fun K6 hK6 => ?_; refine tc_block ?_; refine tc_seq fun K7 hK7 => ?_; refine tc_region ?_; refine tl_q (y_move rfl) rfl ?_; refine tl_q (y_move rfl) rfl ?_; refine tl_q (y_move rfl) rfl ?_; refine tl_q (y_index rfl rfl (by omega) (had (by omega))) rfl ?_; ((refine tl_q (y_load1o (v := vi (a.getD i 0)) rfl (fun w' hw' => by rw [show Int.toNat (i : Int) * 1 = i from by omega]; exact hcell w' (hw'.fr (w0 := w) (S := []) (MI.m (by repeat constructor))) i (by omega))) rfl ?_))
        all_goals (refine tl_e (e_callV rfl (.cons rfl (.cons rfl .nil)) (fun w' hw' => by have h := lhas_c b (a.getD i 0) hb bv w' (hrb0.fr (hw'.fr (w0 := w) (S := []) (MI.m (by repeat constructor)))); rw [decide_eq_true (hsub _ (getD_memG (by omega)))] at h; exact h)) rfl (fun _ _ => ?_))
        all_goals (refine tl_q (y_not rfl) rfl ?_); refine tl_nil ?_; ((refine hK7 ?_; try (clear hK7; clear K7)))
        all_goals (
         refine tc_cond rfl (fun hc => ?_) (fun hc => ?_)
         · try simp only [decide_eq_true_eq, decide_eq_false_iff_not, Int.not_lt, Int.not_le, Bool.not_eq_true', Bool.not_eq_false', Decidable.not_not, not_true_eq_false] at hc
           all_goals ((exfalso; with_reducible exact btf hc))
         · try simp only [decide_eq_true_eq, decide_eq_false_iff_not, Int.not_lt, Int.not_le, Bool.not_eq_true', Bool.not_eq_false', Decidable.not_not, not_true_eq_false] at hc
           all_goals refine tc_skip ?_; ((refine hK6 ?_; try (clear hK6; clear K6)))
           all_goals refine tc_region ?_; refine tl_q (y_move rfl) rfl ?_; refine tl_q (y_add rfl rfl (by omega)) rfl ?_; refine tl_q (y_assign rfl) rfl ?_; refine tl_nil ?_
           all_goals (
            exact tk_round (i + 1) (by omega) (by omega) (.cons rfl (.cons rfl (.cons rfl .nil))) (fun _ h => h.subl (SB.s (by repeat constructor)) (SB.s (by repeat constructor)))))
      · try simp only [decide_eq_true_eq, decide_eq_false_iff_not, Int.not_lt, Int.not_le, Bool.not_eq_true', Bool.not_eq_false', Decidable.not_not, not_true_eq_false] at hc
        all_goals refine tc_exit ?_; ((refine hK2 ?_; try (clear hK2; clear K2)))
        all_goals refine tc_seq fun K9 hK9 => ?_; refine tc_region ?_; refine tl_q (y_assign rfl) rfl ?_; refine tl_nil ?_; ((refine hK9 ?_; try (clear hK9; clear K9)))
        all_goals refine tc_ret ?_; (repeat (first | refine tk_then_ret ?_))
        all_goals (refine tk_ret rfl rfl (.cons (.tmp rfl) .nil) ?_)
        all_goals (
         exact fun w' hw' => ⟨rfl, hw'.fr (w0 := w) (S := []) (MI.m (by repeat constructor))⟩)))
/-- Whoever can have a bottle, or have opened it, in the one sample, can so in the other one. -/
structure FewerS (x s : Smp) : Prop where
  o : ∀ k : Nat, k < s.B.toNat → ∀ e ∈ opL x k, e ∈ opL s k
  h : ∀ (k n : Nat), k < s.B.toNat → (n : Int) ≤ s.L → ∀ e ∈ hdL x k n, e ∈ hdL s k n
set_option maxHeartbeats 4000000 in
theorem fewer_v (x s : Smp) (hB : x.B = s.B) (hL : x.L = s.L) (hF : FewerS x s) (hvx : VSm x) (hvs : VSm s) (hfx : Few x) (hfs : Few s) (hcx : consF x = true) (hcs : consF s = true) (tx px gx tv pv gv : Value) (w : World) (hrx : RdSm w x tx px gx) (hrs : RdSm w s tv pv gv) :
    CnV Tryz.prog 40 #[smV x tx px gx, smV s tv pv gv] w (.bool true) := by
  have hx0 := hrx
  have hs0 := hrs
  have hb1 := hvs.b1
  have hb3 := hvs.b3
  have hl0 := hvs.l0
  have hl9 := hvs.l9
  obtain ⟨adt, cpt, _, _, rfl, _, _⟩ := hrx.st.open boE_len false
  obtain ⟨adp, cpp, _, _, rfl, _, _⟩ := hrx.ps.open psE_len pas0
  obtain ⟨adg, cpg, _, _, rfl, _, _⟩ := hrx.sg.open sgE_len sgt0
  obtain ⟨adt2, cpt2, _, _, rfl, _, _⟩ := hrs.st.open boE_len false
  obtain ⟨adp2, cpp2, _, _, rfl, _, _⟩ := hrs.ps.open psE_len pas0
  obtain ⟨adg2, cpg2, _, _, rfl, _, _⟩ := hrs.sg.open sgE_len sgt0
  refine cnv (vs := [_, _]) Tryz.func40 rfl rfl ?_
  all_goals refine tc_seq fun K1 hK1 => ?_; refine tc_region ?_; refine tl_e (e_box rfl rfl rfl) rfl (fun b2 _ => ?_); refine tl_e (e_box rfl rfl rfl) rfl (fun b3 _ => ?_); refine tl_q (y_assign rfl) rfl ?_; refine tl_nil ?_; ((refine hK1 ?_; try (clear hK1; clear K1)))
  all_goals refine tc_seq fun K2 hK2 => ?_; refine tc_seq fun K3 hK3 => ?_; refine tc_lay ([]) (SB.s .nil) (fun wl1 hl1 => ?_); refine tc_region ?_; refine tl_q (y_assign rfl) rfl ?_; refine tl_nil ?_; ((refine hK3 ?_; try (clear hK3; clear K3)))
  all_goals refine tc_block ?_
  all_goals (
   refine tc_loop (fun k : Nat => (k : Int) ≤ s.B) (fun k => [(2, ptr b2), (3, ptr b3), (5, vi k)]) (fun _ => [(wl1, []), (w, [])]) (fun _ => []) (fun k => s.B.toNat - k) ?_ ?_
   · exact tk_start 0 (by omega) (.cons rfl (.cons rfl (.cons rfl .nil))) (fun _ h => h.subl (SB.s (by repeat constructor)) (SB.s (by repeat constructor)))
   · rintro k hk
     all_goals refine tc_seq fun K4 hK4 => ?_; refine tc_seq fun K5 hK5 => ?_; refine tc_lay ([]) (SB.s .nil) (fun wl2 hl2 => ?_); refine tc_region ?_; refine tl_q (y_move rfl) rfl ?_; refine tl_q (y_field rfl) rfl ?_; refine tl_q (y_load1f rfl (hl1.at (by repeat constructor)) (MI.m (by repeat constructor)) (by simp) (by rfl)) rfl ?_; refine tl_q (y_lss rfl rfl) rfl ?_; refine tl_nil ?_; ((refine hK5 ?_; try (clear hK5; clear K5)))
     all_goals (
      refine tc_cond rfl (fun hc => ?_) (fun hc => ?_)
      · try simp only [decide_eq_true_eq, decide_eq_false_iff_not, Int.not_lt, Int.not_le, Bool.not_eq_true', Bool.not_eq_false', Decidable.not_not, not_true_eq_false] at hc
        all_goals refine tc_skip ?_; ((refine hK4 ?_; try (clear hK4; clear K4)))
        all_goals refine tc_seq fun K6 hK6 => ?_; refine tc_block ?_; refine tc_seq fun K7 hK7 => ?_; refine tc_lay ([]) (SB.s .nil) (fun wl4 hl4 => ?_); ((have hox := opE_ok hvx hcx (b := (k : Int)) (by omega); have hos := opE_ok hvs hcs (b := (k : Int)) (by omega)))
        all_goals refine tc_region ?_; refine tl_q (y_loadWf rfl (hl1.at (by repeat constructor)) (MI.m (by repeat constructor)) (by simp) (by rfl)) rfl ?_; refine tl_e (e_callX rfl (.cons rfl .nil) (fun w' hw' => lawSample_c x hfx _ _ _ w' (hx0.fr (hw'.fr (w0 := w) (S := []) (MI.m (by repeat constructor)))))) rfl (fun x4 hx4 => ?_); refine tl_q (y_move rfl) rfl ?_; refine tl_e (e_callX rfl (.cons rfl (.cons rfl .nil)) (fun w' hw' => openersK_v hox hfx _ _ _ w' (hx4.1.fr (hw'.calm hx4.2 (MI.m (by repeat constructor)) (SB.s (by repeat constructor)))))) rfl (fun y4 hy4 => ?_); refine tl_q (y_move rfl) rfl ?_; refine tl_q (y_extract rfl rfl) rfl ?_; refine tl_q (y_extract rfl rfl) rfl ?_; refine tl_q (y_assign rfl) rfl ?_; refine tl_q (y_assign rfl) rfl ?_; refine tl_nil ?_; ((refine hK7 ?_; try (clear hK7; clear K7)))
        all_goals refine tc_seq fun K8 hK8 => ?_; refine tc_lay ([]) (SB.s .nil) (fun wl5 hl5 => ?_); refine tc_region ?_; refine tl_q (y_loadWf rfl (hl1.at (by repeat constructor)) (MI.m (by repeat constructor)) (by simp) (by rfl)) rfl ?_; refine tl_e (e_callX rfl (.cons rfl .nil) (fun w' hw' => lawSample_c s hfs _ _ _ w' (hs0.fr (hw'.fr (w0 := w) (S := []) (MI.m (by repeat constructor)))))) rfl (fun x5 hx5 => ?_); refine tl_q (y_move rfl) rfl ?_; refine tl_e (e_callX rfl (.cons rfl (.cons rfl .nil)) (fun w' hw' => openersK_v hos hfs _ _ _ w' (hx5.1.fr (hw'.calm hx5.2 (MI.m (by repeat constructor)) (SB.s (by repeat constructor)))))) rfl (fun y5 hy5 => ?_); refine tl_q (y_move rfl) rfl ?_; refine tl_q (y_extract rfl rfl) rfl ?_; refine tl_q (y_extract rfl rfl) rfl ?_; refine tl_q (y_assign rfl) rfl ?_; refine tl_q (y_assign rfl) rfl ?_; refine tl_nil ?_; ((refine hK8 ?_; try (clear hK8; clear K8)))
        all_goals refine tc_seq fun K9 hK9 => ?_; refine tc_seq fun K10 hK10 => ?_; refine tc_lay ([]) (SB.s .nil) (fun wl6 hl6 => ?_); refine tc_region ?_; refine tl_q (y_move rfl) rfl ?_; refine tl_q (y_neq rfl rfl) rfl ?_; refine tl_q (y_move rfl) rfl ?_; refine tl_qg rfl rfl (y_move rfl) rfl ?_; refine tl_qg rfl rfl (y_neq rfl rfl) rfl ?_; refine tl_q (y_pick_f rfl rfl) rfl ?_; refine tl_q (y_move rfl) rfl ?_; refine tl_qg rfl rfl (y_move rfl) rfl ?_; refine tl_qg rfl rfl (y_move rfl) rfl ?_; ((refine tl_eg rfl rfl rfl (e_callV rfl (.cons rfl (.cons rfl .nil)) (fun w' hw' => within_v _ _ (hF.o k (by omega)) (opL_len hvx _) (by have := opL_len hvs (k : Int); omega) _ _ w' (hy4.1.fr (hw'.fr (w0 := y4.2) (S := []) (MI.m (by repeat constructor)))) (hy5.1.fr (hw'.fr (w0 := y5.2) (S := []) (MI.m (by repeat constructor)))))) (fun _ _ => ?_)))
        all_goals (refine tl_qg rfl rfl (y_not rfl) rfl ?_); refine tl_q (y_pick_f rfl rfl) rfl ?_; refine tl_nil ?_; ((refine hK10 ?_; try (clear hK10; clear K10)))
        all_goals (
         refine tc_cond rfl (fun hc => ?_) (fun hc => ?_)
         · try simp only [decide_eq_true_eq, decide_eq_false_iff_not, Int.not_lt, Int.not_le, Bool.not_eq_true', Bool.not_eq_false', Decidable.not_not, not_true_eq_false] at hc
           all_goals ((exfalso; with_reducible exact btf hc))
         · try simp only [decide_eq_true_eq, decide_eq_false_iff_not, Int.not_lt, Int.not_le, Bool.not_eq_true', Bool.not_eq_false', Decidable.not_not, not_true_eq_false] at hc
           all_goals refine tc_skip ?_; ((refine hK9 ?_; try (clear hK9; clear K9)))
           all_goals refine tc_seq fun K12 hK12 => ?_; refine tc_lay ([]) (SB.s .nil) (fun wl8 hl8 => ?_); refine tc_region ?_; refine tl_q (y_assign rfl) rfl ?_; refine tl_nil ?_; ((refine hK12 ?_; try (clear hK12; clear K12)))
           all_goals refine tc_block ?_
           all_goals (
            refine tc_loop (fun n : Nat => (n : Int) ≤ s.L + 1) (fun n => [(2, ptr b2), (3, ptr b3), (5, vi k), (10, vi n)]) (fun _ => [(wl1, []), (w, [])]) (fun _ => []) (fun n => (s.L + 1).toNat - n) ?_ ?_
            · exact tk_start 0 (by omega) (.cons rfl (.cons rfl (.cons rfl (.cons rfl .nil)))) (fun _ h => h.subl (SB.s (by repeat constructor)) (SB.s (by repeat constructor)))
            · rintro n hn
              all_goals refine tc_seq fun K13 hK13 => ?_; refine tc_seq fun K14 hK14 => ?_; refine tc_lay ([]) (SB.s .nil) (fun wl9 hl9 => ?_); refine tc_region ?_; refine tl_q (y_move rfl) rfl ?_; refine tl_q (y_field rfl) rfl ?_; refine tl_q (y_load1f rfl (hl1.at (by repeat constructor)) (MI.m (by repeat constructor)) (by simp) (by rfl)) rfl ?_; refine tl_q (y_leq rfl rfl) rfl ?_; refine tl_nil ?_; ((refine hK14 ?_; try (clear hK14; clear K14)))
              all_goals (
               refine tc_cond rfl (fun hc => ?_) (fun hc => ?_)
               · try simp only [decide_eq_true_eq, decide_eq_false_iff_not, Int.not_lt, Int.not_le, Bool.not_eq_true', Bool.not_eq_false', Decidable.not_not, not_true_eq_false] at hc
                 all_goals refine tc_skip ?_; ((refine hK13 ?_; try (clear hK13; clear K13)))
                 all_goals refine tc_seq fun K15 hK15 => ?_; refine tc_block ?_; refine tc_seq fun K16 hK16 => ?_; refine tc_lay ([]) (SB.s .nil) (fun wl11 hl11 => ?_); ((have hh1 := hdE_ok hvx hcx (b := (k : Int)) (h := (n : Int)) (by omega) (by omega); have hh2 := hdE_ok hvs hcs (b := (k : Int)) (h := (n : Int)) (by omega) (by omega)))
                 all_goals refine tc_region ?_; refine tl_q (y_loadWf rfl (hl1.at (by repeat constructor)) (MI.m (by repeat constructor)) (by simp) (by rfl)) rfl ?_; refine tl_e (e_callX rfl (.cons rfl .nil) (fun w' hw' => lawSample_c x hfx _ _ _ w' (hx0.fr (hw'.fr (w0 := w) (S := []) (MI.m (by repeat constructor)))))) rfl (fun x11 hx11 => ?_); refine tl_q (y_move rfl) rfl ?_; refine tl_q (y_move rfl) rfl ?_; refine tl_e (e_callX rfl (.cons rfl (.cons rfl (.cons rfl .nil))) (fun w' hw' => holdersK_v hh1 hfx _ _ _ w' (hx11.1.fr (hw'.calm hx11.2 (MI.m (by repeat constructor)) (SB.s (by repeat constructor)))))) rfl (fun y11 hy11 => ?_); refine tl_q (y_move rfl) rfl ?_; refine tl_q (y_extract rfl rfl) rfl ?_; refine tl_q (y_extract rfl rfl) rfl ?_; refine tl_q (y_assign rfl) rfl ?_; refine tl_q (y_assign rfl) rfl ?_; refine tl_nil ?_; ((refine hK16 ?_; try (clear hK16; clear K16)))
                 all_goals refine tc_seq fun K17 hK17 => ?_; refine tc_lay ([]) (SB.s .nil) (fun wl12 hl12 => ?_); refine tc_region ?_; refine tl_q (y_loadWf rfl (hl1.at (by repeat constructor)) (MI.m (by repeat constructor)) (by simp) (by rfl)) rfl ?_; refine tl_e (e_callX rfl (.cons rfl .nil) (fun w' hw' => lawSample_c s hfs _ _ _ w' (hs0.fr (hw'.fr (w0 := w) (S := []) (MI.m (by repeat constructor)))))) rfl (fun x12 hx12 => ?_); refine tl_q (y_move rfl) rfl ?_; refine tl_q (y_move rfl) rfl ?_; refine tl_e (e_callX rfl (.cons rfl (.cons rfl (.cons rfl .nil))) (fun w' hw' => holdersK_v hh2 hfs _ _ _ w' (hx12.1.fr (hw'.calm hx12.2 (MI.m (by repeat constructor)) (SB.s (by repeat constructor)))))) rfl (fun y12 hy12 => ?_); refine tl_q (y_move rfl) rfl ?_; refine tl_q (y_extract rfl rfl) rfl ?_; refine tl_q (y_extract rfl rfl) rfl ?_; refine tl_q (y_assign rfl) rfl ?_; refine tl_q (y_assign rfl) rfl ?_; refine tl_nil ?_; ((refine hK17 ?_; try (clear hK17; clear K17)))
                 all_goals refine tc_seq fun K18 hK18 => ?_; refine tc_lay ([]) (SB.s .nil) (fun wl13 hl13 => ?_); refine tc_region ?_; refine tl_q (y_move rfl) rfl ?_; refine tl_q (y_neq rfl rfl) rfl ?_; refine tl_q (y_move rfl) rfl ?_; refine tl_qg rfl rfl (y_move rfl) rfl ?_; refine tl_qg rfl rfl (y_neq rfl rfl) rfl ?_; refine tl_q (y_pick_f rfl rfl) rfl ?_; refine tl_q (y_move rfl) rfl ?_; refine tl_qg rfl rfl (y_move rfl) rfl ?_; refine tl_qg rfl rfl (y_move rfl) rfl ?_; ((refine tl_eg rfl rfl rfl (e_callV rfl (.cons rfl (.cons rfl .nil)) (fun w' hw' => within_v _ _ (hF.h k n (by omega) (by omega)) (hdL_len hvx _ _) (by have := hdL_len hvs (k : Int) (n : Int); omega) _ _ w' (hy11.1.fr (hw'.fr (w0 := y11.2) (S := []) (MI.m (by repeat constructor)))) (hy12.1.fr (hw'.fr (w0 := y12.2) (S := []) (MI.m (by repeat constructor)))))) (fun _ _ => ?_)))
                 all_goals (refine tl_qg rfl rfl (y_not rfl) rfl ?_); refine tl_q (y_pick_f rfl rfl) rfl ?_; refine tl_nil ?_; ((refine hK18 ?_; try (clear hK18; clear K18)))
                 all_goals (
                  refine tc_cond rfl (fun hc => ?_) (fun hc => ?_)
                  · try simp only [decide_eq_true_eq, decide_eq_false_iff_not, Int.not_lt, Int.not_le, Bool.not_eq_true', Bool.not_eq_false', Decidable.not_not, not_true_eq_false] at hc
                    all_goals ((exfalso; with_reducible exact btf hc))
                  · try simp only [decide_eq_true_eq, decide_eq_false_iff_not, Int.not_lt, Int.not_le, Bool.not_eq_true', Bool.not_eq_false', Decidable.not_not, not_true_eq_false] at hc
                    all_goals refine tc_skip ?_; ((refine hK15 ?_; try (clear hK15; clear K15)))
                    all_goals refine tc_lay ([]) (SB.s .nil) (fun wl10 hl10 => ?_); refine tc_region ?_; refine tl_q (y_move rfl) rfl ?_; refine tl_q (y_add rfl rfl (by omega)) rfl ?_; refine tl_q (y_assign rfl) rfl ?_; refine tl_nil ?_
                    all_goals (
                     exact tk_round (n + 1) (by omega) (by omega) (.cons rfl (.cons rfl (.cons rfl (.cons rfl .nil)))) (fun _ h => h.subl (SB.s (by repeat constructor)) (SB.s (by repeat constructor)))))
               · try simp only [decide_eq_true_eq, decide_eq_false_iff_not, Int.not_lt, Int.not_le, Bool.not_eq_true', Bool.not_eq_false', Decidable.not_not, not_true_eq_false] at hc
                 all_goals refine tc_exit ?_; ((refine hK6 ?_; try (clear hK6; clear K6)))
                 all_goals refine tc_lay ([]) (SB.s .nil) (fun wl3 hl3 => ?_); refine tc_region ?_; refine tl_q (y_move rfl) rfl ?_; refine tl_q (y_add rfl rfl (by omega)) rfl ?_; refine tl_q (y_assign rfl) rfl ?_; refine tl_nil ?_
                 all_goals (
                  exact tk_round (k + 1) (by omega) (by omega) (.cons rfl (.cons rfl (.cons rfl .nil))) (fun _ h => h.subl (SB.s (by repeat constructor)) (SB.s (by repeat constructor)))))))
      · try simp only [decide_eq_true_eq, decide_eq_false_iff_not, Int.not_lt, Int.not_le, Bool.not_eq_true', Bool.not_eq_false', Decidable.not_not, not_true_eq_false] at hc
        all_goals refine tc_exit ?_; ((refine hK2 ?_; try (clear hK2; clear K2)))
        all_goals refine tc_seq fun K20 hK20 => ?_; refine tc_lay ([]) (SB.s .nil) (fun wl15 hl15 => ?_); refine tc_region ?_; refine tl_q (y_assign rfl) rfl ?_; refine tl_nil ?_; ((refine hK20 ?_; try (clear hK20; clear K20)))
        all_goals refine tc_ret ?_; (repeat (first | refine tk_then_ret ?_))
        all_goals (refine tk_ret rfl rfl (.cons (.tmp rfl) .nil) ?_)
        all_goals (
         exact fun w' hw' => ⟨rfl, hw'.fr (w0 := w) (S := []) (MI.m (by repeat constructor))⟩)))
end Go.Sp
/-
  The sample before, and with, an entry: plainly.
-/
namespace Go.Sp
open Go Go.Proofs
/-- The first entries. -/
def fstK (s : Smp) (k : Nat) : Smp := { s with ps := s.ps.take k, sg := s.sg.take (k - s.ps.length) }
theorem VSm.fst {s : Smp} (hv : VSm s) (k : Nat) : VSm (fstK s k) := hv.sub (List.take_sublist _ _) (List.take_sublist _ _)
theorem Few.fst {s : Smp} (h : Few s) (k : Nat) : Few (fstK s k) := ⟨h.st, by have := h.ps; simp [fstK]; omega, by have := h.sg; simp [fstK]; omega⟩
end Go.Sp
/-
  The smallest set of entries, plainly.
-/
namespace Go.Sp
open Go Go.Proofs
abbrev Inc (l : List Int) : Prop := l.Pairwise (· < ·)
/-- One list is before another one at the smallest number that is in one of them alone. -/
def Dif (T L : List Int) : Prop := ∃ e, e ∈ T ∧ e ∉ L ∧ ∀ x, x < e → (x ∈ T ↔ x ∈ L)
theorem drop_cons {l : List Int} {i : Nat} (h : i < l.length) : l.drop i = l.getD i 0 :: l.drop (i + 1) := by
  rw [List.drop_eq_getElem_cons h, List.getD_eq_getElem?_getD, List.getElem?_eq_getElem h]; rfl
theorem inc_drop {l : List Int} (hl : Inc l) {i : Nat} (h : i < l.length) {z : Int} (hz : z ∈ l.drop (i + 1)) : l.getD i 0 < z := by
  have h1 : Inc (l.drop i) := hl.sublist (List.drop_sublist _ _)
  rw [drop_cons h] at h1
  exact (List.pairwise_cons.1 h1).1 z hz
theorem srchL_get {p : List Int → Bool} {own : List Int} : ∀ (m : Nat) (l : List Int) (fr : Nat) (r : List Int), srchL p own m l fr = some r → p r = true ∧ ∃ r', r = l ++ r' ∧ r'.Sublist (own.drop fr)
  | 0, l, fr, r, h => by
    unfold srchL at h
    split at h
    · rename_i hp; cases h; exact ⟨hp, [], by simp, List.nil_sublist _⟩
    · cases h
  | m + 1, l, fr, r, h => by
    rw [srchL] at h
    obtain ⟨j, hj, hr⟩ := List.exists_of_findSome?_eq_some h
    rw [List.mem_range] at hj
    obtain ⟨h1, r', rfl, h3⟩ := srchL_get m _ _ r hr
    refine ⟨h1, own.getD (fr + j) 0 :: r', by simp, ?_⟩
    have h4 : (own.drop (fr + j)).Sublist (own.drop fr) := by
      rw [← List.drop_drop]; exact List.drop_sublist _ _
    rw [drop_cons (by omega)] at h4
    exact (h3.cons_cons _).trans h4
theorem least_some {α : Type} {f : Nat → Option α} : ∀ {k : Nat}, (f k).isSome = true → ∃ j, j ≤ k ∧ (f j).isSome = true ∧ ∀ i, i < j → f i = none := by
  intro k
  induction k using Nat.strongRecOn with
  | _ k ih =>
    intro h
    by_cases hx : ∃ i, i < k ∧ (f i).isSome = true
    · obtain ⟨i, hi, hs⟩ := hx
      obtain ⟨j, h1, h2, h3⟩ := ih i hi hs
      exact ⟨j, by omega, h2, h3⟩
    · refine ⟨k, Nat.le_refl _, h, fun i hi => ?_⟩
      cases hf : f i with
      | none => rfl
      | some v => exact absurd ⟨i, hi, by rw [hf]; rfl⟩ hx
theorem sub_cons {x : Int} {t : List Int} : ∀ {l : List Int}, (x :: t).Sublist l → ∃ k, k < l.length ∧ l.getD k 0 = x ∧ t.Sublist (l.drop (k + 1))
  | [], h => by cases h
  | y :: l, h => by
    cases h with
    | cons _ h =>
      obtain ⟨k, h1, h2, h3⟩ := sub_cons h
      exact ⟨k + 1, by simpa using h1, h2, h3⟩
    | cons_cons _ h => exact ⟨0, by simp, rfl, h⟩
theorem srchL_min {p : List Int → Bool} {own : List Int} (hown : Inc own) : ∀ (m : Nat) (l : List Int) (fr : Nat) (t : List Int), t.Sublist (own.drop fr) → t.length = m → p (l ++ t) = true → ∃ r', srchL p own m l fr = some (l ++ r') ∧ ¬ Dif t r'
  | 0, l, fr, t, h1, h2, h3 => by
    obtain rfl := List.length_eq_zero_iff.1 h2
    rw [List.append_nil] at h3
    refine ⟨[], ?_, fun ⟨e, he, _⟩ => by cases he⟩
    unfold srchL
    rw [if_pos h3, List.append_nil]
  | m + 1, l, fr, [], h1, h2, h3 => by cases h2
  | m + 1, l, fr, x :: t, h1, h2, h3 => by
    obtain ⟨k, hk, hx, ht⟩ := sub_cons h1
    rw [List.length_drop] at hk
    rw [List.drop_drop, show fr + (k + 1) = fr + k + 1 from by omega] at ht
    have hx' : own.getD (fr + k) 0 = x := by rw [← hx, List.getD_eq_getElem?_getD, List.getD_eq_getElem?_getD, List.getElem?_drop]
    have htm : t.length = m := by simpa using h2
    have htl := ht.length_le
    rw [List.length_drop] at htl
    obtain ⟨r1, hr1, hd1⟩ := srchL_min hown m (l ++ [x]) (fr + k + 1) t ht htm (by rw [List.append_assoc]; exact h3)
    have hxi : Inc (x :: t) := (hown.sublist (List.drop_sublist fr own)).sublist h1
    have hxt := (List.pairwise_cons.1 hxi).1
    obtain ⟨j, hj, hs, hno⟩ := least_some (f := fun (j : Nat) => srchL p own m (l ++ [own.getD (fr + j) 0]) (fr + j + 1)) (k := k) (by rw [hx', hr1]; rfl)
    obtain ⟨r, hr⟩ := Option.isSome_iff_exists.1 hs
    have e : srchL p own (m + 1) l fr = some r := by
      rw [srchL]
      exact fs_hit (j := j) (by omega) hr hno
    rw [e]
    rcases Nat.lt_or_eq_of_le hj with hlt | rfl
    · obtain ⟨_, r', rfl, hsub⟩ := srchL_get _ _ _ _ hr
      refine ⟨own.getD (fr + j) 0 :: r', by simp, fun ⟨z, hz, hzn, hall⟩ => ?_⟩
      have hyx : own.getD (fr + j) 0 < x := by
        rw [← hx']
        refine inc_drop hown (by omega) ?_
        have : own.drop (fr + k) = (own.drop (fr + j + 1)).drop (k - j - 1) := by rw [List.drop_drop]; congr 1; omega
        refine (List.drop_sublist (k - j - 1) _).subset ?_
        rw [← this, drop_cons (by omega)]
        exact List.mem_cons_self ..
      have hzx : x ≤ z := by
        rcases List.mem_cons.1 hz with rfl | hz
        · exact Int.le_refl _
        · exact Int.le_of_lt (hxt z hz)
      have := (hall (own.getD (fr + j) 0) (by omega)).2 (List.mem_cons_self ..)
      rcases List.mem_cons.1 this with h | h
      · omega
      · have := hxt _ h; omega
    · rw [hx', hr1] at hr
      cases hr
      refine ⟨x :: r1, by simp, fun ⟨z, hz, hzn, hall⟩ => ?_⟩
      obtain ⟨_, r', he, hsub⟩ := srchL_get _ _ _ _ hr1
      obtain rfl : r1 = r' := List.append_cancel_left he
      have hxr : ∀ y ∈ r1, x < y := fun y hy => by rw [← hx']; exact inc_drop hown (by omega) (hsub.subset hy)
      have hzx : z ≠ x := fun h => hzn (by rw [h]; exact List.mem_cons_self ..)
      refine hd1 ⟨z, (List.mem_cons.1 hz).resolve_left hzx, fun h => hzn (List.mem_cons_of_mem _ h), fun y hy => ?_⟩
      have := hall y hy
      constructor
      · intro h
        refine (List.mem_cons.1 (this.1 (List.mem_cons_of_mem _ h))).resolve_left (fun g => ?_)
        have := hxt y h; omega
      · intro h
        refine (List.mem_cons.1 (this.2 (List.mem_cons_of_mem _ h))).resolve_left (fun g => ?_)
        have := hxr y h; omega
def ownE (s : Smp) (i : Nat) : Int := if i < s.ps.length then (s.ps.getD i pas0).b else (s.sg.getD (i - s.ps.length) sgt0).b
theorem entL_filt (s : Smp) (b : Int) : entL s b = ((List.range (mnyE s)).filter fun i => decide (ownE s i = b)).map fun (i : Nat) => (i : Int) := by
  show epN s b s.ps.length ++ egN s b s.sg.length = _
  unfold mnyE
  rw [List.range_add, List.filter_append, List.map_append, List.filter_map, List.map_map]
  unfold epN egN
  congr 1
  · refine congrArg _ (List.filter_congr fun i hi => ?_)
    rw [List.mem_range] at hi
    unfold ownE
    rw [if_pos hi]
  · have e : ((fun i => decide (ownE s i = b)) ∘ fun x => s.ps.length + x) = fun i => decide ((s.sg.getD i sgt0).b = b) := funext fun i => by
      show decide (ownE s (s.ps.length + i) = b) = _
      unfold ownE
      rw [if_neg (by omega), Nat.add_sub_cancel_left]
    rw [e]
    refine List.map_congr_left fun i _ => ?_
    simp
theorem range_inc : ∀ {l : List Nat}, l.Pairwise (· < ·) → Inc (l.map fun (i : Nat) => (i : Int)) := fun h => List.Pairwise.map _ (fun _ _ h => by omega) h
theorem filt_inc (n : Nat) (p : Nat → Bool) : Inc (((List.range n).filter p).map fun (i : Nat) => (i : Int)) := range_inc (List.pairwise_lt_range.sublist List.filter_sublist)
theorem entL_inc (s : Smp) (b : Int) : Inc (entL s b) := by rw [entL_filt]; exact filt_inc _ _
theorem entL_mem {s : Smp} {b e : Int} : e ∈ entL s b ↔ ∃ i : Nat, i < mnyE s ∧ ownE s i = b ∧ e = i := by
  rw [entL_filt]
  constructor
  · intro h
    obtain ⟨i, hi, rfl⟩ := List.mem_map.1 h
    obtain ⟨h1, h2⟩ := List.mem_filter.1 hi
    exact ⟨i, List.mem_range.1 h1, by simpa using h2, rfl⟩
  · rintro ⟨i, h1, h2, rfl⟩
    exact List.mem_map.2 ⟨i, List.mem_filter.2 ⟨List.mem_range.2 h1, by simpa using h2⟩, rfl⟩
theorem lvF_min (s : Smp) (b : Int) : possF (wthF s (lvF s b)) b = true ∧ (lvF s b).Sublist (entL s b) ∧ ∀ t : List Int, t.Sublist (entL s b) → possF (wthF s t) b = true → (lvF s b).length ≤ t.length ∧ (t.length = (lvF s b).length → ¬ Dif t (lvF s b)) := by
  obtain ⟨j, hj, hs, hno⟩ := least_some (f := fun (n : Nat) => srchL (wpB s b) (entL s b) n [] 0) (k := (entL s b).length) (by rw [srchL_own]; rfl)
  obtain ⟨r, hr⟩ := Option.isSome_iff_exists.1 hs
  have e : lvF s b = r := by
    unfold lvF
    rw [fs_hit (j := j) (by omega) hr hno]; rfl
  rw [e]
  obtain ⟨h1, r', h2, h3⟩ := srchL_get _ _ _ _ hr
  rw [List.nil_append] at h2
  subst h2
  have hl : r.length = j := by have := srchL_len _ _ _ _ hr; simpa using this
  refine ⟨h1, h3, fun t ht hp => ?_⟩
  obtain ⟨r', h4, h5⟩ := srchL_min (p := wpB s b) (entL_inc s b) t.length [] 0 t ht rfl hp
  refine ⟨?_, fun heq => ?_⟩
  · rw [hl]
    refine Nat.le_of_not_lt fun hlt => ?_
    rw [hno _ hlt] at h4; cases h4
  · rw [heq, hl, hr] at h4
    cases h4; exact h5
theorem lvF_own {s : Smp} {b e : Int} (h : e ∈ lvF s b) : ∃ i : Nat, i < mnyE s ∧ ownE s i = b ∧ e = i := entL_mem.1 ((lvF_min s b).2.1.subset h)
theorem lvN_mem {s : Smp} {n : Nat} {e : Int} : e ∈ lvN s n ↔ ∃ b : Nat, b < n ∧ e ∈ lvF s (b : Int) := by
  unfold lvN
  rw [List.mem_flatMap]
  exact ⟨fun ⟨b, h1, h2⟩ => ⟨b, List.mem_range.1 h1, h2⟩, fun ⟨b, h1, h2⟩ => ⟨b, List.mem_range.2 h1, h2⟩⟩
theorem lvN_nd (s : Smp) : ∀ n, (lvN s n).Nodup
  | 0 => by simp [lvN]
  | n + 1 => by
    rw [lvN_succ]
    refine List.nodup_append.2 ⟨lvN_nd s n, ?_, fun a ha b hb => ?_⟩
    · exact (List.Pairwise.imp (fun h => Int.ne_of_lt h) (entL_inc s n)).sublist (lvF_min s n).2.1
    · obtain ⟨k, hk, hm⟩ := lvN_mem.1 ha
      obtain ⟨i, _, hi, rfl⟩ := lvF_own hm
      obtain ⟨i', _, hi', rfl⟩ := lvF_own hb
      intro h
      obtain rfl : i = i' := by omega
      omega
theorem levL_v {s : Smp} (hv : VSm s) : levL s = (lvN s s.B.toNat).mergeSort fun x y => decide (x ≤ y) := by
  unfold levL lvS
  rw [if_pos (chkS_0.2 hv)]
theorem levL_mem {s : Smp} (hv : VSm s) {e : Int} : e ∈ levL s ↔ ∃ b : Nat, b < s.B.toNat ∧ e ∈ lvF s (b : Int) := by
  rw [levL_v hv, List.mem_mergeSort]; exact lvN_mem
theorem levL_len {s : Smp} (hv : VSm s) : (levL s).length = (lvN s s.B.toNat).length := by rw [levL_v hv, List.length_mergeSort]
theorem levL_inc {s : Smp} (hv : VSm s) : Inc (levL s) := by
  rw [levL_v hv]
  have h1 : ((lvN s s.B.toNat).mergeSort fun x y => decide (x ≤ y)).Pairwise fun x y => decide (x ≤ y) = true :=
    List.pairwise_mergeSort (fun a b c h1 h2 => by simp at *; omega) (fun a b => by simp; omega) _
  have h2 : ((lvN s s.B.toNat).mergeSort fun x y => decide (x ≤ y)).Nodup := (List.mergeSort_perm _ _).nodup_iff.2 (lvN_nd s _)
  exact (h1.and h2).imp fun ⟨h, hn⟩ => by
    have : _ := of_decide_eq_true h
    omega
theorem levL_in {s : Smp} (hv : VSm s) {e : Int} (h : e ∈ levL s) : 0 ≤ e ∧ e < mnyE s := by
  obtain ⟨b, _, hm⟩ := (levL_mem hv).1 h
  obtain ⟨i, hi, _, rfl⟩ := lvF_own hm
  omega
end Go.Sp
/-
  Samples that allow more: what is returned of them, plainly.
-/
namespace Go.Sp
open Go Go.Proofs
/-- Whatever can be done with a bottle in the one sample can be done in the other one. -/
structure SubB (s s' : Smp) (b : Int) : Prop where
  L : s.L = s'.L
  st : ∀ c h, stB s c h = true → stB s' c h = true
  seen : ∀ h x, seenB s b h x = true → seenB s' b h x = true
  ch : ∀ c, c ∈ chainsL s b → c ∈ chainsL s' b
theorem actIs_mono {x st st' : Bool} (h : st = true → st' = true) {n : Nat} (hi : actIs x st n = true) : actIs x st' n = true := by
  match n with
  | 0 => rfl
  | 1 => exact hi
  | 2 =>
    have h1 : (x && st) = true := hi
    rw [Bool.and_eq_true] at h1
    show (x && st') = true
    rw [h1.1, h h1.2]; rfl
  | n + 3 =>
    have h1 : (!x && st) = true := hi
    rw [Bool.and_eq_true] at h1
    show (!x && st') = true
    rw [h1.1, h h1.2]; rfl
theorem SubB.step {s s' : Smp} {b : Int} (h : SubB s s' b) {c : List Int} {hr : Int} {x : Bool} {z : Bool × Int} (hz : z ∈ stepL s b hr (stB s c hr) x) : z ∈ stepL s' b hr (stB s' c hr) x := by
  obtain ⟨n, h1, ⟨h2, h3⟩, rfl⟩ := mem_stepL.1 hz
  exact mem_stepL.2 ⟨n, h1, ⟨actIs_mono (h.st c hr) h2, h.seen _ _ h3⟩, rfl⟩
theorem SubB.run {s s' : Smp} {b : Int} (h : SubB s s' b) {c : List Int} : ∀ {k : Nat} {x : Bool} {l : List (Bool × Int)}, RunF s b c k x l → RunF s' b c k x l
  | 0, _, _, hl => hl
  | k + 1, _, _, ⟨z, t, hl, hz, ht⟩ => ⟨z, t, hl, by rw [← h.L]; exact h.step hz, SubB.run h ht⟩
theorem SubB.can {s s' : Smp} {b : Int} (h : SubB s s' b) {c : List Int} (hc : canF s b c = true) : canF s' b c = true := by
  unfold canF at hc ⊢
  rw [← h.L]
  obtain ⟨l, hl⟩ := rst_run.1 hc
  exact rst_run.2 ⟨l, h.run hl⟩
theorem SubB.poss {s s' : Smp} {b : Int} (h : SubB s s' b) (hp : possF s b = true) : possF s' b = true := by
  unfold possF at hp ⊢
  obtain ⟨c, h1, h2⟩ := List.any_eq_true.1 hp
  exact List.any_eq_true.2 ⟨c, h.ch c h1, h.can h2⟩
theorem SubB.opn {s s' : Smp} {b : Int} (h : SubB s s' b) {c : List Int} (hc : canF s b c = true) {n : Nat} (hn : (n : Int) ≤ s.L) (ho : opnH s b c n = true) : opnH s' b c n = true := by
  obtain ⟨l, h1, h2⟩ := (opn_run hc hn).1 ho
  have := h.run h1
  rw [h.L] at this
  exact (opn_run (h.can hc) (by rw [← h.L]; exact hn)).2 ⟨l, this, h2⟩
theorem SubB.opL {s s' : Smp} {b : Int} (h : SubB s s' b) (hv : VSm s) (hv' : VSm s') (he : opE s b = 0) (he' : opE s' b = 0) : ∀ e ∈ opL s b, e ∈ opL s' b := fun e hm => by
  obtain ⟨c, h1, h2, n, h3, h4, h5⟩ := (opL_mem hv he).1 hm
  exact (opL_mem hv' he').2 ⟨c, h.ch c h1, h.can h2, n, by rw [← h.L]; exact h3, h4, h.opn h2 h3 h5⟩
theorem SubB.hdL {s s' : Smp} {b : Int} (h : SubB s s' b) (hv : VSm s) (hv' : VSm s') {n : Nat} (hn : (n : Int) ≤ s.L) (he : hdE s b n = 0) (he' : hdE s' b n = 0) : ∀ e ∈ hdL s b n, e ∈ hdL s' b n := fun e hm => by
  obtain ⟨c, h1, h2, h3⟩ := (hdL_mem hv hn he).1 hm
  exact (hdL_mem hv' (by rw [← h.L]; exact hn) he').2 ⟨c, h.ch c h1, h.can h2, h3⟩
theorem SubB.fewer {s s' : Smp} (h : ∀ b : Int, SubB s s' b) (hB : s.B = s'.B) (hv : VSm s) (hv' : VSm s') (hc : consF s = true) : consF s' = true ∧ FewerS s s' := by
  have hc' : consF s' = true := consF_yes fun k hk => (h k).poss (cons_poss hc (by rw [hB]; exact hk))
  have hb1 := hv.b1
  refine ⟨hc', ⟨fun k hk => (h k).opL hv hv' (opE_ok hv hc (by omega)) (opE_ok hv' hc' (by omega)), fun k n hk hn => ?_⟩⟩
  have hL := (h k).L
  exact (h k).hdL hv hv' (by omega) (hdE_ok hv hc (by omega) (by omega)) (hdE_ok hv' hc' (by omega) (by omega))
theorem chains_iff {s : Smp} (hp : ∀ p ∈ s.ps, p.lo ≤ p.hi) {b : Int} (c : List Int) : c ∈ chainsL s b ↔ ∃ hs q, InR s.ps hs ∧ chN s b hs (s.L + 1).toNat = some q ∧ padC q.1 = c := by
  have hz : c ∈ chainsL s b ↔ ∃ z ∈ zAll b s.ps, zchF s.L s.F b z = some c := by
    show c ∈ ddC s b (timesL s b) ↔ _
    rw [ddC_mem]
    unfold zAll timesL
    constructor
    · rintro ⟨ts, h1, h2⟩
      refine ⟨_, List.mem_map.2 ⟨ts, h1, rfl⟩, ?_⟩
      rw [← chF_z (genT_len b s.ps [] ts h1 |>.trans (by simp))]; exact h2
    · rintro ⟨z, h1, h2⟩
      obtain ⟨ts, h3, rfl⟩ := List.mem_map.1 h1
      exact ⟨ts, h3, by rw [chF_z (genT_len b s.ps [] ts h3 |>.trans (by simp))]; exact h2⟩
  rw [hz]
  constructor
  · rintro ⟨z, h3, h4⟩
    obtain ⟨hs, h5, rfl⟩ := zAll_ex hp h3
    unfold zchF at h4
    rw [← chN_z s b hs h5.len] at h4
    obtain ⟨q, h6, h7⟩ := Option.map_eq_some_iff.1 h4
    exact ⟨hs, q, h5, h6, h7⟩
  · rintro ⟨hs, q, h1, h2, rfl⟩
    refine ⟨zOwn b s.ps hs, zOwn_in h1, ?_⟩
    unfold zchF
    rw [← chN_z s b hs h1.len, h2]; rfl
end Go.Sp
/-
  Wider ranges of passes, and more stamps, plainly.
-/
namespace Go.Sp
open Go Go.Proofs
/-- A pass with a range that is as wide, or wider. -/
def Wid (p p' : Pas) : Prop := (p.b = p'.b ∧ p.fr = p'.fr ∧ p.to = p'.to) ∧ p'.lo ≤ p.lo ∧ p.hi ≤ p'.hi
def WidL : List Pas → List Pas → Prop
  | [], l => l = []
  | p :: ps, l => ∃ p' ps', l = p' :: ps' ∧ Wid p p' ∧ WidL ps ps'
theorem WidL.len : ∀ {l l' : List Pas}, WidL l l' → l.length = l'.length
  | [], _, h => by obtain rfl := h; rfl
  | p :: ps, _, ⟨p', ps', h, _, h2⟩ => by subst h; simp [WidL.len h2]
theorem WidL.get : ∀ {l l' : List Pas}, WidL l l' → ∀ i, i < l.length → Wid (l.getD i pas0) (l'.getD i pas0)
  | [], _, _, i, hi => absurd hi (Nat.not_lt_zero i)
  | p :: ps, _, ⟨p', ps', h, h1, h2⟩, i, hi => by
    subst h
    cases i with
    | zero => exact h1
    | succ i => exact WidL.get h2 i (by simpa using hi)
theorem WidL.of {l l' : List Pas} (hl : l.length = l'.length) (h : ∀ i, i < l.length → Wid (l.getD i pas0) (l'.getD i pas0)) : WidL l l' := by
  induction l generalizing l' with
  | nil => exact List.length_eq_zero_iff.1 hl.symm
  | cons p ps ih =>
    cases l' with
    | nil => cases hl
    | cons p' ps' => exact ⟨p', ps', rfl, h 0 (by simp), ih (by simpa using hl) fun i hi => h (i + 1) (by simpa using hi)⟩
theorem WidL.map {f g : Nat → Pas} : ∀ {l : List Nat}, (∀ i ∈ l, Wid (f i) (g i)) → WidL (l.map f) (l.map g)
  | [], _ => rfl
  | i :: l, h => ⟨g i, l.map g, rfl, h i (List.mem_cons_self ..), WidL.map fun j hj => h j (List.mem_cons_of_mem _ hj)⟩
theorem WidL.inR : ∀ {ps ps' : List Pas} {hs : List Int}, WidL ps ps' → InR ps hs → InR ps' hs
  | [], _, _, h, hi => by obtain rfl := h; exact hi
  | p :: ps, _, _, ⟨p', ps', h, h1, h2⟩, ⟨a, t, ha, hb, hi⟩ => by
    subst h
    exact ⟨a, t, ha, ⟨Int.le_trans h1.2.1 hb.1, Int.le_trans hb.2 h1.2.2⟩, WidL.inR h2 hi⟩
/-- A sample that allows as much, or more. -/
structure WidS (s s' : Smp) : Prop where
  B : s.B = s'.B
  P : s.P = s'.P
  L : s.L = s'.L
  F : s.F = s'.F
  sg : s.sg = s'.sg
  ps : WidL s.ps s'.ps
  st : ∀ i, s.st.getD i false = true → s'.st.getD i false = true
theorem WidS.pas {s s' : Smp} (h : WidS s s') (b : Int) (ts : List Int) (hr a0 : Int) : ∀ n, n ≤ s.ps.length → pasN s b ts hr a0 n = pasN s' b ts hr a0 n
  | 0, _ => rfl
  | n + 1, hn => by
    have hw := (h.ps.get n (by omega)).1
    rw [pasN, pasN, WidS.pas h b ts hr a0 n (by omega), hw.1, hw.2.1, hw.2.2]
theorem WidS.chn {s s' : Smp} (h : WidS s s') (b : Int) (ts : List Int) : ∀ n, chN s b ts n = chN s' b ts n
  | 0 => by rw [chN, chN, h.F]
  | n + 1 => by
    rw [chN, chN, WidS.chn h b ts n]
    cases chN s' b ts n with
    | none => rfl
    | some q =>
      obtain ⟨c, a⟩ := q
      simp only
      rw [h.pas b ts n a _ (Nat.le_refl _), h.ps.len]
theorem WidS.sub {s s' : Smp} (h : WidS s s') (hp : ∀ p ∈ s.ps, p.lo ≤ p.hi) (hp' : ∀ p ∈ s'.ps, p.lo ≤ p.hi) (b : Int) : SubB s s' b := by
  refine ⟨h.L, fun c hr hs => h.st _ hs, fun hr x hs => ?_, fun c hc => ?_⟩
  · unfold seenB at hs ⊢
    rw [← h.sg]; exact hs
  · obtain ⟨hs, q, h1, h2, h3⟩ := (chains_iff hp c).1 hc
    exact (chains_iff hp' c).2 ⟨hs, q, h.ps.inR h1, by rw [← h.L, ← h.chn]; exact h2, h3⟩
theorem WidS.wth {s s' : Smp} (h : WidS s s') (t : List Int) : WidS (wthF s t) (wthF s' t) := by
  refine ⟨h.B, h.P, h.L, h.F, ?_, ?_, h.st⟩
  · show wgN s t s.sg.length = wgN s' t s'.sg.length
    unfold wgN
    rw [h.sg, h.ps.len]
  · show WidL (wpN s t s.ps.length) (wpN s' t s'.ps.length)
    rw [← h.ps.len]
    unfold wpN
    exact WidL.map fun i hi => h.ps.get i (List.mem_range.1 (List.mem_filter.1 hi).1)
theorem WidS.ent {s s' : Smp} (h : WidS s s') (b : Int) : entL s b = entL s' b := by
  show epN s b s.ps.length ++ egN s b s.sg.length = epN s' b s'.ps.length ++ egN s' b s'.sg.length
  have e1 : epN s b s.ps.length = epN s' b s'.ps.length := by
    unfold epN
    rw [← h.ps.len]
    refine congrArg _ (List.filter_congr fun i hi => ?_)
    rw [(h.ps.get i (List.mem_range.1 hi)).1.1]
  have e2 : egN s b s.sg.length = egN s' b s'.sg.length := by
    unfold egN
    rw [h.sg, h.ps.len]
  rw [e1, e2]
theorem wth_le {s : Smp} (hp : ∀ p ∈ s.ps, p.lo ≤ p.hi) (t : List Int) : ∀ p ∈ (wthF s t).ps, p.lo ≤ p.hi := fun p hm => hp p ((filt_sub s.ps pas0 _).subset hm)
theorem WidS.lv {s s' : Smp} (h : WidS s s') (hp : ∀ p ∈ s.ps, p.lo ≤ p.hi) (hp' : ∀ p ∈ s'.ps, p.lo ≤ p.hi) (b : Int) : (lvF s' b).length ≤ (lvF s b).length := by
  obtain ⟨h1, h2, _⟩ := lvF_min s b
  refine ((lvF_min s' b).2.2 (lvF s b) (by rw [← h.ent]; exact h2) ?_).1
  exact ((h.wth (lvF s b)).sub (wth_le hp _) (wth_le hp' _) b).poss h1
theorem lvN_len2 (s : Smp) (n : Nat) : (lvN s (n + 1)).length = (lvN s n).length + (lvF s (n : Int)).length := by rw [lvN_succ, List.length_append]
theorem WidS.lev {s s' : Smp} (h : WidS s s') (hv : VSm s) (hv' : VSm s') : (levL s').length ≤ (levL s).length := by
  rw [levL_len hv, levL_len hv', ← h.B]
  generalize s.B.toNat = n
  induction n with
  | zero => exact Nat.le_refl _
  | succ n ih =>
    rw [lvN_len2, lvN_len2]
    exact Nat.add_le_add ih (h.lv hv.ple hv'.ple n)
theorem WidS.few {s s' : Smp} (h : WidS s s') (hf : Few s) (hst : s'.st.length = s.st.length) : Few s' := ⟨by rw [hst]; exact hf.st, by rw [← h.ps.len]; exact hf.ps, by rw [← h.sg]; exact hf.sg⟩
def widP (s : Smp) (i : Nat) (lo hi : Int) : Smp := { s with ps := s.ps.set i { s.ps.getD i pas0 with lo := lo, hi := hi } }
def stpS (s : Smp) (i : Nat) : Smp := { s with st := s.st.set i true }
theorem getD_setP {l : List Pas} {i j : Nat} {v : Pas} : (l.set i v).getD j pas0 = if i = j ∧ i < l.length then v else l.getD j pas0 := by
  rw [List.getD_eq_getElem?_getD, List.getD_eq_getElem?_getD, List.getElem?_set]
  by_cases h : i = j
  · subst h
    by_cases hl : i < l.length
    · rw [if_pos rfl, if_pos hl, if_pos ⟨rfl, hl⟩]; rfl
    · rw [if_pos rfl, if_neg hl, if_neg (fun g => hl g.2), List.getElem?_eq_none (by omega)]
  · rw [if_neg h, if_neg (fun g => h g.1)]
theorem Wid.refl (p : Pas) : Wid p p := ⟨⟨rfl, rfl, rfl⟩, Int.le_refl _, Int.le_refl _⟩
theorem WidS.refl (s : Smp) : WidS s s := ⟨rfl, rfl, rfl, rfl, rfl, WidL.of rfl fun i _ => Wid.refl _, fun _ h => h⟩
theorem widP_wid (s : Smp) (i : Nat) {lo hi : Int} (hlo : lo ≤ (s.ps.getD i pas0).lo) (hhi : (s.ps.getD i pas0).hi ≤ hi) : WidS s (widP s i lo hi) := by
  refine ⟨rfl, rfl, rfl, rfl, rfl, WidL.of (by simp [widP]) fun j hj => ?_, fun _ h => h⟩
  show Wid _ ((s.ps.set i _).getD j pas0)
  rw [getD_setP]
  split
  · rename_i h
    obtain ⟨rfl, _⟩ := h
    exact ⟨⟨rfl, rfl, rfl⟩, hlo, hhi⟩
  · exact Wid.refl _
theorem stpS_wid {s s' : Smp} (h : WidS s s') (i : Nat) : WidS s (stpS s' i) := by
  refine ⟨h.B, h.P, h.L, h.F, h.sg, h.ps, fun j hj => ?_⟩
  have h1 := h.st j hj
  show (s'.st.set i true).getD j false = true
  rw [List.getD_eq_getElem?_getD, List.getElem?_set]
  split
  · split
    · rfl
    · rename_i h2 h3
      subst h2
      rw [List.getD_eq_getElem?_getD, List.getElem?_eq_none (by omega)] at h1
      cases h1
  · rw [← List.getD_eq_getElem?_getD]; exact h1
end Go.Sp
/-
  Appending to an own slice what another one holds, of any length.
-/
namespace Go.Sp
open Go Go.Proofs
theorem e_append_big {P : Program} {N : NN} {F : List (Nat × Value)} {bs : List (World × List Nat)} {H : List (Nat × Obj)} {ty : TypeId} {pos : String} {after : Array Edge} {g : Option (Nat × Bool)} {dd : Tmp} {t e : TypeId} {sz by_ : Nat} [hs : TySlice P t e sz] [hi : TyElem P e sz by_] {x y : Operand} {b len cap : Nat} {old junk : List Value} {H' : List (Nat × Obj)} {xv : Value} {n : Nat} {vs : List Value} (hd : Nat.blt dd N.n = true)
    (hx : evalO F x = some (.slice (some ⟨b, 0, none⟩) len cap)) (hy : evalO F y = some xv) (hdel : HD b (.cells (old ++ junk).toArray e (0, 0)) H H') (hlen : old.length = len * sz) (hcap : junk.length = (cap - len) * sz) (hlc : len ≤ cap)
    (hr : ∀ w, HG bs H w → Reads w xv sz n vs) (h1 : one' vs) (hsm : len + n ≤ 9223372036854775807) (hby : (len + n) * by_ ≤ 140737488355328) :
    OpE P ⟨some dd, .call ⟨.builtin .append, #[x, y], #[t, t]⟩, ty, pos, after, g⟩ N F bs H (fun r : Nat × Nat × List Value => len + n ≤ r.2.1 ∧ r.2.2.length = (r.2.1 - (len + n)) * sz) (fun r => (dd, .slice (some ⟨r.1, 0, none⟩) (len + n) r.2.1) :: F) (fun _ => bs)
      (fun r => (r.1, .cells (old ++ vs ++ r.2.2).toArray e (0, 0)) :: H') := by
  unfold OpE
  intro a w ht hw K Q hK
  obtain ⟨i, z, h1', h2, h3, h4, h5⟩ := hi.info
  have hb := hw.heap _ hdel.mem
  have hsrc : Src P i.size t xv n vs w := by rw [h3]; exact (hr w hw).src h1
  have hvl : vs.length = n * sz := (hr w hw).1
  unfold Oper.wp
  simp only [execOp, resolve, invoke, builtin, Sem.run_bind, Sem.run_pure, Result.andThen, List.map_toArray, List.map_cons, List.map_nil, ht.eval hx, ht.eval hy]
  by_cases hroom : len + n ≤ cap
  · have hsz : (old ++ junk).length = cap * sz := by
      rw [List.length_append, hlen, hcap, ← Nat.add_mul]; congr 1; omega
    have hle : len * sz + n * sz ≤ cap * sz := by rw [← Nat.add_mul]; exact Nat.mul_le_mul_right _ hroom
    obtain ⟨w', c', k1, k2, k3, k4, k5, k6, k7⟩ := storeCells_at (P := P) (b := b) (o := len * sz) (e := e) vs 0 w (old ++ junk).toArray hb (by simp only [List.size_toArray, hsz, hvl]; omega) h1
    have hlt : ∀ j, j < vs.length → len * sz + j < (old ++ junk).length := fun j hj => by rw [hsz]; omega
    have hcc : ∀ j, j < vs.length → (w.cell? ⟨b, 0 + len * i.size + j, none⟩).isSome = true := fun j hj => by
      have := hlt j hj
      simp only [World.cell?, hb, h3, Nat.zero_add]
      simp
      simpa using this
    have hff : ∀ j, j < vs.length → w.frozen? ⟨b, 0 + len * i.size + j, none⟩ = false := fun j hj => by simp [World.frozen?, hb]
    have hrun := run_append_room_src (P := P) w t t ty e i hs.ty h1' b 0 len cap xv n vs hsrc hroom hcc hff
    have hst := run_storeCells_cells (P := P) b (0 + len * i.size) vs 0 w (by simpa using hcc) (by simpa using hff) h1
    simp only [Nat.add_zero, Nat.zero_add, h3] at hst hrun
    rw [k1] at hst
    obtain rfl : w' = w.setCells b (len * sz) vs := by injection hst
    rw [hrun]
    simp only [Sem.run_pure, Result.andThen, Oper.upon]
    have hcells : c' = (old ++ vs ++ junk.drop (n * sz)).toArray := by
      apply Array.ext_getElem?
      intro k
      rw [k7 k]
      simp only [Nat.add_zero, List.getElem?_toArray]
      by_cases hk : len * sz ≤ k ∧ k < len * sz + vs.length
      · rw [if_pos hk, List.append_assoc, List.getElem?_append_right (by omega), List.getElem?_append_left (by omega), hlen]
      · rw [if_neg hk]
        by_cases hk' : k < len * sz
        · rw [List.getElem?_append_left (by omega), List.append_assoc, List.getElem?_append_left (by omega)]
        · rw [List.getElem?_append_right (by omega), List.getElem?_append_right (by simp only [List.length_append]; omega), List.getElem?_drop]
          congr 1
          simp only [List.length_append]
          omega
    subst hcells
    have hhg : HG bs ((b, .cells (old ++ vs ++ junk.drop (n * sz)).toArray e (0, 0)) :: H') (w.setCells b (len * sz) vs) :=
      (hw.perm hdel.perm).set .head ⟨k2, k3, k4, k5⟩
    refine hK (b, cap, junk.drop (n * sz)) _ _ ⟨hroom, ?_⟩ (ht.put hd _) hhg
    simp only [List.length_drop, hcap]
    rw [← Nat.sub_mul]; congr 1; omega
  · have hrun := run_append_grow_src (P := P) w t t ty e i z hs.ty h1' h2 (some ⟨b, 0, none⟩) len cap old (by
      rw [h3]
      refine firstCells_run (w := w.drew) ⟨hlen, _, _, rfl, fun hne => ⟨b, 0, rfl, ?_⟩⟩
      have hca := CA_pre old junk e (0, 0)
      rw [hlen] at hca
      exact hca.cells hb) xv n vs hsrc (by omega) (by omega) (by rw [h4]; exact growslice_fits (by omega) hby)
    rw [hrun]
    simp only [Sem.run_pure, Result.andThen, Oper.upon]
    have hcells : (old ++ vs).toArray ++ Builtin.zeroCells z.cells (grownCap w (len + n) cap e - (len + n)) = (old ++ vs ++ (Builtin.zeroCells z.cells (grownCap w (len + n) cap e - (len + n))).toList).toArray := by apply Array.ext'; simp
    rw [hcells]
    refine hK (w.heap.size, grownCap w (len + n) cap e, (Builtin.zeroCells z.cells (grownCap w (len + n) cap e - (len + n))).toList) _ _ ⟨?_, ?_⟩ (ht.put hd _) ((hw.sub (fun _ h => h) hdel.sub).drew.alloc _)
    · simp [grownCap, Question.cut]
    · simp [Builtin.zeroCells, h5]
end Go.Sp
/-
  SampleWider, walked.
-/
namespace Go.Sp
open Go Go.Proofs
theorem pz_cell {L : List Pas} {junk : List Value} {i : Nat} (hi : i < L.length) : (([] ++ L.flatMap psE ++ junk).toArray : Array Value)[0 + i * 5 + 3 + 0]? = some (vi (L.getD i pas0).lo) ∧ (([] ++ L.flatMap psE ++ junk).toArray : Array Value)[0 + i * 5 + 3 + 1]? = some (vi (L.getD i pas0).hi) := by
  have hlen := flatS_len psE_len L
  have h3 := flatS_get psE_len pas0 L i 3 hi (by omega)
  have h4 := flatS_get psE_len pas0 L i 4 hi (by omega)
  rw [List.nil_append, List.getElem?_toArray, List.getElem?_toArray, List.getElem?_append_left (by omega), List.getElem?_append_left (by omega), Nat.zero_add, show i * 5 + 3 + 0 = i * 5 + 3 from rfl, show i * 5 + 3 + 1 = i * 5 + 4 from rfl, h3, h4]
  exact ⟨rfl, rfl⟩
theorem pz_set {junk : List Value} (a b : Int) : ∀ {L : List Pas} {i : Nat}, i < L.length → ((L.flatMap psE ++ junk).set (i * 5 + 3) (vi a)).set (i * 5 + 4) (vi b) = (L.set i { L.getD i pas0 with lo := a, hi := b }).flatMap psE ++ junk
  | [], i, h => absurd h (Nat.not_lt_zero i)
  | p :: L, 0, _ => rfl
  | p :: L, i + 1, h => by
    have := pz_set (junk := junk) a b (L := L) (i := i) (by simpa using h)
    rw [show (i + 1) * 5 + 3 = (i * 5 + 3) + 5 from by omega, show (i + 1) * 5 + 4 = (i * 5 + 4) + 5 from by omega]
    show vi p.b :: vi p.fr :: vi p.to :: vi p.lo :: vi p.hi :: (((L.flatMap psE ++ junk).set (i * 5 + 3) (vi a)).set (i * 5 + 4) (vi b)) = vi p.b :: vi p.fr :: vi p.to :: vi p.lo :: vi p.hi :: ((L.set i { L.getD i pas0 with lo := a, hi := b }).flatMap psE ++ junk)
    rw [this]
theorem bz_set {junk : List Value} : ∀ {L : List Bool} {i : Nat}, i < L.length → (L.flatMap boE ++ junk).set i (.bool true) = (L.set i true).flatMap boE ++ junk
  | [], i, h => absurd h (Nat.not_lt_zero i)
  | p :: L, 0, _ => rfl
  | p :: L, i + 1, h => by
    have := bz_set (junk := junk) (L := L) (i := i) (by simpa using h)
    show Value.bool p :: ((L.flatMap boE ++ junk).set i (.bool true)) = Value.bool p :: ((L.set i true).flatMap boE ++ junk)
    rw [this]
theorem flatE_oneW {α : Type} {enc : α → List Value} (h : ∀ x, one' (enc x)) (xs : List α) : one' (xs.flatMap enc) := fun u hu => by
  obtain ⟨x, _, hx⟩ := List.mem_flatMap.1 hu
  exact h x u hx
theorem leaveW_c {s : Smp} (hv : VSm s) (hf : Few s) (tv pv gv : Value) (w : World) (hr : RdSm w s tv pv gv) :
    CnX Tryz.prog 31 #[smV s tv pv gv] w [] (fun y : Option Addr × Nat => .tuple #[slV (levL s).length y, vi 0]) (fun y w' => RdI w' (slV (levL s).length y) (levL s)) := by
  have h := leaveAll_c s hf tv pv gv w hr
  rw [chkS_0.2 hv] at h
  exact h
theorem inc_lenW : ∀ {L : List Int} {lo M : Int}, Inc L → (∀ e ∈ L, lo ≤ e ∧ e < M) → lo ≤ M → (L.length : Int) ≤ M - lo
  | [], lo, M, _, _, h => by simp; omega
  | a :: L, lo, M, hi, hl, h => by
    obtain ⟨h1, h2⟩ := List.pairwise_cons.1 hi
    have ha := hl a (List.mem_cons_self ..)
    have := inc_lenW (lo := a + 1) (M := M) h2 (fun e he => ⟨by have := h1 e he; omega, (hl e (List.mem_cons_of_mem _ he)).2⟩) (by omega)
    rw [List.length_cons]; omega
theorem levL_len12 {s : Smp} (hv : VSm s) : (levL s).length ≤ 12 := by
  have h1 := hv.n6
  have h2 := hv.g6
  have := inc_lenW (levL_inc hv) (fun e he => levL_in hv he) (by omega)
  unfold mnyE at this; omega
/-- What the law has made of the sample so far. -/
structure WidQ (s x : Smp) : Prop where
  w : WidS s x
  st : x.st.length = s.st.length
theorem WidQ.few {s x : Smp} (h : WidQ s x) (hf : Few s) : Few x := h.w.few hf h.st
set_option maxHeartbeats 8000000 in
theorem swider_c (s : Smp) (n1 n2 n3 : Int) (w1 : 0 ≤ n1 ∧ n1 ≤ 255) (w2 : 0 ≤ n2 ∧ n2 ≤ 255) (w3 : 0 ≤ n3 ∧ n3 ≤ 255) (tv pv gv : Value) (w : World) (hr : RdSm w s tv pv gv) :
    CnV Tryz.prog 10 #[smV s tv pv gv, .int .u8 n1, .int .u8 n2, .int .u8 n3] w (.bool true) := by
  have hr0 := hr
  obtain ⟨adt, cpt, _, _, rfl, _, _⟩ := hr.st.open boE_len false
  obtain ⟨adp, cpp, _, _, rfl, _, _⟩ := hr.ps.open psE_len pas0
  obtain ⟨adg, cpg, _, _, rfl, _, _⟩ := hr.sg.open sgE_len sgt0
  refine cnv (vs := [_, _, _, _]) Tryz.func10 rfl rfl ?_
  all_goals refine tc_seq fun K1 hK1 => ?_; refine tc_region ?_; refine tl_e (e_box rfl rfl rfl) rfl (fun b4 _ => ?_); refine tl_q (y_assign rfl) rfl ?_; refine tl_nil ?_; ((refine hK1 ?_; try (clear hK1; clear K1)))
  all_goals refine tc_seq fun K2 hK2 => ?_; refine tc_seq fun K3 hK3 => ?_; refine tc_lay ([]) (SB.s .nil) (fun wl1 hl1 => ?_); refine tc_region ?_; refine tl_q (y_loadWf rfl (hl1.at (by repeat constructor)) (MI.m (by repeat constructor)) (by simp) (by rfl)) rfl ?_; refine tl_e (e_callV rfl (.cons rfl .nil) (fun w' hw' => ready_c s _ _ _ w' (hr0.fr (hw'.fr (w0 := w) (S := []) (MI.m (by repeat constructor)))))) rfl (fun _ _ => ?_); refine tl_q (y_not_dec rfl) rfl ?_; refine tl_nil ?_; ((refine hK3 ?_; try (clear hK3; clear K3)))
  all_goals (
   refine tc_cond rfl (fun hc => ?_) (fun hc => ?_)
   · try simp only [decide_eq_true_eq, decide_eq_false_iff_not, Int.not_lt, Int.not_le, Bool.not_eq_true', Bool.not_eq_false', Decidable.not_not, not_true_eq_false] at hc
     all_goals refine tc_seq fun K4 hK4 => ?_; refine tc_lay ([]) (SB.s .nil) (fun wl2 hl2 => ?_); refine tc_region ?_; refine tl_e (e_callV rfl .nil (fun w' _ => awake_c w')) rfl (fun _ _ => ?_); refine tl_q (y_assign rfl) rfl ?_; refine tl_nil ?_; ((refine hK4 ?_; try (clear hK4; clear K4)))
     all_goals refine tc_ret ?_; (repeat (refine tk_then_ret ?_))
     all_goals (refine tk_ret rfl rfl (.cons (.tmp rfl) .nil) ?_)
     all_goals (
      exact fun w' hw' => ⟨rfl, hw'.fr (w0 := w) (S := []) (MI.m (by repeat constructor))⟩)
   · try simp only [decide_eq_true_eq, decide_eq_false_iff_not, Int.not_lt, Int.not_le, Bool.not_eq_true', Bool.not_eq_false', Decidable.not_not, not_true_eq_false] at hc
     all_goals refine tc_skip ?_; ((refine hK2 ?_; try (clear hK2; clear K2)))
     all_goals refine tc_seq fun K5 hK5 => ?_; refine tc_lay ([]) (SB.s .nil) (fun wl3 hl3 => ?_); ((have hv := chkS_0.1 hc.2; have hf := hc.1.few; have hn6 := hv.n6; have hg6 := hv.g6; have hst := hv.st; have hp1 := hv.p1; have hp4 := hv.p4; have hl0 := hv.l0; have hl9 := hv.l9))
     all_goals refine tc_region ?_; refine tl_q (y_loadWf rfl (hl1.at (by repeat constructor)) (MI.m (by repeat constructor)) (by simp) (by rfl)) rfl ?_; refine tl_e (e_allocN rfl) rfl (fun b9 _ => ?_); refine tl_e (e_storeW rfl rfl (by repeat constructor) (by rfl) (by rfl) (smV_ones (s := s) rfl rfl rfl)) rfl (fun _ _ => ?_); refine tl_nil ?_; ((refine hK5 ?_; try (clear hK5; clear K5)))
     all_goals (
      refine tc_join (fun _ : (Nat × Nat × List Value) × (Nat × Nat × List Value) => True) (fun _ => [(1, .int .u8 n1), (2, .int .u8 n2), (3, .int .u8 n3), (4, ptr b4), (9, ptr b9)]) (fun _ => [(wl1, []), (w, [])]) (fun p => [(p.2.1, .cells (s.st.flatMap boE ++ p.2.2.2).toArray 4 (0, 0)), (p.1.1, .cells (s.ps.flatMap psE ++ p.1.2.2).toArray 77 (0, 0)), (b9, .cells #[vi s.B, vi s.P, vi s.L, vi s.F, .slice (some ⟨p.2.1, 0, none⟩) (0 + s.st.length) p.2.2.1, .slice (some ⟨p.1.1, 0, none⟩) (0 + s.ps.length) p.1.2.1, .slice adg s.sg.length cpg] 26 (0, 0))]) ?_ ?_
      · skip
        all_goals refine tc_drawS ([]) (by kernel_rfl) ?_; refine tx_p 1 rfl (by kernel_rfl) (y_field rfl) rfl (fun _ _ _ h => h) (fun _ h => h.subl (SB.s (by repeat constructor)) (SB.s (by repeat constructor))) ?_; refine tx_qS 2 rfl (by kernel_rfl) (y_load1f rfl (hl1.at (by repeat constructor)) (MI.m (by repeat constructor)) (by simp) (by rfl)) rfl (fun _ _ _ h => h) (fun _ h => h.subl (SB.s (by repeat constructor)) (SB.s (by repeat constructor))) ?_; refine tx_p 5 rfl (by kernel_rfl) (y_field rfl) rfl (fun _ _ _ h => h) (fun _ h => h.subl (SB.s (by repeat constructor)) (SB.s (by repeat constructor))) ?_; refine tx_qS 6 rfl (by kernel_rfl) (y_load1f rfl (hl1.at (by repeat constructor)) (MI.m (by repeat constructor)) (by simp) (by rfl)) rfl (fun _ _ _ h => h) (fun _ h => h.subl (SB.s (by repeat constructor)) (SB.s (by repeat constructor))) ?_
        all_goals (
         refine tx_pair 0 4 (by kernel_rfl) ?_ ?_
         rotate_left
         focus (
          (refine to_e rfl rfl (e_bslice rfl (by (repeat (exact .nil)); done) rfl rfl) (.inr ⟨fun _ _ h => h.subl (SB.s (by repeat constructor)) (SB.s (by repeat constructor)), fun _ h => h⟩) (fun b24 _ => ?_))
          all_goals (refine tx_single 0 (by kernel_rfl) (to_e rfl rfl (e_bslice rfl (by (repeat (exact .nil)); done) rfl rfl) (.inr ⟨fun _ _ h => h.subl (SB.s (by repeat constructor)) (SB.s (by repeat constructor)), fun _ h => h⟩) (fun b20 _ => ?_)))
          all_goals (refine tx_single 3 (by kernel_rfl) (to_e rfl rfl (e_append_big (old := []) (junk := []) rfl rfl rfl (by repeat constructor) (by rfl) (by rfl) (Nat.le_refl _) (fun w' hw' => hr0.ps.fr (hw'.fr (w0 := w) (S := []) (MI.m (by repeat constructor)))) (flatE_oneW psE_one _) (by omega) (by omega)) (.inr ⟨fun _ _ h => h.subl (SB.s (by repeat constructor)) (SB.s (by repeat constructor)), fun _ h => h⟩) (fun u hu => ?_))); refine tx_p 8 rfl (by kernel_rfl) (y_field rfl) rfl (fun _ _ _ h => h) (fun _ h => h.subl (SB.s (by repeat constructor)) (SB.s (by repeat constructor))) ?_; refine tx_single 7 (by kernel_rfl) (to_e rfl rfl (e_append_big (old := []) (junk := []) rfl rfl rfl (by repeat constructor) (by rfl) (by rfl) (Nat.le_refl _) (fun w' hw' => hr0.st.fr (hw'.fr (w0 := w) (S := []) (MI.m (by repeat constructor)))) (flatE_oneW boE_one _) (by omega) (by omega)) (.inr ⟨fun _ _ h => h.subl (SB.s (by repeat constructor)) (SB.s (by repeat constructor)), fun _ h => h⟩) (fun v hv2 => ?_)); refine tx_single 9 (by kernel_rfl) (to_e rfl rfl (e_store1 rfl rfl (by repeat constructor) (by repeat constructor) (by rfl) (by rfl)) (.inr ⟨fun _ _ h => h.subl (SB.s (by repeat constructor)) (SB.s (by repeat constructor)), fun _ h => h⟩) (fun _ _ => ?_)); refine tx_p 10 rfl (by kernel_rfl) (y_field rfl) rfl (fun _ _ _ h => h) (fun _ h => h.subl (SB.s (by repeat constructor)) (SB.s (by repeat constructor))) ?_; refine tx_single 11 (by kernel_rfl) (to_e (S' := HG [] []) rfl rfl (e_store1 rfl rfl (by repeat constructor) (by repeat constructor) (by rfl) (by rfl)) (.inl (by kernel_rfl)) (fun _ _ => ?_))
          all_goals refine tx_done (by kernel_rfl) ?_)
         rotate_right
         focus (
          (refine to_e rfl rfl (e_bslice rfl (by (repeat (exact .nil)); done) rfl rfl) (.inr ⟨fun _ _ h => h.subl (SB.s (by repeat constructor)) (SB.s (by repeat constructor)), fun _ h => h⟩) (fun b20 _ => ?_))
          all_goals (
           refine tx_pair 3 4 (by kernel_rfl) ?_ ?_
           rotate_left
           focus (
            (refine to_e rfl rfl (e_bslice rfl (by (repeat (exact .nil)); done) rfl rfl) (.inr ⟨fun _ _ h => h.subl (SB.s (by repeat constructor)) (SB.s (by repeat constructor)), fun _ h => h⟩) (fun b24 _ => ?_))
            all_goals (refine tx_single 3 (by kernel_rfl) (to_e rfl rfl (e_append_big (old := []) (junk := []) rfl rfl rfl (by repeat constructor) (by rfl) (by rfl) (Nat.le_refl _) (fun w' hw' => hr0.ps.fr (hw'.fr (w0 := w) (S := []) (MI.m (by repeat constructor)))) (flatE_oneW psE_one _) (by omega) (by omega)) (.inr ⟨fun _ _ h => h.subl (SB.s (by repeat constructor)) (SB.s (by repeat constructor)), fun _ h => h⟩) (fun u hu => ?_))); refine tx_p 8 rfl (by kernel_rfl) (y_field rfl) rfl (fun _ _ _ h => h) (fun _ h => h.subl (SB.s (by repeat constructor)) (SB.s (by repeat constructor))) ?_; refine tx_single 7 (by kernel_rfl) (to_e rfl rfl (e_append_big (old := []) (junk := []) rfl rfl rfl (by repeat constructor) (by rfl) (by rfl) (Nat.le_refl _) (fun w' hw' => hr0.st.fr (hw'.fr (w0 := w) (S := []) (MI.m (by repeat constructor)))) (flatE_oneW boE_one _) (by omega) (by omega)) (.inr ⟨fun _ _ h => h.subl (SB.s (by repeat constructor)) (SB.s (by repeat constructor)), fun _ h => h⟩) (fun v hv2 => ?_)); refine tx_single 9 (by kernel_rfl) (to_e rfl rfl (e_store1 rfl rfl (by repeat constructor) (by repeat constructor) (by rfl) (by rfl)) (.inr ⟨fun _ _ h => h.subl (SB.s (by repeat constructor)) (SB.s (by repeat constructor)), fun _ h => h⟩) (fun _ _ => ?_)); refine tx_p 10 rfl (by kernel_rfl) (y_field rfl) rfl (fun _ _ _ h => h) (fun _ h => h.subl (SB.s (by repeat constructor)) (SB.s (by repeat constructor))) ?_; refine tx_single 11 (by kernel_rfl) (to_e (S' := HG [] []) rfl rfl (e_store1 rfl rfl (by repeat constructor) (by repeat constructor) (by rfl) (by rfl)) (.inl (by kernel_rfl)) (fun _ _ => ?_))
            all_goals refine tx_done (by kernel_rfl) ?_)
           rotate_right
           focus (
            (refine to_e rfl rfl (e_append_big (old := []) (junk := []) rfl rfl rfl (by repeat constructor) (by rfl) (by rfl) (Nat.le_refl _) (fun w' hw' => hr0.ps.fr (hw'.fr (w0 := w) (S := []) (MI.m (by repeat constructor)))) (flatE_oneW psE_one _) (by omega) (by omega)) (.inr ⟨fun _ _ h => h.subl (SB.s (by repeat constructor)) (SB.s (by repeat constructor)), fun _ h => h⟩) (fun u hu => ?_))
            all_goals refine tx_p 8 rfl (by kernel_rfl) (y_field rfl) rfl (fun _ _ _ h => h) (fun _ h => h.subl (SB.s (by repeat constructor)) (SB.s (by repeat constructor))) ?_; (refine tx_single 4 (by kernel_rfl) (to_e rfl rfl (e_bslice rfl (by (repeat (exact .nil)); done) rfl rfl) (.inr ⟨fun _ _ h => h.subl (SB.s (by repeat constructor)) (SB.s (by repeat constructor)), fun _ h => h⟩) (fun b24 _ => ?_)))
            all_goals (refine tx_single 7 (by kernel_rfl) (to_e rfl rfl (e_append_big (old := []) (junk := []) rfl rfl rfl (by repeat constructor) (by rfl) (by rfl) (Nat.le_refl _) (fun w' hw' => hr0.st.fr (hw'.fr (w0 := w) (S := []) (MI.m (by repeat constructor)))) (flatE_oneW boE_one _) (by omega) (by omega)) (.inr ⟨fun _ _ h => h.subl (SB.s (by repeat constructor)) (SB.s (by repeat constructor)), fun _ h => h⟩) (fun v hv2 => ?_))); refine tx_single 9 (by kernel_rfl) (to_e rfl rfl (e_store1 rfl rfl (by repeat constructor) (by repeat constructor) (by rfl) (by rfl)) (.inr ⟨fun _ _ h => h.subl (SB.s (by repeat constructor)) (SB.s (by repeat constructor)), fun _ h => h⟩) (fun _ _ => ?_)); refine tx_p 10 rfl (by kernel_rfl) (y_field rfl) rfl (fun _ _ _ h => h) (fun _ h => h.subl (SB.s (by repeat constructor)) (SB.s (by repeat constructor))) ?_; refine tx_single 11 (by kernel_rfl) (to_e (S' := HG [] []) rfl rfl (e_store1 rfl rfl (by repeat constructor) (by repeat constructor) (by rfl) (by rfl)) (.inl (by kernel_rfl)) (fun _ _ => ?_))
            all_goals refine tx_done (by kernel_rfl) ?_))))
        all_goals (
         refine tk_start (u, v) trivial (.cons rfl (.cons rfl (.cons rfl (.cons rfl (.cons rfl .nil))))) (fun _ h => h.subl (SB.s (by repeat constructor)) (SB.s (by repeat constructor))))
      · rintro ⟨u, v⟩ _
        dsimp only
        all_goals (
         refine tc_join (fun x : Smp => WidQ s x ∧ x.st = s.st) (fun _ => [(3, .int .u8 n3), (4, ptr b4), (9, ptr b9)]) (fun _ => [(wl1, []), (w, [])]) (fun x => [(v.1, .cells (s.st.flatMap boE ++ v.2.2).toArray 4 (0, 0)), (u.1, .cells (x.ps.flatMap psE ++ u.2.2).toArray 77 (0, 0)), (b9, .cells #[vi s.B, vi s.P, vi s.L, vi s.F, .slice (some ⟨v.1, 0, none⟩) (0 + s.st.length) v.2.1, .slice (some ⟨u.1, 0, none⟩) (0 + s.ps.length) u.2.1, .slice adg s.sg.length cpg] 26 (0, 0))]) ?_ ?_
         · skip
           all_goals refine tc_seq fun K6 hK6 => ?_; refine tc_region ?_; refine tl_q (y_field rfl) rfl ?_; refine tl_q (y_load1 rfl (by repeat constructor) (by rfl)) rfl ?_; refine tl_q (y_len rfl) rfl ?_; refine tl_q (y_gtr rfl rfl) rfl ?_; refine tl_nil ?_; ((refine hK6 ?_; try (clear hK6; clear K6)))
           all_goals (
            refine tc_cond rfl (fun hc => ?_) (fun hc => ?_)
            · try simp only [decide_eq_true_eq, decide_eq_false_iff_not, Int.not_lt, Int.not_le, Bool.not_eq_true', Bool.not_eq_false', Decidable.not_not, not_true_eq_false] at hc
              all_goals refine tc_seq fun K7 hK7 => ?_; ((obtain ⟨i, hin⟩ : ∃ i : Nat, (i : Int) = n1 % ((0 + s.ps.length : Nat) : Int) := ⟨(n1 % ((0 + s.ps.length : Nat) : Int)).toNat, by have := Int.emod_nonneg n1 (show ((0 + s.ps.length : Nat) : Int) ≠ 0 by omega); omega⟩))
              all_goals ((have hil : i < s.ps.length := by have := Int.emod_lt_of_pos n1 (show 0 < ((0 + s.ps.length : Nat) : Int) by omega); omega))
              all_goals (have hpv := (hv.ps _ (getD_memG (d := pas0) hil)).2.2.2.2)
              all_goals ((have hcell := pz_cell (junk := u.2.2) hil; rw [List.nil_append] at hcell))
              all_goals ((have hset : ((s.ps.flatMap psE ++ u.2.2).set (0 + i * 5 + 3 + 0) (vi (max 0 ((s.ps.getD i pas0).lo - n2 % 3)))).set (0 + i * 5 + 3 + 1) (vi (min s.L ((s.ps.getD i pas0).hi + n2 / 4 % 3))) = (widP s i (max 0 ((s.ps.getD i pas0).lo - n2 % 3)) (min s.L ((s.ps.getD i pas0).hi + n2 / 4 % 3))).ps.flatMap psE ++ u.2.2 := by rw [Nat.zero_add, show i * 5 + 3 + 0 = i * 5 + 3 from rfl, show i * 5 + 3 + 1 = i * 5 + 4 from rfl]; exact pz_set _ _ hil))
              all_goals (have hzl : (s.ps.flatMap psE ++ u.2.2).length = s.ps.length * 5 + u.2.2.length := by rw [List.length_append, flatS_len psE_len])
              all_goals refine tc_draw (by kernel_rfl) ?_; refine tx_p 0 rfl (by kernel_rfl) (y_field rfl) rfl (fun _ _ _ h => h) (fun _ h => h) ?_; refine tx_q 1 rfl (by kernel_rfl) (y_load1 rfl (by repeat constructor) (by rfl)) rfl (fun _ _ _ h => h) (fun _ h => h) ?_; refine tx_p 2 rfl (by kernel_rfl) (y_move rfl) rfl (fun _ _ _ h => h) (fun _ h => h) ?_; refine tx_p 3 rfl (by kernel_rfl) (y_conv64 rfl (by omega)) rfl (fun _ _ _ h => h) (fun _ h => h) ?_; refine tx_p 4 rfl (by kernel_rfl) (y_field rfl) rfl (fun _ _ _ h => h) (fun _ h => h) ?_; refine tx_q 5 rfl (by kernel_rfl) (y_load1 rfl (by repeat constructor) (by rfl)) rfl (fun _ _ _ h => h) (fun _ h => h) ?_; refine tx_q 6 rfl (by kernel_rfl) (y_len rfl) rfl (fun _ _ _ h => h) (fun _ h => h) ?_; refine tx_p 7 rfl (by kernel_rfl) (y_rem rfl rfl (by omega) (by omega)) rfl (fun _ _ _ h => h) (fun _ h => h) ?_; refine tx_p 8 rfl (by kernel_rfl) (y_index rfl rfl (by omega) rfl) rfl (fun _ _ _ h => h) (fun _ h => h) ?_; refine tx_p 9 rfl (by kernel_rfl) (y_field rfl) rfl (fun _ _ _ h => h) (fun _ h => h) ?_; refine tx_p 10 rfl (by kernel_rfl) (y_assign rfl) rfl (fun _ _ _ h => h) (fun _ h => h) ?_; refine tx_done (by kernel_rfl) ?_; (rw [← hin, Int.toNat_natCast])
              all_goals ((refine hK7 ?_; try (clear hK7; clear K7)))
              all_goals refine tc_drawS ([]) (by kernel_rfl) ?_; refine tx_p 0 rfl (by kernel_rfl) (y_move rfl) rfl (fun _ _ _ h => h) (fun _ h => h.subl (SB.s (by repeat constructor)) (SB.s (by repeat constructor))) ?_; refine tx_p 1 rfl (by kernel_rfl) (y_move rfl) rfl (fun _ _ _ h => h) (fun _ h => h.subl (SB.s (by repeat constructor)) (SB.s (by repeat constructor))) ?_; refine tx_p 2 rfl (by kernel_rfl) (y_move rfl) rfl (fun _ _ _ h => h) (fun _ h => h.subl (SB.s (by repeat constructor)) (SB.s (by repeat constructor))) ?_; refine tx_p 3 rfl (by kernel_rfl) (y_nil rfl) rfl (fun _ _ _ h => h) (fun _ h => h.subl (SB.s (by repeat constructor)) (SB.s (by repeat constructor))) ?_; refine tx_p 4 rfl (by kernel_rfl) (y_field rfl) rfl (fun _ _ _ h => h) (fun _ h => h.subl (SB.s (by repeat constructor)) (SB.s (by repeat constructor))) ?_; refine tx_p 6 rfl (by kernel_rfl) (y_move rfl) rfl (fun _ _ _ h => h) (fun _ h => h.subl (SB.s (by repeat constructor)) (SB.s (by repeat constructor))) ?_; refine tx_p 7 rfl (by kernel_rfl) (y_conv64 rfl (by omega)) rfl (fun _ _ _ h => h) (fun _ h => h.subl (SB.s (by repeat constructor)) (SB.s (by repeat constructor))) ?_; refine tx_p 8 rfl (by kernel_rfl) (y_rem rfl rfl (by omega) (by omega)) rfl (fun _ _ _ h => h) (fun _ h => h.subl (SB.s (by repeat constructor)) (SB.s (by repeat constructor))) ?_; refine tx_p 11 rfl (by kernel_rfl) (y_field rfl) rfl (fun _ _ _ h => h) (fun _ h => h.subl (SB.s (by repeat constructor)) (SB.s (by repeat constructor))) ?_; refine tx_qS 12 rfl (by kernel_rfl) (y_load1f rfl (hl1.at (by repeat constructor)) (MI.m (by repeat constructor)) (by simp) (by rfl)) rfl (fun _ _ _ h => h) (fun _ h => h.subl (SB.s (by repeat constructor)) (SB.s (by repeat constructor))) ?_; refine tx_p 13 rfl (by kernel_rfl) (y_move rfl) rfl (fun _ _ _ h => h) (fun _ h => h.subl (SB.s (by repeat constructor)) (SB.s (by repeat constructor))) ?_; refine tx_p 14 rfl (by kernel_rfl) (y_nil rfl) rfl (fun _ _ _ h => h) (fun _ h => h.subl (SB.s (by repeat constructor)) (SB.s (by repeat constructor))) ?_; refine tx_p 15 rfl (by kernel_rfl) (y_field rfl) rfl (fun _ _ _ h => h) (fun _ h => h.subl (SB.s (by repeat constructor)) (SB.s (by repeat constructor))) ?_; refine tx_p 17 rfl (by kernel_rfl) (y_move rfl) rfl (fun _ _ _ h => h) (fun _ h => h.subl (SB.s (by repeat constructor)) (SB.s (by repeat constructor))) ?_; refine tx_p 18 rfl (by kernel_rfl) (y_conv64 rfl (by omega)) rfl (fun _ _ _ h => h) (fun _ h => h.subl (SB.s (by repeat constructor)) (SB.s (by repeat constructor))) ?_; refine tx_p 19 rfl (by kernel_rfl) (y_quo rfl rfl (by omega) (by omega)) rfl (fun _ _ _ h => h) (fun _ h => h.subl (SB.s (by repeat constructor)) (SB.s (by repeat constructor))) ?_; refine tx_p 20 rfl (by kernel_rfl) (y_rem rfl rfl (by omega) (by omega)) rfl (fun _ _ _ h => h) (fun _ h => h.subl (SB.s (by repeat constructor)) (SB.s (by repeat constructor))) ?_
              all_goals (
               refine tx_pair 5 16 (by kernel_rfl) ?_ ?_
               rotate_left
               focus (
                (refine to_e rfl rfl (e_y rfl (y_load1o (v := vi (s.ps.getD i pas0).hi) rfl (fun w' hw' => cell0 (hw'.heap (u.1, _) (HM.mem (by repeat constructor))) hcell.2))) (.inr ⟨fun _ _ h => h.subl (SB.s (by repeat constructor)) (SB.s (by repeat constructor)), fun _ h => h⟩) (fun _ _ => ?_))
                all_goals refine tx_p 21 rfl (by kernel_rfl) (y_add rfl rfl (by omega)) rfl (fun _ _ _ h => h) (fun _ h => h.subl (SB.s (by repeat constructor)) (SB.s (by repeat constructor))) ?_; refine tx_p 22 rfl (by kernel_rfl) (y_min rfl rfl) rfl (fun _ _ _ h => h) (fun _ h => h.subl (SB.s (by repeat constructor)) (SB.s (by repeat constructor))) ?_; refine tx_single 5 (by kernel_rfl) (to_e rfl rfl (e_y rfl (y_load1o (v := vi (s.ps.getD i pas0).lo) rfl (fun w' hw' => cell0 (hw'.heap (u.1, _) (HM.mem (by repeat constructor))) hcell.1))) (.inr ⟨fun _ _ h => h.subl (SB.s (by repeat constructor)) (SB.s (by repeat constructor)), fun _ h => h⟩) (fun _ _ => ?_)); refine tx_p 9 rfl (by kernel_rfl) (y_sub rfl rfl (by omega)) rfl (fun _ _ _ h => h) (fun _ h => h.subl (SB.s (by repeat constructor)) (SB.s (by repeat constructor))) ?_; refine tx_p 10 rfl (by kernel_rfl) (y_max rfl rfl) rfl (fun _ _ _ h => h) (fun _ h => h.subl (SB.s (by repeat constructor)) (SB.s (by repeat constructor))) ?_; refine tx_p 23 rfl (by kernel_rfl) (y_nil rfl) rfl (fun _ _ _ h => h) (fun _ h => h.subl (SB.s (by repeat constructor)) (SB.s (by repeat constructor))) ?_; refine tx_p 24 rfl (by kernel_rfl) (y_field rfl) rfl (fun _ _ _ h => h) (fun _ h => h.subl (SB.s (by repeat constructor)) (SB.s (by repeat constructor))) ?_; ((refine tx_single 25 (by kernel_rfl) (to_e rfl rfl (e_storeS rfl rfl (by rfl) (by rfl) (by repeat constructor) (by first | (rw [hzl]; omega) | (rw [List.length_set, hzl]; omega) | (rw [hyl]; omega))) (.inr ⟨fun _ _ h => h.subl (SB.s (by repeat constructor)) (SB.s (by repeat constructor)), fun _ h => h⟩) (fun _ _ => ?_))))
                all_goals refine tx_p 26 rfl (by kernel_rfl) (y_nil rfl) rfl (fun _ _ _ h => h) (fun _ h => h.subl (SB.s (by repeat constructor)) (SB.s (by repeat constructor))) ?_; refine tx_p 27 rfl (by kernel_rfl) (y_field rfl) rfl (fun _ _ _ h => h) (fun _ h => h.subl (SB.s (by repeat constructor)) (SB.s (by repeat constructor))) ?_; ((refine tx_single 28 (by kernel_rfl) (to_e (S' := HG [] []) rfl rfl (e_storeS rfl rfl (by rfl) (by rfl) (by repeat constructor) (by first | (rw [hzl]; omega) | (rw [List.length_set, hzl]; omega) | (rw [hyl]; omega))) (.inl (by kernel_rfl)) (fun _ _ => ?_))))
                all_goals refine tx_done (by kernel_rfl) ?_)
               rotate_right
               focus (
                (refine to_e rfl rfl (e_y rfl (y_load1o (v := vi (s.ps.getD i pas0).lo) rfl (fun w' hw' => cell0 (hw'.heap (u.1, _) (HM.mem (by repeat constructor))) hcell.1))) (.inr ⟨fun _ _ h => h.subl (SB.s (by repeat constructor)) (SB.s (by repeat constructor)), fun _ h => h⟩) (fun _ _ => ?_))
                all_goals refine tx_p 9 rfl (by kernel_rfl) (y_sub rfl rfl (by omega)) rfl (fun _ _ _ h => h) (fun _ h => h.subl (SB.s (by repeat constructor)) (SB.s (by repeat constructor))) ?_; refine tx_p 10 rfl (by kernel_rfl) (y_max rfl rfl) rfl (fun _ _ _ h => h) (fun _ h => h.subl (SB.s (by repeat constructor)) (SB.s (by repeat constructor))) ?_; refine tx_single 16 (by kernel_rfl) (to_e rfl rfl (e_y rfl (y_load1o (v := vi (s.ps.getD i pas0).hi) rfl (fun w' hw' => cell0 (hw'.heap (u.1, _) (HM.mem (by repeat constructor))) hcell.2))) (.inr ⟨fun _ _ h => h.subl (SB.s (by repeat constructor)) (SB.s (by repeat constructor)), fun _ h => h⟩) (fun _ _ => ?_)); refine tx_p 21 rfl (by kernel_rfl) (y_add rfl rfl (by omega)) rfl (fun _ _ _ h => h) (fun _ h => h.subl (SB.s (by repeat constructor)) (SB.s (by repeat constructor))) ?_; refine tx_p 22 rfl (by kernel_rfl) (y_min rfl rfl) rfl (fun _ _ _ h => h) (fun _ h => h.subl (SB.s (by repeat constructor)) (SB.s (by repeat constructor))) ?_; refine tx_p 23 rfl (by kernel_rfl) (y_nil rfl) rfl (fun _ _ _ h => h) (fun _ h => h.subl (SB.s (by repeat constructor)) (SB.s (by repeat constructor))) ?_; refine tx_p 24 rfl (by kernel_rfl) (y_field rfl) rfl (fun _ _ _ h => h) (fun _ h => h.subl (SB.s (by repeat constructor)) (SB.s (by repeat constructor))) ?_; ((refine tx_single 25 (by kernel_rfl) (to_e rfl rfl (e_storeS rfl rfl (by rfl) (by rfl) (by repeat constructor) (by first | (rw [hzl]; omega) | (rw [List.length_set, hzl]; omega) | (rw [hyl]; omega))) (.inr ⟨fun _ _ h => h.subl (SB.s (by repeat constructor)) (SB.s (by repeat constructor)), fun _ h => h⟩) (fun _ _ => ?_))))
                all_goals refine tx_p 26 rfl (by kernel_rfl) (y_nil rfl) rfl (fun _ _ _ h => h) (fun _ h => h.subl (SB.s (by repeat constructor)) (SB.s (by repeat constructor))) ?_; refine tx_p 27 rfl (by kernel_rfl) (y_field rfl) rfl (fun _ _ _ h => h) (fun _ h => h.subl (SB.s (by repeat constructor)) (SB.s (by repeat constructor))) ?_; ((refine tx_single 28 (by kernel_rfl) (to_e (S' := HG [] []) rfl rfl (e_storeS rfl rfl (by rfl) (by rfl) (by repeat constructor) (by first | (rw [hzl]; omega) | (rw [List.length_set, hzl]; omega) | (rw [hyl]; omega))) (.inl (by kernel_rfl)) (fun _ _ => ?_))))
                all_goals refine tx_done (by kernel_rfl) ?_))
              all_goals rw [hset]
              all_goals (
               first
               | exact tk_start (widP s i (max 0 ((s.ps.getD i pas0).lo - n2 % 3)) (min s.L ((s.ps.getD i pas0).hi + n2 / 4 % 3))) ⟨⟨widP_wid s i (by omega) (by omega), rfl⟩, rfl⟩ (.cons rfl (.cons rfl (.cons rfl .nil))) (fun _ h => h.subl (SB.s (by repeat constructor)) (SB.s (by repeat constructor)))
               | exact tk_start s ⟨⟨WidS.refl s, rfl⟩, rfl⟩ (.cons rfl (.cons rfl (.cons rfl .nil))) (fun _ h => h.subl (SB.s (by repeat constructor)) (SB.s (by repeat constructor))))
            · try simp only [decide_eq_true_eq, decide_eq_false_iff_not, Int.not_lt, Int.not_le, Bool.not_eq_true', Bool.not_eq_false', Decidable.not_not, not_true_eq_false] at hc
              all_goals refine tc_skip ?_
              all_goals (
               first
               | exact tk_start (widP s i (max 0 ((s.ps.getD i pas0).lo - n2 % 3)) (min s.L ((s.ps.getD i pas0).hi + n2 / 4 % 3))) ⟨⟨widP_wid s i (by omega) (by omega), rfl⟩, rfl⟩ (.cons rfl (.cons rfl (.cons rfl .nil))) (fun _ h => h.subl (SB.s (by repeat constructor)) (SB.s (by repeat constructor)))
               | exact tk_start s ⟨⟨WidS.refl s, rfl⟩, rfl⟩ (.cons rfl (.cons rfl (.cons rfl .nil))) (fun _ h => h.subl (SB.s (by repeat constructor)) (SB.s (by repeat constructor)))))
         · rintro x ⟨hx1, hx2⟩
           have hxl := hx1.w.ps.len
           all_goals (
            refine tc_join (fun x : Smp => WidQ s x) (fun _ => [(4, ptr b4), (9, ptr b9)]) (fun _ => [(wl1, []), (w, [])]) (fun x => [(v.1, .cells (x.st.flatMap boE ++ v.2.2).toArray 4 (0, 0)), (u.1, .cells (x.ps.flatMap psE ++ u.2.2).toArray 77 (0, 0)), (b9, .cells #[vi s.B, vi s.P, vi s.L, vi s.F, .slice (some ⟨v.1, 0, none⟩) (0 + s.st.length) v.2.1, .slice (some ⟨u.1, 0, none⟩) (0 + s.ps.length) u.2.1, .slice adg s.sg.length cpg] 26 (0, 0))]) ?_ ?_
            · skip
              all_goals refine tc_seq fun K8 hK8 => ?_; refine tc_region ?_; refine tl_q (y_move rfl) rfl ?_; refine tl_q (y_rem rfl rfl (by omega) (by omega)) rfl ?_; refine tl_q (y_eql rfl rfl) rfl ?_; refine tl_nil ?_; ((refine hK8 ?_; try (clear hK8; clear K8)))
              all_goals (
               refine tc_cond rfl (fun hc => ?_) (fun hc => ?_)
               · try simp only [decide_eq_true_eq, decide_eq_false_iff_not, Int.not_lt, Int.not_le, Bool.not_eq_true', Bool.not_eq_false', Decidable.not_not, not_true_eq_false] at hc
                 all_goals ((obtain ⟨j, hjn⟩ : ∃ j : Nat, (j : Int) = n3 / 2 % s.P := ⟨(n3 / 2 % s.P).toNat, by have := Int.emod_nonneg (n3 / 2) (show s.P ≠ 0 by omega); omega⟩))
                 all_goals ((have hjl : j < s.st.length := by have := Int.emod_lt_of_pos (n3 / 2) (show 0 < s.P by omega); omega))
                 all_goals (have hset2 := bz_set (junk := v.2.2) hjl)
                 all_goals (have hyl : (s.st.flatMap boE ++ v.2.2).length = s.st.length + v.2.2.length := by rw [List.length_append, flatS_len boE_len, Nat.mul_one])
                 all_goals refine tc_drawS ([(b9, .cells #[vi s.B, vi s.P, vi s.L, vi s.F, .slice (some ⟨v.1, 0, none⟩) (0 + s.st.length) v.2.1, .slice (some ⟨u.1, 0, none⟩) (0 + s.ps.length) u.2.1, .slice adg s.sg.length cpg] 26 (0, 0))]) (by kernel_rfl) ?_; refine tx_p 0 rfl (by kernel_rfl) (y_field rfl) rfl (fun _ _ _ h => h) (fun _ h => h.subl (SB.s (by repeat constructor)) (SB.s (by repeat constructor))) ?_; refine tx_qS 1 rfl (by kernel_rfl) (y_load1 rfl (by repeat constructor) (by rfl)) rfl (fun _ _ _ h => h) (fun _ h => h.subl (SB.s (by repeat constructor)) (SB.s (by repeat constructor))) ?_; refine tx_p 2 rfl (by kernel_rfl) (y_move rfl) rfl (fun _ _ _ h => h) (fun _ h => h.subl (SB.s (by repeat constructor)) (SB.s (by repeat constructor))) ?_; refine tx_p 3 rfl (by kernel_rfl) (y_conv64 rfl (by omega)) rfl (fun _ _ _ h => h) (fun _ h => h.subl (SB.s (by repeat constructor)) (SB.s (by repeat constructor))) ?_; refine tx_p 4 rfl (by kernel_rfl) (y_quo rfl rfl (by omega) (by omega)) rfl (fun _ _ _ h => h) (fun _ h => h.subl (SB.s (by repeat constructor)) (SB.s (by repeat constructor))) ?_; refine tx_p 5 rfl (by kernel_rfl) (y_field rfl) rfl (fun _ _ _ h => h) (fun _ h => h.subl (SB.s (by repeat constructor)) (SB.s (by repeat constructor))) ?_; refine tx_qS 6 rfl (by kernel_rfl) (y_load1f rfl (hl1.at (by repeat constructor)) (MI.m (by repeat constructor)) (by simp) (by rfl)) rfl (fun _ _ _ h => h) (fun _ h => h.subl (SB.s (by repeat constructor)) (SB.s (by repeat constructor))) ?_; refine tx_p 7 rfl (by kernel_rfl) (y_rem rfl rfl (by omega) (by omega)) rfl (fun _ _ _ h => h) (fun _ h => h.subl (SB.s (by repeat constructor)) (SB.s (by repeat constructor))) ?_; refine tx_p 8 rfl (by kernel_rfl) (y_index rfl rfl (by omega) rfl) rfl (fun _ _ _ h => h) (fun _ h => h.subl (SB.s (by repeat constructor)) (SB.s (by repeat constructor))) ?_; ((refine tx_single 9 (by kernel_rfl) (to_e (S' := HG [] []) rfl rfl (e_storeS rfl rfl (by rfl) (by rfl) (by repeat constructor) (by first | (rw [hzl]; omega) | (rw [List.length_set, hzl]; omega) | (rw [hyl]; omega))) (.inl (by kernel_rfl)) (fun _ _ => ?_))))
                 all_goals refine tx_done (by kernel_rfl) ?_; (rw [← hjn, Int.toNat_natCast, show 0 + j * 1 = j from by omega, hset2])
                 all_goals (
                  first
                  | exact tk_start (stpS x j) ⟨stpS_wid hx1.w j, by show (x.st.set j true).length = _; rw [List.length_set]; exact hx1.st⟩ (.cons rfl (.cons rfl .nil)) (fun _ h => by show HG _ [(_, .cells ((x.st.set j true).flatMap boE ++ _).toArray _ _), _, _] _; rw [hx2]; exact h.subl (SB.s (by repeat constructor)) (SB.s (by repeat constructor)))
                  | exact tk_start x hx1 (.cons rfl (.cons rfl .nil)) (fun _ h => by show HG _ [(_, .cells (x.st.flatMap boE ++ _).toArray _ _), _, _] _; rw [hx2]; exact h.subl (SB.s (by repeat constructor)) (SB.s (by repeat constructor))))
               · try simp only [decide_eq_true_eq, decide_eq_false_iff_not, Int.not_lt, Int.not_le, Bool.not_eq_true', Bool.not_eq_false', Decidable.not_not, not_true_eq_false] at hc
                 all_goals refine tc_skip ?_
                 all_goals (
                  first
                  | exact tk_start (stpS x j) ⟨stpS_wid hx1.w j, by show (x.st.set j true).length = _; rw [List.length_set]; exact hx1.st⟩ (.cons rfl (.cons rfl .nil)) (fun _ h => by show HG _ [(_, .cells ((x.st.set j true).flatMap boE ++ _).toArray _ _), _, _] _; rw [hx2]; exact h.subl (SB.s (by repeat constructor)) (SB.s (by repeat constructor)))
                  | exact tk_start x hx1 (.cons rfl (.cons rfl .nil)) (fun _ h => by show HG _ [(_, .cells (x.st.flatMap boE ++ _).toArray _ _), _, _] _; rw [hx2]; exact h.subl (SB.s (by repeat constructor)) (SB.s (by repeat constructor)))))
            · rintro ⟨yB, yP, yL, yF, yst, yps, ysg⟩ hyq
              obtain rfl : yB = s.B := hyq.w.B.symm
              obtain rfl : yP = s.P := hyq.w.P.symm
              obtain rfl : yL = s.L := hyq.w.L.symm
              obtain rfl : yF = s.F := hyq.w.F.symm
              obtain rfl : ysg = s.sg := hyq.w.sg.symm
              all_goals refine tc_seq fun K9 hK9 => ?_; refine tc_seq fun K10 hK10 => ?_; refine tc_lay ([]) (SB.s .nil) (fun wl10 hl10 => ?_); ((have hyp := hyq.w.ps.len; have hyt := hyq.st; have hfy := hyq.few hf))
              all_goals ((have hry : RdSm wl10 (Smp.mk s.B s.P s.L s.F yst yps s.sg) (.slice (some ⟨v.1, 0, none⟩) (0 + s.st.length) v.2.1) (.slice (some ⟨u.1, 0, none⟩) (0 + s.ps.length) u.2.1) (.slice adg s.sg.length cpg) := ⟨by have := RdS.own (xs := yst) (b := v.1) (cap := v.2.1) (junk := v.2.2) (e := 4) (f := (0, 0)) boE_len hl10 (by repeat constructor); rw [Nat.zero_add, ← hyt]; exact this, by have := RdS.own (xs := yps) (b := u.1) (cap := u.2.1) (junk := u.2.2) (e := 77) (f := (0, 0)) psE_len hl10 (by repeat constructor); rw [Nat.zero_add, hyp]; exact this, hr0.sg.fr (hl10.fr (w0 := w) (S := []) (MI.m (by repeat constructor)))⟩))
              all_goals refine tc_region ?_; refine tl_q (y_loadWf rfl (hl10.at (b := b9) (by repeat constructor)) (MI.m (by repeat constructor)) (by simp) (by rfl)) rfl ?_; refine tl_e (e_callV rfl (.cons rfl .nil) (fun w' hw' => fault_c (Smp.mk s.B s.P s.L s.F yst yps s.sg) _ _ _ w' (hry.fr (hw'.fr (w0 := wl10) (S := []) (MI.m (by repeat constructor)))) hfy)) rfl (fun _ _ => ?_); refine tl_q (y_neq rfl rfl) rfl ?_; refine tl_nil ?_; ((refine hK10 ?_; try (clear hK10; clear K10)))
              all_goals (
               refine tc_cond rfl (fun hc => ?_) (fun hc => ?_)
               · try simp only [decide_eq_true_eq, decide_eq_false_iff_not, Int.not_lt, Int.not_le, Bool.not_eq_true', Bool.not_eq_false', Decidable.not_not, not_true_eq_false] at hc
                 all_goals refine tc_seq fun K11 hK11 => ?_; refine tc_lay ([]) (SB.s .nil) (fun wl11 hl11 => ?_); refine tc_region ?_; refine tl_e (e_callV rfl .nil (fun w' _ => awake_c w')) rfl (fun _ _ => ?_); refine tl_q (y_assign rfl) rfl ?_; refine tl_nil ?_; ((refine hK11 ?_; try (clear hK11; clear K11)))
                 all_goals refine tc_ret ?_; (repeat (refine tk_then_ret ?_))
                 all_goals (refine tk_ret rfl rfl (.cons (.tmp rfl) .nil) ?_)
                 all_goals (
                  exact fun w' hw' => ⟨rfl, hw'.fr (w0 := w) (S := []) (MI.m (by repeat constructor))⟩)
               · try simp only [decide_eq_true_eq, decide_eq_false_iff_not, Int.not_lt, Int.not_le, Bool.not_eq_true', Bool.not_eq_false', Decidable.not_not, not_true_eq_false] at hc
                 all_goals refine tc_skip ?_; ((refine hK9 ?_; try (clear hK9; clear K9)))
                 all_goals refine tc_seq fun K12 hK12 => ?_; refine tc_lay ([]) (SB.s .nil) (fun wl12 hl12 => ?_); (have hvy : VSm (Smp.mk s.B s.P s.L s.F yst yps s.sg) := chkS_0.1 (by omega))
                 all_goals ((have hlw := hyq.w.lev hv hvy; have hl12 := levL_len12 hv; have hl12y := levL_len12 hvy; have hsub := hyq.w.sub hv.ple hvy.ple))
                 all_goals refine tc_region ?_; refine tl_q (y_loadWf rfl (hl1.at (by repeat constructor)) (MI.m (by repeat constructor)) (by simp) (by rfl)) rfl ?_; refine tl_e (e_callX rfl (.cons rfl .nil) (fun w' hw' => lawSample_c s hf _ _ _ w' (hr0.fr (hw'.fr (w0 := w) (S := []) (MI.m (by repeat constructor)))))) rfl (fun x12 hx12 => ?_); refine tl_e (e_callX rfl (.cons rfl .nil) (fun w' hw' => leaveW_c hv hf _ _ _ w' (hx12.1.fr (hw'.calm hx12.2 (MI.m (by repeat constructor)) (SB.s (by repeat constructor)))))) rfl (fun l12 hl12' => ?_); refine tl_q (y_move rfl) rfl ?_; refine tl_q (y_extract rfl rfl) rfl ?_; refine tl_q (y_extract rfl rfl) rfl ?_; refine tl_q (y_assign rfl) rfl ?_; refine tl_q (y_assign rfl) rfl ?_; refine tl_nil ?_; ((refine hK12 ?_; try (clear hK12; clear K12)))
                 all_goals refine tc_seq fun K13 hK13 => ?_; refine tc_lay ([]) (SB.s .nil) (fun wl13 hl13 => ?_); refine tc_region ?_; refine tl_q (y_loadWf rfl (hl10.at (b := b9) (by repeat constructor)) (MI.m (by repeat constructor)) (by simp) (by rfl)) rfl ?_; refine tl_e (e_callX rfl (.cons rfl .nil) (fun w' hw' => lawSample_c (Smp.mk s.B s.P s.L s.F yst yps s.sg) hfy _ _ _ w' (hry.fr (hw'.fr (w0 := wl10) (S := []) (MI.m (by repeat constructor)))))) rfl (fun x13 hx13 => ?_); refine tl_e (e_callX rfl (.cons rfl .nil) (fun w' hw' => leaveW_c hvy hfy _ _ _ w' (hx13.1.fr (hw'.calm hx13.2 (MI.m (by repeat constructor)) (SB.s (by repeat constructor)))))) rfl (fun l13 hl13' => ?_); refine tl_q (y_move rfl) rfl ?_; refine tl_q (y_extract rfl rfl) rfl ?_; refine tl_q (y_extract rfl rfl) rfl ?_; refine tl_q (y_assign rfl) rfl ?_; refine tl_q (y_assign rfl) rfl ?_; refine tl_nil ?_; ((refine hK13 ?_; try (clear hK13; clear K13)))
                 all_goals refine tc_seq fun K14 hK14 => ?_; refine tc_seq fun K15 hK15 => ?_; refine tc_lay ([]) (SB.s .nil) (fun wl14 hl14 => ?_); refine tc_region ?_; refine tl_q (y_move rfl) rfl ?_; refine tl_q (y_neq rfl rfl) rfl ?_; refine tl_q (y_move rfl) rfl ?_; refine tl_qg rfl rfl (y_move rfl) rfl ?_; refine tl_qg rfl rfl (y_neq rfl rfl) rfl ?_; refine tl_q (y_pick_f rfl rfl) rfl ?_; refine tl_q (y_move rfl) rfl ?_; refine tl_qg rfl rfl (y_move rfl) rfl ?_; refine tl_qg rfl rfl (y_len rfl) rfl ?_; refine tl_qg rfl rfl (y_move rfl) rfl ?_; refine tl_qg rfl rfl (y_len rfl) rfl ?_; refine tl_qg rfl rfl (y_gtr rfl rfl) rfl ?_; refine tl_q (y_pick_f rfl rfl) rfl ?_; refine tl_nil ?_; ((refine hK15 ?_; try (clear hK15; clear K15)))
                 all_goals (
                  refine tc_cond rfl (fun hc => ?_) (fun hc => ?_)
                  · try simp only [decide_eq_true_eq, decide_eq_false_iff_not, Int.not_lt, Int.not_le, Bool.not_eq_true', Bool.not_eq_false', Decidable.not_not, not_true_eq_false] at hc
                    all_goals ((exfalso; omega))
                  · try simp only [decide_eq_true_eq, decide_eq_false_iff_not, Int.not_lt, Int.not_le, Bool.not_eq_true', Bool.not_eq_false', Decidable.not_not, not_true_eq_false] at hc
                    all_goals refine tc_skip ?_; ((refine hK14 ?_; try (clear hK14; clear K14)))
                    all_goals refine tc_seq fun K17 hK17 => ?_; refine tc_lay ([]) (SB.s .nil) (fun wl16 hl16 => ?_); refine tc_region ?_; refine tl_q (y_loadWf rfl (hl1.at (by repeat constructor)) (MI.m (by repeat constructor)) (by simp) (by rfl)) rfl ?_; refine tl_e (e_callV rfl (.cons rfl .nil) (fun w' hw' => hasC_c s hf hv _ _ _ w' (hr0.fr (hw'.fr (w0 := w) (S := []) (MI.m (by repeat constructor)))))) rfl (fun _ _ => ?_); refine tl_q (y_not rfl) rfl ?_; refine tl_q (y_move rfl) rfl ?_; ((refine tl_gs rfl rfl (fun hc => ?_) (fun hc => ?_) <;> (try simp only [decide_eq_true_eq, decide_eq_false_iff_not, Int.not_lt, Int.not_le, Bool.not_eq_true', Bool.not_eq_false', Decidable.not_not, not_true_eq_false] at hc) <;> (first | refine tl_sk rfl rfl rfl rfl ?_ | refine tl_qg rfl rfl (y_loadWf rfl (hl1.at (by repeat constructor)) (MI.m (by repeat constructor)) (by simp) (by rfl)) rfl ?_)))
                    all_goals (first | refine tl_sk rfl rfl rfl rfl ?_ | refine tl_qg rfl rfl (y_loadWf rfl (hl10.at (b := b9) (by repeat constructor)) (MI.m (by repeat constructor)) (by simp) (by rfl)) rfl ?_); (first | refine tl_sk rfl rfl rfl rfl ?_ | refine tl_eg rfl rfl rfl (e_callV rfl (.cons rfl (.cons rfl .nil)) (fun w' hw' => fewer_v s (Smp.mk s.B s.P s.L s.F yst yps s.sg) hyq.w.B hyq.w.L (SubB.fewer hsub hyq.w.B hv hvy (by assumption)).2 hv hvy hf hfy (by assumption) (SubB.fewer hsub hyq.w.B hv hvy (by assumption)).1 _ _ _ _ _ _ w' (hr0.fr (hw'.fr (w0 := w) (S := []) (MI.m (by repeat constructor)))) (hry.fr (hw'.fr (w0 := wl10) (S := []) (MI.m (by repeat constructor)))))) (fun _ _ => ?_)); (first | refine tl_q (y_pick_t rfl rfl) rfl ?_ | refine tl_q (y_pick_f rfl rfl) rfl ?_); refine tl_q (y_move rfl) rfl ?_; refine tl_eg rfl rfl rfl (e_callV rfl .nil (fun w' _ => awake_c w')) (fun _ _ => ?_); refine tl_q (y_pick_t rfl rfl) rfl ?_; refine tl_q (y_assign rfl) rfl ?_; refine tl_nil ?_; ((refine hK17 ?_; try (clear hK17; clear K17)))
                    all_goals refine tc_ret ?_; (repeat (first | refine tk_then_ret ?_))
                    all_goals (refine tk_ret rfl rfl (.cons (.tmp rfl) .nil) ?_)
                    all_goals (
                     exact fun w' hw' => ⟨rfl, hw'.fr (w0 := w) (S := []) (MI.m (by repeat constructor))⟩)))))))
end Go.Sp
/-
  From a contract of a law's function to its row: what the arguments read as, and that they read so afterwards.
-/
namespace Go.Sp
open Go Go.Proofs Go.ChangeShapes Go.WideShapes Go.RowKit
section
variable {H : Type} {enc : TypeId × Value → H} {P : Program} {w : World} {base : Nat} {spare : Nat → Bool} {held : Bool}
theorem Fr.kept {W W' : World} (h : Fr [] W W') (p : MemPlace → Prop) : W.keptBut W' p :=
  ⟨h.os, h.output, fun i hi => by
    have e := h.block i hi (by simp)
    rw [e]
    cases hb : W.heap[i]? with
    | none => trivial
    | some o => cases o <;> simp⟩
/-- What is left of a post without 'again'. -/
theorem post_na {f : Func} {s : ChangeSpec} {apart fresh handsOn : Bool} {W W' : World} {args : Array Value} {v : Value} {ds gs : List (DataW H)} {before pa pv : List MemPlace}
    (hW : DataW.Whole enc P f.params.toList s.vars apart W args.toList ds gs before)
    (hres : ∀ (b : Nat) (sp : Nat → Bool) (hd : Bool), DataW.TrodAll enc P W' b sp hd f.resultTypes.toList (v.resultList f.resultTypes.size) (s.fn H (ds ++ gs)).results [])
    (hargs : ∀ sp : Nat → Bool, (∀ p ∈ before, sp p.block = true) → DataW.TrodAll enc P W' 0 sp true f.params.toList args.toList (s.fn H (ds ++ gs)).args pa)
    (hvars : ∀ sp : Nat → Bool, (∀ p ∈ before, sp p.block = true) → DataW.TrodVars enc P W' sp s.vars (s.fn H (ds ++ gs)).vars pv)
    (hps : before = pa ++ pv) (hk : W.keptBut W' (· ∈ before)) : s.post enc P f apart fresh handsOn false W args v W' := by
  have hold : ∀ p ∈ before, (fun b => decide (b < W.heap.size)) p.block = true := fun p hp => by simpa using hW.lt p hp
  refine ⟨ds, gs, before, [], pa, pv, hW, hres _ _ _, hargs _ hold, hvars _ hold, World.keptBut_mono (fun p hp => ⟨hp, ?_⟩) hk, fun h => by cases h⟩
  rw [hps, List.mem_append] at hp
  exact Or.inr hp
theorem all_stays (hl : laidOutB P = true) {W W' : World} {sp : Nat → Bool} (hb : Below W.heap.size W W') : ∀ {ts : List TypeId} {vs : List Value} {ds : List (DataW H)} {ps : List MemPlace}, (ts.all fun t => P.readableRec t && decide (t < P.types.size)) = true →
    DataW.TrodAll enc P W 0 (fun _ => true) true ts vs ds ps → (∀ p ∈ ps, sp p.block = true) → DataW.TrodAll enc P W' 0 sp true ts vs ds ps := by
  intro ts
  induction ts with
  | nil => intro vs ds ps _ h _; cases vs <;> cases ds <;> simp [DataW.TrodAll] at h ⊢; exact h
  | cons t ts ih =>
    intro vs ds ps ht h hs
    have hlt := h.lt
    obtain ⟨v, vs', d, ds', p, q, rfl, rfl, rfl, h1, h2⟩ := trodAll_cons h
    simp only [List.all_cons, Bool.and_eq_true, decide_eq_true_eq] at ht
    exact ⟨p, q, WideElems.Trod_stays hl ht.1.1 ht.1.2 h1 (fun x hx => hb.same (hlt x (List.mem_append_left _ hx))) (fun x hx => hs x (List.mem_append_left _ hx)),
      ih (by simpa using ht.2) h2 (fun x hx => hs x (List.mem_append_right _ hx)), rfl⟩
/-- A slice reads as the cells of its elements, each of which reads. -/
theorem slice_reads {t e : TypeId} {fuel : Nat} {cs : List Value} {x : DataW H × List MemPlace} (ht : P.underlying t = some (.slice e)) (hc : 0 < P.cellsOf e) (h : DataW.trod enc P w base spare held fuel t cs = some x) :
    ∃ ad cap, ∃ ess : List (List Value), cs = [.slice ad ess.length cap] ∧ ess.length ≤ maxLen ∧ Reads w (.slice ad ess.length cap) (P.cellsOf e) ess.length ess.flatten ∧ ∀ es ∈ ess, ∃ m y, DataW.trod enc P w base spare held m e es = some y := by
  rcases DataW.trod_slice ht h with ⟨rfl, _⟩ | ⟨a, len, cap, elems, rest, n, _, rfl, _, hb, hl, hm, hlen, hel, _, _⟩
  · exact ⟨none, 0, [], rfl, Nat.zero_le _, ⟨by simp, none, 0, rfl, fun h => absurd rfl h⟩, by simp⟩
  · -- the cells of each element
    have hone : ∀ i, i < len → ∃ es y, w.cells? base (a.add (i * P.cellsOf e)) (P.cellsOf e) = some es ∧ DataW.trod enc P w base spare held n e es = some y := fun i hi => by
      have h1 := hel i hi
      rw [List.getElem?_eq_getElem (by omega)] at h1
      obtain ⟨es, h2, h3⟩ := Option.bind_eq_some_iff.1 h1
      exact ⟨es, _, h2, h3⟩
    have hadd : ∀ m, a.spot = none → a.add m = ⟨a.block, a.off + m, none⟩ := fun m hs => by
      obtain ⟨b, o, sp⟩ := a
      simp only at hs
      subst hs
      unfold Addr.add; split
      · rename_i h0; subst h0; rfl
      · rfl
    have hsp0 : 0 < len → a.spot = none := fun h0 => by
      obtain ⟨es, y, g1, g2⟩ := hone 0 h0
      obtain ⟨_, hl1, hat⟩ := World.cells?_some g1
      have := hat 0 hc
      rw [List.getElem?_eq_getElem (by omega), Nat.zero_mul, show (a.add 0).add 0 = a from rfl] at this
      unfold World.cell? at this
      split at this
      · split at this
        · cases this
        · rename_i hs; simpa using hs
      · cases this
    have hcell : ∀ k, k ≤ len → ∃ ess : List (List Value), ess.length = k ∧ (∀ es ∈ ess, ∃ m y, DataW.trod enc P w base spare held m e es = some y) ∧ ess.flatten.length = k * P.cellsOf e ∧
        (k ≠ 0 → a.spot = none) ∧ ∀ j v, ess.flatten[j]? = some v → w.cell? ⟨a.block, a.off + j, none⟩ = some v := by
      intro k
      induction k with
      | zero => intro _; exact ⟨[], rfl, by simp, by simp, fun h => absurd rfl h, by simp⟩
      | succ k ih =>
        intro hk
        obtain ⟨ess, h1, h2, h3, h4, h5⟩ := ih (by omega)
        obtain ⟨es, y, g1, g2⟩ := hone k (by omega)
        obtain ⟨_, hl1, hat⟩ := World.cells?_some g1
        have hspot : a.spot = none := hsp0 (by omega)
        refine ⟨ess ++ [es], by simp [h1], fun u hu => ?_, ?_, fun _ => hspot, fun j v hv => ?_⟩
        · rcases List.mem_append.1 hu with hu | hu
          · exact h2 u hu
          · obtain rfl := List.mem_singleton.1 hu; exact ⟨n, y, g2⟩
        · rw [List.flatten_append, List.length_append, h3]; simp [hl1]; rw [Nat.add_mul]; omega
        · rw [List.flatten_append] at hv
          by_cases hj : j < ess.flatten.length
          · rw [List.getElem?_append_left hj] at hv; exact h5 j v hv
          · rw [List.getElem?_append_right (by omega)] at hv
            simp only [List.flatten_cons, List.flatten_nil, List.append_nil] at hv
            have hjl : j - ess.flatten.length < es.length := (List.getElem?_eq_some_iff.1 hv).1
            have := hat (j - ess.flatten.length) (by omega)
            rw [hv, hadd _ hspot] at this
            have e2 : (⟨a.block, a.off + k * P.cellsOf e, none⟩ : Addr).add (j - ess.flatten.length) = ⟨a.block, a.off + j, none⟩ := by
              unfold Addr.add; split
              · rename_i h0; simp only [Addr.mk.injEq, true_and, and_true]; omega
              · simp only [Addr.mk.injEq, true_and, and_true]; omega
            rw [e2] at this
            exact this
    obtain ⟨ess, h1, h2, h3, h4, h5⟩ := hcell len (Nat.le_refl _)
    subst h1
    refine ⟨some a, cap, ess, rfl, by omega, ⟨h3, _, _, rfl, fun hn => ⟨a.block, a.off, ?_, ?_⟩⟩, h2⟩
    · have := h4 hn
      obtain ⟨b, o, sp⟩ := a
      simp only at this
      subst this
      rfl
    · rw [← h3]
      generalize ess.flatten = vs at h5
      have key : ∀ (vs : List Value) (o : Nat), (∀ j v, vs[j]? = some v → w.cell? ⟨a.block, o + j, none⟩ = some v) → CA (fun k => w.cell? ⟨a.block, k, none⟩) o vs.length vs := by
        intro vs
        induction vs with
        | nil => intro o _; exact .nil
        | cons v vs ih => intro o hv; exact .cons (hv 0 v rfl) (ih (o + 1) fun j u hu => by rw [Nat.add_assoc, Nat.add_comm 1 j]; exact hv (j + 1) u hu)
      exact key vs a.off h5
theorem exists_map {α β : Type} {f : α → β} {q : α → Prop} : ∀ (l : List β), (∀ y ∈ l, ∃ x, y = f x ∧ q x) → ∃ xs : List α, l = xs.map f ∧ ∀ x ∈ xs, q x
  | [], _ => ⟨[], rfl, by simp⟩
  | y :: l, h => by
    obtain ⟨x, rfl, hq⟩ := h y List.mem_cons_self
    obtain ⟨xs, rfl, hxs⟩ := exists_map l (fun z hz => h z (List.mem_cons_of_mem _ hz))
    exact ⟨x :: xs, rfl, fun z hz => by rcases List.mem_cons.1 hz with rfl | hz; exact hq; exact hxs z hz⟩
/-- The fields of a struct. -/
theorem fields_reads {t : TypeId} {fs : Array Field} {fuel : Nat} {cs : List Value} {x : DataW H × List MemPlace} (ht : P.underlying t = some (.struct fs)) (h : DataW.trod enc P w base spare held fuel t cs = some x) :
    cs.length = P.cellsOf t ∧ ∀ (i : Nat) (f : Field), fs[i]? = some f → ∃ m y, DataW.trod enc P w base spare held m f.type ((cs.drop f.offset).take (P.cellsOf f.type)) = some y := by
  obtain ⟨xs, n, _, _, hl, hx, hf⟩ := DataW.trod_struct ht h
  refine ⟨hl, fun i f hi => ?_⟩
  have := hf i f hi
  have hlt : i < fs.size := (Array.getElem?_eq_some_iff.1 hi).1
  rw [List.getElem?_eq_getElem (by omega)] at this
  exact ⟨n, _, this⟩
def flds (enc : TypeId × Value → H) (P : Program) (w : World) (base : Nat) (spare : Nat → Bool) (held : Bool) (cs : List Value) : List Field → Prop
  | [] => True
  | f :: fs => (∃ m y, DataW.trod enc P w base spare held m f.type ((cs.drop f.offset).take (P.cellsOf f.type)) = some y) ∧ flds enc P w base spare held cs fs
theorem fields_list {t : TypeId} {l : List Field} {fuel : Nat} {cs : List Value} {x : DataW H × List MemPlace} (ht : P.underlying t = some (.struct l.toArray)) (h : DataW.trod enc P w base spare held fuel t cs = some x) :
    cs.length = P.cellsOf t ∧ flds enc P w base spare held cs l := by
  obtain ⟨hl, hf⟩ := fields_reads ht h
  refine ⟨hl, ?_⟩
  have key : ∀ l' : List Field, (∀ f ∈ l', f ∈ l) → flds enc P w base spare held cs l' := by
    intro l'
    induction l' with
    | nil => intro _; trivial
    | cons f fs ih =>
      intro hm
      obtain ⟨i, hi, e⟩ := List.getElem_of_mem (hm f List.mem_cons_self)
      exact ⟨hf i f (by simp [hi, e]), ih fun g hg => hm g (List.mem_cons_of_mem _ hg)⟩
  exact key l fun _ h => h
end
end Go.Sp
/-
  What a sample reads as.
-/
namespace Go.Sp
open Go Go.Proofs Go.ChangeShapes Go.WideShapes Go.RowKit
theorem laidTryz : laidOutB Tryz.prog = true := by kernel_rfl
theorem cells_3 : Tryz.prog.cellsOf 3 = 1 := by kernel_rfl
theorem cells_4 : Tryz.prog.cellsOf 4 = 1 := by kernel_rfl
theorem cells_22 : Tryz.prog.cellsOf 22 = 1 := by kernel_rfl
theorem cells_23 : Tryz.prog.cellsOf 23 = 1 := by kernel_rfl
theorem cells_24 : Tryz.prog.cellsOf 24 = 1 := by kernel_rfl
theorem cells_77 : Tryz.prog.cellsOf 77 = 5 := by kernel_rfl
theorem cells_75 : Tryz.prog.cellsOf 75 = 2 := by kernel_rfl
theorem cells_65 : Tryz.prog.cellsOf 65 = 3 := by kernel_rfl
theorem cells_26 : Tryz.prog.cellsOf 26 = 7 := by kernel_rfl
theorem wf64 {n : Int} (h : (Lit.int .i64 n).wf = true) : -9223372036854775808 ≤ n ∧ n ≤ 9223372036854775807 := by
  simpa [Lit.wf, IntKind.min, IntKind.max, IntKind.signed, IntKind.bits] using h
theorem wf8 {n : Int} (h : (Lit.int .u8 n).wf = true) : 0 ≤ n ∧ n ≤ 255 := by
  simpa [Lit.wf, IntKind.min, IntKind.max, IntKind.signed, IntKind.bits] using h
abbrev Bd (n : Int) : Prop := -9223372036854775808 ≤ n ∧ n ≤ 9223372036854775807
theorem two' {α : Type} {l : List α} (h : l.length = 2) : ∃ a b, l = [a, b] := by
  match l, h with
  | [a, b], _ => exact ⟨a, b, rfl⟩
theorem three' {α : Type} {l : List α} (h : l.length = 3) : ∃ a b c, l = [a, b, c] := by
  match l, h with
  | [a, b, c], _ => exact ⟨a, b, c, rfl⟩
theorem five' {α : Type} {l : List α} (h : l.length = 5) : ∃ a b c d e, l = [a, b, c, d, e] := by
  match l, h with
  | [a, b, c, d, e], _ => exact ⟨a, b, c, d, e, rfl⟩
theorem seven' {α : Type} {l : List α} (h : l.length = 7) : ∃ a b c d e f g, l = [a, b, c, d, e, f, g] := by
  match l, h with
  | [a, b, c, d, e, f, g], _ => exact ⟨a, b, c, d, e, f, g, rfl⟩
theorem flatten_map {α : Type} (enc : α → List Value) (xs : List α) : (xs.map enc).flatten = xs.flatMap enc := rfl
section
variable {H : Type} {enc : TypeId × Value → H} {w : World} {base : Nat} {spare : Nat → Bool} {held : Bool}
theorem bools_reads {fuel : Nat} {cs : List Value} {x : DataW H × List MemPlace} (h : DataW.trod enc Tryz.prog w base spare held fuel 22 cs = some x) :
    ∃ (sl : Value) (l : List Bool), cs = [sl] ∧ RdS 1 boE w sl l ∧ l.length ≤ maxLen := by
  obtain ⟨ad, cap, ess, rfl, hm, hr, hes⟩ := slice_reads Tryz.underlying22 (by rw [cells_4]; decide) h
  obtain ⟨xs, rfl, hxs⟩ := exists_map (f := boE) (q := fun _ => True) ess (fun es h => by
    obtain ⟨m, y, hy⟩ := hes es h
    obtain ⟨b, rfl, _⟩ := DataW.trod_bool Tryz.underlying4 hy
    exact ⟨b, rfl, trivial⟩)
  rw [flatten_map, cells_4] at hr
  simp only [List.length_map] at hr hm
  exact ⟨_, xs, by simp, hr, hm⟩
theorem rng_reads {fuel : Nat} {cs : List Value} {x : DataW H × List MemPlace} (h : DataW.trod enc Tryz.prog w base spare held fuel 75 cs = some x) :
    ∃ a b : Int, cs = [vi a, vi b] ∧ Bd a ∧ Bd b := by
  obtain ⟨hl, hf⟩ := fields_list Tryz.underlying75 h
  rw [cells_75] at hl
  obtain ⟨c0, c1, rfl⟩ := two' hl
  obtain ⟨⟨_, _, f0⟩, ⟨_, _, f1⟩, _⟩ := hf
  rw [cells_3] at f0 f1
  obtain ⟨n0, e0, _, w0⟩ := DataW.trod_int Tryz.underlying3 f0
  obtain ⟨n1, e1, _, w1⟩ := DataW.trod_int Tryz.underlying3 f1
  simp at e0 e1
  subst e0; subst e1
  exact ⟨n0, n1, rfl, wf64 w0, wf64 w1⟩
theorem pas_reads {fuel : Nat} {cs : List Value} {x : DataW H × List MemPlace} (h : DataW.trod enc Tryz.prog w base spare held fuel 77 cs = some x) :
    ∃ p : Pas, cs = psE p := by
  obtain ⟨hl, hf⟩ := fields_list Tryz.underlying77 h
  rw [cells_77] at hl
  obtain ⟨c0, c1, c2, c3, c4, rfl⟩ := five' hl
  obtain ⟨⟨_, _, f0⟩, ⟨_, _, f1⟩, ⟨_, _, f2⟩, ⟨_, _, f3⟩, _⟩ := hf
  rw [cells_3] at f0 f1 f2
  rw [cells_75] at f3
  obtain ⟨n0, e0, _, w0⟩ := DataW.trod_int Tryz.underlying3 f0
  obtain ⟨n1, e1, _, w1⟩ := DataW.trod_int Tryz.underlying3 f1
  obtain ⟨n2, e2, _, w2⟩ := DataW.trod_int Tryz.underlying3 f2
  obtain ⟨a, b, e3, _, _⟩ := rng_reads f3
  simp at e0 e1 e2 e3
  obtain ⟨rfl, rfl⟩ := e3
  subst e0; subst e1; subst e2
  exact ⟨⟨n0, n1, n2, a, b⟩, rfl⟩
theorem sgt_reads {fuel : Nat} {cs : List Value} {x : DataW H × List MemPlace} (h : DataW.trod enc Tryz.prog w base spare held fuel 65 cs = some x) :
    ∃ g : Sgt, cs = sgE g := by
  obtain ⟨hl, hf⟩ := fields_list Tryz.underlying65 h
  rw [cells_65] at hl
  obtain ⟨c0, c1, c2, rfl⟩ := three' hl
  obtain ⟨⟨_, _, f0⟩, ⟨_, _, f1⟩, ⟨_, _, f2⟩, _⟩ := hf
  rw [cells_3] at f0 f1
  rw [cells_4] at f2
  obtain ⟨n0, e0, _, w0⟩ := DataW.trod_int Tryz.underlying3 f0
  obtain ⟨n1, e1, _, w1⟩ := DataW.trod_int Tryz.underlying3 f1
  obtain ⟨b, e2, _⟩ := DataW.trod_bool Tryz.underlying4 f2
  simp at e0 e1 e2
  subst e0; subst e1; subst e2
  exact ⟨⟨n0, n1, b⟩, rfl⟩
theorem pass_reads {fuel : Nat} {cs : List Value} {x : DataW H × List MemPlace} (h : DataW.trod enc Tryz.prog w base spare held fuel 23 cs = some x) :
    ∃ (sl : Value) (l : List Pas), cs = [sl] ∧ RdS 5 psE w sl l ∧ l.length ≤ maxLen := by
  obtain ⟨ad, cap, ess, rfl, hm, hr, hes⟩ := slice_reads Tryz.underlying23 (by rw [cells_77]; decide) h
  obtain ⟨xs, rfl, hxs⟩ := exists_map (f := psE) (q := fun _ => True) ess (fun es h => by
    obtain ⟨m, y, hy⟩ := hes es h
    obtain ⟨p, hp⟩ := pas_reads hy
    exact ⟨p, hp, trivial⟩)
  rw [flatten_map, cells_77] at hr
  simp only [List.length_map] at hr hm
  exact ⟨_, xs, by simp, hr, hm⟩
theorem sgts_reads {fuel : Nat} {cs : List Value} {x : DataW H × List MemPlace} (h : DataW.trod enc Tryz.prog w base spare held fuel 24 cs = some x) :
    ∃ (sl : Value) (l : List Sgt), cs = [sl] ∧ RdS 3 sgE w sl l ∧ l.length ≤ maxLen := by
  obtain ⟨ad, cap, ess, rfl, hm, hr, hes⟩ := slice_reads Tryz.underlying24 (by rw [cells_65]; decide) h
  obtain ⟨xs, rfl, hxs⟩ := exists_map (f := sgE) (q := fun _ => True) ess (fun es h => by
    obtain ⟨m, y, hy⟩ := hes es h
    obtain ⟨p, hp⟩ := sgt_reads hy
    exact ⟨p, hp, trivial⟩)
  rw [flatten_map, cells_65] at hr
  simp only [List.length_map] at hr hm
  exact ⟨_, xs, by simp, hr, hm⟩
theorem smp_reads {fuel : Nat} {cs : List Value} {x : DataW H × List MemPlace} (h : DataW.trod enc Tryz.prog w base spare held fuel 26 cs = some x) :
    ∃ (s : Smp) (tv pv gv : Value), cs = [vi s.B, vi s.P, vi s.L, vi s.F, tv, pv, gv] ∧ RdSm w s tv pv gv := by
  obtain ⟨hl, hf⟩ := fields_list Tryz.underlying26 h
  rw [cells_26] at hl
  obtain ⟨c0, c1, c2, c3, c4, c5, c6, rfl⟩ := seven' hl
  obtain ⟨⟨_, _, f0⟩, ⟨_, _, f1⟩, ⟨_, _, f2⟩, ⟨_, _, f3⟩, ⟨_, _, f4⟩, ⟨_, _, f5⟩, ⟨_, _, f6⟩, _⟩ := hf
  rw [cells_3] at f0 f1 f2 f3
  rw [cells_22] at f4
  rw [cells_23] at f5
  rw [cells_24] at f6
  obtain ⟨n0, e0, _, w0⟩ := DataW.trod_int Tryz.underlying3 f0
  obtain ⟨n1, e1, _, w1⟩ := DataW.trod_int Tryz.underlying3 f1
  obtain ⟨n2, e2, _, w2⟩ := DataW.trod_int Tryz.underlying3 f2
  obtain ⟨n3, e3, _, w3⟩ := DataW.trod_int Tryz.underlying3 f3
  obtain ⟨tv, st, e4, h4, _⟩ := bools_reads f4
  obtain ⟨pv, ps, e5, h5, _⟩ := pass_reads f5
  obtain ⟨gv, sg, e6, h6, _⟩ := sgts_reads f6
  simp at e0 e1 e2 e3 e4 e5 e6
  subst e0; subst e1; subst e2; subst e3; subst e4; subst e5; subst e6
  exact ⟨⟨n0, n1, n2, n3, st, ps, sg⟩, _, _, _, rfl, h4, h5, h6⟩
end
end Go.Sp
