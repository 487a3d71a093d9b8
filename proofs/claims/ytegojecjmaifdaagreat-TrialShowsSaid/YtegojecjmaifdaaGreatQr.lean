
/-
  The reference of trials: all that can be shown.
-/
import Derived.Test.YtegojecjmaifdaaGreatQq
set_option linter.unusedVariables false
set_option linter.unusedSimpArgs false
set_option linter.deprecated false
namespace Go.Sp
open Go Go.Proofs
theorem shownN_0 {t : Tr} {e : E3} {k d : Int} {n : Nat} (h : ∀ j : Nat, j < n → canF t e k d j = false) : (shownN t e k d n).length = 0 := by
  unfold shownN
  rw [List.length_map, List.length_eq_zero_iff, List.filter_eq_nil_iff]
  intro j hj
  rw [h j (List.mem_range.1 hj)]; exact Bool.false_ne_true
theorem shownN_1 {t : Tr} {e : E3} {k d : Int} {n j : Nat} (hj : j < n) (h : canF t e k d j = true) : ¬ (shownN t e k d n).length = 0 := by
  unfold shownN
  rw [List.length_map, List.length_eq_zero_iff, List.filter_eq_nil_iff]
  intro g
  exact g j (List.mem_range.2 hj) h
def noneB (t : Tr) (e : E3) (k d : Int) : Bool := decide ((shownN t e k d (t.s.divisions + 1).toNat).length = 0)
theorem canN_c (t : Tr) (hv : VT t) (l : List Int) (hl : errB t l = true) (k d : Int) (hk : 0 ≤ k ∧ k ≤ t.s.weights.length) (hd : 1 ≤ d ∧ d ≤ 2000) (sl pl ll tl lv : Value) (w : World) (hr : RdTr w t sl pl ll tl) (hL : RdI w lv l) :
    CnV Tryz.prog 74 #[trV t sl pl ll tl, lv, vi k, vi d, vi (-1)] w (.bool (noneB t (er3 l) k d)) := by
  have hr0 := hr
  have hd1 := hv.s.d1
  have hd2 := hv.s.d2
  obtain ⟨aw, cw, _, _, rfl, _, _⟩ := hr.ws.open
  refine cnv (vs := [_, _, _, _, _]) Tryz.func74 rfl rfl ?_
  all_goals refine tc_seq fun K1 hK1 => ?_; refine tc_region ?_; refine tl_e (e_box rfl rfl rfl) rfl (fun b5 _ => ?_); refine tl_q (y_assign rfl) rfl ?_; refine tl_nil ?_; ((refine hK1 ?_; try (clear hK1; clear K1)))
  all_goals refine tc_seq fun K2 hK2 => ?_; refine tc_seq fun K3 hK3 => ?_; refine tc_region ?_; refine tl_q (y_move rfl) rfl ?_; refine tl_q (y_geq rfl rfl) rfl ?_; refine tl_nil ?_; ((refine hK3 ?_; try (clear hK3; clear K3)))
  all_goals (
   refine tc_cond rfl (fun hc => ?_) (fun hc => ?_)
   · try simp only [decide_eq_true_eq, decide_eq_false_iff_not, Int.not_lt, Int.not_le, Bool.not_eq_true', Bool.not_eq_false', Decidable.not_not, not_true_eq_false] at hc
     all_goals ((exfalso; omega))
   · try simp only [decide_eq_true_eq, decide_eq_false_iff_not, Int.not_lt, Int.not_le, Bool.not_eq_true', Bool.not_eq_false', Decidable.not_not, not_true_eq_false] at hc
     all_goals refine tc_skip ?_; ((refine hK2 ?_; try (clear hK2; clear K2)))
     all_goals refine tc_seq fun K6 hK6 => ?_; refine tc_seq fun K7 hK7 => ?_; refine tc_region ?_; refine tl_q (y_assign rfl) rfl ?_; refine tl_nil ?_; ((refine hK7 ?_; try (clear hK7; clear K7)))
     all_goals refine tc_block ?_
     all_goals (
      refine tc_loop (fun n : Nat => n ≤ (t.s.divisions + 1).toNat ∧ ∀ j : Nat, j < n → canF t (er3 l) k d j = false) (fun n => [(1, lv), (2, vi k), (3, vi d), (5, ptr b5), (12, vi n)]) (fun _ => [(w, [])]) (fun _ => [(b5, .cells (trV t (.slice aw t.s.weights.length cw) pl ll tl).cells 28 (0, 0))]) (fun n => (t.s.divisions + 1).toNat - n) ?_ ?_
      · exact tk_start 0 ⟨Nat.zero_le _, fun j hj => absurd hj (Nat.not_lt_zero j)⟩ (.cons rfl (.cons rfl (.cons rfl (.cons rfl (.cons rfl .nil))))) (fun _ h => h.subl (SB.s (by repeat constructor)) (SB.s (by repeat constructor)))
      · rintro n ⟨hn, hno⟩
        all_goals refine tc_seq fun K8 hK8 => ?_; refine tc_seq fun K9 hK9 => ?_; refine tc_region ?_; refine tl_q (y_move rfl) rfl ?_; refine tl_q (y_field rfl) rfl ?_; refine tl_q (y_field rfl) rfl ?_; refine tl_q (y_load1 rfl (by repeat constructor) (by rfl)) rfl ?_; refine tl_q (y_leq rfl rfl) rfl ?_; refine tl_nil ?_; ((refine hK9 ?_; try (clear hK9; clear K9)))
        all_goals (
         refine tc_cond rfl (fun hc => ?_) (fun hc => ?_)
         · try simp only [decide_eq_true_eq, decide_eq_false_iff_not, Int.not_lt, Int.not_le, Bool.not_eq_true', Bool.not_eq_false', Decidable.not_not, not_true_eq_false] at hc
           all_goals refine tc_skip ?_; ((refine hK8 ?_; try (clear hK8; clear K8)))
           all_goals refine tc_seq fun K10 hK10 => ?_; refine tc_block ?_; refine tc_seq fun K11 hK11 => ?_; refine tc_region ?_; refine tl_q (y_loadW rfl (by repeat constructor) (by rfl)) rfl ?_; refine tl_q (y_move rfl) rfl ?_; refine tl_q (y_move rfl) rfl ?_; refine tl_q (y_move rfl) rfl ?_; refine tl_q (y_move rfl) rfl ?_; refine tl_e (e_callV rfl (.cons rfl (.cons rfl (.cons rfl (.cons rfl (.cons rfl .nil))))) (fun w' hw' => can9_c t hv l hl k d (n : Nat) hk hd (by omega) _ _ _ _ _ w' (hr0.fr (hw'.fr (w0 := w) (S := []) (MI.m (by repeat constructor)))) (hL.fr (hw'.fr (w0 := w) (S := []) (MI.m (by repeat constructor)))))) rfl (fun _ _ => ?_); refine tl_nil ?_; ((refine hK11 ?_; try (clear hK11; clear K11)))
           all_goals (
            refine tc_cond rfl (fun hc => ?_) (fun hc => ?_)
            · all_goals (skip)
              all_goals refine tc_seq fun K12 hK12 => ?_; refine tc_region ?_; refine tl_q (y_assign rfl) rfl ?_; refine tl_nil ?_; ((refine hK12 ?_; try (clear hK12; clear K12)))
              all_goals refine tc_ret ?_; (repeat (first | refine tk_then_ret ?_ | refine tk_block_ret ?_))
              all_goals (refine tk_ret rfl rfl (.cons (.tmp rfl) .nil) ?_)
              all_goals (
               refine fun w' hw' => ⟨congrArg (fun b => Ending.returned (Value.bool b)) ?_, hw'.fr (by simp)⟩
               symm
               unfold noneB
               first
               | exact decide_eq_false (shownN_1 (j := n) (by omega) hc)
               | exact decide_eq_true (shownN_0 (fun j hj => hno j (by omega))))
            · all_goals (skip)
              all_goals refine tc_skip ?_; ((refine hK10 ?_; try (clear hK10; clear K10)))
              all_goals refine tc_region ?_; refine tl_q (y_move rfl) rfl ?_; refine tl_q (y_add rfl rfl (by omega)) rfl ?_; refine tl_q (y_assign rfl) rfl ?_; refine tl_nil ?_
              all_goals (
               exact tk_round (n + 1) ⟨by omega, fun j hj => by
                 rcases Nat.lt_succ_iff_lt_or_eq.1 hj with g | rfl
                 · exact hno j g
                 · exact hc⟩ (by omega) (.cons rfl (.cons rfl (.cons rfl (.cons rfl (.cons rfl .nil))))) (fun _ h => h.subl (SB.s (by repeat constructor)) (SB.s (by repeat constructor)))))
         · try simp only [decide_eq_true_eq, decide_eq_false_iff_not, Int.not_lt, Int.not_le, Bool.not_eq_true', Bool.not_eq_false', Decidable.not_not, not_true_eq_false] at hc
           all_goals refine tc_exit ?_; ((refine hK6 ?_; try (clear hK6; clear K6)))
           all_goals refine tc_seq fun K13 hK13 => ?_; refine tc_region ?_; refine tl_q (y_assign rfl) rfl ?_; refine tl_nil ?_; ((refine hK13 ?_; try (clear hK13; clear K13)))
           all_goals refine tc_ret ?_; (repeat (first | refine tk_then_ret ?_))
           all_goals (refine tk_ret rfl rfl (.cons (.tmp rfl) .nil) ?_)
           all_goals (
            refine fun w' hw' => ⟨congrArg (fun b => Ending.returned (Value.bool b)) ?_, hw'.fr (by simp)⟩
            symm
            unfold noneB
            first
            | exact decide_eq_false (shownN_1 (j := n) (by omega) hc)
            | exact decide_eq_true (shownN_0 (fun j hj => hno j (by omega)))))))
/-- What is found so far, from -1 on. -/
def rsN (t : Tr) (e : E3) (k d : Int) (j : Nat) : List Int := (if 0 < j ∧ noneB t e k d = true then [-1] else []) ++ shownN t e k d (j - 1)
theorem rsN_0 (t : Tr) (e : E3) (k d : Int) : rsN t e k d 0 = [] := by unfold rsN; rw [if_neg (by omega)]; rfl
theorem rsN_1 (t : Tr) (e : E3) (k d : Int) : rsN t e k d 1 = if noneB t e k d = true then [-1] else [] := by
  unfold rsN
  by_cases h : noneB t e k d = true
  · rw [if_pos ⟨by omega, h⟩, if_pos h]; rfl
  · rw [if_neg (fun g => h g.2), if_neg h]; rfl
theorem rsN_v (t : Tr) (e : E3) (k d : Int) (j : Nat) : rsN t e k d (j + 1) = (if noneB t e k d = true then [-1] else []) ++ shownN t e k d j := by
  unfold rsN
  by_cases h : noneB t e k d = true
  · rw [if_pos ⟨by omega, h⟩, if_pos h]; rfl
  · rw [if_neg (fun g => h g.2), if_neg h]; rfl
/-- Whether the j-th of -1, 0, .. can be shown. -/
def cB (t : Tr) (e : E3) (k d : Int) (j : Nat) : Bool := if j = 0 then noneB t e k d else canF t e k d ((j : Int) - 1)
theorem rsN_succ (t : Tr) (e : E3) (k d : Int) (j : Nat) : rsN t e k d (j + 1) = if cB t e k d j = true then rsN t e k d j ++ [(j : Int) - 1] else rsN t e k d j := by
  rcases j with _ | j
  · rw [rsN_1, rsN_0]; rfl
  · have hc : cB t e k d (j + 1) = canF t e k d j := by unfold cB; rw [if_neg (by omega)]; congr 1; omega
    rw [hc, rsN_v, rsN_v, shownN_succ, show (((j + 1 : Nat) : Int) - 1) = (j : Int) from by omega]
    generalize (if noneB t e k d = true then [-1] else ([] : List Int)) = x
    split
    · rw [List.append_assoc]
    · rfl
theorem canB_c (t : Tr) (hv : VT t) (l : List Int) (hl : errB t l = true) (k d : Int) (hk : 0 ≤ k ∧ k ≤ t.s.weights.length) (hd : 1 ≤ d ∧ d ≤ 2000) (j : Nat) (hj : (j : Int) ≤ t.s.divisions + 1) (sl pl ll tl lv : Value) (w : World) (hr : RdTr w t sl pl ll tl) (hL : RdI w lv l) :
    CnV Tryz.prog 74 #[trV t sl pl ll tl, lv, vi k, vi d, vi ((j : Int) - 1)] w (.bool (cB t (er3 l) k d j)) := by
  rcases j with _ | j
  · exact canN_c t hv l hl k d hk hd sl pl ll tl lv w hr hL
  · have h := can9_c t hv l hl k d ((j + 1 : Nat) - 1) hk hd (by omega) sl pl ll tl lv w hr hL
    unfold cB
    rw [if_neg (by omega)]
    exact h
theorem rsN_all {t : Tr} (hv : VT t) (e : E3) (k d : Int) : rsN t e k d ((t.s.divisions + 1).toNat + 1) = shownL t e k d := by
  unfold rsN shownL noneB
  rw [show (t.s.divisions + 1).toNat + 1 - 1 = (t.s.divisions + 1).toNat from by omega]
  by_cases h : (shownN t e k d (t.s.divisions + 1).toNat).length = 0
  · rw [if_pos ⟨by omega, decide_eq_true h⟩, if_pos h, List.eq_nil_of_length_eq_zero h]; rfl
  · rw [if_neg (fun g => h (of_decide_eq_true g.2)), if_neg h]; rfl
theorem rsN_len (t : Tr) (e : E3) (k d : Int) (j : Nat) : (rsN t e k d j).length ≤ j + 1 := by
  unfold rsN
  rw [List.length_append]
  have := shownN_len t e k d (j - 1)
  split <;> simp only [List.length_cons, List.length_nil] <;> omega
theorem refShown_c (t : Tr) (hv : VT t) (l : List Int) (hl : errB t l = true) (k d : Int) (hk : 0 ≤ k ∧ k ≤ t.s.weights.length) (hd : 1 ≤ d ∧ d ≤ 2000) (sl pl ll tl lv : Value) (w : World) (hr : RdTr w t sl pl ll tl) (hL : RdI w lv l) :
    CnX Tryz.prog 25 #[trV t sl pl ll tl, lv, vi k, vi d] w [] (slV (shownL t (er3 l) k d).length) (fun y w' => RdI w' (slV (shownL t (er3 l) k d).length y) (shownL t (er3 l) k d)) := by
  have hr0 := hr
  have hd1 := hv.s.d1
  have hd2 := hv.s.d2
  obtain ⟨aw, cw, _, _, rfl, _, _⟩ := hr.ws.open
  refine cnx0 (vs := [_, _, _, _]) Tryz.func25 rfl rfl ?_
  all_goals refine tc_seq fun K1 hK1 => ?_; refine tc_region ?_; refine tl_e (e_box rfl rfl rfl) rfl (fun b4 _ => ?_); refine tl_q (y_assign rfl) rfl ?_; refine tl_nil ?_; ((refine hK1 ?_; try (clear hK1; clear K1)))
  all_goals refine tc_seq fun K2 hK2 => ?_; refine tc_region ?_; refine tl_q (y_assign rfl) rfl ?_; refine tl_nil ?_; ((refine hK2 ?_; try (clear hK2; clear K2)))
  all_goals refine tc_seq fun K3 hK3 => ?_; refine tc_seq fun K4 hK4 => ?_; refine tc_region ?_; refine tl_q (y_assign rfl) rfl ?_; refine tl_nil ?_; ((refine hK4 ?_; try (clear hK4; clear K4)))
  all_goals refine tc_block ?_
  all_goals (
   refine tc_loop (fun p : Nat × Option (Nat × Nat × List Value) => p.1 ≤ (t.s.divisions + 1).toNat + 1 ∧ outOk ((rsN t (er3 l) k d p.1).length, p.2)) (fun p => [(1, lv), (2, vi k), (3, vi d), (4, ptr b4), (9, outV' ((rsN t (er3 l) k d p.1).length, p.2)), (10, vi ((p.1 : Int) - 1))]) (fun _ => [(w, [])]) (fun p => slH 3 ((rsN t (er3 l) k d p.1).map vi) p.2 ++ [(b4, .cells (trV t (.slice aw t.s.weights.length cw) pl ll tl).cells 28 (0, 0))]) (fun p => (t.s.divisions + 1).toNat + 1 - p.1) ?_ ?_
   · exact tk_start (0, none) ⟨Nat.zero_le _, by dsimp only; rw [rsN_0]; rfl⟩ (.cons rfl (.cons rfl (.cons rfl (.cons rfl (.cons rfl (.cons rfl .nil)))))) (fun _ h => h.subl (SB.s (by repeat constructor)) (SB.s (by repeat constructor)))
   · rintro ⟨n, oo⟩ ⟨hn, hok⟩
     have hlen := rsN_len t (er3 l) k d n
     have hsu := rsN_succ t (er3 l) k d n
     rcases oo with _ | ⟨b0, cap, junk⟩
     all_goals ((dsimp only [outOk] at hn hok hlen; dsimp only [slH_none, slH_some, List.cons_append, List.nil_append, outV']))
     all_goals refine tc_seq fun K5 hK5 => ?_; refine tc_seq fun K6 hK6 => ?_; refine tc_region ?_; refine tl_q (y_move rfl) rfl ?_; refine tl_q (y_field rfl) rfl ?_; refine tl_q (y_field rfl) rfl ?_; refine tl_q (y_load1 rfl (by repeat constructor) (by rfl)) rfl ?_; refine tl_q (y_leq rfl rfl) rfl ?_; refine tl_nil ?_; ((refine hK6 ?_; try (clear hK6; clear K6)))
     all_goals (
      refine tc_cond rfl (fun hc => ?_) (fun hc => ?_)
      · try simp only [decide_eq_true_eq, decide_eq_false_iff_not, Int.not_lt, Int.not_le, Bool.not_eq_true', Bool.not_eq_false', Decidable.not_not, not_true_eq_false] at hc
        all_goals refine tc_skip ?_; ((refine hK5 ?_; try (clear hK5; clear K5)))
        all_goals refine tc_seq fun K7 hK7 => ?_; refine tc_block ?_; refine tc_seq fun K8 hK8 => ?_; refine tc_region ?_; refine tl_q (y_loadW rfl (by repeat constructor) (by rfl)) rfl ?_; refine tl_q (y_move rfl) rfl ?_; refine tl_q (y_move rfl) rfl ?_; refine tl_q (y_move rfl) rfl ?_; refine tl_q (y_move rfl) rfl ?_; refine tl_e (e_callV rfl (.cons rfl (.cons rfl (.cons rfl (.cons rfl (.cons rfl .nil))))) (fun w' hw' => canB_c t hv l hl k d hk hd n (by omega) _ _ _ _ _ w' (hr0.fr (hw'.fr (w0 := w) (S := []) (MI.m (by repeat constructor)))) (hL.fr (hw'.fr (w0 := w) (S := []) (MI.m (by repeat constructor)))))) rfl (fun _ _ => ?_); refine tl_nil ?_; ((refine hK8 ?_; try (clear hK8; clear K8)))
        all_goals (
         refine tc_cond rfl (fun hc => ?_) (fun hc => ?_)
         · all_goals (skip)
           all_goals refine tc_region ?_; refine tl_q (y_move rfl) rfl ?_; refine tl_q (y_move rfl) rfl ?_; (refine tl_e (e_bslice rfl (by (repeat (first | exact .nil | apply PV.one rfl rfl)); done) rfl rfl) rfl (fun _ _ => ?_))
           all_goals ((first | refine tl_e (e_append_own (old := (rsN t (er3 l) k d n).map vi) (junk := junk) rfl rfl rfl (by repeat constructor) (by simp) (by omega) hok.1 (fun w' hw' => RdI.own0 (xs := [(n : Int) - 1]) hw' (by repeat constructor)) (fun u hu => by obtain ⟨_, _, rfl⟩ := List.mem_map.1 hu; rfl) (by simp only [List.length_cons, List.length_nil]; omega) rfl) rfl (fun y hy => ?_) | refine tl_e (e_append_nil rfl rfl rfl (fun w' hw' => RdI.own0 (xs := [(n : Int) - 1]) hw' (by repeat constructor)) (fun u hu => by obtain ⟨_, _, rfl⟩ := List.mem_map.1 hu; rfl) Nat.zero_lt_one (Nat.le_of_ble_eq_true rfl) rfl) rfl (fun y hy => ?_)))
           all_goals refine tl_q (y_assign rfl) rfl ?_; refine tl_nil ?_; ((refine hK7 ?_; try (clear hK7; clear K7)))
           all_goals refine tc_region ?_; refine tl_q (y_move rfl) rfl ?_; refine tl_q (y_add rfl rfl (by omega)) rfl ?_; refine tl_q (y_assign rfl) rfl ?_; refine tl_nil ?_
           all_goals (
            first
            | (have hs2 : rsN t (er3 l) k d (n + 1) = rsN t (er3 l) k d n ++ [(n : Int) - 1] := by rw [hsu, if_pos hc]
               refine tk_round (n + 1, some (y.1, y.2.1, y.2.2)) ⟨by dsimp only; omega, ?_⟩ (by dsimp only; omega) (.cons rfl (.cons rfl (.cons rfl (.cons rfl (.cons ?_ (.cons ?_ .nil)))))) (fun _ h => ?_)
               · dsimp only [outOk]; rw [hs2, List.length_append]; simp only [List.length_cons, List.length_nil] at hy ⊢; omega
               · dsimp only [outV']; rw [hs2, List.length_append]; first | rfl | (rw [hok]; rfl)
               · show some (vi _) = some (vi _); congr 2; dsimp only; omega
               · dsimp only [slH_some, List.cons_append, List.nil_append]; rw [hs2, List.map_append]
                 try rw [show rsN t (er3 l) k d n = [] from List.eq_nil_of_length_eq_zero hok, List.map_nil, List.nil_append]
                 exact h.subl (SB.s (by repeat constructor)) (SB.s (by repeat constructor)))
            | (have hs2 : rsN t (er3 l) k d (n + 1) = rsN t (er3 l) k d n := by rw [hsu, if_neg (by rw [hc]; exact Bool.false_ne_true)]
               first
               | (refine tk_round (n + 1, none) ⟨by dsimp only; omega, by dsimp only [outOk]; rw [hs2]; exact hok⟩ (by dsimp only; omega) (.cons rfl (.cons rfl (.cons rfl (.cons rfl (.cons rfl (.cons ?_ .nil)))))) (fun _ h => ?_)
                  · show some (vi _) = some (vi _); congr 2; dsimp only; omega
                  · dsimp only [slH_none, List.nil_append]; exact h.subl (SB.s (by repeat constructor)) (SB.s (by repeat constructor)))
               | (refine tk_round (n + 1, some (b0, cap, junk)) ⟨by dsimp only; omega, by dsimp only [outOk]; rw [hs2]; exact hok⟩ (by dsimp only; omega) (.cons rfl (.cons rfl (.cons rfl (.cons rfl (.cons ?_ (.cons ?_ .nil)))))) (fun _ h => ?_)
                  · dsimp only [outV']; rw [hs2]; rfl
                  · show some (vi _) = some (vi _); congr 2; dsimp only; omega
                  · dsimp only [slH_some, List.cons_append, List.nil_append]; rw [hs2]; exact h.subl (SB.s (by repeat constructor)) (SB.s (by repeat constructor)))))
         · all_goals (skip)
           all_goals refine tc_skip ?_; ((refine hK7 ?_; try (clear hK7; clear K7)))
           all_goals refine tc_region ?_; refine tl_q (y_move rfl) rfl ?_; refine tl_q (y_add rfl rfl (by omega)) rfl ?_; refine tl_q (y_assign rfl) rfl ?_; refine tl_nil ?_
           all_goals (
            first
            | (have hs2 : rsN t (er3 l) k d (n + 1) = rsN t (er3 l) k d n ++ [(n : Int) - 1] := by rw [hsu, if_pos hc]
               refine tk_round (n + 1, some (y.1, y.2.1, y.2.2)) ⟨by dsimp only; omega, ?_⟩ (by dsimp only; omega) (.cons rfl (.cons rfl (.cons rfl (.cons rfl (.cons ?_ (.cons ?_ .nil)))))) (fun _ h => ?_)
               · dsimp only [outOk]; rw [hs2, List.length_append]; simp only [List.length_cons, List.length_nil] at hy ⊢; omega
               · dsimp only [outV']; rw [hs2, List.length_append]; first | rfl | (rw [hok]; rfl)
               · show some (vi _) = some (vi _); congr 2; dsimp only; omega
               · dsimp only [slH_some, List.cons_append, List.nil_append]; rw [hs2, List.map_append]
                 try rw [show rsN t (er3 l) k d n = [] from List.eq_nil_of_length_eq_zero hok, List.map_nil, List.nil_append]
                 exact h.subl (SB.s (by repeat constructor)) (SB.s (by repeat constructor)))
            | (have hs2 : rsN t (er3 l) k d (n + 1) = rsN t (er3 l) k d n := by rw [hsu, if_neg (by rw [hc]; exact Bool.false_ne_true)]
               first
               | (refine tk_round (n + 1, none) ⟨by dsimp only; omega, by dsimp only [outOk]; rw [hs2]; exact hok⟩ (by dsimp only; omega) (.cons rfl (.cons rfl (.cons rfl (.cons rfl (.cons rfl (.cons ?_ .nil)))))) (fun _ h => ?_)
                  · show some (vi _) = some (vi _); congr 2; dsimp only; omega
                  · dsimp only [slH_none, List.nil_append]; exact h.subl (SB.s (by repeat constructor)) (SB.s (by repeat constructor)))
               | (refine tk_round (n + 1, some (b0, cap, junk)) ⟨by dsimp only; omega, by dsimp only [outOk]; rw [hs2]; exact hok⟩ (by dsimp only; omega) (.cons rfl (.cons rfl (.cons rfl (.cons rfl (.cons ?_ (.cons ?_ .nil)))))) (fun _ h => ?_)
                  · dsimp only [outV']; rw [hs2]; rfl
                  · show some (vi _) = some (vi _); congr 2; dsimp only; omega
                  · dsimp only [slH_some, List.cons_append, List.nil_append]; rw [hs2]; exact h.subl (SB.s (by repeat constructor)) (SB.s (by repeat constructor))))))
      · try simp only [decide_eq_true_eq, decide_eq_false_iff_not, Int.not_lt, Int.not_le, Bool.not_eq_true', Bool.not_eq_false', Decidable.not_not, not_true_eq_false] at hc
        all_goals refine tc_exit ?_; ((refine hK3 ?_; try (clear hK3; clear K3)))
        all_goals refine tc_seq fun K9 hK9 => ?_; (have hnl : n = (t.s.divisions + 1).toNat + 1 := by omega)
        all_goals subst hnl
        all_goals rw [rsN_all hv] at hok
        all_goals try rw [rsN_all hv]
        all_goals refine tc_region ?_; refine tl_q (y_move rfl) rfl ?_; refine tl_q (y_assign rfl) rfl ?_; refine tl_nil ?_; ((refine hK9 ?_; try (clear hK9; clear K9)))
        all_goals refine tc_ret ?_; (repeat (first | refine tk_then_ret ?_))
        all_goals (refine tk_ret rfl rfl (.cons (.tmp rfl) .nil) ?_)
        all_goals (
         refine fun w' hw' => ?_
         first
         | exact ⟨(some ⟨b0, 0, none⟩, cap), rfl, hw'.fr (by simp), RdI.own (xs := shownL t (er3 l) k d) (cap := cap) (junk := junk) hw' (b := b0) (by repeat constructor)⟩
         | (exfalso; have := shownL_pos t (er3 l) k d; omega))))
end Go.Sp
