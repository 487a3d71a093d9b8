
/-
  The reference of trials: all lists of errors of truths; whether there is a truth without some tests.
-/
import Derived.Test.YtegojecjmaifdaaGreatM4
import Derived.Test.YtegojecjmaifdaaGreatRows
import Derived.ProofKit
import Derived.OpenShut
import Derived.Carry
import Derived.Deep.Fields
set_option linter.unusedVariables false
set_option linter.unusedSimpArgs false
set_option linter.deprecated false
namespace Go.Sp
open Go Go.Proofs
/-- What is asked of ways. -/
def WsOk (ws : List Wy) : Prop := ws.length ≤ 9999 ∧ ∀ x ∈ ws, x.2.length ≤ 9 ∧ (∀ l ∈ x.2, l.length ≤ 99) ∧ ∀ l ∈ x.2, ∀ b ∈ l, 0 ≤ b ∧ b < 4611686018427387904
theorem getD_memW {ws : List Wy} {k : Nat} (h : k < ws.length) : ws.getD k ([], []) ∈ ws := by rw [List.getD_eq_getElem?_getD, List.getElem?_eq_getElem h]; exact List.getElem_mem h
theorem hasW_c (ws : List Wy) (hok : WsOk ws) (out : Nat) (ho : out < 2 ^ 62) (v : Value) (w : World) (hW : RdWs w v ws) :
    CnV Tryz.prog 116 #[v, vi out] w (.bool (ws.any fun x => okW' x out)) := by
  have hl9 := hok.1
  obtain ⟨aw, cw, bw, ow, us, rfl, hadw, hcw, hRw⟩ := hW.open
  refine cnv (vs := [_, _]) Tryz.func116 rfl rfl ?_
  all_goals refine tc_seq fun K1 hK1 => ?_; refine tc_region ?_; refine tl_q (y_assign rfl) rfl ?_; refine tl_nil ?_; ((refine hK1 ?_; try (clear hK1; clear K1)))
  all_goals refine tc_seq fun K2 hK2 => ?_; refine tc_seq fun K3 hK3 => ?_; refine tc_region ?_; refine tl_q (y_assign rfl) rfl ?_; refine tl_nil ?_; ((refine hK3 ?_; try (clear hK3; clear K3)))
  all_goals refine tc_block ?_
  all_goals (
   refine tc_loop (fun i : Nat => i ≤ ws.length ∧ (ws.take i).any (fun x => okW' x out) = false) (fun i => [(0, .slice aw ws.length cw), (1, vi out), (5, vi i)]) (fun _ => [(w, [])]) (fun _ => []) (fun i => ws.length - i) ?_ ?_
   · exact tk_start 0 ⟨Nat.zero_le _, rfl⟩ (.cons rfl (.cons rfl (.cons rfl .nil))) (fun _ h => h.subl (SB.s (by repeat constructor)) (SB.s (by repeat constructor)))
   · rintro i ⟨hi, hany⟩
     all_goals refine tc_seq fun K4 hK4 => ?_; refine tc_seq fun K5 hK5 => ?_; refine tc_region ?_; refine tl_q (y_move rfl) rfl ?_; refine tl_q (y_move rfl) rfl ?_; refine tl_q (y_len rfl) rfl ?_; refine tl_q (y_lss rfl rfl) rfl ?_; refine tl_nil ?_; ((refine hK5 ?_; try (clear hK5; clear K5)))
     all_goals (
      refine tc_cond rfl (fun hc => ?_) (fun hc => ?_)
      · try simp only [decide_eq_true_eq, decide_eq_false_iff_not, Int.not_lt, Int.not_le, Bool.not_eq_true', Bool.not_eq_false', Decidable.not_not, not_true_eq_false] at hc
        all_goals refine tc_skip ?_; ((refine hK4 ?_; try (clear hK4; clear K4)))
        all_goals refine tc_seq fun K6 hK6 => ?_; refine tc_block ?_; refine tc_seq fun K7 hK7 => ?_; ((have hadw' := hadw (by omega); have hx := hok.2 _ (getD_memW (ws := ws) (k := i) (by omega))))
        all_goals ((have hsu := anyT_succ (f := fun x => okW' x out) (z := ([], [])) (show i < ws.length by omega); rw [hany, Bool.false_or] at hsu))
        all_goals (rcases hk : okW' (ws.getD i ([], [])) out)
        all_goals refine tc_region ?_; refine tl_q (y_move rfl) rfl ?_; refine tl_q (y_move rfl) rfl ?_; refine tl_q (y_index rfl rfl (by omega) hadw') rfl ?_; refine tl_q (y_loadNo (n := 2) (vs := [(us.getD i (.nilFunc, .nilFunc)).1, (us.getD i (.nilFunc, .nilFunc)).2]) rfl (fun w' hw' => .cons (hcw w' (hw'.fr (w0 := w) (S := []) (MI.m (by repeat constructor))) i (by omega)).1 (.cons (hcw w' (hw'.fr (w0 := w) (S := []) (MI.m (by repeat constructor))) i (by omega)).2 .nil))) rfl ?_; refine tl_q (y_move rfl) rfl ?_; (refine tl_e (e_callV rfl (.cons rfl (.cons rfl .nil)) (fun w' hw' => by have h := rightW_c (ws.getD i ([], [])) out ho hx.2.2 hx.1 hx.2.1 _ _ w' (hRw w' (hw'.fr (w0 := w) (S := []) (MI.m (by repeat constructor))) i (by omega)).1 (hRw w' (hw'.fr (w0 := w) (S := []) (MI.m (by repeat constructor))) i (by omega)).2; rw [hk] at h; exact h)) rfl (fun _ _ => ?_))
        all_goals refine tl_nil ?_; ((refine hK7 ?_; try (clear hK7; clear K7)))
        all_goals (
         refine tc_cond rfl (fun hc => ?_) (fun hc => ?_)
         · try simp only [decide_eq_true_eq, decide_eq_false_iff_not, Int.not_lt, Int.not_le, Bool.not_eq_true', Bool.not_eq_false', Decidable.not_not, not_true_eq_false] at hc
           all_goals ((first | (exfalso; with_reducible exact bft hc) | skip))
           all_goals refine tc_seq fun K8 hK8 => ?_; refine tc_region ?_; refine tl_q (y_assign rfl) rfl ?_; refine tl_nil ?_; ((refine hK8 ?_; try (clear hK8; clear K8)))
           all_goals refine tc_ret ?_; (repeat (first | refine tk_then_ret ?_ | refine tk_block_ret ?_))
           all_goals (refine tk_ret rfl rfl (.cons (.tmp rfl) .nil) ?_)
           all_goals (
            first
            | exact fun w' hw' => ⟨by rw [show i = ws.length from by omega, List.take_length] at hany; rw [hany]; rfl, hw'.fr (w0 := w) (S := []) (MI.m (by repeat constructor))⟩
            | exact fun w' hw' => ⟨by rw [← List.take_append_drop (i + 1) ws, List.any_append, hsu, hk, Bool.true_or]; rfl, hw'.fr (w0 := w) (S := []) (MI.m (by repeat constructor))⟩)
         · try simp only [decide_eq_true_eq, decide_eq_false_iff_not, Int.not_lt, Int.not_le, Bool.not_eq_true', Bool.not_eq_false', Decidable.not_not, not_true_eq_false] at hc
           all_goals ((first | (exfalso; with_reducible exact btf hc) | skip))
           all_goals refine tc_skip ?_; ((refine hK6 ?_; try (clear hK6; clear K6)))
           all_goals refine tc_region ?_; refine tl_q (y_move rfl) rfl ?_; refine tl_q (y_add rfl rfl (by omega)) rfl ?_; refine tl_q (y_assign rfl) rfl ?_; refine tl_nil ?_
           all_goals (
            exact tk_round (i + 1) ⟨by omega, by rw [hsu, hk]⟩ (by omega) (.cons rfl (.cons rfl (.cons rfl .nil))) (fun _ h => h.subl (SB.s (by repeat constructor)) (SB.s (by repeat constructor)))))
      · try simp only [decide_eq_true_eq, decide_eq_false_iff_not, Int.not_lt, Int.not_le, Bool.not_eq_true', Bool.not_eq_false', Decidable.not_not, not_true_eq_false] at hc
        all_goals refine tc_exit ?_; ((refine hK2 ?_; try (clear hK2; clear K2)))
        all_goals refine tc_seq fun K9 hK9 => ?_; refine tc_region ?_; refine tl_q (y_assign rfl) rfl ?_; refine tl_nil ?_; ((refine hK9 ?_; try (clear hK9; clear K9)))
        all_goals refine tc_ret ?_; (repeat (first | refine tk_then_ret ?_))
        all_goals (refine tk_ret rfl rfl (.cons (.tmp rfl) .nil) ?_)
        all_goals (
         first
         | exact fun w' hw' => ⟨by rw [show i = ws.length from by omega, List.take_length] at hany; rw [hany]; rfl, hw'.fr (w0 := w) (S := []) (MI.m (by repeat constructor))⟩
         | exact fun w' hw' => ⟨by rw [← List.take_append_drop (i + 1) ws, List.any_append, hsu, hk, Bool.true_or]; rfl, hw'.fr (w0 := w) (S := []) (MI.m (by repeat constructor))⟩)))
def trueN (ws : List Wy) (n : Nat) : List (List Int) := ((ws.take n).filter fun x => okW' x 0).map fun x => x.1
theorem trueN_succ {ws : List Wy} {n : Nat} (h : n < ws.length) : trueN ws (n + 1) = if okW' (ws.getD n ([], [])) 0 = true then trueN ws n ++ [(ws.getD n ([], [])).1] else trueN ws n := by
  unfold trueN
  rw [takeT_succ' h ([], []), List.filter_append, List.map_append]
  cases hk : okW' (ws.getD n ([], [])) 0
  · rw [if_neg Bool.false_ne_true, List.filter_cons_of_neg (by rw [hk]; exact Bool.false_ne_true)]; simp
  · rw [if_pos rfl, List.filter_cons_of_pos (p := fun x : Wy => okW' x 0) hk]; rfl
theorem trueN_len {ws : List Wy} {n : Nat} : (trueN ws n).length ≤ n := by
  unfold trueN
  rw [List.length_map]
  exact Nat.le_trans (List.length_filter_le _ _) (by rw [List.length_take]; omega)
def RdV (w : World) (vs : List Value) (ls : List (List Int)) : Prop := vs.length = ls.length ∧ ∀ i, i < ls.length → RdI w (vs.getD i (.slice none 0 0)) (ls.getD i [])
theorem RdV.snoc {w : World} {vs : List Value} {ls : List (List Int)} {v : Value} {l : List Int} (h : RdV w vs ls) (hv : RdI w v l) : RdV w (vs ++ [v]) (ls ++ [l]) := by
  refine ⟨by simp [h.1], fun j hj => ?_⟩
  rw [getD_snoc, getD_snoc, h.1]
  rw [List.length_append, List.length_singleton] at hj
  split
  · rename_i hj1; exact h.2 j hj1
  · rename_i hj1; rw [if_pos (by omega), if_pos (by omega)]; exact hv
theorem true_c (ws : List Wy) (hok : WsOk ws) (v : Value) (w : World) (hW : RdWs w v ws) :
    CnX Tryz.prog 82 #[v] w [] (slV (trueN ws ws.length).length) (fun y w' => RdLL w' (slV (trueN ws ws.length).length y) (trueN ws ws.length)) := by
  have hl9 := hok.1
  obtain ⟨aw, cw, bw, ow, us, rfl, hadw, hcw, hRw⟩ := hW.open
  refine cnx0 (vs := [_]) Tryz.func82 rfl rfl ?_
  all_goals refine tc_seq fun K1 hK1 => ?_; refine tc_region ?_; refine tl_q (y_assign rfl) rfl ?_; refine tl_nil ?_; ((refine hK1 ?_; try (clear hK1; clear K1)))
  all_goals refine tc_seq fun K2 hK2 => ?_; refine tc_region ?_; refine tl_q (y_assign rfl) rfl ?_; refine tl_nil ?_; ((refine hK2 ?_; try (clear hK2; clear K2)))
  all_goals refine tc_seq fun K3 hK3 => ?_; refine tc_seq fun K4 hK4 => ?_; refine tc_region ?_; refine tl_q (y_assign rfl) rfl ?_; refine tl_nil ?_; ((refine hK4 ?_; try (clear hK4; clear K4)))
  all_goals refine tc_block ?_
  all_goals (
   refine tc_loop (fun p : Nat × Option (Nat × Nat × List Value) × List Value => p.1 ≤ ws.length ∧ outOk ((trueN ws p.1).length, p.2.1) ∧ RdV w p.2.2 (trueN ws p.1)) (fun p => [(0, .slice aw ws.length cw), (3, outV' ((trueN ws p.1).length, p.2.1)), (4, vi p.1)]) (fun _ => [(w, [])]) (fun p => slH 22 p.2.2 p.2.1) (fun p => ws.length - p.1) ?_ ?_
   · exact tk_start (0, none, []) ⟨Nat.zero_le _, rfl, rfl, fun j hj => absurd hj (Nat.not_lt_zero j)⟩ (.cons rfl (.cons rfl (.cons rfl .nil))) (fun _ h => h.subl (SB.s (by repeat constructor)) (SB.s (by repeat constructor)))
   · rintro ⟨n, oo, vs⟩ ⟨hn, hok', hrv⟩
     have htl := trueN_len (ws := ws) (n := n)
     rcases oo with _ | ⟨bo, cap, junk⟩
     all_goals ((dsimp only [outOk] at hn hok' hrv ⊢; dsimp only [slH_none, slH_some, List.cons_append, List.nil_append, outV']))
     all_goals refine tc_seq fun K5 hK5 => ?_; refine tc_seq fun K6 hK6 => ?_; refine tc_region ?_; refine tl_q (y_move rfl) rfl ?_; refine tl_q (y_move rfl) rfl ?_; refine tl_q (y_len rfl) rfl ?_; refine tl_q (y_lss rfl rfl) rfl ?_; refine tl_nil ?_; ((refine hK6 ?_; try (clear hK6; clear K6)))
     all_goals (
      refine tc_cond rfl (fun hc => ?_) (fun hc => ?_)
      · try simp only [decide_eq_true_eq, decide_eq_false_iff_not, Int.not_lt, Int.not_le, Bool.not_eq_true', Bool.not_eq_false', Decidable.not_not, not_true_eq_false] at hc
        all_goals refine tc_skip ?_; ((refine hK5 ?_; try (clear hK5; clear K5)))
        all_goals refine tc_seq fun K7 hK7 => ?_; refine tc_block ?_; refine tc_seq fun K8 hK8 => ?_; ((have hadw' := hadw (by omega); have hx := hok.2 _ (getD_memW (ws := ws) (k := n) (by omega))))
        all_goals (have hsu := trueN_succ (ws := ws) (n := n) (by omega))
        all_goals (obtain ⟨aE, cE, _, _, eE, _, _⟩ := (hRw w (Fr.refl _ _) n (by omega)).1.open)
        all_goals (rcases hk : okW' (ws.getD n ([], [])) 0)
        all_goals (rw [hk] at hsu)
        all_goals refine tc_region ?_; refine tl_q (y_move rfl) rfl ?_; refine tl_q (y_move rfl) rfl ?_; refine tl_q (y_index rfl rfl (by omega) hadw') rfl ?_; refine tl_q (y_loadNo (n := 2) (vs := [(us.getD n (.nilFunc, .nilFunc)).1, (us.getD n (.nilFunc, .nilFunc)).2]) rfl (fun w' hw' => .cons (hcw w' (hw'.fr (w0 := w) (S := []) (MI.m (by repeat constructor))) n (by omega)).1 (.cons (hcw w' (hw'.fr (w0 := w) (S := []) (MI.m (by repeat constructor))) n (by omega)).2 .nil))) rfl ?_; (refine tl_e (e_callV rfl (.cons rfl (.cons rfl .nil)) (fun w' hw' => by have h := rightW_c (ws.getD n ([], [])) 0 (by omega) hx.2.2 hx.1 hx.2.1 _ _ w' (hRw w' (hw'.fr (w0 := w) (S := []) (MI.m (by repeat constructor))) n (by omega)).1 (hRw w' (hw'.fr (w0 := w) (S := []) (MI.m (by repeat constructor))) n (by omega)).2; rw [hk] at h; exact h)) rfl (fun _ _ => ?_))
        all_goals refine tl_nil ?_; ((refine hK8 ?_; try (clear hK8; clear K8)))
        all_goals (
         refine tc_cond rfl (fun hc => ?_) (fun hc => ?_)
         · try simp only [decide_eq_true_eq, decide_eq_false_iff_not, Int.not_lt, Int.not_le, Bool.not_eq_true', Bool.not_eq_false', Decidable.not_not, not_true_eq_false] at hc
           all_goals ((first | (exfalso; with_reducible exact bft hc) | skip))
           all_goals refine tc_region ?_; refine tl_q (y_move rfl) rfl ?_; refine tl_q (y_move rfl) rfl ?_; refine tl_q (y_move rfl) rfl ?_; refine tl_q (y_index rfl rfl (by omega) hadw') rfl ?_; refine tl_q (y_field rfl) rfl ?_; ((refine tl_q (y_load1o (v := .slice aE (ws.getD n ([], [])).1.length cE) rfl (fun w' hw' => by rw [← eE]; exact (hcw w' (hw'.fr (w0 := w) (S := []) (MI.m (by repeat constructor))) n (by omega)).1)) rfl ?_))
           all_goals (refine tl_e (e_bslice rfl (by (repeat (first | exact .nil | apply PV.one rfl rfl)); done) rfl rfl) rfl (fun _ _ => ?_))
           all_goals ((first | refine tl_e (e_append_own (old := vs) (junk := junk) rfl rfl rfl (by repeat constructor) (by rw [hrv.1, Nat.mul_one]) (by omega) hok'.1 (fun w' hw' => Reads.own1 hw' (by repeat constructor)) (fun u hu => by obtain rfl := List.mem_singleton.1 hu; rfl) (by omega) rfl) rfl (fun y hy => ?_) | refine tl_e (e_append_nil rfl rfl rfl (fun w' hw' => Reads.own1 hw' (by repeat constructor)) (fun u hu => by obtain rfl := List.mem_singleton.1 hu; rfl) Nat.zero_lt_one (Nat.le_of_ble_eq_true rfl) rfl) rfl (fun y hy => ?_)))
           all_goals refine tl_q (y_assign rfl) rfl ?_; refine tl_nil ?_; ((refine hK7 ?_; try (clear hK7; clear K7)))
           all_goals refine tc_region ?_; refine tl_q (y_move rfl) rfl ?_; refine tl_q (y_add rfl rfl (by omega)) rfl ?_; refine tl_q (y_assign rfl) rfl ?_; refine tl_nil ?_
           all_goals (
            first
            | (rw [if_neg Bool.false_ne_true] at hsu
               first
               | exact tk_round (n + 1, some (bo, cap, junk), vs) ⟨by dsimp only; omega, by dsimp only [outOk]; rw [hsu]; exact hok', by dsimp only; rw [hsu]; exact hrv⟩ (by dsimp only; omega) (.cons rfl (.cons (by rw [hsu]; rfl) (.cons rfl .nil))) (fun _ h => h.subl (SB.s (by repeat constructor)) (SB.s (by repeat constructor)))
               | exact tk_round (n + 1, none, vs) ⟨by dsimp only; omega, by dsimp only [outOk]; rw [hsu]; exact hok', by dsimp only; rw [hsu]; exact hrv⟩ (by dsimp only; omega) (.cons rfl (.cons (by rw [hsu]; rfl) (.cons rfl .nil))) (fun _ h => h.subl (SB.s (by repeat constructor)) (SB.s (by repeat constructor))))
            | (rw [if_pos rfl] at hsu
               have hrv2 := hrv.snoc (v := .slice aE (ws.getD n ([], [])).1.length cE) (by rw [← eE]; exact (hRw w (Fr.refl _ _) n (by omega)).1)
               refine tk_round (n + 1, some (y.1, y.2.1, y.2.2), vs ++ [.slice aE (ws.getD n ([], [])).1.length cE]) ⟨by dsimp only; omega, ?_, by dsimp only; rw [hsu]; exact hrv2⟩ (by dsimp only; omega) (.cons rfl (.cons ?_ (.cons rfl .nil))) (fun _ h => ?_)
               · dsimp only [outOk]; rw [hsu, List.length_append, List.length_singleton]; try simp only [List.length_cons, List.length_nil] at hy
                 omega
               · dsimp only [outV']; rw [hsu, List.length_append, List.length_singleton]; first | rfl | (rw [hok']; rfl)
               · dsimp only [slH_some]
                 try rw [show vs = [] from List.eq_nil_of_length_eq_zero (by rw [hrv.1]; exact hok'), List.nil_append]
                 exact h.subl (SB.s (by repeat constructor)) (SB.s (by repeat constructor))))
         · try simp only [decide_eq_true_eq, decide_eq_false_iff_not, Int.not_lt, Int.not_le, Bool.not_eq_true', Bool.not_eq_false', Decidable.not_not, not_true_eq_false] at hc
           all_goals ((first | (exfalso; with_reducible exact btf hc) | skip))
           all_goals refine tc_skip ?_; ((refine hK7 ?_; try (clear hK7; clear K7)))
           all_goals refine tc_region ?_; refine tl_q (y_move rfl) rfl ?_; refine tl_q (y_add rfl rfl (by omega)) rfl ?_; refine tl_q (y_assign rfl) rfl ?_; refine tl_nil ?_
           all_goals (
            first
            | (rw [if_neg Bool.false_ne_true] at hsu
               first
               | exact tk_round (n + 1, some (bo, cap, junk), vs) ⟨by dsimp only; omega, by dsimp only [outOk]; rw [hsu]; exact hok', by dsimp only; rw [hsu]; exact hrv⟩ (by dsimp only; omega) (.cons rfl (.cons (by rw [hsu]; rfl) (.cons rfl .nil))) (fun _ h => h.subl (SB.s (by repeat constructor)) (SB.s (by repeat constructor)))
               | exact tk_round (n + 1, none, vs) ⟨by dsimp only; omega, by dsimp only [outOk]; rw [hsu]; exact hok', by dsimp only; rw [hsu]; exact hrv⟩ (by dsimp only; omega) (.cons rfl (.cons (by rw [hsu]; rfl) (.cons rfl .nil))) (fun _ h => h.subl (SB.s (by repeat constructor)) (SB.s (by repeat constructor))))
            | (rw [if_pos rfl] at hsu
               have hrv2 := hrv.snoc (v := .slice aE (ws.getD n ([], [])).1.length cE) (by rw [← eE]; exact (hRw w (Fr.refl _ _) n (by omega)).1)
               refine tk_round (n + 1, some (y.1, y.2.1, y.2.2), vs ++ [.slice aE (ws.getD n ([], [])).1.length cE]) ⟨by dsimp only; omega, ?_, by dsimp only; rw [hsu]; exact hrv2⟩ (by dsimp only; omega) (.cons rfl (.cons ?_ (.cons rfl .nil))) (fun _ h => ?_)
               · dsimp only [outOk]; rw [hsu, List.length_append, List.length_singleton]; try simp only [List.length_cons, List.length_nil] at hy
                 omega
               · dsimp only [outV']; rw [hsu, List.length_append, List.length_singleton]; first | rfl | (rw [hok']; rfl)
               · dsimp only [slH_some]
                 try rw [show vs = [] from List.eq_nil_of_length_eq_zero (by rw [hrv.1]; exact hok'), List.nil_append]
                 exact h.subl (SB.s (by repeat constructor)) (SB.s (by repeat constructor)))))
      · try simp only [decide_eq_true_eq, decide_eq_false_iff_not, Int.not_lt, Int.not_le, Bool.not_eq_true', Bool.not_eq_false', Decidable.not_not, not_true_eq_false] at hc
        all_goals refine tc_exit ?_; ((refine hK3 ?_; try (clear hK3; clear K3)))
        all_goals refine tc_seq fun K9 hK9 => ?_; (have hnn : n = ws.length := by omega)
        all_goals subst hnn
        all_goals refine tc_region ?_; refine tl_q (y_move rfl) rfl ?_; refine tl_q (y_assign rfl) rfl ?_; refine tl_nil ?_; ((refine hK9 ?_; try (clear hK9; clear K9)))
        all_goals refine tc_ret ?_; (repeat (first | refine tk_then_ret ?_))
        all_goals (refine tk_ret rfl rfl (.cons (.tmp rfl) .nil) ?_)
        all_goals (
         refine fun w' hw' => ?_
         first
         | (have hz : trueN ws ws.length = [] := List.eq_nil_of_length_eq_zero hok'
            refine ⟨(none, 0), ?_, hw'.fr (w0 := w) (S := []) (MI.m (by repeat constructor)), ?_⟩
            · unfold slV; rw [hz]; rfl
            · unfold slV; rw [hz]; exact RdLL.nil _)
         | (refine ⟨(some ⟨bo, 0, none⟩, cap), rfl, hw'.fr (w0 := w) (S := []) (MI.m (by repeat constructor)), vs, ⟨by rw [hrv.1, Nat.mul_one], _, _, rfl, fun _ => ⟨bo, 0, rfl, ?_⟩⟩, fun i hi => (hrv.2 i hi).fr (hw'.fr (w0 := w) (S := []) (MI.m (by repeat constructor)))⟩
            rw [← hrv.1, Nat.mul_one]
            exact (CA_pre vs junk 22 (0, 0)).cells (hw'.heap _ (HM.mem (by repeat constructor)))))))
end Go.Sp
/-
  Trials, plainly: the reference's ways are the truths; what a division means, corrected: all densities tried.
-/
namespace Go.Sp
open Go Go.Proofs
theorem bitsL_zero : bitsL 0 = [] := by decide +kernel
theorem ways_all (t : Tr) : waysN t (everyL t).length = (everyL t).map (wayF t) := by unfold waysN; rw [List.take_length]
theorem ways_true {t : Tr} (hv : VT t) : trueN (waysN t (everyL t).length) (waysN t (everyL t).length).length = (truthsL t []).map (errL t) := by
  unfold trueN truthsL
  rw [List.take_length, ways_all, List.filter_map, List.map_map]
  have : ((fun x => okW' x 0) ∘ wayF t) = fun e => denOk t e [] := by
    funext e
    have := okW_den hv (e := e) (out := 0) (Nat.two_pow_pos _)
    rw [show ((0 : Nat) : Int) = 0 from rfl, bitsL_zero] at this
    exact this
  rw [this]; rfl
theorem ways_ok {t : Tr} (hv : VT t) (h14 : ∀ i : Nat, i < t.liquids.length → (lqAt t i).2 - (lqAt t i).1 ≤ 14) : WsOk (waysN t (everyL t).length) := by
  have hel := every_len hv
  have hl3 := hv.l3
  refine ⟨by rw [waysN_len (Nat.le_refl _)]; omega, fun x hx => ?_⟩
  rw [ways_all] at hx
  obtain ⟨e, _, rfl⟩ := List.mem_map.1 hx
  unfold wayF
  dsimp only
  refine ⟨by rw [wrongsN_len]; omega, fun l hl => ?_, fun l hl b hb => ?_⟩
  · unfold wrongsN at hl
    obtain ⟨i, hi, rfl⟩ := List.mem_map.1 hl
    rw [wrongN_len]
    have := h14 i (List.mem_range.1 hi)
    unfold lqC
    omega
  · unfold wrongsN at hl
    obtain ⟨i, hi, rfl⟩ := List.mem_map.1 hl
    unfold wrongN at hb
    obtain ⟨q, _, rfl⟩ := List.mem_map.1 hb
    have h1 := bitsW_lt (wrongB t e i ((lqAt t i).1 + q)) t.tests.length
    have h2 : 2 ^ t.tests.length ≤ 2 ^ 9 := Nat.pow_le_pow_right (by omega) (by have := hv.t6; omega)
    omega
def canP (t : Tr) (k n : Int) (d : Int) : Bool := (truthsL t []).any fun e => canF t e k d n
def rcN (t : Tr) (k n : Int) : Nat → Int × Int
  | 0 => (9999, -1)
  | d + 1 => if canP t k n ((d + 1 : Nat) : Int) = true then (min (rcN t k n d).1 ((d + 1 : Nat) : Int), max (rcN t k n d).2 ((d + 1 : Nat) : Int)) else rcN t k n d
theorem rcN_spec (t : Tr) (k n : Int) : ∀ d : Nat, d ≤ 2000 → (rcN t k n d = (9999, -1) ∧ ∀ q : Int, 1 ≤ q → q ≤ d → canP t k n q = false) ∨ (canP t k n (rcN t k n d).1 = true ∧ canP t k n (rcN t k n d).2 = true ∧ 1 ≤ (rcN t k n d).1 ∧ (rcN t k n d).1 ≤ (rcN t k n d).2 ∧ (rcN t k n d).2 ≤ d ∧ ∀ q : Int, 1 ≤ q → q ≤ d → canP t k n q = true → (rcN t k n d).1 ≤ q ∧ q ≤ (rcN t k n d).2)
  | 0, _ => .inl ⟨rfl, fun q h1 h2 => by omega⟩
  | d + 1, hd => by
    have ih := rcN_spec t k n d (by omega)
    unfold rcN
    by_cases hp : canP t k n ((d + 1 : Nat) : Int) = true
    · rw [if_pos hp]
      right
      rcases ih with ⟨h1, h2⟩ | ⟨h1, h2, h3, h4, h5, h6⟩
      · rw [h1]
        dsimp only
        rw [show min (9999 : Int) ((d + 1 : Nat) : Int) = ((d + 1 : Nat) : Int) from by omega, show max (-1 : Int) ((d + 1 : Nat) : Int) = ((d + 1 : Nat) : Int) from by omega]
        refine ⟨hp, hp, by omega, Int.le_refl _, Int.le_refl _, fun q g1 g2 g3 => ?_⟩
        by_cases hq : q ≤ d
        · rw [h2 q g1 hq] at g3; cases g3
        · omega
      · dsimp only
        rw [show min (rcN t k n d).1 ((d + 1 : Nat) : Int) = (rcN t k n d).1 from by omega, show max (rcN t k n d).2 ((d + 1 : Nat) : Int) = ((d + 1 : Nat) : Int) from by omega]
        refine ⟨h1, hp, h3, by omega, Int.le_refl _, fun q g1 g2 g3 => ?_⟩
        by_cases hq : q ≤ d
        · have := h6 q g1 hq g3; omega
        · omega
    · rw [if_neg hp]
      have hp' : canP t k n ((d + 1 : Nat) : Int) = false := by simpa using hp
      rcases ih with ⟨h1, h2⟩ | ⟨h1, h2, h3, h4, h5, h6⟩
      · refine .inl ⟨h1, fun q g1 g2 => ?_⟩
        by_cases hq : q ≤ d
        · exact h2 q g1 hq
        · rw [show q = ((d + 1 : Nat) : Int) from by omega]; exact hp'
      · refine .inr ⟨h1, h2, h3, h4, by omega, fun q g1 g2 g3 => ?_⟩
        by_cases hq : q ≤ d
        · exact h6 q g1 hq g3
        · rw [show q = ((d + 1 : Nat) : Int) from by omega, hp'] at g3; cases g3
theorem corr_ends {t : Tr} (hv : VT t) {k x : Int} (hk : 0 ≤ k ∧ k ≤ t.s.weights.length) {Q : Int → Prop} :
    ∀ (l : List E3), (∀ e ∈ l, ∀ d : Int, 1 ≤ d → d ≤ 2000 → canF t e k d x = true → Q d) → ∀ r : Int × Int, (r = (2001, 0) ∨ (Q r.1 ∧ Q r.2)) → l.foldl (corrStep t k x) r = (2001, 0) ∨ (Q (l.foldl (corrStep t k x) r).1 ∧ Q (l.foldl (corrStep t k x) r).2)
  | [], _, r, h => h
  | e :: l, hq, r, h => by
    rw [List.foldl_cons]
    refine corr_ends hv hk l (fun a ha => hq a (List.mem_cons_of_mem _ ha)) _ ?_
    unfold corrStep
    split
    · rename_i hc
      rcases hm : meanE t.s k (x - ofF t e x) with ⟨⟨m1, m2⟩, e3⟩
      rw [hm] at hc
      rcases mean_spec hv.s hk.1 hk.2 (by omega) (by omega) hm with ⟨rfl, g1, g2, g3, g4⟩ | ⟨rfl, _⟩
      · have hb : ∀ d : Int, m1 ≤ d → d ≤ m2 → Q d := fun d d1 d2 => hq e List.mem_cons_self d (by omega) (by omega) ((canF_fit hv hk ⟨by omega, by omega⟩).trans (by rw [decide_eq_true hc.2, Bool.true_and]; exact (g4 d (by omega) (by omega)).2 ⟨d1, d2⟩))
        have q1 := hb m1 (Int.le_refl _) g2
        have q2 := hb m2 g2 (Int.le_refl _)
        right
        dsimp only
        constructor
        · rcases (by omega : min (min r.1 m1) m2 = r.1 ∧ r.1 ≤ m1 ∨ min (min r.1 m1) m2 = m1) with ⟨g, gl⟩ | g
          · rcases h with h | h
            · rw [h] at gl; dsimp only at gl; omega
            · rw [g]; exact h.1
          · rw [g]; exact q1
        · rcases (by omega : max (max r.2 m1) m2 = r.2 ∧ m2 ≤ r.2 ∨ max (max r.2 m1) m2 = m2) with ⟨g, gl⟩ | g
          · rcases h with h | h
            · rw [h] at gl; dsimp only at gl; omega
            · rw [g]; exact h.2
          · rw [g]; exact q2
      · exact absurd hc.1 (by show ¬ (7 : Int) = 0; decide)
    · exact h
theorem corr_ref {t : Tr} (hv : VT t) (ha : askedE t = 0) {k x : Int} (hk : 0 ≤ k ∧ k ≤ t.s.weights.length) (hx : 0 ≤ x ∧ x ≤ t.s.divisions) :
    correctE t k x = if 0 ≤ (rcN t k x 2000).2 then (rcN t k x 2000, 0) else ((0, 0), 7) := by
  have h0 := chkT_0.2 hv
  have he := corr_ends hv hk (Q := fun d => canP t k x d = true ∧ 1 ≤ d ∧ d ≤ 2000) (truthsL t []) (fun e he d d1 d2 hc => ⟨List.any_eq_true.2 ⟨e, he, hc⟩, d1, d2⟩) (2001, 0) (.inl rfl)
  have hN : corrN t k x (truthsL t []).length = (truthsL t []).foldl (corrStep t k x) (2001, 0) := by unfold corrN; rw [List.take_length]
  rw [← hN] at he
  have hE : correctE t k x = if (corrN t k x (truthsL t []).length).2 = 0 then ((0, 0), 7) else (corrN t k x (truthsL t []).length, 0) := by
    unfold correctE
    rw [if_neg (by omega), if_neg (by omega), if_neg (by omega)]
  have hin : ∀ d : Int, 1 ≤ d → d ≤ 2000 → canP t k x d = true → (correctE t k x).2 = 0 ∧ (correctE t k x).1.1 ≤ d ∧ d ≤ (correctE t k x).1.2 := fun d d1 d2 hc => by
    obtain ⟨e, hm, hc⟩ := List.any_eq_true.1 hc
    exact corr_in hv hm hk ⟨d1, d2⟩ hx hc
  rcases rcN_spec t k x 2000 (Nat.le_refl _) with ⟨h1, h2⟩ | ⟨h1, h2, h3, h4, h5, h6⟩
  · rcases he with he | ⟨⟨g, g1, g2⟩, _⟩
    · rw [hE, he, h1]; rfl
    · rw [h2 _ g1 (by omega)] at g; cases g
  · have i1 := hin _ h3 (by omega) h1
    have i2 := hin _ (by omega) (by omega) h2
    rw [if_pos (by omega)]
    rw [hE] at i1 i2 ⊢
    split at i1
    · exact absurd i1.1 (by decide)
    · rename_i hz
      rw [if_neg hz] at i2 ⊢
      dsimp only at i1 i2
      rcases he with he | ⟨⟨g, g1, g2⟩, g', g1', g2'⟩
      · rw [he] at hz; exact absurd rfl hz
      · have j1 := h6 _ g1 (by omega) g
        have j2 := h6 _ g1' (by omega) g'
        refine Prod.ext (Prod.ext ?_ ?_) rfl
        · dsimp only; omega
        · dsimp only; omega
end Go.Sp
/-
  Trials: what all truths are, walked; what a division means, by the reference.
-/
namespace Go.Sp
open Go Go.Proofs
theorem sure_f (t : Tr) (hn : NT t) (h0 : ¬ chkT t = 0) (sl pl ll tl : Value) (w : World) (hr : RdTr w t sl pl ll tl) :
    CnV Tryz.prog 28 #[trV t sl pl ll tl] w (.tuple #[.slice none 0 0, .slice none 0 0, vi (chkT t)]) := by
  have hr0 := hr
  refine cnv (vs := [_]) Tryz.func28 rfl rfl ?_
  all_goals refine tc_seq fun K1 hK1 => ?_; refine tc_region ?_; refine tl_e (e_box rfl rfl rfl) rfl (fun b1 _ => ?_); refine tl_q (y_assign rfl) rfl ?_; refine tl_q (y_assign rfl) rfl ?_; refine tl_q (y_assign rfl) rfl ?_; refine tl_nil ?_; ((refine hK1 ?_; try (clear hK1; clear K1)))
  all_goals refine tc_seq fun K2 hK2 => ?_; refine tc_seq fun K3 hK3 => ?_; refine tc_lay ([]) (SB.s .nil) (fun wl1 hl1 => ?_); refine tc_region ?_; refine tl_q (y_loadWf rfl (hl1.at (by repeat constructor)) (MI.m (by repeat constructor)) (by simp) (by rfl)) rfl ?_; refine tl_e (e_callV rfl (.cons rfl .nil) (fun w' hw' => fault9_c t hn _ _ _ _ w' (hr0.fr (hw'.fr (w0 := w) (S := []) (MI.m (by repeat constructor)))))) rfl (fun _ _ => ?_); refine tl_q (y_assign rfl) rfl ?_; refine tl_nil ?_; ((refine hK3 ?_; try (clear hK3; clear K3)))
  all_goals refine tc_seq fun K4 hK4 => ?_; refine tc_lay ([]) (SB.s .nil) (fun wl2 hl2 => ?_); refine tc_region ?_; refine tl_q (y_move rfl) rfl ?_; refine tl_q (y_neq rfl rfl) rfl ?_; refine tl_nil ?_; ((refine hK4 ?_; try (clear hK4; clear K4)))
  all_goals (
   refine tc_cond rfl (fun hc => ?_) (fun hc => ?_)
   · try simp only [decide_eq_true_eq, decide_eq_false_iff_not, Int.not_lt, Int.not_le, Bool.not_eq_true', Bool.not_eq_false', Decidable.not_not, not_true_eq_false] at hc
     all_goals refine tc_seq fun K5 hK5 => ?_; refine tc_lay ([]) (SB.s .nil) (fun wl3 hl3 => ?_); refine tc_region ?_; refine tl_q (y_move rfl) rfl ?_; refine tl_q (y_assign rfl) rfl ?_; refine tl_q (y_assign rfl) rfl ?_; refine tl_q (y_assign rfl) rfl ?_; refine tl_nil ?_; ((refine hK5 ?_; try (clear hK5; clear K5)))
     all_goals refine tc_ret ?_; (repeat (refine tk_then_ret ?_))
     all_goals (refine tk_ret rfl rfl (.cons (.tmp rfl) (.cons (.tmp rfl) (.cons (.tmp rfl) .nil))) ?_)
     all_goals (
      first
      | exact fun w' hw' => ⟨rfl, hw'.fr (w0 := w) (S := []) (MI.m (by repeat constructor))⟩
      | (exfalso; omega))
   · try simp only [decide_eq_true_eq, decide_eq_false_iff_not, Int.not_lt, Int.not_le, Bool.not_eq_true', Bool.not_eq_false', Decidable.not_not, not_true_eq_false] at hc
     all_goals ((exfalso; omega))
     all_goals (
      refine tc_cond rfl (fun hc => ?_) (fun hc => ?_)
      · skip
      · skip
        all_goals (
         first
         | exact fun w' hw' => ⟨rfl, hw'.fr (w0 := w) (S := []) (MI.m (by repeat constructor))⟩
         | (exfalso; omega))))
theorem errL_map_len (t : Tr) : ((truthsL t []).map (errL t)).length = (truthsL t []).length := List.length_map _
theorem sure_v (t : Tr) (hn : NT t) (hv : VT t) (h14 : ∀ i : Nat, i < t.liquids.length → (lqAt t i).2 - (lqAt t i).1 ≤ 14) (sl pl ll tl : Value) (w : World) (hr : RdTr w t sl pl ll tl) :
    CnX Tryz.prog 28 #[trV t sl pl ll tl] w [] (fun y : (Option Addr × Nat) × (Option Addr × Nat) => .tuple #[slV (everyL t).length y.1, slV (truthsL t []).length y.2, vi (askedE t)]) (fun y w' => RdWs w' (slV (everyL t).length y.1) (waysN t (everyL t).length) ∧ RdLL w' (slV (truthsL t []).length y.2) ((truthsL t []).map (errL t))) := by
  have hr0 := hr
  have h0 := chkT_0.2 hv
  have hA := asked_v hv
  have hok := ways_ok hv h14
  have htr := ways_true hv
  have hel := every_len hv
  have hml := errL_map_len t
  have htl : (truthsL t []).length ≤ 343 := Nat.le_trans (List.length_filter_le _ _) hel
  refine cnx0 (vs := [_]) Tryz.func28 rfl rfl ?_
  all_goals refine tc_seq fun K1 hK1 => ?_; refine tc_region ?_; refine tl_e (e_box rfl rfl rfl) rfl (fun b1 _ => ?_); refine tl_q (y_assign rfl) rfl ?_; refine tl_q (y_assign rfl) rfl ?_; refine tl_q (y_assign rfl) rfl ?_; refine tl_nil ?_; ((refine hK1 ?_; try (clear hK1; clear K1)))
  all_goals refine tc_seq fun K2 hK2 => ?_; refine tc_seq fun K3 hK3 => ?_; refine tc_lay ([]) (SB.s .nil) (fun wl1 hl1 => ?_); refine tc_region ?_; refine tl_q (y_loadWf rfl (hl1.at (by repeat constructor)) (MI.m (by repeat constructor)) (by simp) (by rfl)) rfl ?_; refine tl_e (e_callV rfl (.cons rfl .nil) (fun w' hw' => fault9_c t hn _ _ _ _ w' (hr0.fr (hw'.fr (w0 := w) (S := []) (MI.m (by repeat constructor)))))) rfl (fun _ _ => ?_); refine tl_q (y_assign rfl) rfl ?_; refine tl_nil ?_; ((refine hK3 ?_; try (clear hK3; clear K3)))
  all_goals refine tc_seq fun K4 hK4 => ?_; refine tc_lay ([]) (SB.s .nil) (fun wl2 hl2 => ?_); refine tc_region ?_; refine tl_q (y_move rfl) rfl ?_; refine tl_q (y_neq rfl rfl) rfl ?_; refine tl_nil ?_; ((refine hK4 ?_; try (clear hK4; clear K4)))
  all_goals (
   refine tc_cond rfl (fun hc => ?_) (fun hc => ?_)
   · try simp only [decide_eq_true_eq, decide_eq_false_iff_not, Int.not_lt, Int.not_le, Bool.not_eq_true', Bool.not_eq_false', Decidable.not_not, not_true_eq_false] at hc
     all_goals ((exfalso; omega))
   · try simp only [decide_eq_true_eq, decide_eq_false_iff_not, Int.not_lt, Int.not_le, Bool.not_eq_true', Bool.not_eq_false', Decidable.not_not, not_true_eq_false] at hc
     all_goals refine tc_skip ?_; ((refine hK2 ?_; try (clear hK2; clear K2)))
     all_goals refine tc_seq fun K6 hK6 => ?_; refine tc_lay ([]) (SB.s .nil) (fun wl4 hl4 => ?_); refine tc_region ?_; refine tl_q (y_loadWf rfl (hl1.at (by repeat constructor)) (MI.m (by repeat constructor)) (by simp) (by rfl)) rfl ?_; refine tl_e (e_callX rfl (.cons rfl .nil) (fun w' hw' => ways_c t hv h14 _ _ _ _ w' (hr0.fr (hw'.fr (w0 := w) (S := []) (MI.m (by repeat constructor)))))) rfl (fun x4 hx4 => ?_); refine tl_q (y_assign rfl) rfl ?_; refine tl_nil ?_; ((refine hK6 ?_; try (clear hK6; clear K6)))
     all_goals refine tc_seq fun K7 hK7 => ?_; refine tc_lay ([]) (SB.s .nil) (fun wl5 hl5 => ?_); refine tc_region ?_; refine tl_q (y_move rfl) rfl ?_; (refine tl_e (e_callX rfl (.cons rfl .nil) (fun w' hw' => by have h := true_c (waysN t (everyL t).length) hok _ w' (RdWs.fr hx4.1 (hw'.fr (w0 := x4.2) (S := []) (MI.m (by repeat constructor)))); rw [htr, hml] at h; exact h)) rfl (fun x5 hx5 => ?_))
     all_goals refine tl_q (y_assign rfl) rfl ?_; refine tl_nil ?_; ((refine hK7 ?_; try (clear hK7; clear K7)))
     all_goals refine tc_seq fun K8 hK8 => ?_; refine tc_seq fun K9 hK9 => ?_; refine tc_lay ([]) (SB.s .nil) (fun wl6 hl6 => ?_); refine tc_region ?_; refine tl_q (y_move rfl) rfl ?_; refine tl_q (y_len rfl) rfl ?_; refine tl_q (y_eql rfl rfl) rfl ?_; refine tl_nil ?_; ((refine hK9 ?_; try (clear hK9; clear K9)))
     all_goals (
      refine tc_cond rfl (fun hc => ?_) (fun hc => ?_)
      · try simp only [decide_eq_true_eq, decide_eq_false_iff_not, Int.not_lt, Int.not_le, Bool.not_eq_true', Bool.not_eq_false', Decidable.not_not, not_true_eq_false] at hc
        all_goals refine tc_seq fun K10 hK10 => ?_; refine tc_lay ([]) (SB.s .nil) (fun wl7 hl7 => ?_); refine tc_region ?_; refine tl_q (y_move rfl) rfl ?_; refine tl_q (y_assign rfl) rfl ?_; refine tl_q (y_assign rfl) rfl ?_; refine tl_q (y_assign rfl) rfl ?_; refine tl_nil ?_; ((refine hK10 ?_; try (clear hK10; clear K10)))
        all_goals refine tc_ret ?_; (repeat (refine tk_then_ret ?_))
        all_goals (refine tk_ret rfl rfl (.cons (.tmp rfl) (.cons (.tmp rfl) (.cons (.tmp rfl) .nil))) ?_)
        all_goals (
         first
         | (exfalso; omega)
         | (rcases hA with ⟨hA, hz⟩ | ⟨hA, hz⟩
            · exact fun w' hw' => ⟨(x4.1, x5.1), by rw [hA]; rfl, hw'.fr (w0 := w) (S := []) (MI.m (by repeat constructor)), RdWs.fr hx4.1 (hw'.fr (w0 := x4.2) (S := []) (MI.m (by repeat constructor))), RdLL.frF hx5.1 (hw'.fr (w0 := x5.2) (S := []) (MI.m (by repeat constructor)))⟩
            · exfalso; omega)
         | (rcases hA with ⟨hA, hz⟩ | ⟨hA, hz⟩
            · exfalso; omega
            · have hnil : truthsL t [] = [] := List.eq_nil_of_length_eq_zero hz
              refine fun w' hw' => ⟨(x4.1, (none, 0)), by rw [hA]; unfold slV; rw [hz]; rfl, hw'.fr (w0 := w) (S := []) (MI.m (by repeat constructor)), RdWs.fr hx4.1 (hw'.fr (w0 := x4.2) (S := []) (MI.m (by repeat constructor))), ?_⟩
              unfold slV
              rw [hnil]; exact RdLL.nil _))
      · try simp only [decide_eq_true_eq, decide_eq_false_iff_not, Int.not_lt, Int.not_le, Bool.not_eq_true', Bool.not_eq_false', Decidable.not_not, not_true_eq_false] at hc
        all_goals refine tc_skip ?_; ((refine hK8 ?_; try (clear hK8; clear K8)))
        all_goals refine tc_seq fun K11 hK11 => ?_; refine tc_lay ([]) (SB.s .nil) (fun wl8 hl8 => ?_); refine tc_region ?_; refine tl_q (y_move rfl) rfl ?_; refine tl_q (y_move rfl) rfl ?_; refine tl_q (y_assign rfl) rfl ?_; refine tl_q (y_assign rfl) rfl ?_; refine tl_q (y_assign rfl) rfl ?_; refine tl_nil ?_; ((refine hK11 ?_; try (clear hK11; clear K11)))
        all_goals refine tc_ret ?_; (repeat (first | refine tk_then_ret ?_))
        all_goals (refine tk_ret rfl rfl (.cons (.tmp rfl) (.cons (.tmp rfl) (.cons (.tmp rfl) .nil))) ?_)
        all_goals (
         first
         | (exfalso; omega)
         | (rcases hA with ⟨hA, hz⟩ | ⟨hA, hz⟩
            · exact fun w' hw' => ⟨(x4.1, x5.1), by rw [hA]; rfl, hw'.fr (w0 := w) (S := []) (MI.m (by repeat constructor)), RdWs.fr hx4.1 (hw'.fr (w0 := x4.2) (S := []) (MI.m (by repeat constructor))), RdLL.frF hx5.1 (hw'.fr (w0 := x5.2) (S := []) (MI.m (by repeat constructor)))⟩
            · exfalso; omega)
         | (rcases hA with ⟨hA, hz⟩ | ⟨hA, hz⟩
            · exfalso; omega
            · have hnil : truthsL t [] = [] := List.eq_nil_of_length_eq_zero hz
              refine fun w' hw' => ⟨(x4.1, (none, 0)), by rw [hA]; unfold slV; rw [hz]; rfl, hw'.fr (w0 := w) (S := []) (MI.m (by repeat constructor)), RdWs.fr hx4.1 (hw'.fr (w0 := x4.2) (S := []) (MI.m (by repeat constructor))), ?_⟩
              unfold slV
              rw [hnil]; exact RdLL.nil _))))
theorem getD_mapE {t : Tr} {l : List E3} {j : Nat} (h : j < l.length) : (l.map (errL t)).getD j [] = errL t (l.getD j (0, 0, 0)) := by
  rw [List.getD_eq_getElem?_getD, List.getElem?_map, List.getD_eq_getElem?_getD, List.getElem?_eq_getElem h]; rfl
set_option maxHeartbeats 2000000 in
theorem refCorrect_c (t : Tr) (hv : VT t) (k n : Int) (hk : 0 ≤ k ∧ k ≤ t.s.weights.length) (hx : 0 ≤ n ∧ n ≤ t.s.divisions) (sl pl ll tl lv : Value) (w : World) (hr : RdTr w t sl pl ll tl) (hL : RdLL w lv ((truthsL t []).map (errL t))) :
    CnV Tryz.prog 29 #[trV t sl pl ll tl, lv, vi k, vi n] w (.tuple #[rV (rcN t k n 2000), .bool (decide (0 ≤ (rcN t k n 2000).2))]) := by
  have hr0 := hr
  have hel := every_len hv
  have hml := errL_map_len t
  have htl : (truthsL t []).length ≤ 343 := Nat.le_trans (List.length_filter_le _ _) hel
  obtain ⟨av, cv, bv, ov, vs, rfl, hadv, hcv, hRv⟩ := hL.open
  rw [hml] at hadv hcv hRv ⊢
  refine cnv (vs := [_, _, _, _]) Tryz.func29 rfl rfl ?_
  all_goals refine tc_seq fun K1 hK1 => ?_; refine tc_region ?_; refine tl_e (e_box rfl rfl rfl) rfl (fun b4 _ => ?_); refine tl_e (e_allocN rfl) rfl (fun b8 _ => ?_); refine tl_q (y_assign rfl) rfl ?_; refine tl_nil ?_; ((refine hK1 ?_; try (clear hK1; clear K1)))
  all_goals refine tc_seq fun K2 hK2 => ?_; refine tc_region ?_; refine tl_q (y_build_2 rfl rfl rfl rfl) rfl ?_; refine tl_e (e_allocN rfl) rfl (fun b10 _ => ?_); refine tl_e (e_storeW rfl rfl (by repeat constructor) (by rfl) (by rfl) (by simp [Value.oneCell'])) rfl (fun _ _ => ?_); refine tl_nil ?_; ((refine hK2 ?_; try (clear hK2; clear K2)))
  all_goals refine tc_seq fun K3 hK3 => ?_; refine tc_seq fun K4 hK4 => ?_; refine tc_region ?_; refine tl_q (y_assign rfl) rfl ?_; refine tl_nil ?_; ((refine hK4 ?_; try (clear hK4; clear K4)))
  all_goals refine tc_block ?_
  all_goals (
   refine tc_loop (fun d : Nat => d ≤ 2000) (fun d => [(1, .slice av (truthsL t []).length cv), (2, vi k), (3, vi n), (4, ptr b4), (8, ptr b8), (9, .bool false), (10, ptr b10), (11, vi ((d : Int) + 1))]) (fun _ => [(w, [])]) (fun d => [(b10, .cells #[vi (rcN t k n d).1, vi (rcN t k n d).2] 57 (0, 0)), (b8, .cells #[vi 0, vi 0] 57 (0, 0)), (b4, .cells (trV t sl pl ll tl).cells 28 (0, 0))]) (fun d => 2000 - d) ?_ ?_
   · exact tk_start 0 (Nat.zero_le _) (.cons rfl (.cons rfl (.cons rfl (.cons rfl (.cons rfl (.cons rfl (.cons rfl (.cons rfl .nil)))))))) (fun _ h => h.subl (SB.s (by repeat constructor)) (SB.s (by repeat constructor)))
   · rintro d hd
     all_goals refine tc_seq fun K5 hK5 => ?_; refine tc_seq fun K6 hK6 => ?_; refine tc_region ?_; refine tl_q (y_move rfl) rfl ?_; refine tl_q (y_leq rfl rfl) rfl ?_; refine tl_nil ?_; ((refine hK6 ?_; try (clear hK6; clear K6)))
     all_goals (
      refine tc_cond rfl (fun hc => ?_) (fun hc => ?_)
      · try simp only [decide_eq_true_eq, decide_eq_false_iff_not, Int.not_lt, Int.not_le, Bool.not_eq_true', Bool.not_eq_false', Decidable.not_not, not_true_eq_false] at hc
        all_goals refine tc_skip ?_; ((refine hK5 ?_; try (clear hK5; clear K5)))
        all_goals refine tc_seq fun K7 hK7 => ?_; refine tc_block ?_; refine tc_seq fun K8 hK8 => ?_; ((have hrs := rcN_spec t k n d (by omega); have hrb : -1 ≤ (rcN t k n d).1 ∧ (rcN t k n d).1 ≤ 9999 ∧ -1 ≤ (rcN t k n d).2 ∧ (rcN t k n d).2 ≤ 2000 := by (rcases hrs with ⟨g, _⟩ | ⟨_, _, g1, g2, g3, _⟩; (rw [g]; decide); omega)))
        all_goals (have hyes : canP t k n ((d : Int) + 1) = true → rcN t k n (d + 1) = (min (rcN t k n d).1 ((d : Int) + 1), max (rcN t k n d).2 ((d : Int) + 1)) := fun g => if_pos g)
        all_goals ((have hno : canP t k n ((d : Int) + 1) = false → rcN t k n (d + 1) = rcN t k n d := fun g => if_neg (by show ¬ canP t k n ((d : Int) + 1) = true; rw [g]; exact Bool.false_ne_true)))
        all_goals refine tc_region ?_; refine tl_q (y_assign rfl) rfl ?_; refine tl_nil ?_; ((refine hK8 ?_; try (clear hK8; clear K8)))
        all_goals refine tc_block ?_
        all_goals (
         refine tc_loop (fun j : Nat => j ≤ (truthsL t []).length ∧ ((truthsL t []).take j).any (fun e => canF t e k ((d : Int) + 1) n) = false) (fun j => [(1, .slice av (truthsL t []).length cv), (2, vi k), (3, vi n), (4, ptr b4), (8, ptr b8), (9, .bool false), (10, ptr b10), (11, vi ((d : Int) + 1)), (12, vi j)]) (fun _ => [(w, [])]) (fun _ => [(b10, .cells #[vi (rcN t k n d).1, vi (rcN t k n d).2] 57 (0, 0)), (b8, .cells #[vi 0, vi 0] 57 (0, 0)), (b4, .cells (trV t sl pl ll tl).cells 28 (0, 0))]) (fun j => (truthsL t []).length - j) ?_ ?_
         · exact tk_start 0 ⟨Nat.zero_le _, rfl⟩ (.cons rfl (.cons rfl (.cons rfl (.cons rfl (.cons rfl (.cons rfl (.cons rfl (.cons rfl (.cons rfl .nil))))))))) (fun _ h => h.subl (SB.s (by repeat constructor)) (SB.s (by repeat constructor)))
         · rintro j ⟨hj, hany⟩
           all_goals refine tc_seq fun K9 hK9 => ?_; refine tc_seq fun K10 hK10 => ?_; refine tc_region ?_; refine tl_q (y_move rfl) rfl ?_; refine tl_q (y_move rfl) rfl ?_; refine tl_q (y_len rfl) rfl ?_; refine tl_q (y_lss rfl rfl) rfl ?_; refine tl_nil ?_; ((refine hK10 ?_; try (clear hK10; clear K10)))
           all_goals (
            refine tc_cond rfl (fun hc => ?_) (fun hc => ?_)
            · try simp only [decide_eq_true_eq, decide_eq_false_iff_not, Int.not_lt, Int.not_le, Bool.not_eq_true', Bool.not_eq_false', Decidable.not_not, not_true_eq_false] at hc
              all_goals refine tc_skip ?_; ((refine hK9 ?_; try (clear hK9; clear K9)))
              all_goals refine tc_seq fun K11 hK11 => ?_; refine tc_block ?_; refine tc_seq fun K12 hK12 => ?_; ((have hadv' := hadv (by omega); have hsu := anyT_succ (f := fun e => canF t e k ((d : Int) + 1) n) (z := (0, 0, 0)) (show j < (truthsL t []).length by omega)))
              all_goals (obtain ⟨e, he⟩ : ∃ e, e = (truthsL t []).getD j (0, 0, 0) := ⟨_, rfl⟩)
              all_goals ((have hem : e ∈ truthsL t [] := by rw [he]; exact getD_memE (by omega)))
              all_goals (obtain ⟨hee, her⟩ := errL_ok hv (mem_truths.1 hem).1)
              all_goals ((have hRj := fun w' f => hRv w' f j (by omega); rw [getD_mapE (by omega), ← he] at hRj))
              all_goals (rw [hany, Bool.false_or, ← he] at hsu)
              all_goals (obtain ⟨aE, cE, _, _, eE, _, _⟩ := (hRj w (Fr.refl _ _)).open)
              all_goals (rcases hkc : canF t e k ((d : Int) + 1) n)
              all_goals refine tc_draw (by kernel_rfl) ?_; refine tx_q 0 rfl (by kernel_rfl) (y_loadW rfl (by repeat constructor) (by rfl)) rfl (fun _ _ _ h => h) (fun _ h => h) ?_; refine tx_p 1 rfl (by kernel_rfl) (y_move rfl) rfl (fun _ _ _ h => h) (fun _ h => h) ?_; refine tx_p 2 rfl (by kernel_rfl) (y_move rfl) rfl (fun _ _ _ h => h) (fun _ h => h) ?_; refine tx_p 3 rfl (by kernel_rfl) (y_index rfl rfl (by omega) hadv') rfl (fun _ _ _ h => h) (fun _ h => h) ?_; ((refine tx_q 4 rfl (by kernel_rfl) (y_load1o (v := .slice aE (errL t e).length cE) rfl (fun w' hw' => by rw [show Int.toNat (j : Int) * 1 = j from by omega, ← eE]; exact hcv w' (hw'.fr (w0 := w) (S := []) (MI.m (by repeat constructor))) j (by omega))) rfl (fun _ _ _ h => h) (fun _ h => h) ?_))
              all_goals refine tx_p 5 rfl (by kernel_rfl) (y_move rfl) rfl (fun _ _ _ h => h) (fun _ h => h) ?_; refine tx_p 6 rfl (by kernel_rfl) (y_move rfl) rfl (fun _ _ _ h => h) (fun _ h => h) ?_; refine tx_p 7 rfl (by kernel_rfl) (y_move rfl) rfl (fun _ _ _ h => h) (fun _ h => h) ?_; (refine tx_e 8 rfl (by kernel_rfl) rfl (e_callV rfl (.cons rfl (.cons rfl (.cons rfl (.cons rfl (.cons rfl .nil))))) (fun w' hw' => by have h := can9_c t hv (errL t e) hee k ((d : Int) + 1) n hk ⟨by omega, by omega⟩ hx _ _ _ _ _ w' (hr0.fr (hw'.fr (w0 := w) (S := []) (MI.m (by repeat constructor)))) (hRj w' (hw'.fr (w0 := w) (S := []) (MI.m (by repeat constructor)))); rw [her, hkc, eE] at h; exact h)) (.inr fun _ _ h => h) (fun _ _ => ?_))
              all_goals refine tx_done (by kernel_rfl) ?_; ((refine hK12 ?_; try (clear hK12; clear K12)))
              all_goals (
               refine tc_cond rfl (fun hc => ?_) (fun hc => ?_)
               · try simp only [decide_eq_true_eq, decide_eq_false_iff_not, Int.not_lt, Int.not_le, Bool.not_eq_true', Bool.not_eq_false', Decidable.not_not, not_true_eq_false] at hc
                 all_goals ((first | (exfalso; with_reducible exact bft hc) | skip))
                 all_goals refine tc_seq fun K13 hK13 => ?_; refine tc_region ?_; refine tl_q (y_field rfl) rfl ?_; refine tl_q (y_load1 rfl (by repeat constructor) (by rfl)) rfl ?_; refine tl_q (y_move rfl) rfl ?_; refine tl_q (y_min rfl rfl) rfl ?_; refine tl_q (y_field rfl) rfl ?_; refine tl_q (y_load1 rfl (by repeat constructor) (by rfl)) rfl ?_; refine tl_q (y_move rfl) rfl ?_; refine tl_q (y_max rfl rfl) rfl ?_; refine tl_q (y_build_2 rfl rfl rfl rfl) rfl ?_; refine tl_e (e_storeW rfl rfl (by repeat constructor) (by rfl) (by rfl) (by simp [Value.oneCell'])) rfl (fun _ _ => ?_); refine tl_nil ?_; ((refine hK13 ?_; try (clear hK13; clear K13)))
                 all_goals refine tc_exit ?_; ((refine hK7 ?_; try (clear hK7; clear K7)))
                 all_goals refine tc_region ?_; refine tl_q (y_move rfl) rfl ?_; refine tl_q (y_add rfl rfl (by omega)) rfl ?_; refine tl_q (y_assign rfl) rfl ?_; refine tl_nil ?_
                 all_goals (
                  first
                  | (have hr1 := hyes (List.any_eq_true.2 ⟨e, hem, hkc⟩)
                     refine tk_round (d + 1) (by omega) (by omega) (.cons rfl (.cons rfl (.cons rfl (.cons rfl (.cons rfl (.cons rfl (.cons rfl (.cons rfl .nil)))))))) (fun _ h => ?_)
                     rw [hr1]
                     exact h.subl (SB.s (by repeat constructor)) (SB.s (by repeat constructor)))
                  | (have hr1 := hno (by rw [show j = (truthsL t []).length from by omega, List.take_length] at hany; exact hany)
                     refine tk_round (d + 1) (by omega) (by omega) (.cons rfl (.cons rfl (.cons rfl (.cons rfl (.cons rfl (.cons rfl (.cons rfl (.cons rfl .nil)))))))) (fun _ h => ?_)
                     rw [hr1]
                     exact h.subl (SB.s (by repeat constructor)) (SB.s (by repeat constructor))))
               · try simp only [decide_eq_true_eq, decide_eq_false_iff_not, Int.not_lt, Int.not_le, Bool.not_eq_true', Bool.not_eq_false', Decidable.not_not, not_true_eq_false] at hc
                 all_goals ((first | (exfalso; with_reducible exact btf hc) | skip))
                 all_goals refine tc_skip ?_; ((refine hK11 ?_; try (clear hK11; clear K11)))
                 all_goals refine tc_region ?_; refine tl_q (y_move rfl) rfl ?_; refine tl_q (y_add rfl rfl (by omega)) rfl ?_; refine tl_q (y_assign rfl) rfl ?_; refine tl_nil ?_
                 all_goals (
                  exact tk_round (j + 1) ⟨by omega, by rw [hsu, hkc]⟩ (by omega) (.cons rfl (.cons rfl (.cons rfl (.cons rfl (.cons rfl (.cons rfl (.cons rfl (.cons rfl (.cons rfl .nil))))))))) (fun _ h => h.subl (SB.s (by repeat constructor)) (SB.s (by repeat constructor)))))
            · try simp only [decide_eq_true_eq, decide_eq_false_iff_not, Int.not_lt, Int.not_le, Bool.not_eq_true', Bool.not_eq_false', Decidable.not_not, not_true_eq_false] at hc
              all_goals refine tc_exit ?_; ((refine hK7 ?_; try (clear hK7; clear K7)))
              all_goals refine tc_region ?_; refine tl_q (y_move rfl) rfl ?_; refine tl_q (y_add rfl rfl (by omega)) rfl ?_; refine tl_q (y_assign rfl) rfl ?_; refine tl_nil ?_
              all_goals (
               first
               | (have hr1 := hyes (List.any_eq_true.2 ⟨e, hem, hkc⟩)
                  refine tk_round (d + 1) (by omega) (by omega) (.cons rfl (.cons rfl (.cons rfl (.cons rfl (.cons rfl (.cons rfl (.cons rfl (.cons rfl .nil)))))))) (fun _ h => ?_)
                  rw [hr1]
                  exact h.subl (SB.s (by repeat constructor)) (SB.s (by repeat constructor)))
               | (have hr1 := hno (by rw [show j = (truthsL t []).length from by omega, List.take_length] at hany; exact hany)
                  refine tk_round (d + 1) (by omega) (by omega) (.cons rfl (.cons rfl (.cons rfl (.cons rfl (.cons rfl (.cons rfl (.cons rfl (.cons rfl .nil)))))))) (fun _ h => ?_)
                  rw [hr1]
                  exact h.subl (SB.s (by repeat constructor)) (SB.s (by repeat constructor))))))
      · try simp only [decide_eq_true_eq, decide_eq_false_iff_not, Int.not_lt, Int.not_le, Bool.not_eq_true', Bool.not_eq_false', Decidable.not_not, not_true_eq_false] at hc
        all_goals refine tc_exit ?_; ((refine hK3 ?_; try (clear hK3; clear K3)))
        all_goals refine tc_seq fun K14 hK14 => ?_; (have hdd : d = 2000 := by omega)
        all_goals subst hdd
        all_goals refine tc_drawS ([(b10, .cells #[vi (rcN t k n 2000).1, vi (rcN t k n 2000).2] 57 (0, 0)), (b4, .cells (trV t sl pl ll tl).cells 28 (0, 0))]) (by kernel_rfl) ?_; refine tx_qS 0 rfl (by kernel_rfl) (y_loadW rfl (by repeat constructor) (by rfl)) rfl (fun _ _ _ h => h) (fun _ h => h.subl (SB.s (by repeat constructor)) (SB.s (by repeat constructor))) ?_; refine tx_p 1 rfl (by kernel_rfl) (y_field rfl) rfl (fun _ _ _ h => h) (fun _ h => h.subl (SB.s (by repeat constructor)) (SB.s (by repeat constructor))) ?_; refine tx_qS 2 rfl (by kernel_rfl) (y_load1 rfl (by repeat constructor) (by rfl)) rfl (fun _ _ _ h => h) (fun _ h => h.subl (SB.s (by repeat constructor)) (SB.s (by repeat constructor))) ?_; refine tx_p 3 rfl (by kernel_rfl) (y_geq rfl rfl) rfl (fun _ _ _ h => h) (fun _ h => h.subl (SB.s (by repeat constructor)) (SB.s (by repeat constructor))) ?_; refine tx_single 4 (by kernel_rfl) (to_e rfl rfl (e_storeW rfl rfl (by repeat constructor) (by rfl) (by rfl) (by simp [Value.oneCell'])) (.inr ⟨fun _ _ h => h.subl (SB.s (by repeat constructor)) (SB.s (by repeat constructor)), fun _ h => h⟩) (fun _ _ => ?_)); refine tx_p 5 rfl (by kernel_rfl) (y_assign rfl) rfl (fun _ _ _ h => h) (fun _ h => h.subl (SB.s (by repeat constructor)) (SB.s (by repeat constructor))) ?_; refine tx_done (by kernel_rfl) ?_; ((refine hK14 ?_; try (clear hK14; clear K14)))
        all_goals refine tc_ret ?_; (repeat (first | refine tk_then_ret ?_))
        all_goals (refine tk_ret rfl rfl (.cons (.agg inferInstance rfl (by repeat constructor) (by rfl)) (.cons (.tmp rfl) .nil)) ?_)
        all_goals (
         exact fun w' hw' => ⟨rfl, hw'.fr (w0 := w) (S := []) (MI.m (by repeat constructor))⟩)))
end Go.Sp
/-
  TrialCorrects: the law's function returns true.
-/
namespace Go.Sp
open Go Go.Proofs
theorem correctE_v (t : Tr) (k n : Int) : (¬ chkT t = 0 ∧ correctE t k n = ((0, 0), chkT t)) ∨ (chkT t = 0 ∧ ¬ ((0 ≤ k ∧ k ≤ t.s.weights.length) ∧ (0 ≤ n ∧ n ≤ t.s.divisions)) ∧ correctE t k n = ((0, 0), 2)) ∨ (chkT t = 0 ∧ ((0 ≤ k ∧ k ≤ t.s.weights.length) ∧ (0 ≤ n ∧ n ≤ t.s.divisions)) ∧ askedE t = 11 ∧ correctE t k n = ((0, 0), 11)) ∨
    (chkT t = 0 ∧ ((0 ≤ k ∧ k ≤ t.s.weights.length) ∧ (0 ≤ n ∧ n ≤ t.s.divisions)) ∧ askedE t = 0 ∧ ¬ 0 ≤ (rcN t k n 2000).2 ∧ correctE t k n = ((0, 0), 7)) ∨ (chkT t = 0 ∧ ((0 ≤ k ∧ k ≤ t.s.weights.length) ∧ (0 ≤ n ∧ n ≤ t.s.divisions)) ∧ askedE t = 0 ∧ 0 ≤ (rcN t k n 2000).2 ∧ correctE t k n = (rcN t k n 2000, 0)) := by
  by_cases h0 : chkT t = 0
  · right
    have hv := chkT_0.1 h0
    by_cases hb : (0 ≤ k ∧ k ≤ t.s.weights.length) ∧ (0 ≤ n ∧ n ≤ t.s.divisions)
    · right
      rcases asked_v hv with ⟨hA, _⟩ | ⟨hA, _⟩
      · right
        have h := corr_ref hv hA hb.1 hb.2
        by_cases hr : 0 ≤ (rcN t k n 2000).2
        · rw [if_pos hr] at h; exact .inr ⟨h0, hb, hA, hr, h⟩
        · rw [if_neg hr] at h; exact .inl ⟨h0, hb, hA, hr, h⟩
      · left
        refine ⟨h0, hb, hA, ?_⟩
        unfold correctE
        rw [if_neg (by omega), if_neg (by omega), if_pos (by omega), hA]
    · left
      refine ⟨h0, hb, ?_⟩
      unfold correctE
      rw [if_neg (by omega), if_pos hb]
  · left
    refine ⟨h0, ?_⟩
    unfold correctE; rw [if_pos h0]
set_option maxHeartbeats 4000000 in
theorem corrects_law (t : Tr) (k n : Int) (sl pl ll tl : Value) (w : World) (hr : RdTr w t sl pl ll tl) :
    CnV Tryz.prog 4 #[trV t sl pl ll tl, vi k, vi n] w (.bool true) := by
  have hr0 := hr
  obtain ⟨aw, cw, _, _, rfl, _, _⟩ := hr.ws.open
  refine cnv (vs := [_, _, _]) Tryz.func4 rfl rfl ?_
  all_goals refine tc_seq fun K1 hK1 => ?_; refine tc_region ?_; refine tl_e (e_box rfl rfl rfl) rfl (fun b3 _ => ?_); refine tl_q (y_assign rfl) rfl ?_; refine tl_nil ?_; ((refine hK1 ?_; try (clear hK1; clear K1)))
  all_goals refine tc_seq fun K2 hK2 => ?_; refine tc_seq fun K3 hK3 => ?_; refine tc_lay ([]) (SB.s .nil) (fun wl1 hl1 => ?_); rcases hF : fewV t 27
  all_goals refine tc_region ?_; refine tl_q (y_loadWf rfl (hl1.at (by repeat constructor)) (MI.m (by repeat constructor)) (by simp) (by rfl)) rfl ?_; (refine tl_e (e_callV rfl (.cons rfl (.cons rfl .nil)) (fun w' hw' => by have h := few_c t 27 _ _ _ _ w' (hr0.fr (hw'.fr (w0 := w) (S := []) (MI.m (by repeat constructor)))); rw [hF] at h; exact h)) rfl (fun _ _ => ?_))
  all_goals (refine tl_q (y_not rfl) rfl ?_); refine tl_nil ?_; ((refine hK3 ?_; try (clear hK3; clear K3)))
  all_goals (
   refine tc_cond rfl (fun hc => ?_) (fun hc => ?_)
   · try simp only [decide_eq_true_eq, decide_eq_false_iff_not, Int.not_lt, Int.not_le, Bool.not_eq_true', Bool.not_eq_false', Decidable.not_not, not_true_eq_false] at hc
     all_goals ((first | (exfalso; with_reducible exact btf hc) | skip))
     all_goals refine tc_seq fun K4 hK4 => ?_; refine tc_lay ([]) (SB.s .nil) (fun wl2 hl2 => ?_); refine tc_region ?_; refine tl_e (e_callV rfl .nil (fun w' _ => awake9_c w')) rfl (fun _ _ => ?_); refine tl_q (y_assign rfl) rfl ?_; refine tl_nil ?_; ((refine hK4 ?_; try (clear hK4; clear K4)))
     all_goals refine tc_ret ?_; (repeat (refine tk_then_ret ?_))
     all_goals (refine tk_ret rfl rfl (.cons (.tmp rfl) .nil) ?_)
     all_goals (
      first
      | exact fun w' hw' => ⟨rfl, hw'.fr (w0 := w) (S := []) (MI.m (by repeat constructor))⟩
      | (exfalso; omega)
      | exact absurd (And.intro True.intro True.intro) (by assumption : ¬ (True ∧ True)))
   · try simp only [decide_eq_true_eq, decide_eq_false_iff_not, Int.not_lt, Int.not_le, Bool.not_eq_true', Bool.not_eq_false', Decidable.not_not, not_true_eq_false] at hc
     all_goals ((first | (exfalso; with_reducible exact bft hc) | skip))
     all_goals refine tc_skip ?_; ((refine hK2 ?_; try (clear hK2; clear K2)))
     all_goals refine tc_seq fun K5 hK5 => ?_; refine tc_lay ([]) (SB.s .nil) (fun wl3 hl3 => ?_); (obtain ⟨hth, hfe⟩ := few_ok hF)
     all_goals ((have hn := thin9P.nt hth; obtain ⟨ht1, ht2, ht3, ht4⟩ := hth))
     all_goals rcases correctE_v t k n with ⟨h0, hE⟩ | ⟨h0, hb, hE⟩ | ⟨h0, hb, hA, hE⟩ | ⟨h0, hb, hA, hrc, hE⟩ | ⟨h0, hb, hA, hrc, hE⟩
     all_goals refine tc_region ?_; refine tl_q (y_loadWf rfl (hl1.at (by repeat constructor)) (MI.m (by repeat constructor)) (by simp) (by rfl)) rfl ?_; refine tl_e (e_callX rfl (.cons rfl .nil) (fun w' hw' => trial9_c t (by omega) (by omega) (by omega) (by omega) _ _ _ _ w' (hr0.fr (hw'.fr (w0 := w) (S := []) (MI.m (by repeat constructor)))))) rfl (fun x3 hx3 => ?_); refine tl_q (y_move rfl) rfl ?_; refine tl_q (y_move rfl) rfl ?_; (refine tl_e (e_callV rfl (.cons rfl (.cons rfl (.cons rfl .nil))) (fun w' hw' => by have h := correct_c t hn k n _ _ _ _ w' (hx3.1.fr (hw'.fr (w0 := x3.2) (S := []) (MI.m (by repeat constructor)))); rw [hE] at h; exact h)) rfl (fun _ _ => ?_))
     all_goals refine tl_q (y_move rfl) rfl ?_; refine tl_q (y_extract rfl rfl) rfl ?_; refine tl_q (y_extract rfl rfl) rfl ?_; refine tl_e (e_allocN rfl) rfl (fun b7 _ => ?_); refine tl_e (e_storeW rfl rfl (by repeat constructor) (by rfl) (by rfl) (by simp [Value.oneCell'])) rfl (fun _ _ => ?_); refine tl_q (y_assign rfl) rfl ?_; refine tl_nil ?_; ((refine hK5 ?_; try (clear hK5; clear K5)))
     all_goals refine tc_seq fun K6 hK6 => ?_; refine tc_lay ([]) (SB.s .nil) (fun wl4 hl4 => ?_); refine tc_region ?_; refine tl_q (y_loadWf rfl (hl1.at (by repeat constructor)) (MI.m (by repeat constructor)) (by simp) (by rfl)) rfl ?_; (first | refine tl_e (e_callV rfl (.cons rfl .nil) (fun w' hw' => sure_f t hn h0 _ _ _ _ w' (hr0.fr (hw'.fr (w0 := w) (S := []) (MI.m (by repeat constructor)))))) rfl (fun x4 hx4 => ?_) | refine tl_e (e_callX rfl (.cons rfl .nil) (fun w' hw' => sure_v t hn (chkT_0.1 h0) (hfe h0).1 _ _ _ _ w' (hr0.fr (hw'.fr (w0 := w) (S := []) (MI.m (by repeat constructor)))))) rfl (fun x4 hx4 => ?_)); refine tl_q (y_move rfl) rfl ?_; refine tl_q (y_extract rfl rfl) rfl ?_; refine tl_q (y_extract rfl rfl) rfl ?_; refine tl_q (y_extract rfl rfl) rfl ?_; refine tl_q (y_assign rfl) rfl ?_; refine tl_q (y_assign rfl) rfl ?_; refine tl_q (y_assign rfl) rfl ?_; refine tl_nil ?_; ((refine hK6 ?_; try (clear hK6; clear K6)))
     all_goals refine tc_seq fun K7 hK7 => ?_; refine tc_seq fun K8 hK8 => ?_; refine tc_region ?_; refine tl_q (y_loadWf rfl (hl1.at (by repeat constructor)) (MI.m (by repeat constructor)) (by simp) (by rfl)) rfl ?_; refine tl_e (e_callV rfl (.cons rfl .nil) (fun w' hw' => fault9_c t hn _ _ _ _ w' (hr0.fr (hw'.fr (w0 := w) (S := []) (MI.m (by repeat constructor)))))) rfl (fun _ _ => ?_); refine tl_q (y_eql rfl rfl) rfl ?_; refine tl_q (y_move rfl) rfl ?_; ((refine tl_gs rfl rfl (fun hc => ?_) (fun hc => ?_) <;> (try simp only [decide_eq_true_eq, decide_eq_false_iff_not, Int.not_lt, Int.not_le, Bool.not_eq_true', Bool.not_eq_false', Decidable.not_not, not_true_eq_false] at hc) <;> (first | (exfalso; omega) | refine tl_sk rfl rfl rfl rfl ?_ | refine tl_qg rfl rfl (y_move rfl) rfl ?_)))
     all_goals (first | refine tl_sk rfl rfl rfl rfl ?_ | refine tl_qg rfl rfl (y_field rfl) rfl ?_); (first | refine tl_sk rfl rfl rfl rfl ?_ | refine tl_qg rfl rfl (y_field rfl) rfl ?_); (first | refine tl_sk rfl rfl rfl rfl ?_ | refine tl_qg rfl rfl (y_load1f rfl (hl1.at (by repeat constructor)) (MI.m (by repeat constructor)) (by simp) (by rfl)) rfl ?_); (first | refine tl_sk rfl rfl rfl rfl ?_ | refine tl_qg rfl rfl (y_len rfl) rfl ?_); (first | refine tl_sk rfl rfl rfl rfl ?_ | refine tl_eg rfl rfl rfl (e_callV rfl (.cons rfl (.cons rfl (.cons rfl .nil))) (fun w' _ => in_c _ _ _ w')) (fun _ _ => ?_)); (first | refine tl_sk rfl rfl rfl rfl ?_ | refine tl_qg rfl rfl (y_not_dec rfl) rfl ?_); (first | refine tl_sk rfl rfl rfl rfl ?_ | refine tl_qg rfl rfl (y_move rfl) rfl ?_); ((first | refine tl_su rfl rfl rfl ?_ | (refine tl_gs rfl rfl (fun hc => ?_) (fun hc => ?_) <;> (try simp only [decide_eq_true_eq, decide_eq_false_iff_not, Int.not_lt, Int.not_le, Bool.not_eq_true', Bool.not_eq_false', Decidable.not_not, not_true_eq_false] at hc) <;> (first | (exfalso; omega) | refine tl_sk rfl rfl rfl rfl ?_ | refine tl_qg rfl rfl (y_move rfl) rfl ?_))))
     all_goals (first | refine tl_sk rfl rfl rfl rfl ?_ | refine tl_qg rfl rfl (y_field rfl) rfl ?_ | refine tl_su rfl rfl rfl ?_); (first | refine tl_sk rfl rfl rfl rfl ?_ | refine tl_qg rfl rfl (y_field rfl) rfl ?_ | refine tl_su rfl rfl rfl ?_); (first | refine tl_sk rfl rfl rfl rfl ?_ | refine tl_qg rfl rfl (y_load1f rfl (hl1.at (by repeat constructor)) (MI.m (by repeat constructor)) (by simp) (by rfl)) rfl ?_ | refine tl_su rfl rfl rfl ?_); (first | refine tl_sk rfl rfl rfl rfl ?_ | refine tl_eg rfl rfl rfl (e_callV rfl (.cons rfl (.cons rfl (.cons rfl .nil))) (fun w' _ => in_c _ _ _ w')) (fun _ _ => ?_) | refine tl_su rfl rfl rfl ?_); (first | refine tl_sk rfl rfl rfl rfl ?_ | refine tl_qg rfl rfl (y_not_dec rfl) rfl ?_ | refine tl_su rfl rfl rfl ?_); (first | refine tl_sk rfl rfl rfl rfl ?_ | refine tl_qg rfl rfl (y_pick_t rfl rfl) rfl ?_ | refine tl_qg rfl rfl (y_pick_f rfl rfl) rfl ?_); (first | refine tl_q (y_pick_t rfl rfl) rfl ?_ | refine tl_q (y_pick_f rfl rfl) rfl ?_); refine tl_nil ?_; ((refine hK8 ?_; try (clear hK8; clear K8)))
     all_goals (
      refine tc_cond rfl (fun hc => ?_) (fun hc => ?_)
      · try simp only [decide_eq_true_eq, decide_eq_false_iff_not, Int.not_lt, Int.not_le, Bool.not_eq_true', Bool.not_eq_false', Decidable.not_not, not_true_eq_false] at hc
        all_goals ((first | (exfalso; with_reducible exact bft hc) | (exfalso; omega) | skip))
        all_goals refine tc_region ?_; refine tl_q (y_assign rfl) rfl ?_; refine tl_nil ?_; ((refine hK7 ?_; try (clear hK7; clear K7)))
        all_goals refine tc_seq fun K9 hK9 => ?_; refine tc_seq fun K10 hK10 => ?_; refine tc_region ?_; refine tl_q (y_move rfl) rfl ?_; refine tl_q (y_neq rfl rfl) rfl ?_; refine tl_nil ?_; ((refine hK10 ?_; try (clear hK10; clear K10)))
        all_goals (
         refine tc_cond rfl (fun hc => ?_) (fun hc => ?_)
         · try simp only [decide_eq_true_eq, decide_eq_false_iff_not, Int.not_lt, Int.not_le, Bool.not_eq_true', Bool.not_eq_false', Decidable.not_not, not_true_eq_false] at hc
           all_goals refine tc_seq fun K11 hK11 => ?_; refine tc_region ?_; refine tl_q (y_move rfl) rfl ?_; refine tl_q (y_move rfl) rfl ?_; refine tl_q (y_eql rfl rfl) rfl ?_; refine tl_q (y_move rfl) rfl ?_; refine tl_qg rfl rfl (y_loadWf rfl (hl4.at (b := b7) (by repeat constructor)) (MI.m (by repeat constructor)) (by simp) (by rfl)) rfl ?_; refine tl_qg rfl rfl (y_build_g (by repeat constructor)) rfl ?_; refine tl_qg rfl rfl (y_eql2 rfl rfl) rfl ?_; refine tl_q (y_pick_t rfl rfl) rfl ?_; refine tl_q (y_move rfl) rfl ?_; refine tl_eg rfl rfl rfl (e_callV rfl .nil (fun w' _ => awake9_c w')) (fun _ _ => ?_); refine tl_q (y_pick_t rfl rfl) rfl ?_; refine tl_q (y_assign rfl) rfl ?_; refine tl_nil ?_; ((refine hK11 ?_; try (clear hK11; clear K11)))
           all_goals refine tc_ret ?_; (repeat (refine tk_then_ret ?_))
           all_goals (refine tk_ret rfl rfl (.cons (.tmp rfl) .nil) ?_)
           all_goals (
            first
            | exact fun w' hw' => ⟨rfl, hw'.fr (w0 := w) (S := []) (MI.m (by repeat constructor))⟩
            | (exfalso; omega)
            | exact absurd (And.intro True.intro True.intro) (by assumption : ¬ (True ∧ True)))
         · try simp only [decide_eq_true_eq, decide_eq_false_iff_not, Int.not_lt, Int.not_le, Bool.not_eq_true', Bool.not_eq_false', Decidable.not_not, not_true_eq_false] at hc
           all_goals ((exfalso; omega))
           all_goals (
            refine tc_cond rfl (fun hc => ?_) (fun hc => ?_)
            · skip
            · skip
              all_goals (
               first
               | exact fun w' hw' => ⟨rfl, hw'.fr (w0 := w) (S := []) (MI.m (by repeat constructor))⟩
               | (exfalso; omega)
               | exact absurd (And.intro True.intro True.intro) (by assumption : ¬ (True ∧ True)))))
      · try simp only [decide_eq_true_eq, decide_eq_false_iff_not, Int.not_lt, Int.not_le, Bool.not_eq_true', Bool.not_eq_false', Decidable.not_not, not_true_eq_false] at hc
        all_goals ((first | (exfalso; with_reducible exact btf hc) | (exfalso; omega) | skip))
        all_goals refine tc_skip ?_; ((refine hK7 ?_; try (clear hK7; clear K7)))
        all_goals refine tc_seq fun K17 hK17 => ?_; refine tc_seq fun K18 hK18 => ?_; refine tc_region ?_; refine tl_q (y_move rfl) rfl ?_; refine tl_q (y_neq rfl rfl) rfl ?_; refine tl_nil ?_; ((refine hK18 ?_; try (clear hK18; clear K18)))
        all_goals (
         refine tc_cond rfl (fun hc => ?_) (fun hc => ?_)
         · try simp only [decide_eq_true_eq, decide_eq_false_iff_not, Int.not_lt, Int.not_le, Bool.not_eq_true', Bool.not_eq_false', Decidable.not_not, not_true_eq_false] at hc
           all_goals ((first | (exfalso; omega) | skip))
           all_goals refine tc_seq fun K19 hK19 => ?_; refine tc_region ?_; refine tl_q (y_move rfl) rfl ?_; refine tl_q (y_move rfl) rfl ?_; refine tl_q (y_eql rfl rfl) rfl ?_; refine tl_q (y_move rfl) rfl ?_; ((refine tl_gs rfl rfl (fun hc => ?_) (fun hc => ?_) <;> (try simp only [decide_eq_true_eq, decide_eq_false_iff_not, Int.not_lt, Int.not_le, Bool.not_eq_true', Bool.not_eq_false', Decidable.not_not, not_true_eq_false] at hc) <;> (first | (exfalso; omega) | refine tl_qg rfl rfl (y_loadWf rfl (hl4.at (b := b7) (by repeat constructor)) (MI.m (by repeat constructor)) (by simp) (by rfl)) rfl ?_)))
           all_goals (refine tl_qg rfl rfl (y_build_g (by repeat constructor)) rfl ?_); refine tl_qg rfl rfl (y_eql2 rfl rfl) rfl ?_; refine tl_q (y_pick_t rfl rfl) rfl ?_; refine tl_q (y_move rfl) rfl ?_; refine tl_eg rfl rfl rfl (e_callV rfl .nil (fun w' _ => awake9_c w')) (fun _ _ => ?_); refine tl_q (y_pick_t rfl rfl) rfl ?_; refine tl_q (y_assign rfl) rfl ?_; refine tl_nil ?_; ((refine hK19 ?_; try (clear hK19; clear K19)))
           all_goals refine tc_ret ?_; (repeat (refine tk_then_ret ?_))
           all_goals (refine tk_ret rfl rfl (.cons (.tmp rfl) .nil) ?_)
           all_goals (
            first
            | exact fun w' hw' => ⟨rfl, hw'.fr (w0 := w) (S := []) (MI.m (by repeat constructor))⟩
            | (exfalso; omega)
            | exact absurd (And.intro True.intro True.intro) (by assumption : ¬ (True ∧ True)))
         · try simp only [decide_eq_true_eq, decide_eq_false_iff_not, Int.not_lt, Int.not_le, Bool.not_eq_true', Bool.not_eq_false', Decidable.not_not, not_true_eq_false] at hc
           all_goals ((first | (exfalso; omega) | skip))
           all_goals refine tc_skip ?_; ((refine hK17 ?_; try (clear hK17; clear K17)))
           all_goals refine tc_seq fun K20 hK20 => ?_; refine tc_region ?_; refine tl_q (y_loadWf rfl (hl1.at (by repeat constructor)) (MI.m (by repeat constructor)) (by simp) (by rfl)) rfl ?_; refine tl_q (y_move rfl) rfl ?_; refine tl_q (y_move rfl) rfl ?_; refine tl_q (y_move rfl) rfl ?_; refine tl_e (e_callV rfl (.cons rfl (.cons rfl (.cons rfl (.cons rfl .nil)))) (fun w' hw' => refCorrect_c t (chkT_0.1 h0) k n hb.1 hb.2 _ _ _ _ _ w' (hr0.fr (hw'.fr (w0 := w) (S := []) (MI.m (by repeat constructor)))) (RdLL.frF hx4.1.2 (hw'.fr (w0 := x4.2) (S := []) (MI.m (by repeat constructor)))))) rfl (fun _ _ => ?_); refine tl_q (y_move rfl) rfl ?_; refine tl_q (y_extract rfl rfl) rfl ?_; refine tl_q (y_extract rfl rfl) rfl ?_; refine tl_e (e_allocN rfl) rfl (fun b12 _ => ?_); refine tl_e (e_storeW rfl rfl (by repeat constructor) (by rfl) (by rfl) (by simp [Value.oneCell'])) rfl (fun _ _ => ?_); refine tl_q (y_assign rfl) rfl ?_; refine tl_nil ?_; ((refine hK20 ?_; try (clear hK20; clear K20)))
           all_goals refine tc_seq fun K21 hK21 => ?_; refine tc_seq fun K22 hK22 => ?_; refine tc_region ?_; refine tl_q (y_move rfl) rfl ?_; refine tl_q (y_not_dec rfl) rfl ?_; refine tl_nil ?_; ((refine hK22 ?_; try (clear hK22; clear K22)))
           all_goals (
            refine tc_cond rfl (fun hc => ?_) (fun hc => ?_)
            · try simp only [decide_eq_true_eq, decide_eq_false_iff_not, Int.not_lt, Int.not_le, Bool.not_eq_true', Bool.not_eq_false', Decidable.not_not, not_true_eq_false] at hc
              all_goals ((first | (exfalso; omega) | skip))
              all_goals refine tc_seq fun K23 hK23 => ?_; refine tc_region ?_; refine tl_q (y_move rfl) rfl ?_; refine tl_q (y_eql rfl rfl) rfl ?_; refine tl_q (y_move rfl) rfl ?_; refine tl_qg rfl rfl (y_loadWf rfl (hl4.at (b := b7) (by repeat constructor)) (MI.m (by repeat constructor)) (by simp) (by rfl)) rfl ?_; refine tl_qg rfl rfl (y_build_g (by repeat constructor)) rfl ?_; refine tl_qg rfl rfl (y_eql2 rfl rfl) rfl ?_; refine tl_q (y_pick_t rfl rfl) rfl ?_; refine tl_q (y_move rfl) rfl ?_; refine tl_eg rfl rfl rfl (e_callV rfl .nil (fun w' _ => awake9_c w')) (fun _ _ => ?_); refine tl_q (y_pick_t rfl rfl) rfl ?_; refine tl_q (y_assign rfl) rfl ?_; refine tl_nil ?_; ((refine hK23 ?_; try (clear hK23; clear K23)))
              all_goals refine tc_ret ?_; (repeat (refine tk_then_ret ?_))
              all_goals (refine tk_ret rfl rfl (.cons (.tmp rfl) .nil) ?_)
              all_goals (
               first
               | exact fun w' hw' => ⟨rfl, hw'.fr (w0 := w) (S := []) (MI.m (by repeat constructor))⟩
               | (exfalso; omega)
               | exact absurd (And.intro True.intro True.intro) (by assumption : ¬ (True ∧ True)))
            · try simp only [decide_eq_true_eq, decide_eq_false_iff_not, Int.not_lt, Int.not_le, Bool.not_eq_true', Bool.not_eq_false', Decidable.not_not, not_true_eq_false] at hc
              all_goals ((first | (exfalso; omega) | skip))
              all_goals refine tc_skip ?_; ((refine hK21 ?_; try (clear hK21; clear K21)))
              all_goals refine tc_seq fun K24 hK24 => ?_; refine tc_draw (by kernel_rfl) ?_; refine tx_p 0 rfl (by kernel_rfl) (y_move rfl) rfl (fun _ _ _ h => h) (fun _ h => h) ?_; refine tx_p 1 rfl (by kernel_rfl) (y_eql rfl rfl) rfl (fun _ _ _ h => h) (fun _ h => h) ?_; refine tx_p 2 rfl (by kernel_rfl) (y_move rfl) rfl (fun _ _ _ h => h) (fun _ h => h) ?_; refine tx_qg 3 rfl (by kernel_rfl) rfl rfl (y_loadWf rfl (hl4.at (b := b7) (by repeat constructor)) (MI.m (by repeat constructor)) (by simp) (by rfl)) rfl (fun _ _ _ h => h) (fun _ h => h) ?_; refine tx_qg 4 rfl (by kernel_rfl) rfl rfl (y_loadW rfl (by repeat constructor) (by rfl)) rfl (fun _ _ _ h => h) (fun _ h => h) ?_; refine tx_eg 5 rfl (by kernel_rfl) rfl rfl rfl (e_callV rfl (.cons rfl .nil) (fun w' _ => to9_c _ w')) (.inr fun _ _ h => h) (fun _ _ => ?_); refine tx_pg 6 rfl (by kernel_rfl) rfl rfl (y_eql2 rfl rfl) rfl (fun _ _ _ h => h) (fun _ h => h) ?_; refine tx_p 7 rfl (by kernel_rfl) (y_pick_t rfl rfl) rfl (fun _ _ _ h => h) (fun _ h => h) ?_; refine tx_p 8 rfl (by kernel_rfl) (y_move rfl) rfl (fun _ _ _ h => h) (fun _ h => h) ?_; ((refine tx_gs 93 rfl (fun hc => ?_) (fun hc => ?_) <;> (try simp only [decide_eq_true_eq, decide_eq_false_iff_not, Int.not_lt, Int.not_le, Bool.not_eq_true', Bool.not_eq_false', Decidable.not_not, not_true_eq_false] at hc) <;> (first | refine tx_sk 9 rfl (by kernel_rfl) rfl rfl rfl rfl (fun _ _ _ h => h) (fun _ h => h) ?_ | refine tx_eg 9 rfl (by kernel_rfl) rfl rfl rfl (e_callV rfl .nil (fun w' _ => awake9_c w')) (.inr fun _ _ h => h) (fun _ _ => ?_))))
              all_goals (first | refine tx_p 10 rfl (by kernel_rfl) (y_pick_t rfl rfl) rfl (fun _ _ _ h => h) (fun _ h => h) ?_ | refine tx_p 10 rfl (by kernel_rfl) (y_pick_f rfl rfl) rfl (fun _ _ _ h => h) (fun _ h => h) ?_); refine tx_p 11 rfl (by kernel_rfl) (y_assign rfl) rfl (fun _ _ _ h => h) (fun _ h => h) ?_; refine tx_done (by kernel_rfl) ?_; ((refine hK24 ?_; try (clear hK24; clear K24)))
              all_goals refine tc_ret ?_; (repeat (first | refine tk_then_ret ?_))
              all_goals (refine tk_ret rfl rfl (.cons (.tmp rfl) .nil) ?_)
              all_goals (
               first
               | exact fun w' hw' => ⟨rfl, hw'.fr (w0 := w) (S := []) (MI.m (by repeat constructor))⟩
               | (exfalso; omega)
               | exact absurd (And.intro True.intro True.intro) (by assumption : ¬ (True ∧ True)))))))
end Go.Sp
/-
  From a contract of a law's function to its row: what the arguments read as, and that they read so afterwards.
-/
namespace Go.Sp
open Go Go.Proofs Go.ChangeShapes Go.WideShapes Go.RowKit
section
variable {H : Type} {enc : TypeId × Value → H} {P : Program} {w : World} {base : Nat} {spare : Nat → Bool} {held : Bool}
theorem Fr.kept {W W' : World} (h : Fr [] W W') (p : MemPlace → Prop) : W.keptBut W' p :=
  ⟨h.os, h.output, fun i hi => by
    have e := h.block i hi (by simp)
    rw [e]
    cases hb : W.heap[i]? with
    | none => trivial
    | some o => cases o <;> simp⟩
/-- What is left of a post without 'again'. -/
theorem post_na {f : Func} {s : ChangeSpec} {apart fresh handsOn : Bool} {W W' : World} {args : Array Value} {v : Value} {ds gs : List (DataW H)} {before pa pv : List MemPlace}
    (hW : DataW.Whole enc P f.params.toList s.vars apart W args.toList ds gs before)
    (hres : ∀ (b : Nat) (sp : Nat → Bool) (hd : Bool), DataW.TrodAll enc P W' b sp hd f.resultTypes.toList (v.resultList f.resultTypes.size) (s.fn H (ds ++ gs)).results [])
    (hargs : ∀ sp : Nat → Bool, (∀ p ∈ before, sp p.block = true) → DataW.TrodAll enc P W' 0 sp true f.params.toList args.toList (s.fn H (ds ++ gs)).args pa)
    (hvars : ∀ sp : Nat → Bool, (∀ p ∈ before, sp p.block = true) → DataW.TrodVars enc P W' sp s.vars (s.fn H (ds ++ gs)).vars pv)
    (hps : before = pa ++ pv) (hk : W.keptBut W' (· ∈ before)) : s.post enc P f apart fresh handsOn false W args v W' := by
  have hold : ∀ p ∈ before, (fun b => decide (b < W.heap.size)) p.block = true := fun p hp => by simpa using hW.lt p hp
  refine ⟨ds, gs, before, [], pa, pv, hW, hres _ _ _, hargs _ hold, hvars _ hold, World.keptBut_mono (fun p hp => ⟨hp, ?_⟩) hk, fun h => by cases h⟩
  rw [hps, List.mem_append] at hp
  exact Or.inr hp
theorem all_stays (hl : laidOutB P = true) {W W' : World} {sp : Nat → Bool} (hb : Below W.heap.size W W') : ∀ {ts : List TypeId} {vs : List Value} {ds : List (DataW H)} {ps : List MemPlace}, (ts.all fun t => P.readableRec t && decide (t < P.types.size)) = true →
    DataW.TrodAll enc P W 0 (fun _ => true) true ts vs ds ps → (∀ p ∈ ps, sp p.block = true) → DataW.TrodAll enc P W' 0 sp true ts vs ds ps := by
  intro ts
  induction ts with
  | nil => intro vs ds ps _ h _; cases vs <;> cases ds <;> simp [DataW.TrodAll] at h ⊢; exact h
  | cons t ts ih =>
    intro vs ds ps ht h hs
    have hlt := h.lt
    obtain ⟨v, vs', d, ds', p, q, rfl, rfl, rfl, h1, h2⟩ := trodAll_cons h
    simp only [List.all_cons, Bool.and_eq_true, decide_eq_true_eq] at ht
    exact ⟨p, q, WideElems.Trod_stays hl ht.1.1 ht.1.2 h1 (fun x hx => hb.same (hlt x (List.mem_append_left _ hx))) (fun x hx => hs x (List.mem_append_left _ hx)),
      ih (by simpa using ht.2) h2 (fun x hx => hs x (List.mem_append_right _ hx)), rfl⟩
/-- A slice reads as the cells of its elements, each of which reads. -/
theorem slice_reads {t e : TypeId} {fuel : Nat} {cs : List Value} {x : DataW H × List MemPlace} (ht : P.underlying t = some (.slice e)) (hc : 0 < P.cellsOf e) (h : DataW.trod enc P w base spare held fuel t cs = some x) :
    ∃ ad cap, ∃ ess : List (List Value), cs = [.slice ad ess.length cap] ∧ ess.length ≤ maxLen ∧ Reads w (.slice ad ess.length cap) (P.cellsOf e) ess.length ess.flatten ∧ ∀ es ∈ ess, ∃ m y, DataW.trod enc P w base spare held m e es = some y := by
  rcases DataW.trod_slice ht h with ⟨rfl, _⟩ | ⟨a, len, cap, elems, rest, n, _, rfl, _, hb, hl, hm, hlen, hel, _, _⟩
  · exact ⟨none, 0, [], rfl, Nat.zero_le _, ⟨by simp, none, 0, rfl, fun h => absurd rfl h⟩, by simp⟩
  · -- the cells of each element
    have hone : ∀ i, i < len → ∃ es y, w.cells? base (a.add (i * P.cellsOf e)) (P.cellsOf e) = some es ∧ DataW.trod enc P w base spare held n e es = some y := fun i hi => by
      have h1 := hel i hi
      rw [List.getElem?_eq_getElem (by omega)] at h1
      obtain ⟨es, h2, h3⟩ := Option.bind_eq_some_iff.1 h1
      exact ⟨es, _, h2, h3⟩
    have hadd : ∀ m, a.spot = none → a.add m = ⟨a.block, a.off + m, none⟩ := fun m hs => by
      obtain ⟨b, o, sp⟩ := a
      simp only at hs
      subst hs
      unfold Addr.add; split
      · rename_i h0; subst h0; rfl
      · rfl
    have hsp0 : 0 < len → a.spot = none := fun h0 => by
      obtain ⟨es, y, g1, g2⟩ := hone 0 h0
      obtain ⟨_, hl1, hat⟩ := World.cells?_some g1
      have := hat 0 hc
      rw [List.getElem?_eq_getElem (by omega), Nat.zero_mul, show (a.add 0).add 0 = a from rfl] at this
      unfold World.cell? at this
      split at this
      · split at this
        · cases this
        · rename_i hs; simpa using hs
      · cases this
    have hcell : ∀ k, k ≤ len → ∃ ess : List (List Value), ess.length = k ∧ (∀ es ∈ ess, ∃ m y, DataW.trod enc P w base spare held m e es = some y) ∧ ess.flatten.length = k * P.cellsOf e ∧
        (k ≠ 0 → a.spot = none) ∧ ∀ j v, ess.flatten[j]? = some v → w.cell? ⟨a.block, a.off + j, none⟩ = some v := by
      intro k
      induction k with
      | zero => intro _; exact ⟨[], rfl, by simp, by simp, fun h => absurd rfl h, by simp⟩
      | succ k ih =>
        intro hk
        obtain ⟨ess, h1, h2, h3, h4, h5⟩ := ih (by omega)
        obtain ⟨es, y, g1, g2⟩ := hone k (by omega)
        obtain ⟨_, hl1, hat⟩ := World.cells?_some g1
        have hspot : a.spot = none := hsp0 (by omega)
        refine ⟨ess ++ [es], by simp [h1], fun u hu => ?_, ?_, fun _ => hspot, fun j v hv => ?_⟩
        · rcases List.mem_append.1 hu with hu | hu
          · exact h2 u hu
          · obtain rfl := List.mem_singleton.1 hu; exact ⟨n, y, g2⟩
        · rw [List.flatten_append, List.length_append, h3]; simp [hl1]; rw [Nat.add_mul]; omega
        · rw [List.flatten_append] at hv
          by_cases hj : j < ess.flatten.length
          · rw [List.getElem?_append_left hj] at hv; exact h5 j v hv
          · rw [List.getElem?_append_right (by omega)] at hv
            simp only [List.flatten_cons, List.flatten_nil, List.append_nil] at hv
            have hjl : j - ess.flatten.length < es.length := (List.getElem?_eq_some_iff.1 hv).1
            have := hat (j - ess.flatten.length) (by omega)
            rw [hv, hadd _ hspot] at this
            have e2 : (⟨a.block, a.off + k * P.cellsOf e, none⟩ : Addr).add (j - ess.flatten.length) = ⟨a.block, a.off + j, none⟩ := by
              unfold Addr.add; split
              · rename_i h0; simp only [Addr.mk.injEq, true_and, and_true]; omega
              · simp only [Addr.mk.injEq, true_and, and_true]; omega
            rw [e2] at this
            exact this
    obtain ⟨ess, h1, h2, h3, h4, h5⟩ := hcell len (Nat.le_refl _)
    subst h1
    refine ⟨some a, cap, ess, rfl, by omega, ⟨h3, _, _, rfl, fun hn => ⟨a.block, a.off, ?_, ?_⟩⟩, h2⟩
    · have := h4 hn
      obtain ⟨b, o, sp⟩ := a
      simp only at this
      subst this
      rfl
    · rw [← h3]
      generalize ess.flatten = vs at h5
      have key : ∀ (vs : List Value) (o : Nat), (∀ j v, vs[j]? = some v → w.cell? ⟨a.block, o + j, none⟩ = some v) → CA (fun k => w.cell? ⟨a.block, k, none⟩) o vs.length vs := by
        intro vs
        induction vs with
        | nil => intro o _; exact .nil
        | cons v vs ih => intro o hv; exact .cons (hv 0 v rfl) (ih (o + 1) fun j u hu => by rw [Nat.add_assoc, Nat.add_comm 1 j]; exact hv (j + 1) u hu)
      exact key vs a.off h5
theorem exists_map {α β : Type} {f : α → β} {q : α → Prop} : ∀ (l : List β), (∀ y ∈ l, ∃ x, y = f x ∧ q x) → ∃ xs : List α, l = xs.map f ∧ ∀ x ∈ xs, q x
  | [], _ => ⟨[], rfl, by simp⟩
  | y :: l, h => by
    obtain ⟨x, rfl, hq⟩ := h y List.mem_cons_self
    obtain ⟨xs, rfl, hxs⟩ := exists_map l (fun z hz => h z (List.mem_cons_of_mem _ hz))
    exact ⟨x :: xs, rfl, fun z hz => by rcases List.mem_cons.1 hz with rfl | hz; exact hq; exact hxs z hz⟩
theorem flatten_map_one {α : Type} (f : α → Value) (xs : List α) : (xs.map fun x => [f x]).flatten = xs.map f := by
  induction xs with
  | nil => rfl
  | cons x xs ih => simp [ih]
/-- A slice of integers of one kind. -/
theorem ints_reads {t e : TypeId} {k : IntKind} {fuel : Nat} {cs : List Value} {x : DataW H × List MemPlace} (ht : P.underlying t = some (.slice e)) (he : P.underlying e = some (.int k)) (hc : P.cellsOf e = 1) (h : DataW.trod enc P w base spare held fuel t cs = some x) :
    ∃ sl, ∃ xs : List Int, cs = [sl] ∧ xs.length ≤ maxLen ∧ Reads w sl 1 xs.length (xs.map (Value.int k)) ∧ ∀ n ∈ xs, (Lit.int k n).wf = true := by
  obtain ⟨ad, cap, ess, rfl, hm, hr, hes⟩ := slice_reads ht (by omega) h
  obtain ⟨xs, rfl, hxs⟩ := exists_map (f := fun n : Int => [Value.int k n]) (q := fun n => (Lit.int k n).wf = true) ess (fun es h => by
    obtain ⟨m, y, hy⟩ := hes es h
    obtain ⟨n, rfl, _, hw⟩ := DataW.trod_int he hy
    exact ⟨n, rfl, hw⟩)
  rw [flatten_map_one, hc] at hr
  simp only [List.length_map] at hr hm
  exact ⟨_, xs, by simp, hm, hr, hxs⟩
/-- The fields of a struct. -/
theorem fields_reads {t : TypeId} {fs : Array Field} {fuel : Nat} {cs : List Value} {x : DataW H × List MemPlace} (ht : P.underlying t = some (.struct fs)) (h : DataW.trod enc P w base spare held fuel t cs = some x) :
    cs.length = P.cellsOf t ∧ ∀ (i : Nat) (f : Field), fs[i]? = some f → ∃ m y, DataW.trod enc P w base spare held m f.type ((cs.drop f.offset).take (P.cellsOf f.type)) = some y := by
  obtain ⟨xs, n, _, _, hl, hx, hf⟩ := DataW.trod_struct ht h
  refine ⟨hl, fun i f hi => ?_⟩
  have := hf i f hi
  have hlt : i < fs.size := (Array.getElem?_eq_some_iff.1 hi).1
  rw [List.getElem?_eq_getElem (by omega)] at this
  exact ⟨n, _, this⟩
def flds (enc : TypeId × Value → H) (P : Program) (w : World) (base : Nat) (spare : Nat → Bool) (held : Bool) (cs : List Value) : List Field → Prop
  | [] => True
  | f :: fs => (∃ m y, DataW.trod enc P w base spare held m f.type ((cs.drop f.offset).take (P.cellsOf f.type)) = some y) ∧ flds enc P w base spare held cs fs
theorem fields_list {t : TypeId} {l : List Field} {fuel : Nat} {cs : List Value} {x : DataW H × List MemPlace} (ht : P.underlying t = some (.struct l.toArray)) (h : DataW.trod enc P w base spare held fuel t cs = some x) :
    cs.length = P.cellsOf t ∧ flds enc P w base spare held cs l := by
  obtain ⟨hl, hf⟩ := fields_reads ht h
  refine ⟨hl, ?_⟩
  have key : ∀ l' : List Field, (∀ f ∈ l', f ∈ l) → flds enc P w base spare held cs l' := by
    intro l'
    induction l' with
    | nil => intro _; trivial
    | cons f fs ih =>
      intro hm
      obtain ⟨i, hi, e⟩ := List.getElem_of_mem (hm f List.mem_cons_self)
      exact ⟨hf i f (by simp [hi, e]), ih fun g hg => hm g (List.mem_cons_of_mem _ hg)⟩
  exact key l fun _ h => h
end
end Go.Sp
/-
  What the arguments of this seat's laws read as.
-/
namespace Go.Sp
open Go Go.Proofs Go.ChangeShapes Go.WideShapes Go.RowKit
theorem laidTryz : laidOutB Tryz.prog = true := by kernel_rfl
theorem cells_3 : Tryz.prog.cellsOf 3 = 1 := by kernel_rfl
theorem cells_22 : Tryz.prog.cellsOf 22 = 1 := by kernel_rfl
theorem cells_24 : Tryz.prog.cellsOf 24 = 6 := by kernel_rfl
theorem cells_57 : Tryz.prog.cellsOf 57 = 2 := by kernel_rfl
theorem wf64 {n : Int} (h : (Lit.int .i64 n).wf = true) : -9223372036854775808 ≤ n ∧ n ≤ 9223372036854775807 := by
  simpa [Lit.wf, IntKind.min, IntKind.max, IntKind.signed, IntKind.bits] using h
theorem six {α : Type} {l : List α} (h : l.length = 6) : ∃ a b c d e f, l = [a, b, c, d, e, f] := by
  match l, h with
  | [a, b, c, d, e, f], _ => exact ⟨a, b, c, d, e, f, rfl⟩
theorem two' {α : Type} {l : List α} (h : l.length = 2) : ∃ a b, l = [a, b] := by
  match l, h with
  | [a, b], _ => exact ⟨a, b, rfl⟩
section
variable {H : Type} {enc : TypeId × Value → H} {w : World} {base : Nat} {spare : Nat → Bool} {held : Bool}
abbrev Bd (n : Int) : Prop := -9223372036854775808 ≤ n ∧ n ≤ 9223372036854775807
theorem sn_reads {fuel : Nat} {cs : List Value} {x : DataW H × List MemPlace} (h : DataW.trod enc Tryz.prog w base spare held fuel 24 cs = some x) :
    ∃ (s : Sn) (sl : Value), cs = [vi s.mass, vi s.volume, vi s.step, vi s.divisions, vi s.width, sl] ∧ RdI w sl s.weights ∧ s.weights.length ≤ maxLen := by
  obtain ⟨hl, hf⟩ := fields_list Tryz.underlying24 h
  rw [cells_24] at hl
  obtain ⟨c0, c1, c2, c3, c4, c5, rfl⟩ := six hl
  obtain ⟨⟨_, _, f0⟩, ⟨_, _, f1⟩, ⟨_, _, f2⟩, ⟨_, _, f3⟩, ⟨_, _, f4⟩, ⟨_, _, f5⟩, _⟩ := hf
  rw [cells_3] at f0 f1 f2 f3 f4
  rw [cells_22] at f5
  obtain ⟨n0, e0, _, _⟩ := DataW.trod_int Tryz.underlying3 f0
  obtain ⟨n1, e1, _, _⟩ := DataW.trod_int Tryz.underlying3 f1
  obtain ⟨n2, e2, _, _⟩ := DataW.trod_int Tryz.underlying3 f2
  obtain ⟨n3, e3, _, _⟩ := DataW.trod_int Tryz.underlying3 f3
  obtain ⟨n4, e4, _, _⟩ := DataW.trod_int Tryz.underlying3 f4
  obtain ⟨sl, xs, e5, hm, hr, _⟩ := ints_reads Tryz.underlying22 Tryz.underlying3 cells_3 f5
  simp at e0 e1 e2 e3 e4 e5
  subst e0; subst e1; subst e2; subst e3; subst e4; subst e5
  exact ⟨⟨n0, n1, n2, n3, n4, xs⟩, _, rfl, hr, hm⟩
theorem pair_reads {t : TypeId} {f0 f1 : Field} (ht : Tryz.prog.underlying t = some (.struct #[f0, f1])) (hc : Tryz.prog.cellsOf t = 2) (h0 : f0.type = 3) (h1 : f1.type = 3) (o0 : f0.offset = 0) (o1 : f1.offset = 1) {fuel : Nat} {cs : List Value} {x : DataW H × List MemPlace} (h : DataW.trod enc Tryz.prog w base spare held fuel t cs = some x) :
    ∃ r : Int × Int, cs = [vi r.1, vi r.2] ∧ Bd r.1 ∧ Bd r.2 := by
  obtain ⟨hl, hf⟩ := fields_list (l := [f0, f1]) ht h
  rw [hc] at hl
  obtain ⟨c0, c1, rfl⟩ := two' hl
  obtain ⟨⟨_, _, g0⟩, ⟨_, _, g1⟩, _⟩ := hf
  rw [h0, o0, cells_3] at g0
  rw [h1, o1, cells_3] at g1
  obtain ⟨n0, e0, _, w0⟩ := DataW.trod_int Tryz.underlying3 g0
  obtain ⟨n1, e1, _, w1⟩ := DataW.trod_int Tryz.underlying3 g1
  simp at e0 e1
  subst e0; subst e1
  exact ⟨(n0, n1), rfl, wf64 w0, wf64 w1⟩
theorem flat_map (xs : List (Int × Int)) : (xs.map fun r => [vi r.1, vi r.2]).flatten = flatR xs := by
  induction xs with
  | nil => rfl
  | cons x xs ih => simp [ih, flatR]
end
end Go.Sp
/-
  What a trial reads as.
-/
namespace Go.Sp
open Go Go.Proofs Go.ChangeShapes Go.WideShapes Go.RowKit
theorem cells_72 : Tryz.prog.cellsOf 72 = 3 := by kernel_rfl
theorem cells_25 : Tryz.prog.cellsOf 25 = 1 := by kernel_rfl
theorem cells_26 : Tryz.prog.cellsOf 26 = 1 := by kernel_rfl
theorem cells_28 : Tryz.prog.cellsOf 28 = 10 := by kernel_rfl
theorem three' {α : Type} {l : List α} (h : l.length = 3) : ∃ a b c, l = [a, b, c] := by
  match l, h with
  | [a, b, c], _ => exact ⟨a, b, c, rfl⟩
theorem ten' {α : Type} {l : List α} (h : l.length = 10) : ∃ a b c d e f g i j k, l = [a, b, c, d, e, f, g, i, j, k] := by
  match l, h with
  | [a, b, c, d, e, f, g, i, j, k], _ => exact ⟨a, b, c, d, e, f, g, i, j, k, rfl⟩
section
variable {H : Type} {enc : TypeId × Value → H} {w : World} {base : Nat} {spare : Nat → Bool} {held : Bool}
theorem rgs_reads {fuel : Nat} {cs : List Value} {x : DataW H × List MemPlace} (h : DataW.trod enc Tryz.prog w base spare held fuel 25 cs = some x) :
    ∃ (sl : Value) (l : List (Int × Int)), cs = [sl] ∧ RdR w sl l ∧ l.length ≤ maxLen ∧ ∀ r ∈ l, Bd r.1 ∧ Bd r.2 := by
  obtain ⟨ad, cap, ess, rfl, hm, hr, hes⟩ := slice_reads Tryz.underlying25 (by rw [cells_57]; decide) h
  obtain ⟨xs, rfl, hxs⟩ := exists_map (f := fun r : Int × Int => [vi r.1, vi r.2]) (q := fun r => Bd r.1 ∧ Bd r.2) ess (fun es h => by
    obtain ⟨m, y, hy⟩ := hes es h
    obtain ⟨r, e, hb⟩ := pair_reads Tryz.underlying57 cells_57 rfl rfl rfl rfl hy
    exact ⟨r, e, hb⟩)
  rw [flat_map, cells_57] at hr
  simp only [List.length_map] at hr hm
  exact ⟨_, xs, by simp, hr, hm, hxs⟩
theorem test_reads {fuel : Nat} {cs : List Value} {x : DataW H × List MemPlace} (h : DataW.trod enc Tryz.prog w base spare held fuel 72 cs = some x) :
    ∃ r : Int × Int × Int, cs = [vi r.1, vi r.2.1, vi r.2.2] ∧ Bd r.1 ∧ Bd r.2.1 ∧ Bd r.2.2 := by
  obtain ⟨hl, hf⟩ := fields_list Tryz.underlying72 h
  rw [cells_72] at hl
  obtain ⟨c0, c1, c2, rfl⟩ := three' hl
  obtain ⟨⟨_, _, f0⟩, ⟨_, _, f1⟩, ⟨_, _, f2⟩, _⟩ := hf
  rw [cells_3] at f0 f1 f2
  obtain ⟨n0, e0, _, w0⟩ := DataW.trod_int Tryz.underlying3 f0
  obtain ⟨n1, e1, _, w1⟩ := DataW.trod_int Tryz.underlying3 f1
  obtain ⟨n2, e2, _, w2⟩ := DataW.trod_int Tryz.underlying3 f2
  simp at e0 e1 e2
  subst e0; subst e1; subst e2
  exact ⟨(n0, n1, n2), rfl, wf64 w0, wf64 w1, wf64 w2⟩
theorem flat_mapT (xs : List (Int × Int × Int)) : (xs.map fun r => [vi r.1, vi r.2.1, vi r.2.2]).flatten = flatT xs := by
  induction xs with
  | nil => rfl
  | cons x xs ih => simp [ih, flatT]
theorem tests_reads {fuel : Nat} {cs : List Value} {x : DataW H × List MemPlace} (h : DataW.trod enc Tryz.prog w base spare held fuel 26 cs = some x) :
    ∃ (sl : Value) (l : List (Int × Int × Int)), cs = [sl] ∧ RdT w sl l ∧ l.length ≤ maxLen := by
  obtain ⟨ad, cap, ess, rfl, hm, hr, hes⟩ := slice_reads Tryz.underlying26 (by rw [cells_72]; decide) h
  obtain ⟨xs, rfl, hxs⟩ := exists_map (f := fun r : Int × Int × Int => [vi r.1, vi r.2.1, vi r.2.2]) (q := fun r => True) ess (fun es h => by
    obtain ⟨m, y, hy⟩ := hes es h
    obtain ⟨r, e, hb⟩ := test_reads hy
    exact ⟨r, e, trivial⟩)
  rw [flat_mapT, cells_72] at hr
  simp only [List.length_map] at hr hm
  exact ⟨_, xs, by simp, hr, hm⟩
theorem tr_reads {fuel : Nat} {cs : List Value} {x : DataW H × List MemPlace} (h : DataW.trod enc Tryz.prog w base spare held fuel 28 cs = some x) :
    ∃ (t : Tr) (sl pl ll tl : Value), cs = [vi t.s.mass, vi t.s.volume, vi t.s.step, vi t.s.divisions, vi t.s.width, sl, pl, vi t.worst, ll, tl] ∧ RdTr w t sl pl ll tl := by
  obtain ⟨hl, hf⟩ := fields_list Tryz.underlying28 h
  rw [cells_28] at hl
  obtain ⟨c0, c1, c2, c3, c4, c5, c6, c7, c8, c9, rfl⟩ := ten' hl
  obtain ⟨⟨_, _, f0⟩, ⟨_, _, f1⟩, ⟨_, _, f2⟩, ⟨_, _, f3⟩, ⟨_, _, f4⟩, _⟩ := hf
  rw [cells_24] at f0
  rw [cells_22] at f1
  rw [cells_3] at f2
  rw [cells_25] at f3
  rw [cells_26] at f4
  obtain ⟨s, sl, e0, hrs, _⟩ := sn_reads f0
  obtain ⟨pl, ps, e1, _, hrp, _⟩ := ints_reads Tryz.underlying22 Tryz.underlying3 cells_3 f1
  obtain ⟨n2, e2, _, _⟩ := DataW.trod_int Tryz.underlying3 f2
  obtain ⟨ll, l, e3, hrl, _, _⟩ := rgs_reads f3
  obtain ⟨tl, ts, e4, hrt, _⟩ := tests_reads f4
  simp at e0 e1 e2 e3 e4
  obtain ⟨rfl, rfl, rfl, rfl, rfl, rfl⟩ := e0
  subst e1; subst e2; subst e3; subst e4
  exact ⟨⟨s, ps, n2, l, ts⟩, _, _, _, _, rfl, hrs, hrp, hrl, hrt⟩
end
end Go.Sp
