/-
  Package trial: all errors, one after the other.
-/
import Derived.Test.YtaoohjefbfmhnaaXl
set_option linter.unusedVariables false
set_option linter.unusedSimpArgs false
set_option linter.deprecated false
namespace Go.Sp
open Go Go.Proofs
def nth3 (W n k : Nat) : Int × Int × Int := (((k % (2 * W + 1) : Nat) : Int) - W, if 2 ≤ n then ((k / (2 * W + 1) % (2 * W + 1) : Nat) : Int) - W else 0, if 3 ≤ n then ((k / (2 * W + 1) / (2 * W + 1) % (2 * W + 1) : Nat) : Int) - W else 0)
def cntE (W n : Nat) : Nat := (2 * W + 1) ^ n
def lastE (W n : Nat) : Int × Int × Int := (if 0 < n then (W : Int) else 0, if 1 < n then (W : Int) else 0, if 2 < n then (W : Int) else 0)
def iniE (W n : Nat) : Int × Int × Int := (if 0 < n then -(W : Int) else 0, if 1 < n then -(W : Int) else 0, if 2 < n then -(W : Int) else 0)
def stepE (W : Nat) (e : Int × Int × Int) : Int × Int × Int := if ¬ e.1 = W then (e.1 + 1, e.2) else if ¬ e.2.1 = W then (-(W : Int), e.2.1 + 1, e.2.2) else (-(W : Int), -(W : Int), e.2.2 + 1)
theorem nth_all : ∀ W : Fin 4, ∀ n : Fin 4, 1 ≤ n.1 → ∀ k : Fin 343, k.1 < cntE W n → (nth3 W n k = lastE W n ↔ k.1 = cntE W n - 1) ∧ (k.1 + 1 < cntE W n → stepE W (nth3 W n k) = nth3 W n (k.1 + 1) ∧ ¬ ((nth3 W n k).1 = W.1 ∧ (nth3 W n k).2.1 = W.1 ∧ (nth3 W n k).2.2 = W.1)) := by decide +kernel
theorem ini_all : ∀ W : Fin 4, ∀ n : Fin 4, 1 ≤ n.1 → iniE W n = nth3 W n 0 ∧ 0 < cntE W n ∧ cntE W n ≤ 343 := by decide +kernel
theorem nth_bd {W n k : Nat} (hW : W ≤ 3) : ErB (nth3 W n k) := by
  unfold ErB nth3
  dsimp only
  have h1 := Nat.mod_lt k (show 0 < 2 * W + 1 by omega)
  have h2 := Nat.mod_lt (k / (2 * W + 1)) (show 0 < 2 * W + 1 by omega)
  have h3 := Nat.mod_lt (k / (2 * W + 1) / (2 * W + 1)) (show 0 < 2 * W + 1 by omega)
  generalize k % (2 * W + 1) = a at h1 ⊢
  generalize k / (2 * W + 1) % (2 * W + 1) = b at h2 ⊢
  generalize k / (2 * W + 1) / (2 * W + 1) % (2 * W + 1) = c at h3 ⊢
  refine ⟨by omega, ?_, ?_⟩
  · split <;> omega
  · split <;> omega
def everyL (t : Tr) : List (Int × Int × Int) := (List.range (cntE t.worst.toNat t.parts.length)).map (nth3 t.worst.toNat t.parts.length)
def midE (W : Nat) (e : Int × Int × Int) (i : Nat) : Int × Int × Int := (if 0 < i then -(W : Int) else e.1, if 1 < i then -(W : Int) else e.2.1, e.2.2)
theorem mid_bd {W : Nat} {e : Int × Int × Int} (hW : W ≤ 3) (he : ErB e) (i : Nat) : ErB (midE W e i) := by
  obtain ⟨h1, h2, h3⟩ := he
  unfold ErB midE
  dsimp only
  refine ⟨?_, ?_, h3⟩
  · split <;> omega
  · split <;> omega
theorem stepE_0 {W : Nat} {e : Int × Int × Int} (h : ¬ e.1 = W) : stepE W e = (e.1 + 1, e.2) := by unfold stepE; rw [if_pos h]
theorem stepE_1 {W : Nat} {e : Int × Int × Int} (h0 : e.1 = W) (h : ¬ e.2.1 = W) : stepE W e = (-(W : Int), e.2.1 + 1, e.2.2) := by unfold stepE; rw [if_neg (fun g => g h0), if_pos h]
theorem stepE_2 {W : Nat} {e : Int × Int × Int} (h0 : e.1 = W) (h : e.2.1 = W) : stepE W e = (-(W : Int), -(W : Int), e.2.2 + 1) := by unfold stepE; rw [if_neg (fun g => g h0), if_neg (fun g => g h)]
theorem lt_last {W n k : Nat} (hlast : nth3 W n k = lastE W n ↔ k = cntE W n - 1) (hk : k < cntE W n) (hc : ¬((nth3 W n k).1 = (lastE W n).1 ∧ (nth3 W n k).2.1 = (lastE W n).2.1 ∧ (nth3 W n k).2.2 = (lastE W n).2.2)) : k + 1 < cntE W n := by
  have h1 : ¬ nth3 W n k = lastE W n := fun h => hc (by rw [h]; exact ⟨rfl, rfl, rfl⟩)
  have h2 := mt hlast.2 h1
  omega
theorem yq {b : Bool} {A B : Prop} (h : b = true ∧ A ∨ b = false ∧ B) (hb : b = true) : A := by
  rcases h with h | h
  · exact h.2
  · rw [h.1] at hb; cases hb
theorem yq2 {b : Bool} {A B : Prop} (h : b = true ∧ A ∨ b = false ∧ B) (hb : b = false) : B := by
  rcases h with h | h
  · rw [h.1] at hb; cases hb
  · exact h.2
theorem tevery_c (bw : Nat) (w : World) :
    CnX Try.prog 53 #[ptr bw] w [] (fun b : Nat => .func (.func 79) #[] #[ptr b])
    (fun b w' => True ∧ w.heap.size ≤ b ∧ w'.heap[b]? = some (.cells #[ptr bw] 70 (0, 0))) := by
  refine cnx0 (vs := [_]) Try.func53 rfl rfl ?_
  all_goals refine tc_seq fun K1 hK1 => ?_
  all_goals refine tc_region ?_
  all_goals refine tl_e (e_box rfl rfl rfl) rfl (fun b _ => ?_)
  all_goals refine tl_q (y_assign rfl) rfl ?_
  all_goals refine tl_nil ?_
  all_goals (refine hK1 ?_; try (clear hK1; clear K1))
  all_goals refine tc_seq fun K2 hK2 => ?_
  all_goals refine tc_region ?_
  all_goals refine tl_q (y_fn .nil (.cons rfl .nil)) rfl ?_
  all_goals refine tl_q (y_assign rfl) rfl ?_
  all_goals refine tl_nil ?_
  all_goals (refine hK2 ?_; try (clear hK2; clear K2))
  all_goals refine tc_ret ?_
  all_goals (repeat (first | refine tk_then_ret ?_))
  all_goals first | refine tk_ret rfl rfl (.cons (.tmp rfl) .nil) ?_ | refine tk_retM rfl (by repeat constructor) rfl (.cons (.tmp rfl) .nil) ?_
  all_goals (
   exact fun w' hw' => ⟨b, rfl, hw'.fr (by simp), trivial, (hw'.own _ (HM.mem (b := b) (by repeat constructor)) (w, []) (by simp)).resolve_left (by simp), hw'.heap _ (HM.mem (by repeat constructor))⟩)
theorem every_seq (t : Tr) (hv : VT t) (sl pl ll tl : Value) (hpl : ∃ ad cp, pl = .slice ad t.parts.length cp) (w : World) (bw bm b1 : Nat) (S0 : List Nat) (h1 : w.heap[b1]? = some (.cells #[ptr bw] 70 (0, 0))) (hb1 : b1 ∉ S0) (hbw : w.heap[bw]? = some (wkT t sl pl ll tl bm)) (hbwS : bw ∉ S0) :
    Seq Try.prog 79 #[ptr b1] (fun e : Int × Int × Int => [tsV e]) (everyL t) S0 w := by
  intro σ l S Hx I J s0 w1 f0 hS hK0 h0 hY
  obtain ⟨adp, cpp, rfl⟩ := hpl
  obtain ⟨W, hW⟩ : ∃ W : Nat, t.worst = (W : Int) := ⟨t.worst.toNat, by have := hv.w; omega⟩
  have hW3 : W ≤ 3 := by have := hv.w; omega
  have hWn : t.worst.toNat = W := by omega
  obtain ⟨n, hn⟩ : ∃ n, n = t.parts.length := ⟨_, rfl⟩
  have hn1 : 1 ≤ n := by rw [hn]; exact hv.p1
  have hn3 : n ≤ 3 := by rw [hn]; exact hv.p3
  obtain ⟨i1, i2, i3⟩ := ini_all ⟨W, by omega⟩ ⟨n, by omega⟩ hn1
  dsimp only at i1 i2 i3
  have hall := fun (k : Nat) (hk : k < cntE W n) => nth_all ⟨W, by omega⟩ ⟨n, by omega⟩ hn1 ⟨k, by omega⟩ hk
  dsimp only at hall
  have hL : everyL t = (List.range (cntE W n)).map (nth3 W n) := by unfold everyL; rw [hWn, ← hn]
  have hLl : (everyL t).length = cntE W n := by rw [hL]; simp
  have hLg : ∀ k, k < cntE W n → (everyL t)[k]? = some (nth3 W n k) := fun k hk => by rw [hL, List.getElem?_map, List.getElem?_range hk]; rfl
  have hlt : ∀ b, w.heap[b]? ≠ none → b < w.heap.size := fun b h => by
    rcases Nat.lt_or_ge b w.heap.size with g | g
    · exact g
    · exact absurd (Array.getElem?_eq_none g) h
  have n1 : b1 ∉ S := fun hm => (hS b1 hm).elim hb1 (fun g => by have := hlt b1 (by rw [h1]; simp); omega)
  have nw : bw ∉ S := fun hm => (hS bw hm).elim hbwS (fun g => by have := hlt bw (by rw [hbw]; simp); omega)
  have g1 := f0.keep h1
  have gw := f0.keep hbw
  rw [show (#[.func (.yield l) #[] #[]] ++ #[ptr b1] : Array Value) = #[.func (.yield l) #[] #[], ptr b1] from by simp]
  refine cnxS (vs := [_, _]) (S := S) (Hx s0) Try.func79 rfl rfl ⟨hK0.kn, hK0.nd, hK0.mem⟩ ?_
  all_goals refine tc_seq fun K1 hK1 => ?_
  all_goals refine tc_region ?_
  all_goals refine tl_e (e_allocN rfl) rfl (fun b3 _ => ?_)
  all_goals refine tl_nil ?_
  all_goals (refine hK1 ?_; try (clear hK1; clear K1))
  all_goals refine tc_seq fun K2 hK2 => ?_
  all_goals refine tc_region ?_
  all_goals refine tl_e (e_allocN rfl) rfl (fun b4 _ => ?_)
  all_goals refine tl_nil ?_
  all_goals (refine hK2 ?_; try (clear hK2; clear K2))
  all_goals refine tc_seq fun K3 hK3 => ?_
  all_goals refine tc_seq fun K4 hK4 => ?_
  all_goals refine tc_region ?_
  all_goals (refine tl_q (y_load1o (v := ptr bw) rfl (fun w' hw' => cell0 ((hw'.fr (w0 := w1) (S := S) (MI.m (by repeat constructor))).keepS n1 g1) rfl)) rfl ?_)
  all_goals refine tl_q (y_nil rfl) rfl ?_
  all_goals refine tl_q (y_field rfl) rfl ?_
  all_goals refine tl_q (y_field rfl) rfl ?_
  all_goals (refine tl_q (y_load1o (v := .slice adp n cpp) rfl (fun w' hw' => cell0 ((hw'.fr (w0 := w1) (S := S) (MI.m (by repeat constructor))).keepS nw gw) (by rw [hn]; rfl))) rfl ?_)
  all_goals refine tl_q (y_len rfl) rfl ?_
  all_goals refine tl_q (y_move rfl) rfl ?_
  all_goals refine tl_nil ?_
  all_goals (refine hK4 ?_; try (clear hK4; clear K4))
  all_goals refine tc_block ?_
  all_goals (
   refine tc_loop (fun i : Nat => i ≤ n) (fun i => [(0, .func (.yield l) #[] #[]), (1, ptr b1), (3, ptr b3), (4, ptr b4), (12, vi n), (13, vi i)]) (fun _ => [(w1, S)]) (fun i => (b4, .cells (tsV (lastE W i)).cells 75 (0, 0)) :: (b3, .cells (tsV (iniE W i)).cells 75 (0, 0)) :: Hx s0) (fun i => n - i) ?_ ?_
   · exact tk_start 0 (Nat.zero_le _) (.cons rfl (.cons rfl (.cons rfl (.cons rfl (.cons rfl (.cons rfl .nil)))))) (fun _ h => h)
   · rintro i hi
     all_goals refine tc_seq fun K5 hK5 => ?_
     all_goals refine tc_region ?_
     all_goals refine tl_q (y_lss rfl rfl) rfl ?_
     all_goals refine tl_nil ?_
     all_goals (refine hK5 ?_; try (clear hK5; clear K5))
     all_goals refine tc_seq fun K6 hK6 => ?_
     all_goals (
      refine tc_cond rfl (fun hc => ?_) (fun hc => ?_)
      · try simp only [decide_eq_true_eq, decide_eq_false_iff_not, Int.not_lt, Int.not_le, Bool.not_eq_true', Bool.not_eq_false', Decidable.not_not, not_true_eq_false] at hc
        all_goals first | (exfalso; with_reducible exact bft hc) | (exfalso; with_reducible exact btf hc) | (exfalso; omega) | skip
        all_goals refine tc_skip ?_
        all_goals (refine hK6 ?_; try (clear hK6; clear K6))
        all_goals refine tc_seq fun K7 hK7 => ?_
        all_goals refine tc_block ?_
        all_goals refine tc_seq fun K8 hK8 => ?_
        all_goals refine tc_region ?_
        all_goals refine tl_q (y_move rfl) rfl ?_
        all_goals refine tl_q (y_assign rfl) rfl ?_
        all_goals refine tl_nil ?_
        all_goals (refine hK8 ?_; try (clear hK8; clear K8))
        all_goals (rcases (by omega : i = 0 ∨ i = 1 ∨ i = 2) with rfl | rfl | rfl)
        all_goals refine tc_drawS (Hx s0) (by kernel_rfl) ?_
        all_goals refine tx_p 0 rfl (by kernel_rfl) (y_move rfl) rfl (fun _ _ _ h => h) (fun _ h => h.subl (SB.s (by repeat constructor)) (SB.s (by repeat constructor))) ?_
        all_goals refine tx_p 1 rfl (by kernel_rfl) (y_move rfl) rfl (fun _ _ _ h => h) (fun _ h => h.subl (SB.s (by repeat constructor)) (SB.s (by repeat constructor))) ?_
        all_goals (refine tx_qS 2 rfl (by kernel_rfl) (y_load1o (v := ptr bw) rfl (fun w' hw' => cell0 ((hw'.fr (w0 := w1) (S := S) (MI.m (by repeat constructor))).keepS n1 g1) rfl)) rfl (fun _ _ _ h => h) (fun _ h => h.subl (SB.s (by repeat constructor)) (SB.s (by repeat constructor))) ?_)
        all_goals refine tx_p 3 rfl (by kernel_rfl) (y_nil rfl) rfl (fun _ _ _ h => h) (fun _ h => h.subl (SB.s (by repeat constructor)) (SB.s (by repeat constructor))) ?_
        all_goals refine tx_p 4 rfl (by kernel_rfl) (y_field rfl) rfl (fun _ _ _ h => h) (fun _ h => h.subl (SB.s (by repeat constructor)) (SB.s (by repeat constructor))) ?_
        all_goals refine tx_p 5 rfl (by kernel_rfl) (y_field rfl) rfl (fun _ _ _ h => h) (fun _ h => h.subl (SB.s (by repeat constructor)) (SB.s (by repeat constructor))) ?_
        all_goals (refine tx_qS 6 rfl (by kernel_rfl) (y_load1o (v := vi W) rfl (fun w' hw' => cell0 ((hw'.fr (w0 := w1) (S := S) (MI.m (by repeat constructor))).keepS nw gw) (by rw [← hW]; rfl))) rfl (fun _ _ _ h => h) (fun _ h => h.subl (SB.s (by repeat constructor)) (SB.s (by repeat constructor))) ?_)
        all_goals refine tx_p 7 rfl (by kernel_rfl) (y_neg rfl (by omega)) rfl (fun _ _ _ h => h) (fun _ h => h.subl (SB.s (by repeat constructor)) (SB.s (by repeat constructor))) ?_
        all_goals (refine tx_qS 8 rfl (by kernel_rfl) (y_load1o (v := ptr bw) rfl (fun w' hw' => cell0 ((hw'.fr (w0 := w1) (S := S) (MI.m (by repeat constructor))).keepS n1 g1) rfl)) rfl (fun _ _ _ h => h) (fun _ h => h.subl (SB.s (by repeat constructor)) (SB.s (by repeat constructor))) ?_)
        all_goals refine tx_p 9 rfl (by kernel_rfl) (y_nil rfl) rfl (fun _ _ _ h => h) (fun _ h => h.subl (SB.s (by repeat constructor)) (SB.s (by repeat constructor))) ?_
        all_goals refine tx_p 10 rfl (by kernel_rfl) (y_field rfl) rfl (fun _ _ _ h => h) (fun _ h => h.subl (SB.s (by repeat constructor)) (SB.s (by repeat constructor))) ?_
        all_goals refine tx_p 11 rfl (by kernel_rfl) (y_field rfl) rfl (fun _ _ _ h => h) (fun _ h => h.subl (SB.s (by repeat constructor)) (SB.s (by repeat constructor))) ?_
        all_goals (refine tx_qS 12 rfl (by kernel_rfl) (y_load1o (v := vi W) rfl (fun w' hw' => cell0 ((hw'.fr (w0 := w1) (S := S) (MI.m (by repeat constructor))).keepS nw gw) (by rw [← hW]; rfl))) rfl (fun _ _ _ h => h) (fun _ h => h.subl (SB.s (by repeat constructor)) (SB.s (by repeat constructor))) ?_)
        all_goals (refine tx_p 13 rfl (by kernel_rfl) (y_indexA rfl rfl (by omega)) rfl (fun _ _ _ h => h) (fun _ h => h.subl (SB.s (by repeat constructor)) (SB.s (by repeat constructor))) ?_)
        all_goals refine tx_single 14 (by kernel_rfl) (to_e rfl rfl (e_store1 rfl rfl (by repeat constructor) (by repeat constructor) (by rfl) (by rfl)) (.inr ⟨fun _ _ h => h.subl (SB.s (by repeat constructor)) (SB.s (by repeat constructor)), fun _ h => h⟩) (fun _ _ => ?_))
        all_goals (refine tx_p 15 rfl (by kernel_rfl) (y_indexA rfl rfl (by omega)) rfl (fun _ _ _ h => h) (fun _ h => h.subl (SB.s (by repeat constructor)) (SB.s (by repeat constructor))) ?_)
        all_goals refine tx_single 16 (by kernel_rfl) (to_e (S' := HG [] []) rfl rfl (e_store1 rfl rfl (by repeat constructor) (by repeat constructor) (by rfl) (by rfl)) (.inl (by kernel_rfl)) (fun _ _ => ?_))
        all_goals refine tx_done (by kernel_rfl) ?_
        all_goals (refine hK7 ?_; try (clear hK7; clear K7))
        all_goals refine tc_region ?_
        all_goals refine tl_q (y_add rfl rfl (by omega)) rfl ?_
        all_goals refine tl_q (y_move rfl) rfl ?_
        all_goals refine tl_nil ?_
        all_goals (
         first
         | exact tk_round 1 (by omega) (by omega) (.cons rfl (.cons rfl (.cons rfl (.cons rfl (.cons rfl (.cons rfl .nil)))))) (fun _ h => h)
         | exact tk_round 2 (by omega) (by omega) (.cons rfl (.cons rfl (.cons rfl (.cons rfl (.cons rfl (.cons rfl .nil)))))) (fun _ h => h)
         | exact tk_round 3 (by omega) (by omega) (.cons rfl (.cons rfl (.cons rfl (.cons rfl (.cons rfl (.cons rfl .nil)))))) (fun _ h => h))
      · try simp only [decide_eq_true_eq, decide_eq_false_iff_not, Int.not_lt, Int.not_le, Bool.not_eq_true', Bool.not_eq_false', Decidable.not_not, not_true_eq_false] at hc
        all_goals first | (exfalso; with_reducible exact bft hc) | (exfalso; with_reducible exact btf hc) | (exfalso; omega) | skip
        all_goals refine tc_exit ?_
        all_goals (refine hK3 ?_; try (clear hK3; clear K3))
        all_goals refine tc_block ?_
        all_goals (
         refine tc_loop (fun p : Nat × σ => p.1 < cntE W n ∧ I p.1 p.2) (fun p => [(0, .func (.yield l) #[] #[]), (1, ptr b1), (3, ptr b3), (4, ptr b4)]) (fun _ => [(w1, S)]) (fun p => (b4, .cells (tsV (lastE W n)).cells 75 (0, 0)) :: (b3, .cells (tsV (nth3 W n p.1)).cells 75 (0, 0)) :: Hx p.2) (fun p => cntE W n - p.1) ?_ ?_
         · refine tk_start (0, s0) ⟨i2, h0⟩ (.cons rfl (.cons rfl (.cons rfl (.cons rfl .nil)))) (fun _ h => ?_)
           have hin : i = n := by omega
           subst hin
           dsimp only; rw [← i1]; exact h
         · rintro ⟨k, st⟩ ⟨hk, hI⟩
           dsimp only at hk hI ⊢
           obtain ⟨hlast, hstep⟩ := hall k hk
           all_goals refine tc_block ?_
           all_goals refine tc_seq fun K9 hK9 => ?_
           all_goals refine tc_seq fun K10 hK10 => ?_
           all_goals refine tc_region ?_
           all_goals refine tl_q (y_move rfl) rfl ?_
           all_goals (refine tl_q (y_loadW rfl (by repeat constructor) (by rfl)) rfl ?_)
           all_goals refine tl_r (e_yieldF [(b4, .cells (tsV (lastE W n)).cells 75 (0, 0)), (b3, .cells (tsV (nth3 W n k)).cells 75 (0, 0))] k st (nth3 W n k) rfl rfl rfl (.cons rfl .nil) rfl (hLg k hk) hI hY (by simp) rfl) rfl (fun q hq => ?_)
           all_goals (refine tl_q (y_not rfl) rfl ?_)
           all_goals refine tl_q (y_move rfl) rfl ?_
           all_goals (refine tl_gs rfl rfl (fun hc => ?_) (fun hc => ?_) <;> (try simp only [decide_eq_true_eq, decide_eq_false_iff_not, Int.not_lt, Int.not_le, Bool.not_eq_true', Bool.not_eq_false', Decidable.not_not, not_true_eq_false] at hc) <;> (first | refine tl_sk rfl rfl rfl rfl ?_ | refine tl_qg rfl rfl (y_loadW rfl (by repeat constructor) (by rfl)) rfl ?_))
           all_goals (first | refine tl_sk rfl rfl rfl rfl ?_ | refine tl_qg rfl rfl (y_loadW rfl (by repeat constructor) (by rfl)) rfl ?_)
           all_goals (first | refine tl_sk rfl rfl rfl rfl ?_ | refine tl_qg rfl rfl (y_eqlA3 rfl rfl) rfl ?_)
           all_goals (first | refine tl_q (y_pick_t rfl rfl) rfl ?_ | refine tl_q (y_pick_f rfl rfl) rfl ?_)
           all_goals refine tl_nil ?_
           all_goals (refine hK10 ?_; try (clear hK10; clear K10))
           all_goals (
            refine tc_cond rfl (fun hc => ?_) (fun hc => ?_)
            · try simp only [decide_eq_true_eq, decide_eq_false_iff_not, Int.not_lt, Int.not_le, Bool.not_eq_true', Bool.not_eq_false', Decidable.not_not, not_true_eq_false] at hc
              all_goals first | (exfalso; with_reducible exact bft hc) | (exfalso; with_reducible exact btf hc) | (exfalso; omega) | skip
              all_goals refine tc_ret ?_
              all_goals (repeat (first | refine tk_then_ret ?_ | refine tk_block_ret ?_))
              all_goals first | refine tk_ret rfl rfl .nil ?_ | refine tk_retM rfl (by repeat constructor) rfl .nil ?_
              all_goals (
               first
               | (have hk1 : nth3 W n k = lastE W n := Prod.ext hc.1 (Prod.ext hc.2.1 hc.2.2)
                  have hk2 := hlast.1 hk1
                  have hq1 : I (everyL t).length q.2 := by
                    rw [hLl, show cntE W n = k + 1 by omega]
                    exact yq hq (by assumption)
                  exact fun w' hw' => ⟨q.2, rfl, hw'.fr (by simp), (hw'.sub (bs' := [(w1, S)]) (by simp) (List.sublist_append_right _ _)).knS (by simp), .inl hq1⟩)
               | (have hJ : J q.2 := by
                    exact yq2 hq (by assumption)
                  exact fun w' hw' => ⟨q.2, rfl, hw'.fr (by simp), (hw'.sub (bs' := [(w1, S)]) (by simp) (List.sublist_append_right _ _)).knS (by simp), .inr hJ⟩))
            · try simp only [decide_eq_true_eq, decide_eq_false_iff_not, Int.not_lt, Int.not_le, Bool.not_eq_true', Bool.not_eq_false', Decidable.not_not, not_true_eq_false] at hc
              all_goals first | (exfalso; with_reducible exact bft hc) | (exfalso; with_reducible exact btf hc) | (exfalso; omega) | skip
              all_goals refine tc_skip ?_
              all_goals (refine hK9 ?_; try (clear hK9; clear K9))
              all_goals refine tc_seq fun K11 hK11 => ?_
              all_goals (have hkn : k + 1 < cntE W n := lt_last hlast hk hc; obtain ⟨hst, hno⟩ := hstep hkn; have hq1 : I (k + 1) q.2 := yq hq (by assumption))
              all_goals refine tc_region ?_
              all_goals refine tl_q (y_assign rfl) rfl ?_
              all_goals refine tl_nil ?_
              all_goals (refine hK11 ?_; try (clear hK11; clear K11))
              all_goals refine tc_seq fun K12 hK12 => ?_
              all_goals refine tc_block ?_
              all_goals (
               refine tc_loop (fun i : Nat => i ≤ 2 ∧ (0 < i → (nth3 W n k).1 = W) ∧ (1 < i → (nth3 W n k).2.1 = W)) (fun i => [(0, .func (.yield l) #[] #[]), (1, ptr b1), (3, ptr b3), (4, ptr b4), (6, vi i)]) (fun _ => [(w1, S)]) (fun i => (b4, .cells (tsV (lastE W n)).cells 75 (0, 0)) :: (b3, .cells (tsV (midE W (nth3 W n k) i)).cells 75 (0, 0)) :: Hx q.2) (fun i => 3 - i) ?_ ?_
               · exact tk_start 0 ⟨by omega, fun h => absurd h (Nat.lt_irrefl _), fun h => absurd h (by omega)⟩ (.cons rfl (.cons rfl (.cons rfl (.cons rfl (.cons rfl .nil))))) (fun _ h => h)
               · rintro i ⟨hi2, hm0, hm1⟩
                 all_goals refine tc_seq fun K13 hK13 => ?_
                 all_goals refine tc_seq fun K14 hK14 => ?_
                 all_goals (obtain ⟨hb1, hb2, hb3⟩ := mid_bd hW3 (nth_bd (W := W) (n := n) (k := k) hW3) i)
                 all_goals (rcases (by omega : i = 0 ∨ i = 1 ∨ i = 2) with rfl | rfl | rfl)
                 all_goals refine tc_draw (by kernel_rfl) ?_
                 all_goals refine tx_p 0 rfl (by kernel_rfl) (y_move rfl) rfl (fun _ _ _ h => h) (fun _ h => h) ?_
                 all_goals (refine tx_p 1 rfl (by kernel_rfl) (y_indexA rfl rfl (by omega)) rfl (fun _ _ _ h => h) (fun _ h => h) ?_)
                 all_goals (refine tx_q 2 rfl (by kernel_rfl) (y_load1 rfl (by repeat constructor) (by rfl)) rfl (fun _ _ _ h => h) (fun _ h => h) ?_)
                 all_goals (refine tx_q 3 rfl (by kernel_rfl) (y_load1o (v := ptr bw) rfl (fun w' hw' => cell0 ((hw'.fr (w0 := w1) (S := S) (MI.m (by repeat constructor))).keepS n1 g1) rfl)) rfl (fun _ _ _ h => h) (fun _ h => h) ?_)
                 all_goals refine tx_p 4 rfl (by kernel_rfl) (y_nil rfl) rfl (fun _ _ _ h => h) (fun _ h => h) ?_
                 all_goals refine tx_p 5 rfl (by kernel_rfl) (y_field rfl) rfl (fun _ _ _ h => h) (fun _ h => h) ?_
                 all_goals refine tx_p 6 rfl (by kernel_rfl) (y_field rfl) rfl (fun _ _ _ h => h) (fun _ h => h) ?_
                 all_goals (refine tx_q 7 rfl (by kernel_rfl) (y_load1o (v := vi W) rfl (fun w' hw' => cell0 ((hw'.fr (w0 := w1) (S := S) (MI.m (by repeat constructor))).keepS nw gw) (by rw [← hW]; rfl))) rfl (fun _ _ _ h => h) (fun _ h => h) ?_)
                 all_goals (refine tx_p 8 rfl (by kernel_rfl) (y_eql rfl rfl) rfl (fun _ _ _ h => h) (fun _ h => h) ?_)
                 all_goals refine tx_done (by kernel_rfl) ?_
                 all_goals (refine hK14 ?_; try (clear hK14; clear K14))
                 all_goals (
                  refine tc_cond rfl (fun hc => ?_) (fun hc => ?_)
                  · try simp only [decide_eq_true_eq, decide_eq_false_iff_not, Int.not_lt, Int.not_le, Bool.not_eq_true', Bool.not_eq_false', Decidable.not_not, not_true_eq_false] at hc
                    all_goals first | (exfalso; with_reducible exact bft hc) | (exfalso; with_reducible exact btf hc) | (exfalso; omega) | skip
                    all_goals refine tc_skip ?_
                    all_goals (refine hK13 ?_; try (clear hK13; clear K13))
                    all_goals refine tc_block ?_
                    all_goals refine tc_seq fun K15 hK15 => ?_
                    all_goals refine tc_region ?_
                    all_goals refine tl_q (y_move rfl) rfl ?_
                    all_goals (refine tl_q (y_load1o (v := ptr bw) rfl (fun w' hw' => cell0 ((hw'.fr (w0 := w1) (S := S) (MI.m (by repeat constructor))).keepS n1 g1) rfl)) rfl ?_)
                    all_goals refine tl_q (y_nil rfl) rfl ?_
                    all_goals refine tl_q (y_field rfl) rfl ?_
                    all_goals refine tl_q (y_field rfl) rfl ?_
                    all_goals (refine tl_q (y_load1o (v := vi W) rfl (fun w' hw' => cell0 ((hw'.fr (w0 := w1) (S := S) (MI.m (by repeat constructor))).keepS nw gw) (by rw [← hW]; rfl))) rfl ?_)
                    all_goals refine tl_q (y_neg rfl (by omega)) rfl ?_
                    all_goals (refine tl_q (y_indexA rfl rfl (by omega)) rfl ?_)
                    all_goals refine tl_e (e_store1 rfl rfl (by repeat constructor) (by repeat constructor) (by rfl) (by rfl)) rfl (fun _ _ => ?_)
                    all_goals refine tl_nil ?_
                    all_goals (refine hK15 ?_; try (clear hK15; clear K15))
                    all_goals refine tc_region ?_
                    all_goals refine tl_q (y_move rfl) rfl ?_
                    all_goals refine tl_q (y_add rfl rfl (by omega)) rfl ?_
                    all_goals refine tl_q (y_assign rfl) rfl ?_
                    all_goals refine tl_nil ?_
                    all_goals (
                     first
                     | exact tk_blk (tk_round 1 ⟨by omega, fun _ => hc, fun h => absurd h (by omega)⟩ (by omega) (.cons rfl (.cons rfl (.cons rfl (.cons rfl (.cons rfl .nil))))) (fun _ h => h))
                     | exact tk_blk (tk_round 2 ⟨by omega, fun _ => hm0 (by omega), fun _ => hc⟩ (by omega) (.cons rfl (.cons rfl (.cons rfl (.cons rfl (.cons rfl .nil))))) (fun _ h => h))
                     | exact absurd ⟨hm0 (by omega), hm1 (by omega), hc⟩ hno)
                  · try simp only [decide_eq_true_eq, decide_eq_false_iff_not, Int.not_lt, Int.not_le, Bool.not_eq_true', Bool.not_eq_false', Decidable.not_not, not_true_eq_false] at hc
                    all_goals first | (exfalso; with_reducible exact bft hc) | (exfalso; with_reducible exact btf hc) | (exfalso; omega) | skip
                    all_goals refine tc_exit ?_
                    all_goals (refine hK12 ?_; try (clear hK12; clear K12))
                    all_goals refine tc_region ?_
                    all_goals refine tl_q (y_move rfl) rfl ?_
                    all_goals (refine tl_q (y_indexA rfl rfl (by omega)) rfl ?_)
                    all_goals (refine tl_q (y_load1 rfl (by repeat constructor) (by rfl)) rfl ?_)
                    all_goals refine tl_q (y_add rfl rfl (by omega)) rfl ?_
                    all_goals (refine tl_q (y_indexA rfl rfl (by omega)) rfl ?_)
                    all_goals refine tl_e (e_store1 rfl rfl (by repeat constructor) (by repeat constructor) (by rfl) (by rfl)) rfl (fun _ _ => ?_)
                    all_goals refine tl_nil ?_
                    all_goals (
                     first
                     | (have hs3 : nth3 W n (k + 1) = _ := hst.symm.trans (stepE_0 hc)
                        refine tk_blk (tk_round (k + 1, q.2) ⟨hkn, hq1⟩ (by dsimp only; omega) (.cons rfl (.cons rfl (.cons rfl (.cons rfl .nil)))) (fun _ h => ?_))
                        dsimp only; rw [hs3]; exact h)
                     | (have hs3 : nth3 W n (k + 1) = _ := hst.symm.trans (stepE_1 (hm0 Nat.zero_lt_one) hc)
                        refine tk_blk (tk_round (k + 1, q.2) ⟨hkn, hq1⟩ (by dsimp only; omega) (.cons rfl (.cons rfl (.cons rfl (.cons rfl .nil)))) (fun _ h => ?_))
                        dsimp only; rw [hs3]; exact h)
                     | (have hs3 : nth3 W n (k + 1) = _ := hst.symm.trans (stepE_2 (hm0 Nat.zero_lt_two) (hm1 Nat.one_lt_two))
                        refine tk_blk (tk_round (k + 1, q.2) ⟨hkn, hq1⟩ (by dsimp only; omega) (.cons rfl (.cons rfl (.cons rfl (.cons rfl .nil)))) (fun _ h => ?_))
                        dsimp only; rw [hs3]; exact h))))))))
end Go.Sp
