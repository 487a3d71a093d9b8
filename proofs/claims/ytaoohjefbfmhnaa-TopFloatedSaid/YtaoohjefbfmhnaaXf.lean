/-
  Package trial: the error of a division, and whether it can be shown.
-/
import Derived.Test.YtaoohjefbfmhnaaXe
import Derived.Test.YtaoohjefbfmhnaaG
set_option linter.unusedVariables false
set_option linter.unusedSimpArgs false
set_option linter.deprecated false
namespace Go.Sp
open Go Go.Proofs
/-- A valid trial. -/
structure VT (t : Tr) : Prop where
  s : VS t.s
  p1 : 1 ≤ t.parts.length
  p3 : t.parts.length ≤ 3
  p0 : t.parts.getD 0 0 = 0
  pq : allS (partQ t) (-1) t.parts = true
  w : 0 ≤ t.worst ∧ t.worst ≤ 3
  l1 : 1 ≤ t.liquids.length
  l3 : t.liquids.length ≤ 3
  lq : t.liquids.all lqB = true
  t6 : t.tests.length ≤ 6
  ts : t.tests.all (tsB t) = true
theorem chkT_0 {t : Tr} : chkT t = 0 ↔ VT t := by
  unfold chkT
  constructor
  · intro h
    split at h
    · omega
    · rename_i h1
      split at h
      · omega
      · rename_i h2
        split at h
        · rename_i h3
          obtain ⟨g1, g2, g3, g4, g5⟩ := h3
          unfold partB at g1
          rw [Bool.and_eq_true] at g1
          have g6 := of_decide_eq_true g1.1
          exact ⟨chkF_valid.1 (by omega), by omega, by omega, g6.2, g1.2, g2, by omega, by omega, g4, by omega, g5⟩
        · omega
  · intro h
    have h0 : chkF t.s = 0 := chkF_valid.2 h.s
    have h1 := h.p1
    have h2 := h.p3
    have h3 := h.l1
    have h4 := h.l3
    have h5 := h.t6
    rw [if_neg (by omega), if_neg (by omega), if_pos]
    refine ⟨?_, h.w, by omega, h.lq, h.ts⟩
    unfold partB
    rw [Bool.and_eq_true]
    exact ⟨decide_eq_true ⟨by omega, h.p0⟩, h.pq⟩
theorem VT.nt {t : Tr} (h : VT t) : NT t := by
  have h1 := h.s.n
  have h2 := h.p3
  have h4 := h.l3
  have h5 := h.t6
  exact ⟨by omega, by omega, by omega, by omega⟩
theorem RdTr.frM {w w' : World} {t : Tr} {sl pl ll tl : Value} {S : List Nat} (h : RdTr w t sl pl ll tl) (f : Fr S w w') (hS : ∀ x ∈ S, ∃ es ck, w.heap[x]? = some (.map es ck)) : RdTr w' t sl pl ll tl :=
  ⟨Reads.frM h.ws f hS, Reads.frM h.ps f hS, Reads.frM h.ls f hS, Reads.frM h.ts f hS⟩
/-- Errors: no other than those that can be. -/
def ErB (e : Int × Int × Int) : Prop := (-3 ≤ e.1 ∧ e.1 ≤ 3) ∧ (-3 ≤ e.2.1 ∧ e.2.1 ≤ 3) ∧ (-3 ≤ e.2.2 ∧ e.2.2 ≤ 3)
def get3 (e : Int × Int × Int) (i : Nat) : Int := if i = 0 then e.1 else if i = 1 then e.2.1 else e.2.2
theorem ErB.get {e : Int × Int × Int} (h : ErB e) (i : Nat) : -3 ≤ get3 e i ∧ get3 e i ≤ 3 := by
  unfold get3
  obtain ⟨h1, h2, h3⟩ := h
  split
  · exact h1
  · split
    · exact h2
    · exact h3
/-- The part in which a division is: the last one that doesn't begin behind it. -/
def ofFrom (ps : List Int) (d : Int) : Nat → Nat
  | 0 => 0
  | n + 1 => if d < ps.getD (n + 1) 0 then ofFrom ps d n else n + 1
def ofF (t : Tr) (e : Int × Int × Int) (d : Int) : Int := get3 e (ofFrom t.parts d (t.parts.length - 1))
theorem ofFrom_succ (ps : List Int) (d : Int) (n : Nat) : ofFrom ps d (n + 1) = if d < ps.getD (n + 1) 0 then ofFrom ps d n else n + 1 := rfl
theorem ofFrom_le (ps : List Int) (d : Int) : ∀ n, ofFrom ps d n ≤ n
  | 0 => Nat.le_refl 0
  | n + 1 => by
    unfold ofFrom
    split
    · exact Nat.le_succ_of_le (ofFrom_le ps d n)
    · exact Nat.le_refl _
theorem tk_blk {id : Nat} {Q : Exit → Act → World → Prop} {N : NN} {F : List (Nat × Value)} {bs : List (World × List Nat)} {H : List (Nat × Obj)} (h : TK (Q .normal) N F bs H) : TK (Exit.inBlock id Q .normal) N F bs H := h
theorem tof_c (t : Tr) (hv : VT t) (e : Int × Int × Int) (d : Int) (hd : 0 ≤ d) (sl pl ll tl : Value) (w : World) (hp : RdI w pl t.parts) : CnV Try.prog 84 #[trV t sl pl ll tl, tsV e, vi d] w (vi (ofF t e d)) := by
  have h1 := hv.p1
  have h2 := hv.p3
  have h3 := hv.p0
  obtain ⟨ad, cap, b0, o, rfl, had, hcell⟩ := hp.open
  refine cnv (vs := [_, _, _]) Try.func84 rfl rfl ?_
  all_goals refine tc_seq fun K1 hK1 => ?_
  all_goals refine tc_region ?_
  all_goals refine tl_e (e_box rfl rfl rfl) rfl (fun b3 _ => ?_)
  all_goals refine tl_e (e_box rfl rfl rfl) rfl (fun b4 _ => ?_)
  all_goals refine tl_q (y_assign rfl) rfl ?_
  all_goals refine tl_nil ?_
  all_goals (refine hK1 ?_; try (clear hK1; clear K1))
  all_goals refine tc_seq fun K2 hK2 => ?_
  all_goals refine tc_region ?_
  all_goals refine tl_q (y_field rfl) rfl ?_
  all_goals (first | refine tl_q (y_load1 rfl (by repeat constructor) (by rfl)) rfl ?_ | refine tl_q (y_load1o (v := vi (t.parts.getD i 0)) rfl (fun w' hw' => by rw [show Int.toNat (i : Int) * 1 = i from by omega]; exact hcell w' (hw'.fr (by simp)) i (by omega))) rfl ?_)
  all_goals refine tl_q (y_len rfl) rfl ?_
  all_goals refine tl_q (y_sub rfl rfl (by omega)) rfl ?_
  all_goals refine tl_q (y_assign rfl) rfl ?_
  all_goals refine tl_nil ?_
  all_goals (refine hK2 ?_; try (clear hK2; clear K2))
  all_goals refine tc_seq fun K3 hK3 => ?_
  all_goals refine tc_block ?_
  all_goals (
   refine tc_loop (fun i : Nat => i < t.parts.length ∧ ofFrom t.parts d i = ofFrom t.parts d (t.parts.length - 1)) (fun i => [(2, vi d), (3, ptr b3), (4, ptr b4), (7, vi i)]) (fun _ => [(w, [])]) (fun _ => [(b4, .cells (tsV e).cells 75 (0, 0)), (b3, .cells (trV t sl (.slice ad t.parts.length cap) ll tl).cells 54 (0, 0))]) (fun i => i) ?_ ?_
   · refine tk_start (t.parts.length - 1) ⟨by omega, rfl⟩ (.cons rfl (.cons rfl (.cons rfl (.cons ?_ .nil)))) (fun _ h => h)
     show some (vi _) = some (vi _); congr 2; omega
   · rintro i ⟨hi, hI⟩
     all_goals refine tc_seq fun K4 hK4 => ?_
     all_goals refine tc_seq fun K5 hK5 => ?_
     have had' := had (by omega)
     all_goals refine tc_region ?_
     all_goals refine tl_q (y_field rfl) rfl ?_
     all_goals (first | refine tl_q (y_load1 rfl (by repeat constructor) (by rfl)) rfl ?_ | refine tl_q (y_load1o (v := vi (t.parts.getD i 0)) rfl (fun w' hw' => by rw [show Int.toNat (i : Int) * 1 = i from by omega]; exact hcell w' (hw'.fr (by simp)) i (by omega))) rfl ?_)
     all_goals refine tl_q (y_move rfl) rfl ?_
     all_goals (first | refine tl_q (y_index rfl rfl (by omega) had') rfl ?_ | refine tl_q (y_index rfl rfl (by omega) rfl) rfl ?_ | refine tl_q (y_indexA rfl rfl (by omega)) rfl ?_)
     all_goals (first | refine tl_q (y_load1 rfl (by repeat constructor) (by rfl)) rfl ?_ | refine tl_q (y_load1o (v := vi (t.parts.getD i 0)) rfl (fun w' hw' => by rw [show Int.toNat (i : Int) * 1 = i from by omega]; exact hcell w' (hw'.fr (by simp)) i (by omega))) rfl ?_)
     all_goals refine tl_q (y_move rfl) rfl ?_
     all_goals refine tl_q (y_gtr rfl rfl) rfl ?_
     all_goals refine tl_nil ?_
     all_goals (refine hK5 ?_; try (clear hK5; clear K5))
     all_goals (
      refine tc_cond rfl (fun hc => ?_) (fun hc => ?_)
      · try simp only [decide_eq_true_eq, decide_eq_false_iff_not, Int.not_lt, Int.not_le, Bool.not_eq_true', Bool.not_eq_false', Decidable.not_not, not_true_eq_false] at hc
        all_goals first | (exfalso; with_reducible exact bft hc) | (exfalso; with_reducible exact btf hc) | (exfalso; omega) | skip
        all_goals refine tc_skip ?_
        all_goals (refine hK4 ?_; try (clear hK4; clear K4))
        all_goals refine tc_block ?_
        all_goals refine tc_region ?_
        all_goals refine tl_q (y_move rfl) rfl ?_
        all_goals refine tl_q (y_sub rfl rfl (by omega)) rfl ?_
        all_goals refine tl_q (y_assign rfl) rfl ?_
        all_goals refine tl_nil ?_
        all_goals (
         obtain ⟨j, rfl⟩ : ∃ j, i = j + 1 := ⟨i - 1, by by_cases h : i = 0; (subst h; omega); omega⟩
         have hlt : d < t.parts.getD (j + 1) 0 := by omega
         have hj : ofFrom t.parts d j = ofFrom t.parts d (t.parts.length - 1) := by rw [← hI, ofFrom_succ, if_pos hlt]
         refine tk_blk (tk_round j ⟨by omega, hj⟩ (by omega) (.cons rfl (.cons rfl (.cons rfl (.cons ?_ .nil)))) (fun _ h => h))
         show some (vi _) = some (vi _); congr 2; omega)
      · try simp only [decide_eq_true_eq, decide_eq_false_iff_not, Int.not_lt, Int.not_le, Bool.not_eq_true', Bool.not_eq_false', Decidable.not_not, not_true_eq_false] at hc
        all_goals first | (exfalso; with_reducible exact bft hc) | (exfalso; with_reducible exact btf hc) | (exfalso; omega) | skip
        all_goals refine tc_exit ?_
        all_goals (refine hK3 ?_; try (clear hK3; clear K3))
        all_goals refine tc_seq fun K6 hK6 => ?_
        all_goals (have hfin : ofFrom t.parts d i = i := by rcases i with _ | i; rfl; rw [ofFrom_succ, if_neg (by omega)])
        all_goals (have hof : ofF t e d = get3 e i := by unfold ofF; rw [← hI, hfin])
        all_goals (rcases (by omega : i = 0 ∨ i = 1 ∨ i = 2) with rfl | rfl | rfl)
        all_goals refine tc_region ?_
        all_goals refine tl_q (y_move rfl) rfl ?_
        all_goals (first | refine tl_q (y_index rfl rfl (by omega) had') rfl ?_ | refine tl_q (y_index rfl rfl (by omega) rfl) rfl ?_ | refine tl_q (y_indexA rfl rfl (by omega)) rfl ?_)
        all_goals (first | refine tl_q (y_load1 rfl (by repeat constructor) (by rfl)) rfl ?_ | refine tl_q (y_load1o (v := vi (t.parts.getD i 0)) rfl (fun w' hw' => by rw [show Int.toNat (i : Int) * 1 = i from by omega]; exact hcell w' (hw'.fr (by simp)) i (by omega))) rfl ?_)
        all_goals refine tl_q (y_assign rfl) rfl ?_
        all_goals refine tl_nil ?_
        all_goals (refine hK6 ?_; try (clear hK6; clear K6))
        all_goals refine tc_ret ?_
        all_goals (repeat (first | refine tk_then_ret ?_ | refine tk_block_ret ?_ | refine tk_scope_ret ?_))
        all_goals first | refine tk_ret rfl rfl (.cons (.tmp rfl) .nil) ?_ | refine tk_retM rfl (by repeat constructor) rfl (.cons (.tmp rfl) .nil) ?_
        all_goals (
         exact fun w' hw' => ⟨by rw [hof]; rfl, hw'.fr (by simp)⟩)))
end Go.Sp
